import PyProof.Rows.All
import Wide.All
import OpenK.AllK
import Wide.FinOn
import HandS.ForMost
import HandS.ForExc
import HandS.Wide
import HandS.Lambda
import HandS.EndTab
import HandS.ExcIs
import HandS.ExcOwn
import HandS.TupAny
import HandS.TupMul
import HandS.IsInst
import HandS.Flow
import HandS.Style
import HandS.Conv
import HandS.CallSlots
import KE.GoesEnum
import KE.GoesEnumKw
import KE.GoesMore
import KE.GoesZip
import HandS.DictComp
import HandS.More
import KE.DataMinMax
import HandS.Deep
import HandS.SetKeys
import HandS.Iter
import PyProof.Rows.SetFrom
import HandS.GenBody
import HandS.GenYield
import HandS.GenCall
import HandS.GenList
import HandS.TryMany
import HandS.SetFor
import HandS.Strs
import HandS.Defaults
import KE.KDictZip
import HandS.ExcValue
import KE.DataFind
import KE.SortData
import PySem.Challenge.RW_pintrain_k04_far_moments
set_option Elab.async false
set_option linter.all false
set_option maxRecDepth 100000
set_option maxHeartbeats 4000000
/-! DL1: data values, memories, the judgements over syntax -/
namespace DL
open PySem L2

inductive D where
  | non | bl (b : Bool) | int (i : Int) | str (x : Str) | byt (b : Array UInt8) | ty (n : String) | ref (a : Addr)
  | tup (ds : List D) | lst (ds : List D) | rol (ds : List D)
instance : Inhabited D := ⟨.non⟩

theorem Same.tup {K : PySem.W.Frag} {H H' : Hp} {a : Addr} {xs : List V} (e : Same H H') (h : SqT K H a xs) : SqT K H' a xs := by
  rcases h with (h | ⟨o, h⟩) | h
  · exact .inl (.inl (e _ _ h))
  · exact .inl (.inr ⟨o, e _ _ h⟩)
  · exact .inr h

mutual
def Rep (K : PySem.W.Frag) (S : Hp) : D → V → Prop
  | .non, v => v = .non
  | .bl b, v => v = .bl b
  | .int i, v => v = .int i
  | .str x, v => v = .str x
  | .byt b, v => v = .byt b
  | .ty n, v => v = .ty n
  | .ref a, v => v = .ref a
  | .tup ds, v => ∃ a xs, v = .ref a ∧ SqT K S a xs ∧ Reps K S ds xs
  | .lst ds, v => ∃ a xs, v = .ref a ∧ S a = some (.lst xs) ∧ Reps K S ds xs
  | .rol ds, v => ∃ a xs, v = .ref a ∧ SqL K S a xs ∧ Reps K S ds xs
def Reps (K : PySem.W.Frag) (S : Hp) : List D → List V → Prop
  | [], xs => xs = []
  | d :: ds, xs => ∃ x r, xs = x :: r ∧ Rep K S d x ∧ Reps K S ds r
end

mutual
theorem Rep.mono {K : PySem.W.Frag} {S S' : Hp} (e : Same S S') : ∀ (d : D) (v : V), Rep K S d v → Rep K S' d v
  | .non, _, h => h
  | .bl _, _, h => h
  | .int _, _, h => h
  | .str _, _, h => h
  | .byt _, _, h => h
  | .ty _, _, h => h
  | .ref _, _, h => h
  | .tup ds, v, h => by
    obtain ⟨a, xs, e1, h1, h2⟩ := h
    exact ⟨a, xs, e1, Same.tup e h1, Reps.mono e ds xs h2⟩
  | .lst ds, v, h => by
    obtain ⟨a, xs, e1, h1, h2⟩ := h
    exact ⟨a, xs, e1, e _ _ h1, Reps.mono e ds xs h2⟩
  | .rol ds, v, h => by
    obtain ⟨a, xs, e1, h1, h2⟩ := h
    exact ⟨a, xs, e1, Same.seq e h1, Reps.mono e ds xs h2⟩
theorem Reps.mono {K : PySem.W.Frag} {S S' : Hp} (e : Same S S') : ∀ (ds : List D) (xs : List V), Reps K S ds xs → Reps K S' ds xs
  | [], _, h => h
  | d :: ds, xs, h => by
    obtain ⟨x, r, e1, h1, h2⟩ := h
    exact ⟨x, r, e1, Rep.mono e d x h1, Reps.mono e ds r h2⟩
end
section
variable {K : PySem.W.Frag} {S : Hp}
theorem Reps.len : ∀ {ds : List D} {xs : List V}, Reps K S ds xs → xs.length = ds.length
  | [], _, h => by rw [show _ = [] from h]; rfl
  | d :: ds, xs, h => by
    obtain ⟨x, r, rfl, _, h2⟩ := h
    simp [Reps.len h2]
theorem Reps.get : ∀ {ds : List D} {xs : List V} {i : Nat} {d : D}, Reps K S ds xs → ds[i]? = some d → ∃ x, xs[i]? = some x ∧ Rep K S d x
  | [], _, _, _, _, e => by simp at e
  | d :: ds, xs, 0, d', h, e => by
    obtain ⟨x, r, rfl, h1, _⟩ := h
    simp at e; subst e
    exact ⟨x, rfl, h1⟩
  | d :: ds, xs, i + 1, d', h, e => by
    obtain ⟨x, r, rfl, _, h2⟩ := h
    obtain ⟨y, e1, e2⟩ := Reps.get (i := i) h2 (by simpa using e)
    exact ⟨y, by simpa using e1, e2⟩
theorem Reps.append : ∀ {ds es : List D} {xs ys : List V}, Reps K S ds xs → Reps K S es ys → Reps K S (ds ++ es) (xs ++ ys)
  | [], _, _, _, h, h2 => by rw [show _ = [] from h]; exact h2
  | d :: ds, _, xs, _, h, h2 => by
    obtain ⟨x, r, rfl, h1, h3⟩ := h
    exact ⟨x, _, rfl, h1, Reps.append h3 h2⟩
theorem Reps.take : ∀ {ds : List D} {xs : List V} (n : Nat), Reps K S ds xs → Reps K S (ds.take n) (xs.take n)
  | _, _, 0, _ => by simp [Reps]
  | [], _, n + 1, h => by rw [show _ = [] from h]; rfl
  | d :: ds, xs, n + 1, h => by
    obtain ⟨x, r, rfl, h1, h3⟩ := h
    exact ⟨x, _, rfl, h1, Reps.take n h3⟩
theorem Reps.drop : ∀ {ds : List D} {xs : List V} (n : Nat), Reps K S ds xs → Reps K S (ds.drop n) (xs.drop n)
  | _, _, 0, h => by simpa using h
  | [], _, n + 1, h => by rw [show _ = [] from h]; rfl
  | d :: ds, xs, n + 1, h => by
    obtain ⟨x, r, rfl, h1, h3⟩ := h
    exact Reps.drop n h3
theorem Reps.set {d : D} {x : V} (r1 : Rep K S d x) : ∀ {ds : List D} {xs : List V} (i : Nat), Reps K S ds xs → Reps K S (ds.set i d) (xs.set i x)
  | [], _, _, h => by rw [show _ = [] from h]; exact rfl
  | d' :: ds, xs, 0, h => by
    obtain ⟨y, r, rfl, _, h3⟩ := h
    exact ⟨x, r, rfl, r1, h3⟩
  | d' :: ds, xs, i + 1, h => by
    obtain ⟨y, r, rfl, h1, h3⟩ := h
    exact ⟨y, _, rfl, h1, Reps.set r1 i h3⟩
theorem Reps.nil : Reps K S [] [] := rfl
theorem Reps.cons {d : D} {x : V} {ds : List D} {xs : List V} (h : Rep K S d x) (hs : Reps K S ds xs) : Reps K S (d :: ds) (x :: xs) := ⟨x, xs, rfl, h, hs⟩
theorem Reps.flat {f : Nat → List D} {g : Nat → List V} : ∀ n, (∀ i, i < n → Reps K S (f i) (g i)) → Reps K S ((List.range n).flatMap f) ((List.range n).flatMap g)
  | 0, _ => rfl
  | n + 1, h => by
    rw [List.range_succ, List.flatMap_append, List.flatMap_append]
    exact Reps.append (Reps.flat n fun i hi => h i (Nat.lt_succ_of_lt hi)) (by simpa using h n (Nat.lt_succ_self n))
theorem reps_map_int : ∀ (ns : List Int), Reps K S (ns.map D.int) (ns.map V.int)
  | [] => rfl
  | n :: ns => ⟨_, _, rfl, rfl, reps_map_int ns⟩
theorem Reps.ints : ∀ {ns : List Int} {xs : List V}, Reps K S (ns.map D.int) xs → xs = ns.map V.int
  | [], _, h => h
  | n :: ns, xs, h => by
    obtain ⟨x, r, rfl, h1, h3⟩ := h
    rw [show x = V.int n from h1, Reps.ints h3]; rfl
end

/-- a mutable thing -/
inductive Cell where
  | lst (ds : List D)
  | ins (C : Addr) (fs : List (Str × D))
  | dK (kvs : List (Key × D))
  | tbl (q : Str)
abbrev Mem := Addr → Option Cell
def updM (M : Mem) (a : Addr) (c : Cell) : Mem := fun b => if b = a then some c else M b
def delM (M : Mem) (a : Addr) : Mem := fun b => if b = a then none else M b
theorem updM_same {M : Mem} {a : Addr} {c : Cell} : updM M a c a = some c := if_pos rfl
theorem updM_ne {M : Mem} {a b : Addr} {c : Cell} (h : b ≠ a) : updM M a c b = M b := if_neg h
theorem delM_same {M : Mem} {a : Addr} : delM M a a = none := if_pos rfl
theorem delM_ne {M : Mem} {a b : Addr} (h : b ≠ a) : delM M a b = M b := if_neg h
theorem updM_updM {M : Mem} {a : Addr} {c c' : Cell} : updM (updM M a c) a c' = updM M a c' := by
  funext b; unfold updM; split <;> rfl
theorem delM_updM {M : Mem} {a : Addr} {c : Cell} (h : M a = none) : delM (updM M a c) a = M := by
  funext b; unfold delM updM
  split
  · next e => rw [e, h]
  · rfl
theorem updM_comm {M : Mem} {a b : Addr} {c c' : Cell} (h : a ≠ b) : updM (updM M a c) b c' = updM (updM M b c') a c := by
  funext x; unfold updM
  by_cases e : x = b
  · subst e; rw [if_pos rfl, if_neg (Ne.symm h), if_pos rfl]
  · rw [if_neg e, if_neg e]
theorem mem_ne {M : Mem} {a b : Addr} {c : Cell} (h : M a = some c) (h' : M b = none) : a ≠ b := by
  intro e; subst e; rw [h] at h'; cases h'

def FRep (K : PySem.W.Frag) (S : Hp) {κ : Type} : List (κ × D) → List (κ × V) → Prop := Paired fun (p : κ × D) (q : κ × V) => p.1 = q.1 ∧ Rep K S p.2 q.2
theorem FRep.mono {K : PySem.W.Frag} {S S' : Hp} (e : Same S S') {κ : Type} : ∀ {ps : List (κ × D)} {qs : List (κ × V)}, FRep K S ps qs → FRep K S' ps qs
  | _, _, .nil => .nil
  | _, _, .cons h t => .cons ⟨h.1, Rep.mono e _ _ h.2⟩ (FRep.mono e t)
def CellOk (K : PySem.W.Frag) (S H : Hp) (a : Addr) : Cell → Prop
  | .lst ds => ∃ xs, H a = some (.lst xs) ∧ Reps K S ds xs
  | .ins C fs => ∃ dx gs, H a = some (.ins C dx gs) ∧ FRep K S fs gs
  | .dK kvs => ∃ xs, H a = some (.dK xs) ∧ FRep K S kvs xs
  | .tbl q => ∃ ps : Array Value, H a = some (.tbl ps) ∧ TriplesOk ps.toList ∧ ∀ (pos : Pos) (cv : Value), codeAmong pos ps.toList = some cv → ∃ c, cv = .ref c ∧ S c = some (LamX.CodeO c q)
theorem CellOk.mono {K : PySem.W.Frag} {S S' H H' : Hp} {a : Addr} {c : Cell} (e : Same S S') (ha : H' a = H a) (h : CellOk K S H a c) : CellOk K S' H' a c := by
  cases c with
  | lst ds => obtain ⟨xs, h1, h2⟩ := h; exact ⟨xs, ha.trans h1, Reps.mono e _ _ h2⟩
  | ins C fs => obtain ⟨dx, gs, h1, h2⟩ := h; exact ⟨dx, gs, ha.trans h1, h2.mono e⟩
  | dK kvs => obtain ⟨xs, h1, h2⟩ := h; exact ⟨xs, ha.trans h1, h2.mono e⟩
  | tbl q =>
    obtain ⟨ps, h1, h2, h3⟩ := h
    exact ⟨ps, ha.trans h1, h2, fun pos cv z => let ⟨c, e1, e2⟩ := h3 pos cv z; ⟨c, e1, e _ _ e2⟩⟩
theorem CellOk.there {K : PySem.W.Frag} {S H : Hp} {a : Addr} {c : Cell} (h : CellOk K S H a c) : ∃ o, H a = some o := by
  cases c with
  | lst ds => obtain ⟨xs, h1, _⟩ := h; exact ⟨_, h1⟩
  | ins C fs => obtain ⟨dx, gs, h1, _⟩ := h; exact ⟨_, h1⟩
  | dK kvs => obtain ⟨xs, h1, _⟩ := h; exact ⟨_, h1⟩
  | tbl q => obtain ⟨xs, h1, _⟩ := h; exact ⟨_, h1⟩
def MemOk (K : PySem.W.Frag) (S : Hp) (M : Mem) (H : Hp) : Prop := ∀ a c, M a = some c → S a = none ∧ CellOk K S H a c
theorem MemOk.free {K : PySem.W.Frag} {S : Hp} {M : Mem} {H : Hp} (m : MemOk K S M H) {a : Addr} (h : H a = none) : M a = none := by
  cases e : M a with
  | none => rfl
  | some c =>
    obtain ⟨_, h2⟩ := m a c e
    obtain ⟨o, h3⟩ := h2.there
    rw [h] at h3; cases h3

/-- a step of the heap, seen from the data -/
structure Pst (K : PySem.W.Frag) (S : Hp) (M : Mem) (H : Hp) (S' : Hp) (M' : Mem) (H' : Hp) : Prop where
  ss : Same S S'
  sh : Same S' H'
  mem : MemOk K S' M' H'
  keep : ∀ a o, H a = some o → M a = none → H' a = some o
  dom : ∀ a, M' a ≠ none → M a ≠ none ∨ H a = none
  sdom : ∀ a, S' a ≠ none → S a ≠ none ∨ H a = none ∨ M a ≠ none
  liv : ∀ a, H a ≠ none → H' a ≠ none
theorem upd_liv {H : Hp} {p : Addr} {o : HO} : ∀ a, H a ≠ none → upd H p o a ≠ none := fun a h => by
  by_cases e : a = p
  · subst e; rw [upd_same]; intro z; cases z
  · rw [upd_ne e]; exact h
section
variable {K : PySem.W.Frag} {S S1 S2 H H1 H2 : Hp} {M M1 M2 : Mem}
theorem Pst.refl (h : Same S H) (m : MemOk K S M H) : Pst K S M H S M H := ⟨Same.refl S, h, m, fun _ _ h _ => h, fun _ h => .inl h, fun _ h => .inl h, fun _ h => h⟩
theorem Pst.trans (p : Pst K S M H S1 M1 H1) (q : Pst K S1 M1 H1 S2 M2 H2) : Pst K S M H S2 M2 H2 := by
  have no : ∀ a o, H a = some o → M a = none → M1 a = none := fun a o h hm => by
    cases e : M1 a with
    | none => rfl
    | some c =>
      rcases p.dom a (by rw [e]; intro z; cases z) with z | z
      · exact absurd hm z
      · rw [h] at z; cases z
  refine ⟨p.ss.trans q.ss, q.sh, q.mem, fun a o h hm => q.keep a o (p.keep a o h hm) (no a o h hm), fun a h => ?_, fun a h => ?_, fun a h => q.liv a (p.liv a h)⟩
  · rcases q.dom a h with z | z
    · exact p.dom a z
    · by_cases hm : M a = none
      · right
        cases e : H a with
        | none => rfl
        | some o => rw [p.keep a o e hm] at z; cases z
      · exact .inl hm
  · rcases q.sdom a h with z | z | z
    · exact p.sdom a z
    · by_cases hm : M a = none
      · right; left
        cases e : H a with
        | none => rfl
        | some o => rw [p.keep a o e hm] at z; cases z
      · exact .inr (.inr hm)
    · rcases p.dom a z with y | y
      · exact .inr (.inr y)
      · exact .inr (.inl y)
theorem MemOk.sfree (m : MemOk K S M H) {a : Addr} (h : M a ≠ none) : S a = none := by
  cases e : M a with
  | none => exact absurd e h
  | some c => exact (m a c e).1
/-- a new frozen object -/
theorem Pst.new {p : Addr} {o : HO} (h : Same S H) (m : MemOk K S M H) (hp : H p = none) : Pst K S M H (upd S p o) M (upd H p o) := by
  have sp : S p = none := Same.free h hp
  have s1 : Same S (upd S p o) := fun b x e => by rw [upd_ne (ne_of_none e sp)]; exact e
  refine ⟨s1, fun b x e => ?_, fun a c e => ?_, fun a x e _ => ?_, fun _ h => .inl h, fun b hb => ?_, upd_liv⟩
  · by_cases hb : b = p
    · subst hb; rw [upd_same] at e ⊢; exact e
    · rw [upd_ne hb] at e ⊢; exact h b x e
  · obtain ⟨h1, h2⟩ := m a c e
    obtain ⟨u, h3⟩ := h2.there
    have na : a ≠ p := ne_of_none h3 hp
    exact ⟨by rw [upd_ne na]; exact h1, h2.mono s1 (upd_ne na)⟩
  · rw [upd_ne (ne_of_none e hp)]; exact e
  · by_cases q : b = p
    · subst q; exact .inr (.inl hp)
    · rw [upd_ne q] at hb; exact .inl hb
/-- a cell is written -/
theorem Pst.write {a : Addr} {o : HO} {c : Cell} (h : Same S H) (m : MemOk K S M H) (ha : M a ≠ none) (hc : CellOk K S (upd H a o) a c) : Pst K S M H S (updM M a c) (upd H a o) := by
  have sa : S a = none := m.sfree ha
  refine ⟨Same.refl S, fun b x e => ?_, fun b c' e => ?_, fun b x e hb => ?_, fun b hb => ?_, fun _ h => .inl h, upd_liv⟩
  · rw [upd_ne (ne_of_none e sa)]; exact h b x e
  · by_cases hb : b = a
    · subst hb; rw [updM_same] at e; cases e; exact ⟨sa, hc⟩
    · rw [updM_ne hb] at e
      obtain ⟨h1, h2⟩ := m b c' e
      exact ⟨h1, h2.mono (Same.refl S) (upd_ne hb)⟩
  · have nb : b ≠ a := fun z => ha (by rw [← z]; exact hb)
    rw [upd_ne nb]; exact e
  · by_cases q : b = a
    · subst q; exact .inl ha
    · rw [updM_ne q] at hb; exact .inl hb
/-- a new cell -/
theorem Pst.cell {p : Addr} {o : HO} {c : Cell} (h : Same S H) (m : MemOk K S M H) (hp : H p = none) (hc : CellOk K S (upd H p o) p c) : Pst K S M H S (updM M p c) (upd H p o) := by
  have sp : S p = none := Same.free h hp
  refine ⟨Same.refl S, fun b x e => ?_, fun b c' e => ?_, fun b x e hb => ?_, fun b hb => ?_, fun _ h => .inl h, upd_liv⟩
  · rw [upd_ne (ne_of_none e sp)]; exact h b x e
  · by_cases hb : b = p
    · subst hb; rw [updM_same] at e; cases e; exact ⟨sp, hc⟩
    · rw [updM_ne hb] at e
      obtain ⟨h1, h2⟩ := m b c' e
      exact ⟨h1, h2.mono (Same.refl S) (upd_ne hb)⟩
  · rw [upd_ne (ne_of_none e hp)]; exact e
  · by_cases q : b = p
    · subst q; exact .inr hp
    · rw [updM_ne q] at hb; exact .inl hb
/-- a list is frozen -/
theorem Pst.freeze {a : Addr} {ds : List D} (h : Same S H) (m : MemOk K S M H) (ha : M a = some (.lst ds)) : ∃ xs, H a = some (.lst xs) ∧ Pst K S M H (upd S a (.lst xs)) (delM M a) H ∧ Rep K (upd S a (.lst xs)) (.lst ds) (.ref a) := by
  obtain ⟨sa, xs, hx, hr⟩ := m a _ ha
  have s1 : Same S (upd S a (.lst xs)) := fun b x e => by rw [upd_ne (ne_of_none e sa)]; exact e
  refine ⟨xs, hx, ⟨s1, fun b x e => ?_, fun b c e => ?_, fun _ _ e _ => e, fun b hb => ?_, fun b hb => ?_, fun _ h => h⟩, ⟨a, xs, rfl, upd_same, Reps.mono s1 _ _ hr⟩⟩
  · by_cases hb : b = a
    · subst hb; rw [upd_same] at e; cases e; exact hx
    · rw [upd_ne hb] at e; exact h b x e
  · by_cases hb : b = a
    · subst hb; rw [delM_same] at e; cases e
    · rw [delM_ne hb] at e
      obtain ⟨h1, h2⟩ := m b c e
      exact ⟨by rw [upd_ne hb]; exact h1, h2.mono s1 rfl⟩
  · by_cases q : b = a
    · subst q; rw [delM_same] at hb; exact absurd rfl hb
    · rw [delM_ne q] at hb; exact .inl hb
  · by_cases q : b = a
    · subst q; exact .inr (.inr (by rw [ha]; intro z; cases z))
    · rw [upd_ne q] at hb; exact .inl hb
/-- a new object that nobody tracks -/
theorem Pst.untracked {p : Addr} {o : HO} (q : Pst K S M H S1 M1 H1) (hH : H p = none) (hp : S1 p = none) (hm : M1 p = none) : Pst K S M H S1 M1 (upd H1 p o) := by
  refine ⟨q.ss, fun b x e => ?_, fun b c e => ?_, fun b x e hb => ?_, q.dom, q.sdom, fun a h => upd_liv a (q.liv a h)⟩
  · rw [upd_ne (ne_of_none e hp)]; exact q.sh b x e
  · obtain ⟨h1, h2⟩ := q.mem b c e
    exact ⟨h1, h2.mono (Same.refl _) (upd_ne (mem_ne e hm))⟩
  · rw [upd_ne (ne_of_none e hH)]; exact q.keep b x e hb
/-- it is tracked from here on: frozen -/
theorem Pst.adopt {p : Addr} {o : HO} (q : Pst K S M H S1 M1 H1) (hH : H p = none) (h1 : H1 p = some o) (hp : S1 p = none) (hm : M1 p = none) : Pst K S M H (upd S1 p o) M1 H1 := by
  have s1 : Same S1 (upd S1 p o) := fun b x e => by rw [upd_ne (ne_of_none e hp)]; exact e
  refine ⟨q.ss.trans s1, fun b x e => ?_, fun b c e => ?_, q.keep, q.dom, fun b hb => ?_, q.liv⟩
  · by_cases hb : b = p
    · subst hb; rw [upd_same] at e; cases e; exact h1
    · rw [upd_ne hb] at e; exact q.sh b x e
  · obtain ⟨z1, z2⟩ := q.mem b c e
    have nb := mem_ne e hm
    exact ⟨by rw [upd_ne nb]; exact z1, z2.mono s1 rfl⟩
  · by_cases hb' : b = p
    · subst hb'; exact .inr (.inl hH)
    · rw [upd_ne hb'] at hb; exact q.sdom b hb
/-- .. as a cell -/
theorem Pst.adoptM {p : Addr} {c : Cell} (q : Pst K S M H S1 M1 H1) (hH : H p = none) (hc : CellOk K S1 H1 p c) (hp : S1 p = none) : Pst K S M H S1 (updM M1 p c) H1 := by
  refine ⟨q.ss, q.sh, fun b c' e => ?_, q.keep, fun b hb => ?_, q.sdom, q.liv⟩
  · by_cases hb : b = p
    · subst hb; rw [updM_same] at e; cases e; exact ⟨hp, hc⟩
    · rw [updM_ne hb] at e; exact q.mem b c' e
  · by_cases hb' : b = p
    · subst hb'; exact .inr hH
    · rw [updM_ne hb'] at hb; exact q.dom b hb
theorem Pst.was (q : Pst K S M H S1 M1 H1) {p : Addr} (h : H1 p = none) : H p = none := by
  cases e : H p with
  | none => rfl
  | some o => exact absurd h (q.liv p (by rw [e]; intro z; cases z))
theorem Pst.snone (q : Pst K S M H S1 M1 H1) {p : Addr} (hs : S p = none) (h : H p ≠ none) (hm : M p = none) : S1 p = none ∧ M1 p = none := by
  refine ⟨?_, ?_⟩
  · cases e : S1 p with
    | none => rfl
    | some o =>
      rcases q.sdom p (by rw [e]; intro z; cases z) with z | z | z
      · exact absurd hs z
      · exact absurd z h
      · exact absurd hm z
  · cases e : M1 p with
    | none => rfl
    | some o =>
      rcases q.dom p (by rw [e]; intro z; cases z) with z | z
      · exact absurd hm z
      · exact absurd z h
end

/-- the names with their values, in the slots' order -/
abbrev Vars := List (Str × Option D)
/-- a name's value, a name without value -/
abbrev nv (x : Str) (d : D) : Str × Option D := (x, some d)
abbrev nn (x : Str) : Str × Option D := (x, none)
inductive At : Vars → Str → D → Prop
  | here {x : Str} {d : D} {r : Vars} : At ((x, some d) :: r) x d
  | there {p : Str × Option D} {x : Str} {d : D} {r : Vars} : At r x d → At (p :: r) x d
inductive Put : Vars → Str → D → Vars → Prop
  | here {x : Str} {o : Option D} {d : D} {r : Vars} : Put ((x, o) :: r) x d ((x, some d) :: r)
  | there {p : Str × Option D} {x : Str} {d : D} {r r' : Vars} : Put r x d r' → Put (p :: r) x d (p :: r')
theorem At.ix {env : Vars} {x : Str} {d : D} (h : At env x d) : ∃ i : Nat, env[i]? = some (x, some d) := by
  induction h with
  | here => exact ⟨0, rfl⟩
  | there _ ih => obtain ⟨i, h⟩ := ih; exact ⟨i + 1, by simpa using h⟩
theorem Put.ix {env env' : Vars} {x : Str} {d : D} (h : Put env x d env') : ∃ (i : Nat) (o : Option D), env[i]? = some (x, o) ∧ env' = env.set i (x, some d) := by
  induction h with
  | here => exact ⟨0, _, rfl, rfl⟩
  | there _ ih => obtain ⟨i, o, h, e⟩ := ih; exact ⟨i + 1, o, by simpa using h, by rw [e]; rfl⟩
def env0 : List Str → List D → Vars
  | [], _ => []
  | x :: N, [] => (x, none) :: env0 N []
  | x :: N, d :: ds => (x, some d) :: env0 N ds

structure Ok (X : Cx) (S : Hp) (env : Vars) (M : Mem) (σ : St) (H : Hp) : Prop where
  sh : Same S H
  mem : MemOk X.K S M H
  nm : env.map (·.1) = X.N
  sl : ∀ (i : Nat) (x : Str) (d : D), env[i]? = some (x, some d) → ∃ v, σ[i]? = some (some v) ∧ Rep X.K S d v
  len : σ.length = X.N.length
  nd : X.N.Nodup
theorem Ok.step {X : Cx} {S S' H H' : Hp} {env : Vars} {M M' : Mem} {σ : St} (o : Ok X S env M σ H) (p : Pst X.K S M H S' M' H') : Ok X S' env M' σ H' :=
  ⟨p.sh, p.mem, o.nm, fun i x d e => let ⟨v, h1, h2⟩ := o.sl i x d e; ⟨v, h1, Rep.mono p.ss _ _ h2⟩, o.len, o.nd⟩
theorem Ok.refl {X : Cx} {S H : Hp} {env : Vars} {M : Mem} {σ : St} (o : Ok X S env M σ H) : Pst X.K S M H S M H := Pst.refl o.sh o.mem
theorem Ok.at {X : Cx} {S H : Hp} {env : Vars} {M : Mem} {σ : St} (o : Ok X S env M σ H) {x : Str} {d : D} (h : At env x d) : ∃ (i : Nat) (v : V), X.N[i]? = some x ∧ σ[i]? = some (some v) ∧ Rep X.K S d v := by
  obtain ⟨i, e⟩ := h.ix
  obtain ⟨v, h1, h2⟩ := o.sl i x d e
  refine ⟨i, v, ?_, h1, h2⟩
  rw [← o.nm, List.getElem?_map, e]
  rfl
theorem Ok.put {X : Cx} {S H : Hp} {env env' : Vars} {M : Mem} {σ : St} (o : Ok X S env M σ H) {x : Str} {d : D} {v : V} (h : Put env x d env') (r : Rep X.K S d v) : ∃ i : Nat, X.N[i]? = some x ∧ Ok X S env' M (σ.set i (some v)) H := by
  obtain ⟨i, oo, e, e'⟩ := h.ix
  have hN : X.N[i]? = some x := by
    rw [← o.nm, List.getElem?_map, e]
    rfl
  have hlt : i < σ.length := by
    have q := (List.getElem?_eq_some_iff.mp hN).1
    rw [o.len]; exact q
  refine ⟨i, hN, o.sh, o.mem, ?_, fun j y d' ej => ?_, by rw [List.length_set]; exact o.len, o.nd⟩
  · rw [e', List.map_set, o.nm]
    apply List.ext_getElem?
    intro j
    by_cases hj : j = i
    · subst hj
      rw [List.getElem?_set_self (by rw [← o.len]; exact hlt), hN]
    · rw [List.getElem?_set_ne (Ne.symm hj)]
  · rw [e'] at ej
    by_cases hj : j = i
    · subst hj
      have hl : j < env.length := (List.getElem?_eq_some_iff.mp e).1
      rw [List.getElem?_set_self hl] at ej
      cases ej
      exact ⟨v, by rw [List.getElem?_set_self hlt], r⟩
    · rw [List.getElem?_set_ne (Ne.symm hj)] at ej
      rw [List.getElem?_set_ne (Ne.symm hj)]
      exact o.sl j y d' ej

/-- what is wished of an exception: its class, its fields, the memory -/
abbrev PXT := Value → List (Str × D) → Mem → Prop
def XRep (K : PySem.W.Frag) (S : Hp) (d : Option Addr) (fs : List (Str × D)) : Prop :=
  (d = none ∧ fs = []) ∨ ∃ dd gs, d = some dd ∧ fs ≠ [] ∧ S dd = some (.xd gs) ∧ FRep K S fs gs
def XPost (K : PySem.W.Frag) (S : Hp) (M : Mem) (H : Hp) (PX : PXT) (cls : Value) (d : Option Addr) (H' : Hp) : Prop :=
  ∃ S' M' fs, Pst K S M H S' M' H' ∧ XRep K S' d fs ∧ PX cls fs M'
structure Wish (X : Cx) (PX : PXT) (S : Hp) (M : Mem) (H : Hp) : Prop where
  tk : Takes X (fun cls d _ H' => XPost X.K S M H PX cls d H')
  own : PassesOwn (model X.prog X.w) X.A X.env X.xe
theorem Wish.step {X : Cx} {PX : PXT} {S S1 H H1 : Hp} {M M1 : Mem} (w : Wish X PX S M H) (p : Pst X.K S M H S1 M1 H1) : Wish X PX S1 M1 H1 :=
  ⟨w.tk.imp fun _ _ _ _ ⟨S', M', fs, q, x, y⟩ => ⟨S', M', fs, p.trans q, x, y⟩, w.own⟩
theorem Wish.imp {X : Cx} {PX PX' : PXT} {S H : Hp} {M : Mem} (w : Wish X PX S M H) (h : ∀ c fs M, PX' c fs M → PX c fs M) : Wish X PX' S M H :=
  ⟨w.tk.imp fun _ _ _ _ ⟨S', M', fs, q, x, y⟩ => ⟨S', M', fs, q, x, h _ _ _ y⟩, w.own⟩
def PX0 : PXT := fun _ _ _ => False

def Post (K : PySem.W.Frag) (S : Hp) (M : Mem) (H : Hp) (Q : D → Mem → Prop) : VK := fun v H' => ∃ S' d M', Pst K S M H S' M' H' ∧ Rep K S' d v ∧ Q d M'
theorem Post.trans {K : PySem.W.Frag} {S S1 H H1 H' : Hp} {M M1 : Mem} {Q : D → Mem → Prop} {v : V} (p : Pst K S M H S1 M1 H1) (h : Post K S1 M1 H1 Q v H') : Post K S M H Q v H' :=
  let ⟨S', d, M', q, r, z⟩ := h; ⟨S', d, M', p.trans q, r, z⟩
theorem Post.imp {K : PySem.W.Frag} {S H H' : Hp} {M : Mem} {Q Q' : D → Mem → Prop} {v : V} (h : Post K S M H Q v H') (k : ∀ d M, Q d M → Q' d M) : Post K S M H Q' v H' :=
  let ⟨S', d, M', q, r, z⟩ := h; ⟨S', d, M', q, r, k _ _ z⟩

/-! ### the meanings, as readings -/
def semE (X : Cx) (e : Expr) : TE := fun σ H Q => ∀ (pins : List (Addr × Obj)) (s : Shared), Inv X pins σ H s → wpAny (model X.prog X.w) X.A (eval e X.env) (EP X pins σ Q) X.xe s
def semT (X : Cx) (e : Expr) : TT := fun σ H Q => ∀ (pins : List (Addr × Obj)) (s : Shared), Inv X pins σ H s → wpAny (model X.prog X.w) X.A (isTrue e X.env (eval e X.env)) (TP X pins σ Q) X.xe s
def semA (X : Cx) (es : List Expr) : TA := fun σ H Q => ∀ (pos : Pos) (pins : List (Addr × Obj)) (s : Shared), Inv X pins σ H s → wpAny (model X.prog X.w) X.A (spliced (backTo pos (starEach es X.env))) (AP X pins σ Q) X.xe s
def semS (X : Cx) (st : Stmt) : TS := fun D σ H => ∀ (pins : List (Addr × Obj)) (s : Shared), Inv X pins σ H s → wpAny (model X.prog X.w) X.A (exec st X.env) (SP X pins D) X.xe s
def semSS (X : Cx) (st : List Stmt) : TS := fun D σ H => ∀ (pins : List (Addr × Obj)) (s : Shared), Inv X pins σ H s → wpAny (model X.prog X.w) X.A (execs st X.env) (SP X pins D) X.xe s
def semG (X : Cx) (tg : Expr) : TG := fun v σ H Q => ∀ (pins : List (Addr × Obj)) (s : Shared) (u : Value), Inv X pins σ H s → RelV v u → wpAny (model X.prog X.w) X.A (assign tg X.env u) (fun _ s' => ∃ σ' H', Inv X pins σ' H' s' ∧ Q σ' H') X.xe s
def semGs (X : Cx) (ts : List Expr) : TGs := fun vs σ H Q => ∀ (pins : List (Addr × Obj)) (s : Shared) (us : List Value), Inv X pins σ H s → Vals vs us → wpAny (model X.prog X.w) X.A (assignInOrder ((assignEach ts X.env).map (·.2)) us) (fun _ s' => ∃ σ' H', Inv X pins σ' H' s' ∧ Q σ' H') X.xe s
def semI (X : Cx) (tg it : Expr) : TI := fun σ H R => ∀ (pins : List (Addr × Obj)) (s : Shared), Inv X pins σ H s → wpAny (model X.prog X.w) X.A (eval it X.env) (fun v s1 => wpAny (model X.prog X.w) X.A (pyIter v) (PIE X pins σ tg R) X.xe s1) X.xe s
def semPT (X : Cx) (ifs : List Expr) : TT := fun σ H Q => ∀ (pins : List (Addr × Obj)) (s : Shared), Inv X pins σ H s →
  wpAny (model X.prog X.w) X.A (forIn ifs true fun c r => if r = true then do let ok ← isTrue c X.env (eval c X.env); pure (ForInStep.yield ok) else pure (ForInStep.yield r)) (TP X pins σ Q) X.xe s
section
variable {X : Cx} {e : Expr} {es : List Expr} {st : Stmt} {sts : List Stmt}
theorem pe_sem : PE X e (semE X e) := ⟨fun pins s σ H Q I h => h pins s I⟩
theorem pt_sem : PT X e (semT X e) := ⟨fun pins s σ H Q I h => h pins s I⟩
theorem pa_sem : PA X es (semA X es) := ⟨fun pos pins s σ H Q I h => h pos pins s I⟩
theorem ps_sem : PS X st (semS X st) := ⟨fun pins s σ H Q I h => h pins s I⟩
theorem pss_sem : PSs X sts (semSS X sts) := ⟨fun pins s σ H Q I h => h pins s I⟩
theorem pg_sem : PG X e (semG X e) := ⟨fun pins s σ H v u Q I r h => h pins s u I r⟩
theorem pgs_sem : PGs X es (semGs X es) := ⟨fun pins s σ H v u Q I r h => h pins s u I r⟩
theorem pi_sem {tg : Expr} : PI X tg e (semI X tg e) := ⟨fun pins s σ H R I h => h pins s I⟩
theorem pts_sem : PTs X es (semPT X es) := ⟨fun pins s σ H Q I h => h pins s I⟩
theorem semE_of {t : TE} {σ : St} {H : Hp} {Q : VK} (h : PE X e t) (q : t σ H Q) : semE X e σ H Q := fun pins s I => h.run pins s σ H Q I q
theorem semT_of {t : TT} {σ : St} {H : Hp} {Q : Bool → Hp → Prop} (h : PT X e t) (q : t σ H Q) : semT X e σ H Q := fun pins s I => h.run pins s σ H Q I q
theorem semA_of {t : TA} {σ : St} {H : Hp} {Q : List V → Hp → Prop} (h : PA X es t) (q : t σ H Q) : semA X es σ H Q := fun pos pins s I => h.run pos pins s σ H Q I q
theorem semS_of {t : TS} {σ : St} {H : Hp} {D : Ends} (h : PS X st t) (q : t D σ H) : semS X st D σ H := fun pins s I => h.run pins s σ H D I q
theorem semSS_of {t : TS} {σ : St} {H : Hp} {D : Ends} (h : PSs X sts t) (q : t D σ H) : semSS X sts D σ H := fun pins s I => h.run pins s σ H D I q
theorem semG_of {t : TG} {v : V} {σ : St} {H : Hp} {Q : St → Hp → Prop} (h : PG X e t) (q : t v σ H Q) : semG X e v σ H Q := fun pins s u I r => h.run pins s σ H v u Q I r q
theorem semGs_of {t : TGs} {v : List V} {σ : St} {H : Hp} {Q : St → Hp → Prop} (h : PGs X es t) (q : t v σ H Q) : semGs X es v σ H Q := fun pins s u I r => h.run pins s σ H v u Q I r q
theorem semI_of {tg : Expr} {t : TI} {σ : St} {H : Hp} {R : It → Hp → Prop} (h : PI X tg e t) (q : t σ H R) : semI X tg e σ H R := fun pins s I => h.run pins s σ H R I q
theorem semPT_of {t : TT} {σ : St} {H : Hp} {Q : Bool → Hp → Prop} (h : PTs X es t) (q : t σ H Q) : semPT X es σ H Q := fun pins s I => h.run pins s σ H Q I q
theorem semE_mono {σ : St} {H : Hp} {Q Q' : VK} (h : semE X e σ H Q) (k : ∀ v H', Q v H' → Q' v H') : semE X e σ H Q' := fun pins s I => thn (h pins s I) fun _ _ ⟨v, H', I', r, q⟩ => ⟨v, H', I', r, k _ _ q⟩
theorem semT_mono {σ : St} {H : Hp} {Q Q' : Bool → Hp → Prop} (h : semT X e σ H Q) (k : ∀ v H', Q v H' → Q' v H') : semT X e σ H Q' := fun pins s I => thn (h pins s I) fun _ _ ⟨H', I', q⟩ => ⟨H', I', k _ _ q⟩
theorem semPT_mono {σ : St} {H : Hp} {Q Q' : Bool → Hp → Prop} (h : semPT X es σ H Q) (k : ∀ v H', Q v H' → Q' v H') : semPT X es σ H Q' := fun pins s I => thn (h pins s I) fun _ _ ⟨H', I', q⟩ => ⟨H', I', k _ _ q⟩
theorem semA_mono {σ : St} {H : Hp} {Q Q' : List V → Hp → Prop} (h : semA X es σ H Q) (k : ∀ v H', Q v H' → Q' v H') : semA X es σ H Q' := fun pos pins s I => thn (h pos pins s I) fun _ _ ⟨v, H', I', r, q⟩ => ⟨v, H', I', r, k _ _ q⟩
theorem semG_mono {v : V} {σ : St} {H : Hp} {Q Q' : St → Hp → Prop} (h : semG X e v σ H Q) (k : ∀ v H', Q v H' → Q' v H') : semG X e v σ H Q' := fun pins s u I r => thn (h pins s u I r) fun _ _ ⟨σ', H', I', q⟩ => ⟨σ', H', I', k _ _ q⟩
theorem semGs_mono {v : List V} {σ : St} {H : Hp} {Q Q' : St → Hp → Prop} (h : semGs X es v σ H Q) (k : ∀ v H', Q v H' → Q' v H') : semGs X es v σ H Q' := fun pins s u I r => thn (h pins s u I r) fun _ _ ⟨σ', H', I', q⟩ => ⟨σ', H', I', k _ _ q⟩
theorem semI_mono {tg : Expr} {σ : St} {H : Hp} {R R' : It → Hp → Prop} (h : semI X tg e σ H R) (k : ∀ J H', R J H' → R' J H') : semI X tg e σ H R' := fun pins s I => thn (h pins s I) fun _ _ h1 => thn h1 fun _ _ ⟨it, fp, tn, J, H', e, I', T, t0, f, r⟩ => ⟨it, fp, tn, J, H', e, I', T, t0, f, k _ _ r⟩
theorem SP_mono {D D' : Ends} {pins : List (Addr × Obj)} {f : Flow} {s' : Shared} (h : SP X pins D f s') (k1 : ∀ σ H, D.nx σ H → D'.nx σ H) (k2 : ∀ v H, D.rt v H → D'.rt v H) (k3 : ∀ σ H, D.bk σ H → D'.bk σ H) (k4 : ∀ σ H, D.ct σ H → D'.ct σ H) : SP X pins D' f s' := by
  cases f with
  | next => obtain ⟨σ', H', I', q⟩ := h; exact ⟨σ', H', I', k1 _ _ q⟩
  | brk => obtain ⟨σ', H', I', q⟩ := h; exact ⟨σ', H', I', k3 _ _ q⟩
  | cont => obtain ⟨σ', H', I', q⟩ := h; exact ⟨σ', H', I', k4 _ _ q⟩
  | ret u => obtain ⟨v, σ', H', I', r, q⟩ := h; exact ⟨v, σ', H', I', r, k2 _ _ q⟩
theorem semS_mono {D D' : Ends} {σ : St} {H : Hp} (h : semS X st D σ H) (k1 : ∀ σ H, D.nx σ H → D'.nx σ H) (k2 : ∀ v H, D.rt v H → D'.rt v H) (k3 : ∀ σ H, D.bk σ H → D'.bk σ H) (k4 : ∀ σ H, D.ct σ H → D'.ct σ H) : semS X st D' σ H :=
  fun pins s I => thn (h pins s I) fun _ _ q => SP_mono q k1 k2 k3 k4
theorem semSS_mono {D D' : Ends} {σ : St} {H : Hp} (h : semSS X sts D σ H) (k1 : ∀ σ H, D.nx σ H → D'.nx σ H) (k2 : ∀ v H, D.rt v H → D'.rt v H) (k3 : ∀ σ H, D.bk σ H → D'.bk σ H) (k4 : ∀ σ H, D.ct σ H → D'.ct σ H) : semSS X sts D' σ H :=
  fun pins s I => thn (h pins s I) fun _ _ q => SP_mono q k1 k2 k3 k4
end

/-! ### the judgements -/
structure E (X : Cx) (PX : PXT) (e : Expr) (env : Vars) (M : Mem) (Q : D → Mem → Prop) : Prop where
  run : ∀ S σ H, Ok X S env M σ H → Wish X PX S M H → semE X e σ H (Post X.K S M H Q)
structure T (X : Cx) (PX : PXT) (e : Expr) (env : Vars) (M : Mem) (Q : Bool → Mem → Prop) : Prop where
  run : ∀ S σ H, Ok X S env M σ H → Wish X PX S M H → semT X e σ H fun b H' => ∃ S' M', Pst X.K S M H S' M' H' ∧ Q b M'
structure TS' (X : Cx) (PX : PXT) (ifs : List Expr) (env : Vars) (M : Mem) (Q : Bool → Mem → Prop) : Prop where
  run : ∀ S σ H, Ok X S env M σ H → Wish X PX S M H → semPT X ifs σ H fun b H' => ∃ S' M', Pst X.K S M H S' M' H' ∧ Q b M'
structure A (X : Cx) (PX : PXT) (es : List Expr) (env : Vars) (M : Mem) (Q : List D → Mem → Prop) : Prop where
  run : ∀ S σ H, Ok X S env M σ H → Wish X PX S M H → semA X es σ H fun vs H' => ∃ S' ds M', Pst X.K S M H S' M' H' ∧ Reps X.K S' ds vs ∧ Q ds M'
structure G (X : Cx) (PX : PXT) (tg : Expr) (d : D) (env : Vars) (M : Mem) (Q : Vars → Mem → Prop) : Prop where
  run : ∀ S σ H v, Ok X S env M σ H → Wish X PX S M H → Rep X.K S d v → semG X tg v σ H fun σ' H' => ∃ S' env' M', Pst X.K S M H S' M' H' ∧ Ok X S' env' M' σ' H' ∧ Q env' M'
structure Gs (X : Cx) (PX : PXT) (ts : List Expr) (ds : List D) (env : Vars) (M : Mem) (Q : Vars → Mem → Prop) : Prop where
  run : ∀ S σ H vs, Ok X S env M σ H → Wish X PX S M H → Reps X.K S ds vs → semGs X ts vs σ H fun σ' H' => ∃ S' env' M', Pst X.K S M H S' M' H' ∧ Ok X S' env' M' σ' H' ∧ Q env' M'
/-- an iterator that hands out the items, whatever happens meanwhile to cells -/
structure Deals (K : PySem.W.Frag) (J : It) (S : Hp) (items : List D) : Prop where
  go : ∀ i H, i < items.length → Same S H → J.go i H
  stop : ∀ i H, i = items.length → Same S H → J.stop i H
  yld : ∀ i H x H' S' M (hi : i < items.length), Same S S' → Same S' H → MemOk K S' M H → J.yld i H x H' → ∃ S'', Pst K S' M H S'' M H' ∧ Rep K S'' items[i] x
structure I (X : Cx) (PX : PXT) (tg it : Expr) (env : Vars) (M : Mem) (Q : List D → Mem → Prop) : Prop where
  run : ∀ S σ H, Ok X S env M σ H → Wish X PX S M H → semI X tg it σ H fun J H' => ∃ S' items M', Pst X.K S M H S' M' H' ∧ Deals X.K J S' items ∧ Q items M'
structure Pk where
  nx : Vars → Mem → Prop
  rt : D → Mem → Prop
  bk : Vars → Mem → Prop := fun _ _ => False
  ct : Vars → Mem → Prop := fun _ _ => False
def NPost (X : Cx) (S : Hp) (M : Mem) (H : Hp) (Q : Vars → Mem → Prop) : St → Hp → Prop := fun σ' H' => ∃ S' env' M', Pst X.K S M H S' M' H' ∧ Ok X S' env' M' σ' H' ∧ Q env' M'
def Pk.ends (P : Pk) (X : Cx) (S : Hp) (M : Mem) (H : Hp) : Ends where
  nx := NPost X S M H P.nx
  rt := Post X.K S M H P.rt
  bk := NPost X S M H P.bk
  ct := NPost X S M H P.ct
structure S (X : Cx) (PX : PXT) (st : Stmt) (env : Vars) (M : Mem) (P : Pk) : Prop where
  run : ∀ S σ H, Ok X S env M σ H → Wish X PX S M H → semS X st (P.ends X S M H) σ H
structure SS (X : Cx) (PX : PXT) (sts : List Stmt) (env : Vars) (M : Mem) (P : Pk) : Prop where
  run : ∀ S σ H, Ok X S env M σ H → Wish X PX S M H → semSS X sts (P.ends X S M H) σ H
theorem NPost.trans {X : Cx} {S S1 H H1 : Hp} {M M1 : Mem} {Q : Vars → Mem → Prop} {σ' : St} {H' : Hp} (p : Pst X.K S M H S1 M1 H1) (h : NPost X S1 M1 H1 Q σ' H') : NPost X S M H Q σ' H' :=
  let ⟨S', env', M', q, o, z⟩ := h; ⟨S', env', M', p.trans q, o, z⟩
section
variable {X : Cx} {PX : PXT} {e : Expr} {es : List Expr} {st : Stmt} {sts : List Stmt} {env : Vars} {M : Mem} {S0 H : Hp} {σ : St}
theorem E.bind {Q : D → Mem → Prop} {R : VK} (h : E X PX e env M Q) (ok : Ok X S0 env M σ H) (wi : Wish X PX S0 M H)
    (k : ∀ S' d M' v H', Pst X.K S0 M H S' M' H' → Ok X S' env M' σ H' → Wish X PX S' M' H' → Rep X.K S' d v → Q d M' → R v H') : semE X e σ H R :=
  semE_mono (h.run S0 σ H ok wi) fun v H' ⟨S', d, M', p, r, q⟩ => k S' d M' v H' p (ok.step p) (wi.step p) r q
theorem T.bind {Q : Bool → Mem → Prop} {R : Bool → Hp → Prop} (h : T X PX e env M Q) (ok : Ok X S0 env M σ H) (wi : Wish X PX S0 M H)
    (k : ∀ S' b M' H', Pst X.K S0 M H S' M' H' → Ok X S' env M' σ H' → Wish X PX S' M' H' → Q b M' → R b H') : semT X e σ H R :=
  semT_mono (h.run S0 σ H ok wi) fun b H' ⟨S', M', p, q⟩ => k S' b M' H' p (ok.step p) (wi.step p) q
theorem A.bind {Q : List D → Mem → Prop} {R : List V → Hp → Prop} (h : A X PX es env M Q) (ok : Ok X S0 env M σ H) (wi : Wish X PX S0 M H)
    (k : ∀ S' ds M' vs H', Pst X.K S0 M H S' M' H' → Ok X S' env M' σ H' → Wish X PX S' M' H' → Reps X.K S' ds vs → Q ds M' → R vs H') : semA X es σ H R :=
  semA_mono (h.run S0 σ H ok wi) fun v H' ⟨S', d, M', p, r, q⟩ => k S' d M' v H' p (ok.step p) (wi.step p) r q
theorem G.bind {tg : Expr} {d : D} {v : V} {Q : Vars → Mem → Prop} {R : St → Hp → Prop} (h : G X PX tg d env M Q) (ok : Ok X S0 env M σ H) (wi : Wish X PX S0 M H) (r : Rep X.K S0 d v)
    (k : ∀ S' env' M' σ' H', Pst X.K S0 M H S' M' H' → Ok X S' env' M' σ' H' → Wish X PX S' M' H' → Q env' M' → R σ' H') : semG X tg v σ H R :=
  semG_mono (h.run S0 σ H v ok wi r) fun σ' H' ⟨S', env', M', p, o, q⟩ => k S' env' M' σ' H' p o (wi.step p) q
theorem I.bind {tg it : Expr} {Q : List D → Mem → Prop} {R : It → Hp → Prop} (h : I X PX tg it env M Q) (ok : Ok X S0 env M σ H) (wi : Wish X PX S0 M H)
    (k : ∀ S' items M' J H', Pst X.K S0 M H S' M' H' → Ok X S' env M' σ H' → Wish X PX S' M' H' → Deals X.K J S' items → Q items M' → R J H') : semI X tg it σ H R :=
  semI_mono (h.run S0 σ H ok wi) fun J H' ⟨S', items, M', p, dl, q⟩ => k S' items M' J H' p (ok.step p) (wi.step p) dl q
/-- a block at a later state, seen from an earlier one -/
theorem SS.from {P : Pk} {S1 H1 : Hp} {M1 : Mem} {σ1 : St} {env1 : Vars} (h : SS X PX sts env1 M1 P) (p : Pst X.K S0 M H S1 M1 H1) (ok : Ok X S1 env1 M1 σ1 H1) (wi : Wish X PX S1 M1 H1) : semSS X sts (P.ends X S0 M H) σ1 H1 :=
  semSS_mono (h.run S1 σ1 H1 ok wi) (fun _ _ q => NPost.trans p q) (fun _ _ q => Post.trans p q) (fun _ _ q => NPost.trans p q) (fun _ _ q => NPost.trans p q)
theorem E.from {Q : D → Mem → Prop} {S1 H1 : Hp} {M1 : Mem} {σ1 : St} {env1 : Vars} (h : E X PX e env1 M1 Q) (p : Pst X.K S0 M H S1 M1 H1) (ok : Ok X S1 env1 M1 σ1 H1) (wi : Wish X PX S1 M1 H1) : semE X e σ1 H1 (Post X.K S0 M H Q) :=
  semE_mono (h.run S1 σ1 H1 ok wi) fun _ _ q => Post.trans p q
theorem E.imp {Q Q' : D → Mem → Prop} (h : E X PX e env M Q) (k : ∀ d M, Q d M → Q' d M) : E X PX e env M Q' := ⟨fun S σ H ok wi => semE_mono (h.run S σ H ok wi) fun _ _ q => q.imp k⟩
end
end DL

/-! DL2: rules of expressions and tests -/
namespace DL
open PySem L2

abbrev QD := D → Mem → Prop
/-- a two-place operation, by data -/
def D2 (K : PySem.W.Frag) (r : R2) (g : D → D → Mem → QD → Prop) : Prop :=
  ∀ (S : Hp) (M : Mem) (H : Hp) (x y : D) (v u : V) (Q : QD) (R : VK), Same S H → MemOk K S M H → Rep K S x v → Rep K S y u → g x y M Q → (∀ z H', Post K S M H Q z H' → R z H') → r v u H R
def D1 (K : PySem.W.Frag) (r : V → Hp → VK → Prop) (g : D → Mem → QD → Prop) : Prop :=
  ∀ (S : Hp) (M : Mem) (H : Hp) (x : D) (v : V) (Q : QD) (R : VK), Same S H → MemOk K S M H → Rep K S x v → g x M Q → (∀ z H', Post K S M H Q z H' → R z H') → r v H R
/-- a call by values -/
def DC (K : PySem.W.Frag) (r : List V → Hp → VK → Prop) (g : List D → Mem → QD → Prop) : Prop :=
  ∀ (S : Hp) (M : Mem) (H : Hp) (xs : List D) (vs : List V) (Q : QD) (R : VK), Same S H → MemOk K S M H → Reps K S xs vs → g xs M Q → (∀ z H', Post K S M H Q z H' → R z H') → r vs H R
theorem post_same {K : PySem.W.Frag} {S : Hp} {M : Mem} {H : Hp} {Q : QD} {d : D} {v : V} (sh : Same S H) (m : MemOk K S M H) (r : Rep K S d v) (q : Q d M) : Post K S M H Q v H := ⟨S, d, M, Pst.refl sh m, r, q⟩
theorem post_tup {K : PySem.W.Frag} {S : Hp} {M : Mem} {H : Hp} {Q : QD} {ds : List D} {vs : List V} {p : Addr} (sh : Same S H) (m : MemOk K S M H) (hp : H p = none) (r : Reps K S ds vs) (q : Q (.tup ds) M) : Post K S M H Q (.ref p) (upd H p (.tup vs)) := by
  have pw := Pst.new (o := .tup vs) sh m hp
  exact ⟨_, .tup ds, _, pw, ⟨p, vs, rfl, SqT.of upd_same, Reps.mono pw.ss _ _ r⟩, q⟩
theorem post_lst {K : PySem.W.Frag} {S : Hp} {M : Mem} {H : Hp} {Q : QD} {ds : List D} {vs : List V} {p : Addr} (sh : Same S H) (m : MemOk K S M H) (hp : H p = none) (r : Reps K S ds vs) (q : Q (.lst ds) M) : Post K S M H Q (.ref p) (upd H p (.lst vs)) := by
  have pw := Pst.new (o := .lst vs) sh m hp
  exact ⟨_, .lst ds, _, pw, ⟨p, vs, rfl, upd_same, Reps.mono pw.ss _ _ r⟩, q⟩
theorem post_cell {K : PySem.W.Frag} {S : Hp} {M : Mem} {H : Hp} {Q : QD} {ds : List D} {vs : List V} {p : Addr} (sh : Same S H) (m : MemOk K S M H) (hp : H p = none) (r : Reps K S ds vs) (q : Q (.ref p) (updM M p (.lst ds))) : Post K S M H Q (.ref p) (upd H p (.lst vs)) :=
  ⟨S, .ref p, _, Pst.cell (c := .lst ds) sh m hp ⟨vs, upd_same, r⟩, rfl, q⟩
theorem post_int {K : PySem.W.Frag} {S : Hp} {M : Mem} {H : Hp} {Q : QD} {i : Int} (sh : Same S H) (m : MemOk K S M H) (q : Q (.int i) M) : Post K S M H Q (.int i) H := post_same (d := .int i) sh m rfl q
theorem post_bl {K : PySem.W.Frag} {S : Hp} {M : Mem} {H : Hp} {Q : QD} {i : Bool} (sh : Same S H) (m : MemOk K S M H) (q : Q (.bl i) M) : Post K S M H Q (.bl i) H := post_same (d := .bl i) sh m rfl q
theorem post_str {K : PySem.W.Frag} {S : Hp} {M : Mem} {H : Hp} {Q : QD} {i : Str} (sh : Same S H) (m : MemOk K S M H) (q : Q (.str i) M) : Post K S M H Q (.str i) H := post_same (d := .str i) sh m rfl q
theorem post_non {K : PySem.W.Frag} {S : Hp} {M : Mem} {H : Hp} {Q : QD} (sh : Same S H) (m : MemOk K S M H) (q : Q .non M) : Post K S M H Q .non H := post_same (d := .non) sh m rfl q
theorem post_ref {K : PySem.W.Frag} {S : Hp} {M : Mem} {H : Hp} {Q : QD} {a : Addr} (sh : Same S H) (m : MemOk K S M H) (q : Q (.ref a) M) : Post K S M H Q (.ref a) H := post_same (d := .ref a) sh m rfl q

section
variable {X : Cx} {PX : PXT} {e a b c : Expr} {es : List Expr} {env : Vars} {M : Mem} {pos p : Pos} {Q : QD} {x : Str}
/-! ### names, constants -/
theorem e_name {d : D} (h : At env x d) (q : Q d M) (hv : Vis X.env.scope x := by first | exact Or.inl rfl | exact Or.inr (Or.inl rfl) | exact Or.inr (Or.inr rfl)) (hd : (x == ("__debug__" : Str)) = false := by decide) (hcd : (x == ("__classdict__" : Str)) = false := by decide) :
    E X PX (.Name x pos) env M Q := ⟨fun S σ H ok wi => by
  obtain ⟨i, v, hN, hs, r⟩ := ok.at h
  exact semE_of (pe_var hN hv hd hcd) ⟨v, hs, post_same ok.sh ok.mem r q⟩⟩
theorem e_int {i : Int} {j : Nat} (q : Q (.int i) M) : E X PX (.Constant (.int i) j pos) env M Q := ⟨fun S σ H ok wi => semE_of pe_int (post_int ok.sh ok.mem q)⟩
theorem e_bl {i : Bool} {j : Nat} (q : Q (.bl i) M) : E X PX (.Constant (.bool i) j pos) env M Q := ⟨fun S σ H ok wi => semE_of pe_bl (post_bl ok.sh ok.mem q)⟩
theorem e_non {j : Nat} (q : Q .non M) : E X PX (.Constant .none j pos) env M Q := ⟨fun S σ H ok wi => semE_of pe_non (post_non ok.sh ok.mem q)⟩
theorem e_str {i : Str} {j : Nat} (q : Q (.str i) M) : E X PX (.Constant (.str i) j pos) env M Q := ⟨fun S σ H ok wi => semE_of pe_str (post_str ok.sh ok.mem q)⟩
/-- a module's name that holds a scalar -/
theorem e_glob {v : V} {d : D} (hm : ∃ u, X.mg x = some u ∧ RelV v u) (hr : ∀ S, Rep X.K S d v) (q : Q d M) (hg : Gl X x := by rfl) (hd : (x == ("__debug__" : Str)) = false := by decide) : E X PX (.Name x pos) env M Q := ⟨fun S σ H ok wi => by
  intro pins s I
  obtain ⟨u, hu, r⟩ := hm
  exact ld_glob I hg hu ⟨v, H, I, r, post_same ok.sh ok.mem (hr S) q⟩ hd⟩

/-! ### operators -/
theorem e_op {op : Operator} {r : R2} {g : D → D → Mem → QD → Prop} (ho : OpR X (binaryOp op) r) (hr : D2 X.K r g) (h : E X PX a env M fun x M1 => E X PX b env M1 fun y M2 => g x y M2 Q) : E X PX (.BinOp a op b pos) env M Q :=
  ⟨fun S σ H ok wi => semE_of (pe_op ho pe_sem pe_sem) (h.bind ok wi fun S1 x M1 v H1 p1 ok1 wi1 rx hb => hb.bind ok1 wi1 fun S2 y M2 u H2 p2 ok2 wi2 ry hg =>
    hr S2 M2 H2 x y v u Q _ ok2.sh ok2.mem (Rep.mono p2.ss _ _ rx) ry hg fun z H' q => (q.trans p2).trans p1)⟩
theorem e_cmp {op : CmpOp} {r : R2} {g : D → D → Mem → QD → Prop} (ho : OpR X (compareOp op) r) (hr : D2 X.K r g) (h : E X PX a env M fun x M1 => E X PX b env M1 fun y M2 => g x y M2 Q) (hm : behindInMarks op b = false) : E X PX (.Compare a [op] [b] pos) env M Q :=
  ⟨fun S σ H ok wi => semE_of (pe_cmpR ho pe_sem pe_sem hm) (h.bind ok wi fun S1 x M1 v H1 p1 ok1 wi1 rx hb => hb.bind ok1 wi1 fun S2 y M2 u H2 p2 ok2 wi2 ry hg =>
    hr S2 M2 H2 x y v u Q _ ok2.sh ok2.mem (Rep.mono p2.ss _ _ rx) ry hg fun z H' q => (q.trans p2).trans p1)⟩
theorem e_un {op : UnaryOp} {r : V → Hp → VK → Prop} {g : D → Mem → QD → Prop} (ho : UnR X (unaryOp op) r) (hr : D1 X.K r g) (h : E X PX a env M fun x M1 => g x M1 Q) : E X PX (.UnaryOp op a pos) env M Q :=
  ⟨fun S σ H ok wi => semE_of (pe_un ho pe_sem) (h.bind ok wi fun S1 x M1 v H1 p1 ok1 wi1 rx hg => hr S1 M1 H1 x v Q _ ok1.sh ok1.mem rx hg fun z H' q => q.trans p1)⟩
def gI (C : Int → Int → Prop) (f : Int → Int → D) : D → D → Mem → QD → Prop := fun x y M Q => ∃ i j, x = .int i ∧ y = .int j ∧ C i j ∧ Q (f i j) M
def gI0 (f : Int → Int → D) : D → D → Mem → QD → Prop := fun x y M Q => ∃ i j, x = .int i ∧ y = .int j ∧ Q (f i j) M
theorem d2_int {C : Int → Int → Prop} {f : Int → Int → Int} : D2 X.K (rI C fun i j => .int (f i j)) (gI C fun i j => .int (f i j)) := by
  intro S M H x y v u Q R sh m rx ry hg hR
  obtain ⟨i, j, rfl, rfl, hc, q⟩ := hg
  exact ⟨i, j, rx, ry, hc, hR _ _ (post_int sh m q)⟩
theorem d2_int0 {f : Int → Int → Int} : D2 X.K (rI0 fun i j => .int (f i j)) (gI0 fun i j => .int (f i j)) := by
  intro S M H x y v u Q R sh m rx ry hg hR
  obtain ⟨i, j, rfl, rfl, q⟩ := hg
  exact ⟨i, j, rx, ry, hR _ _ (post_int sh m q)⟩
theorem d2_bool0 {f : Int → Int → Bool} : D2 X.K (rI0 fun i j => .bl (f i j)) (gI0 fun i j => .bl (f i j)) := by
  intro S M H x y v u Q R sh m rx ry hg hR
  obtain ⟨i, j, rfl, rfl, q⟩ := hg
  exact ⟨i, j, rx, ry, hR _ _ (post_bl sh m q)⟩
theorem e_add (h : E X PX a env M fun x M1 => E X PX b env M1 fun y M2 => ∃ i j, x = .int i ∧ y = .int j ∧ Q (.int (i + j)) M2) : E X PX (.BinOp a .Add b pos) env M Q := e_op op_add d2_int0 h
theorem e_sub (h : E X PX a env M fun x M1 => E X PX b env M1 fun y M2 => ∃ i j, x = .int i ∧ y = .int j ∧ Q (.int (i - j)) M2) : E X PX (.BinOp a .Sub b pos) env M Q := e_op op_sub d2_int0 h
theorem opr_or {f : Value → Value → Sem Value} {C C' : Int → Int → Prop} {g : Int → Int → V} (h : OpR X f (rI C g)) (h' : OpR X f (rI C' g)) : OpR X f (rI (fun i j => C i j ∨ C' i j) g) := by
  intro pins s σ H x y v u Q I rx ry ⟨i, j, e1, e2, hc, q⟩
  rcases hc with hc | hc
  · exact h pins s σ H x y v u Q I rx ry ⟨i, j, e1, e2, hc, q⟩
  · exact h' pins s σ H x y v u Q I rx ry ⟨i, j, e1, e2, hc, q⟩
theorem e_mul (h : E X PX a env M fun x M1 => E X PX b env M1 fun y M2 => ∃ i j, x = .int i ∧ y = .int j ∧ (CMul i j ∨ CMulW i j) ∧ Q (.int (i * j)) M2) : E X PX (.BinOp a .Mult b pos) env M Q := e_op (opr_or op_mul op_mulW) d2_int h
theorem e_fdiv (h : E X PX a env M fun x M1 => E X PX b env M1 fun y M2 => ∃ i j, x = .int i ∧ y = .int j ∧ (CDiv i j ∨ CDivW i j) ∧ Q (.int (i / j)) M2) : E X PX (.BinOp a .FloorDiv b pos) env M Q := e_op (opr_or op_fdiv op_fdivW) d2_int h
theorem e_mod (h : E X PX a env M fun x M1 => E X PX b env M1 fun y M2 => ∃ i j, x = .int i ∧ y = .int j ∧ 0 < j ∧ Q (.int (i % j)) M2) : E X PX (.BinOp a .Mod b pos) env M Q := e_op op_mod d2_int h
theorem e_modN (h : E X PX a env M fun x M1 => E X PX b env M1 fun y M2 => ∃ i j, x = .int i ∧ y = .int j ∧ j ≠ 0 ∧ Q (.int (i.fmod j)) M2) : E X PX (.BinOp a .Mod b pos) env M Q := e_op op_modN d2_int h
theorem e_neg (h : E X PX a env M fun x M1 => ∃ i, x = .int i ∧ Q (.int (-i)) M1) : E X PX (.UnaryOp .USub a pos) env M Q := e_un (g := fun x M1 Q => ∃ i, x = .int i ∧ Q (.int (-i)) M1) un_neg (by
  intro S M H x v Q R sh m rx hg hR
  obtain ⟨i, rfl, q⟩ := hg
  exact ⟨i, rx, hR _ _ (post_int sh m q)⟩) h
theorem e_lt (h : E X PX a env M fun x M1 => E X PX b env M1 fun y M2 => ∃ i j, x = .int i ∧ y = .int j ∧ Q (.bl (decide (i < j))) M2) : E X PX (.Compare a [.Lt] [b] pos) env M Q := e_cmp op_lt d2_bool0 h (nomark _)
theorem e_le (h : E X PX a env M fun x M1 => E X PX b env M1 fun y M2 => ∃ i j, x = .int i ∧ y = .int j ∧ Q (.bl (decide (i ≤ j))) M2) : E X PX (.Compare a [.LtE] [b] pos) env M Q := e_cmp op_le d2_bool0 h (nomark _)
theorem e_gt (h : E X PX a env M fun x M1 => E X PX b env M1 fun y M2 => ∃ i j, x = .int i ∧ y = .int j ∧ Q (.bl (decide (j < i))) M2) : E X PX (.Compare a [.Gt] [b] pos) env M Q := e_cmp op_gt d2_bool0 h (nomark _)
theorem e_ge (h : E X PX a env M fun x M1 => E X PX b env M1 fun y M2 => ∃ i j, x = .int i ∧ y = .int j ∧ Q (.bl (decide (j ≤ i))) M2) : E X PX (.Compare a [.GtE] [b] pos) env M Q := e_cmp op_ge d2_bool0 h (nomark _)
theorem e_chain {op op' : CmpOp} {f f' : Int → Int → Bool} (ho : OpR X (compareOp op) (rI0 fun i j => .bl (f i j))) (ho' : OpR X (compareOp op') (rI0 fun i j => .bl (f' i j)))
    (h : E X PX a env M fun x M1 => E X PX b env M1 fun y M2 => ∃ i j, x = .int i ∧ y = .int j ∧ (f i j = true → E X PX c env M2 fun z M3 => ∃ k, z = .int k ∧ Q (.bl (f' j k)) M3) ∧ (f i j = false → Q (.bl false) M2))
    (hm : lastMarks [op, op'] [b, c] = false := by with_unfolding_all rfl) : E X PX (.Compare a [op, op'] [b, c] pos) env M Q :=
  ⟨fun S σ H ok wi => semE_of (pe_chain ho ho' pe_sem pe_sem pe_sem hm) (h.bind ok wi fun S1 x M1 v H1 p1 ok1 wi1 rx hb => hb.bind ok1 wi1 fun S2 y M2 u H2 p2 ok2 wi2 ry hg => by
    obtain ⟨i, j, rfl, rfl, hy, hn⟩ := hg
    refine ⟨i, j, rx, ry, f i j, rfl, ?_⟩
    cases hf : f i j with
    | true =>
      rw [if_pos rfl]
      exact (hy hf).bind ok2 wi2 fun S3 z M3 w H3 p3 ok3 wi3 rz ⟨k, ez, q⟩ => by
        subst ez
        exact ⟨j, k, ry, rz, ((post_bl ok3.sh ok3.mem q).trans p3 |>.trans p2).trans p1⟩
    | false =>
      rw [if_neg Bool.false_ne_true]
      exact ((post_bl ok2.sh ok2.mem (hn hf)).trans p2).trans p1)⟩
theorem e_leLe (h : E X PX a env M fun x M1 => E X PX b env M1 fun y M2 => ∃ i j, x = .int i ∧ y = .int j ∧ (decide (i ≤ j) = true → E X PX c env M2 fun z M3 => ∃ k, z = .int k ∧ Q (.bl (decide (j ≤ k))) M3) ∧ (decide (i ≤ j) = false → Q (.bl false) M2)) (hm : lastMarks [.LtE, .LtE] [b, c] = false := by with_unfolding_all rfl) :
    E X PX (.Compare a [.LtE, .LtE] [b, c] pos) env M Q := e_chain op_le op_le h hm
theorem e_leLt (h : E X PX a env M fun x M1 => E X PX b env M1 fun y M2 => ∃ i j, x = .int i ∧ y = .int j ∧ (decide (i ≤ j) = true → E X PX c env M2 fun z M3 => ∃ k, z = .int k ∧ Q (.bl (decide (j < k))) M3) ∧ (decide (i ≤ j) = false → Q (.bl false) M2)) (hm : lastMarks [.LtE, .Lt] [b, c] = false := by with_unfolding_all rfl) :
    E X PX (.Compare a [.LtE, .Lt] [b, c] pos) env M Q := e_chain op_le op_lt h hm

/-! ### data as PyData -/
mutual
def D.py : D → PyData
  | .bl b => .bool b
  | .int i => .int i
  | .str x => .str x
  | .tup ds => .tuple (D.pys ds)
  | .lst ds => .list (D.pys ds)
  | _ => .none
def D.pys : List D → List PyData
  | [] => []
  | d :: ds => d.py :: D.pys ds
end
mutual
/-- plain data: None, bools, ints, texts and tuples, lists of such, at most n deep -/
def D.plain : D → Nat → Bool
  | .non, _ => true
  | .bl _, _ => true
  | .int _, _ => true
  | .str x, _ => PyData.canLay0 (.str x)
  | .tup ds, n => match n with | 0 => false | m + 1 => D.plains ds m
  | .lst ds, n => match n with | 0 => false | m + 1 => D.plains ds m
  | _, _ => false
def D.plains : List D → Nat → Bool
  | [], _ => true
  | d :: ds, n => d.plain n && D.plains ds n
end
mutual
theorem D.plain_dp {K : PySem.W.Frag} {S : Hp} : ∀ (d : D) (n : Nat) (v : V), d.plain n = true → Rep K S d v → Dp K S v d.py
  | .non, _, _, _, r => by rw [show _ = V.non from r]; exact .non
  | .bl b, _, _, _, r => by rw [show _ = V.bl b from r]; exact .bl b
  | .int i, _, _, _, r => by rw [show _ = V.int i from r]; exact .int i
  | .str x, _, _, _, r => by rw [show _ = V.str x from r]; exact .str x
  | .byt _, _, _, h, _ => by simp [D.plain] at h
  | .ty _, _, _, h, _ => by simp [D.plain] at h
  | .ref _, _, _, h, _ => by simp [D.plain] at h
  | .tup ds, 0, _, h, _ => by simp [D.plain] at h
  | .tup ds, n + 1, v, h, r => by
    obtain ⟨a, xs, rfl, h1, h2⟩ := r
    exact .tup h1 (D.plains_dp ds n xs (by simpa [D.plain] using h) h2)
  | .lst ds, 0, _, h, _ => by simp [D.plain] at h
  | .lst ds, n + 1, v, h, r => by
    obtain ⟨a, xs, rfl, h1, h2⟩ := r
    exact .lst (SqL.of h1) (D.plains_dp ds n xs (by simpa [D.plain] using h) h2)
  | .rol ds, _, _, h, _ => by simp [D.plain] at h
theorem D.plains_dp {K : PySem.W.Frag} {S : Hp} : ∀ (ds : List D) (n : Nat) (vs : List V), D.plains ds n = true → Reps K S ds vs → DpAll K S vs (D.pys ds)
  | [], _, _, _, r => by rw [show _ = [] from r]; exact .nil
  | d :: ds, n, vs, h, r => by
    obtain ⟨x, rr, rfl, h1, h2⟩ := r
    have h' : d.plain n = true ∧ D.plains ds n = true := by simpa [D.plains] using h
    exact .cons (D.plain_dp d n x h'.1 h1) (D.plains_dp ds n rr h'.2 h2)
end
mutual
theorem D.plain_lay : ∀ (d : D) (n : Nat), d.plain n = true → d.py.canLay0 = true ∧ d.py.depth ≤ n
  | .non, _, _ => ⟨rfl, Nat.zero_le _⟩
  | .bl b, _, _ => ⟨rfl, Nat.zero_le _⟩
  | .int i, _, _ => ⟨rfl, Nat.zero_le _⟩
  | .str x, _, h => ⟨h, Nat.zero_le _⟩
  | .byt _, _, h => by simp [D.plain] at h
  | .ty _, _, h => by simp [D.plain] at h
  | .ref _, _, h => by simp [D.plain] at h
  | .tup ds, 0, h => by simp [D.plain] at h
  | .tup ds, n + 1, h => by
    have q := D.plains_lay ds n (by simpa [D.plain] using h)
    exact ⟨q.1, Nat.succ_le_succ q.2⟩
  | .lst ds, 0, h => by simp [D.plain] at h
  | .lst ds, n + 1, h => by
    have q := D.plains_lay ds n (by simpa [D.plain] using h)
    exact ⟨q.1, Nat.succ_le_succ q.2⟩
  | .rol ds, _, h => by simp [D.plain] at h
theorem D.plains_lay : ∀ (ds : List D) (n : Nat), D.plains ds n = true → PyData.canLayAll0 (D.pys ds) = true ∧ PyData.depthAll (D.pys ds) ≤ n
  | [], _, _ => ⟨rfl, Nat.zero_le _⟩
  | d :: ds, n, h => by
    have h' : d.plain n = true ∧ D.plains ds n = true := by simpa [D.plains] using h
    have q1 := D.plain_lay d n h'.1
    have q2 := D.plains_lay ds n h'.2
    refine ⟨?_, ?_⟩
    · show (d.py.canLay0 && PyData.canLayAll0 (D.pys ds)) = true
      rw [q1.1, q2.1]; rfl
    · show max d.py.depth (PyData.depthAll (D.pys ds)) ≤ n
      omega
end
theorem D.shaped {d : D} (h : d.plain 60 = true) : SeqAt.shaped d.py = true := by
  obtain ⟨h1, h2⟩ := D.plain_lay d 60 h
  unfold SeqAt.shaped
  rw [h1, decide_eq_true (by omega)]; rfl
/-- Python's == -/
def D.eqv (x y : D) : Bool := PyData.eqv x.py y.py
theorem Dp.mono {K : PySem.W.Frag} {S H : Hp} (e : Same S H) : (∀ {v : V} {d : PyData}, Dp K S v d → Dp K H v d) := fun {v d} h =>
  Dp.rec (motive_1 := fun v d _ => Dp K H v d) (motive_2 := fun vs ds _ => DpAll K H vs ds) .non .bl .int .str (fun h1 _ ih => .lst (Same.seq e h1) ih) (fun h1 _ ih => .tup (Same.tup e h1) ih) .nil (fun _ _ i1 i2 => .cons i1 i2) h
def gEq (neg : Bool) : D → D → Mem → QD → Prop := fun x y M Q => x.plain 60 = true ∧ y.plain 60 = true ∧ Q (.bl (if neg then !D.eqv x y else D.eqv x y)) M
theorem d2_eq : D2 X.K (rEqD X.K) (gEq false) := by
  intro S M H x y v u Q R sh m rx ry hg hR
  obtain ⟨h1, h2, q⟩ := hg
  exact ⟨x.py, y.py, Dp.mono sh (D.plain_dp x 60 v h1 rx), Dp.mono sh (D.plain_dp y 60 u h2 ry), D.shaped h1, D.shaped h2, hR _ _ (post_bl sh m q)⟩
theorem d2_ne : D2 X.K (rNeD X.K) (gEq true) := by
  intro S M H x y v u Q R sh m rx ry hg hR
  obtain ⟨h1, h2, q⟩ := hg
  exact ⟨x.py, y.py, Dp.mono sh (D.plain_dp x 60 v h1 rx), Dp.mono sh (D.plain_dp y 60 u h2 ry), D.shaped h1, D.shaped h2, hR _ _ (post_bl sh m q)⟩
theorem e_eq (hu : X.A.units + 64 < cLine) (h : E X PX a env M fun x M1 => E X PX b env M1 fun y M2 => x.plain 60 = true ∧ y.plain 60 = true ∧ Q (.bl (D.eqv x y)) M2) : E X PX (.Compare a [.Eq] [b] pos) env M Q := e_cmp (op_eqD hu) d2_eq h (nomark _)
theorem e_ne (hu : X.A.units + 64 < cLine) (h : E X PX a env M fun x M1 => E X PX b env M1 fun y M2 => x.plain 60 = true ∧ y.plain 60 = true ∧ Q (.bl (!D.eqv x y)) M2) : E X PX (.Compare a [.NotEq] [b] pos) env M Q := e_cmp (op_neD hu) d2_ne h (nomark _)
theorem d2_eqI : D2 X.K rEq (gI0 fun i j => .bl (decide (i = j))) := by
  intro S M H x y v u Q R sh m rx ry hg hR
  obtain ⟨i, j, rfl, rfl, q⟩ := hg
  rw [show v = V.int i from rx, show u = V.int j from ry]
  refine ⟨rfl, hR _ _ (post_same sh m (d := .bl (decide (i = j))) ?_ q)⟩
  show V.bl (decide (V.int i = V.int j)) = V.bl (decide (i = j))
  by_cases e : i = j
  · rw [e, decide_eq_true rfl, decide_eq_true rfl]
  · rw [decide_eq_false e, decide_eq_false fun z => e (V.int.inj z)]
theorem d2_neI : D2 X.K rNe (gI0 fun i j => .bl (decide (i ≠ j))) := by
  intro S M H x y v u Q R sh m rx ry hg hR
  obtain ⟨i, j, rfl, rfl, q⟩ := hg
  rw [show v = V.int i from rx, show u = V.int j from ry]
  refine ⟨rfl, hR _ _ (post_same sh m (d := .bl (decide (i ≠ j))) ?_ q)⟩
  show V.bl (!decide (V.int i = V.int j)) = V.bl (decide (i ≠ j))
  by_cases e : i = j
  · rw [e, decide_eq_true rfl, decide_eq_false (by simp)]; rfl
  · rw [decide_eq_true e, decide_eq_false fun z => e (V.int.inj z)]; rfl
theorem e_eqI (h : E X PX a env M fun x M1 => E X PX b env M1 fun y M2 => ∃ i j, x = .int i ∧ y = .int j ∧ Q (.bl (decide (i = j))) M2) : E X PX (.Compare a [.Eq] [b] pos) env M Q := e_cmp (g := gI0 fun i j => .bl (decide (i = j))) op_eq (by
  intro S M H x y v u Q R sh m rx ry hg hR
  obtain ⟨i, j, rfl, rfl, q⟩ := hg
  rw [show v = V.int i from rx, show u = V.int j from ry]
  refine ⟨rfl, hR _ _ (post_same sh m (d := .bl (decide (i = j))) ?_ q)⟩
  show V.bl (decide (V.int i = V.int j)) = V.bl (decide (i = j))
  by_cases e : i = j
  · rw [e, decide_eq_true rfl, decide_eq_true rfl]
  · rw [decide_eq_false e, decide_eq_false fun z => e (V.int.inj z)]) h (nomark _)
theorem e_neI (h : E X PX a env M fun x M1 => E X PX b env M1 fun y M2 => ∃ i j, x = .int i ∧ y = .int j ∧ Q (.bl (decide (i ≠ j))) M2) : E X PX (.Compare a [.NotEq] [b] pos) env M Q := e_cmp (g := gI0 fun i j => .bl (decide (i ≠ j))) op_ne (by
  intro S M H x y v u Q R sh m rx ry hg hR
  obtain ⟨i, j, rfl, rfl, q⟩ := hg
  rw [show v = V.int i from rx, show u = V.int j from ry]
  refine ⟨rfl, hR _ _ (post_same sh m (d := .bl (decide (i ≠ j))) ?_ q)⟩
  show V.bl (!decide (V.int i = V.int j)) = V.bl (decide (i ≠ j))
  by_cases e : i = j
  · rw [e, decide_eq_true rfl, decide_eq_false (by simp)]; rfl
  · rw [decide_eq_true e, decide_eq_false fun z => e (V.int.inj z)]; rfl) h (nomark _)
def D.isNon : D → Bool
  | .non => true
  | _ => false
theorem isNon_v {K : PySem.W.Frag} {S : Hp} : ∀ {d : D} {v : V}, Rep K S d v → decide (v = V.non) = d.isNon
  | .non, v, r => by rw [show v = V.non from r]; rfl
  | .bl b, v, r => by rw [show v = V.bl b from r]; rfl
  | .int i, v, r => by rw [show v = V.int i from r]; rfl
  | .str x, v, r => by rw [show v = V.str x from r]; rfl
  | .byt x, v, r => by rw [show v = V.byt x from r]; rfl
  | .ty x, v, r => by rw [show v = V.ty x from r]; rfl
  | .ref x, v, r => by rw [show v = V.ref x from r]; rfl
  | .tup ds, v, r => by obtain ⟨_, _, rfl, _⟩ := r; rfl
  | .lst ds, v, r => by obtain ⟨_, _, rfl, _⟩ := r; rfl
  | .rol ds, v, r => by obtain ⟨_, _, rfl, _⟩ := r; rfl
theorem e_isN {j : Nat} {p' : Pos} (h : E X PX a env M fun x M1 => Q (.bl x.isNon) M1) : E X PX (.Compare a [.Is] [.Constant .none j p'] pos) env M Q :=
  ⟨fun S σ H ok wi => semE_of (pe_cmpR op_isN pe_sem pe_non (nomark _)) (h.bind ok wi fun S1 x M1 v H1 p1 ok1 wi1 rx q => ⟨rfl, by rw [isNon_v rx]; exact (post_bl ok1.sh ok1.mem q).trans p1⟩)⟩
theorem e_notN {j : Nat} {p' : Pos} (h : E X PX a env M fun x M1 => Q (.bl (!x.isNon)) M1) : E X PX (.Compare a [.IsNot] [.Constant .none j p'] pos) env M Q :=
  ⟨fun S σ H ok wi => semE_of (pe_cmpR op_notN pe_sem pe_non (nomark _)) (h.bind ok wi fun S1 x M1 v H1 p1 ok1 wi1 rx q => ⟨rfl, by rw [isNon_v rx]; exact (post_bl ok1.sh ok1.mem q).trans p1⟩)⟩

/-! ### and, or, not, if as values and tests -/
theorem t_val {Q : Bool → Mem → Prop} (h : E X PX e env M fun x M1 => ∃ c, x = .bl c ∧ Q c M1) (he : ∀ whole, isTrue e X.env whole = (do let v ← whole; standAt e.pos; holding [v] (truthy v)) := by intro _; rfl) : T X PX e env M Q :=
  ⟨fun S σ H ok wi => semT_of (pt_val pe_sem he) (h.bind ok wi fun S1 x M1 v H1 p1 ok1 wi1 rx ⟨c, e1, q⟩ => by subst e1; exact ⟨c, rx, S1, M1, p1, q⟩)⟩
theorem t_cmp {op : CmpOp} {r : R2} {g : D → D → Mem → QD → Prop} {Q : Bool → Mem → Prop} (ho : OpR X (compareOp op) r) (hr : D2 X.K r g) (h : E X PX a env M fun x M1 => E X PX b env M1 fun y M2 => g x y M2 fun d M3 => ∃ k, d = .bl k ∧ Q k M3) (hm : behindInMarks op b = false) : T X PX (.Compare a [op] [b] pos) env M Q :=
  ⟨fun S σ H ok wi => semT_of (pt_cmpR ho pe_sem pe_sem hm) (h.bind ok wi fun S1 x M1 v H1 p1 ok1 wi1 rx hb => hb.bind ok1 wi1 fun S2 y M2 u H2 p2 ok2 wi2 ry hg =>
    hr S2 M2 H2 x y v u _ _ ok2.sh ok2.mem (Rep.mono p2.ss _ _ rx) ry hg fun z H' ⟨S', d, M', p', rd, k, e1, q⟩ => by subst e1; exact ⟨k, rd, S', M', (p1.trans p2).trans p', q⟩)⟩
section
variable {Q : Bool → Mem → Prop}
theorem t_lt (h : E X PX a env M fun x M1 => E X PX b env M1 fun y M2 => ∃ i j, x = .int i ∧ y = .int j ∧ Q (decide (i < j)) M2) : T X PX (.Compare a [.Lt] [b] pos) env M Q := t_cmp op_lt d2_bool0 (h.imp fun x M1 hb => hb.imp fun y M2 ⟨i, j, e1, e2, q⟩ => ⟨i, j, e1, e2, _, rfl, q⟩) (nomark _)
theorem t_le (h : E X PX a env M fun x M1 => E X PX b env M1 fun y M2 => ∃ i j, x = .int i ∧ y = .int j ∧ Q (decide (i ≤ j)) M2) : T X PX (.Compare a [.LtE] [b] pos) env M Q := t_cmp op_le d2_bool0 (h.imp fun x M1 hb => hb.imp fun y M2 ⟨i, j, e1, e2, q⟩ => ⟨i, j, e1, e2, _, rfl, q⟩) (nomark _)
theorem t_gt (h : E X PX a env M fun x M1 => E X PX b env M1 fun y M2 => ∃ i j, x = .int i ∧ y = .int j ∧ Q (decide (j < i)) M2) : T X PX (.Compare a [.Gt] [b] pos) env M Q := t_cmp op_gt d2_bool0 (h.imp fun x M1 hb => hb.imp fun y M2 ⟨i, j, e1, e2, q⟩ => ⟨i, j, e1, e2, _, rfl, q⟩) (nomark _)
theorem t_ge (h : E X PX a env M fun x M1 => E X PX b env M1 fun y M2 => ∃ i j, x = .int i ∧ y = .int j ∧ Q (decide (j ≤ i)) M2) : T X PX (.Compare a [.GtE] [b] pos) env M Q := t_cmp op_ge d2_bool0 (h.imp fun x M1 hb => hb.imp fun y M2 ⟨i, j, e1, e2, q⟩ => ⟨i, j, e1, e2, _, rfl, q⟩) (nomark _)
theorem t_eqI (h : E X PX a env M fun x M1 => E X PX b env M1 fun y M2 => ∃ i j, x = .int i ∧ y = .int j ∧ Q (decide (i = j)) M2) : T X PX (.Compare a [.Eq] [b] pos) env M Q := t_cmp op_eq d2_eqI (h.imp fun x M1 hb => hb.imp fun y M2 ⟨i, j, e1, e2, q⟩ => ⟨i, j, e1, e2, _, rfl, q⟩) (nomark _)
theorem t_neI (h : E X PX a env M fun x M1 => E X PX b env M1 fun y M2 => ∃ i j, x = .int i ∧ y = .int j ∧ Q (decide (i ≠ j)) M2) : T X PX (.Compare a [.NotEq] [b] pos) env M Q := t_cmp op_ne d2_neI (h.imp fun x M1 hb => hb.imp fun y M2 ⟨i, j, e1, e2, q⟩ => ⟨i, j, e1, e2, _, rfl, q⟩) (nomark _)
theorem t_eq (hu : X.A.units + 64 < cLine) (h : E X PX a env M fun x M1 => E X PX b env M1 fun y M2 => x.plain 60 = true ∧ y.plain 60 = true ∧ Q (D.eqv x y) M2) : T X PX (.Compare a [.Eq] [b] pos) env M Q := t_cmp (op_eqD hu) d2_eq (h.imp fun x M1 hb => hb.imp fun y M2 ⟨h1, h2, q⟩ => ⟨h1, h2, _, rfl, q⟩) (nomark _)
theorem t_ne (hu : X.A.units + 64 < cLine) (h : E X PX a env M fun x M1 => E X PX b env M1 fun y M2 => x.plain 60 = true ∧ y.plain 60 = true ∧ Q (!D.eqv x y) M2) : T X PX (.Compare a [.NotEq] [b] pos) env M Q := t_cmp (op_neD hu) d2_ne (h.imp fun x M1 hb => hb.imp fun y M2 ⟨h1, h2, q⟩ => ⟨h1, h2, _, rfl, q⟩) (nomark _)
theorem t_isN {j : Nat} {p' : Pos} (h : E X PX a env M fun x M1 => Q x.isNon M1) : T X PX (.Compare a [.Is] [.Constant .none j p'] pos) env M Q :=
  ⟨fun S σ H ok wi => semT_of (pt_cmpR op_isN pe_sem pe_non (nomark _)) (h.bind ok wi fun S1 x M1 v H1 p1 ok1 wi1 rx q => ⟨rfl, x.isNon, by rw [isNon_v rx], S1, M1, p1, q⟩)⟩
theorem t_notN {j : Nat} {p' : Pos} (h : E X PX a env M fun x M1 => Q (!x.isNon) M1) : T X PX (.Compare a [.IsNot] [.Constant .none j p'] pos) env M Q :=
  ⟨fun S σ H ok wi => semT_of (pt_cmpR op_notN pe_sem pe_non (nomark _)) (h.bind ok wi fun S1 x M1 v H1 p1 ok1 wi1 rx q => ⟨rfl, !x.isNon, by rw [isNon_v rx], S1, M1, p1, q⟩)⟩
theorem t_chain {op op' : CmpOp} {f f' : Int → Int → Bool} (ho : OpR X (compareOp op) (rI0 fun i j => .bl (f i j))) (ho' : OpR X (compareOp op') (rI0 fun i j => .bl (f' i j)))
    (h : E X PX a env M fun x M1 => E X PX b env M1 fun y M2 => ∃ i j, x = .int i ∧ y = .int j ∧ (f i j = true → E X PX c env M2 fun z M3 => ∃ k, z = .int k ∧ Q (f' j k) M3) ∧ (f i j = false → Q false M2))
    (hm : lastMarks [op, op'] [b, c] = false := by with_unfolding_all rfl) : T X PX (.Compare a [op, op'] [b, c] pos) env M Q :=
  ⟨fun S σ H ok wi => semT_of (pt_chain ho ho' pe_sem pe_sem pe_sem hm) (h.bind ok wi fun S1 x M1 v H1 p1 ok1 wi1 rx hb => hb.bind ok1 wi1 fun S2 y M2 u H2 p2 ok2 wi2 ry hg => by
    obtain ⟨i, j, rfl, rfl, hy, hn⟩ := hg
    refine ⟨i, j, rx, ry, f i j, rfl, ?_⟩
    cases hf : f i j with
    | true =>
      rw [if_pos rfl]
      exact (hy hf).bind ok2 wi2 fun S3 z M3 w H3 p3 ok3 wi3 rz ⟨k, ez, q⟩ => by
        subst ez
        exact ⟨j, k, ry, rz, f' j k, rfl, S3, M3, (p1.trans p2).trans p3, q⟩
    | false =>
      rw [if_neg Bool.false_ne_true]
      exact ⟨false, rfl, S2, M2, p1.trans p2, hn hf⟩)⟩
theorem t_leLe (h : E X PX a env M fun x M1 => E X PX b env M1 fun y M2 => ∃ i j, x = .int i ∧ y = .int j ∧ (decide (i ≤ j) = true → E X PX c env M2 fun z M3 => ∃ k, z = .int k ∧ Q (decide (j ≤ k)) M3) ∧ (decide (i ≤ j) = false → Q false M2)) (hm : lastMarks [.LtE, .LtE] [b, c] = false := by with_unfolding_all rfl) :
    T X PX (.Compare a [.LtE, .LtE] [b, c] pos) env M Q := t_chain op_le op_le h hm
theorem t_leLt (h : E X PX a env M fun x M1 => E X PX b env M1 fun y M2 => ∃ i j, x = .int i ∧ y = .int j ∧ (decide (i ≤ j) = true → E X PX c env M2 fun z M3 => ∃ k, z = .int k ∧ Q (decide (j < k)) M3) ∧ (decide (i ≤ j) = false → Q false M2)) (hm : lastMarks [.LtE, .Lt] [b, c] = false := by with_unfolding_all rfl) :
    T X PX (.Compare a [.LtE, .Lt] [b, c] pos) env M Q := t_chain op_le op_lt h hm
end
theorem t_not {Q : Bool → Mem → Prop} (h : T X PX a env M fun c M1 => Q (!c) M1) : T X PX (.UnaryOp .Not a pos) env M Q :=
  ⟨fun S σ H ok wi => semT_of (pt_not pt_sem) (h.bind ok wi fun S1 c M1 H1 p1 ok1 wi1 q => ⟨S1, M1, p1, q⟩)⟩
structure W (X : Cx) (PX : PXT) (e : Expr) (env : Vars) (M : Mem) (Q : Bool → Mem → Prop) : Prop where
  run : ∀ S σ H, Ok X S env M σ H → Wish X PX S M H → ∀ (whole : Sem Value) (pins : List (Addr × Obj)) (s : Shared), Inv X pins σ H s → wpAny (model X.prog X.w) X.A (isTrue e X.env whole) (TP X pins σ fun b H' => ∃ S' M', Pst X.K S M H S' M' H' ∧ Q b M') X.xe s
def semW (X : Cx) (e : Expr) : TT := fun σ H Q => ∀ (whole : Sem Value) (pins : List (Addr × Obj)) (s : Shared), Inv X pins σ H s → wpAny (model X.prog X.w) X.A (isTrue e X.env whole) (TP X pins σ Q) X.xe s
theorem pw_sem : PW X e (semW X e) := ⟨fun wh pins s σ H Q I h => h wh pins s I⟩
theorem semW_mono {σ : St} {H : Hp} {Q Q' : Bool → Hp → Prop} (h : semW X e σ H Q) (k : ∀ v H', Q v H' → Q' v H') : semW X e σ H Q' := fun wh pins s I => thn (h wh pins s I) fun _ _ ⟨H', I', q⟩ => ⟨H', I', k _ _ q⟩
theorem w_and1 {Q : Bool → Mem → Prop} (h : T X PX a env M Q) : W X PX (.BoolOp .And [a] pos) env M Q :=
  ⟨fun S σ H ok wi wh pins s I => (pw_and1 pt_sem).run wh pins s σ H _ I (h.run S σ H ok wi)⟩
theorem w_or1 {Q : Bool → Mem → Prop} (h : T X PX a env M Q) : W X PX (.BoolOp .Or [a] pos) env M Q :=
  ⟨fun S σ H ok wi wh pins s I => (pw_or1 pt_sem).run wh pins s σ H _ I (h.run S σ H ok wi)⟩
theorem w_and {rest : List Expr} {Q : Bool → Mem → Prop} (h : T X PX a env M fun c M1 => (c = true → W X PX (.BoolOp .And (b :: rest) pos) env M1 Q) ∧ (c = false → Q false M1)) : W X PX (.BoolOp .And (a :: b :: rest) pos) env M Q :=
  ⟨fun S σ H ok wi wh pins s I => (pw_and pt_sem pw_sem).run wh pins s σ H _ I (h.bind ok wi fun S1 c M1 H1 p1 ok1 wi1 ⟨q1, q2⟩ => by
    cases c with
    | true =>
      rw [if_pos rfl]
      exact semW_mono ((q1 rfl).run S1 σ H1 ok1 wi1) fun b H' ⟨S', M', p, q⟩ => ⟨S', M', p1.trans p, q⟩
    | false =>
      rw [if_neg Bool.false_ne_true]
      exact ⟨S1, M1, p1, q2 rfl⟩)⟩
theorem w_or {rest : List Expr} {Q : Bool → Mem → Prop} (h : T X PX a env M fun c M1 => (c = false → W X PX (.BoolOp .Or (b :: rest) pos) env M1 Q) ∧ (c = true → Q true M1)) : W X PX (.BoolOp .Or (a :: b :: rest) pos) env M Q :=
  ⟨fun S σ H ok wi wh pins s I => (pw_or pt_sem pw_sem).run wh pins s σ H _ I (h.bind ok wi fun S1 c M1 H1 p1 ok1 wi1 ⟨q1, q2⟩ => by
    cases c with
    | false =>
      rw [if_neg Bool.false_ne_true]
      exact semW_mono ((q1 rfl).run S1 σ H1 ok1 wi1) fun b H' ⟨S', M', p, q⟩ => ⟨S', M', p1.trans p, q⟩
    | true =>
      rw [if_pos rfl]
      exact ⟨S1, M1, p1, q2 rfl⟩)⟩
theorem t_w {Q : Bool → Mem → Prop} (h : W X PX e env M Q) : T X PX e env M Q := ⟨fun S σ H ok wi pins s I => h.run S σ H ok wi _ pins s I⟩
theorem e_one {op : BoolOp} (h : E X PX a env M Q) : E X PX (.BoolOp op [a] pos) env M Q := ⟨fun S σ H ok wi => semE_of (pe_one pe_sem) (h.run S σ H ok wi)⟩
theorem e_and {rest : List Expr} (h : E X PX a env M fun x M1 => ∃ c, x = .bl c ∧ (c = true → E X PX (.BoolOp .And (b :: rest) pos) env M1 Q) ∧ (c = false → Q (.bl false) M1)) : E X PX (.BoolOp .And (a :: b :: rest) pos) env M Q :=
  ⟨fun S σ H ok wi => semE_of (pe_and pe_sem pe_sem) (h.bind ok wi fun S1 x M1 v H1 p1 ok1 wi1 rx ⟨c, e1, q1, q2⟩ => by
    subst e1
    refine ⟨c, rx, ?_⟩
    cases c with
    | true => rw [if_pos rfl]; exact (q1 rfl).from p1 ok1 wi1
    | false => rw [if_neg Bool.false_ne_true]; exact (post_bl ok1.sh ok1.mem (q2 rfl)).trans p1)⟩
theorem e_or {rest : List Expr} (h : E X PX a env M fun x M1 => ∃ c, x = .bl c ∧ (c = false → E X PX (.BoolOp .Or (b :: rest) pos) env M1 Q) ∧ (c = true → Q (.bl true) M1)) : E X PX (.BoolOp .Or (a :: b :: rest) pos) env M Q :=
  ⟨fun S σ H ok wi => semE_of (pe_or pe_sem pe_sem) (h.bind ok wi fun S1 x M1 v H1 p1 ok1 wi1 rx ⟨c, e1, q1, q2⟩ => by
    subst e1
    refine ⟨c, rx, ?_⟩
    cases c with
    | false => rw [if_neg Bool.false_ne_true]; exact (q1 rfl).from p1 ok1 wi1
    | true => rw [if_pos rfl]; exact (post_bl ok1.sh ok1.mem (q2 rfl)).trans p1)⟩
theorem e_not (h : E X PX a env M fun x M1 => ∃ c, x = .bl c ∧ Q (.bl (!c)) M1) : E X PX (.UnaryOp .Not a pos) env M Q :=
  ⟨fun S σ H ok wi => semE_of (pe_not pe_sem) (h.bind ok wi fun S1 x M1 v H1 p1 ok1 wi1 rx ⟨c, e1, q⟩ => by subst e1; exact ⟨c, rx, (post_bl ok1.sh ok1.mem q).trans p1⟩)⟩
theorem e_if (h : T X PX c env M fun t M1 => (t = true → E X PX a env M1 Q) ∧ (t = false → E X PX b env M1 Q)) : E X PX (.IfExp c a b pos) env M Q :=
  ⟨fun S σ H ok wi => semE_of (pe_ifExp pt_sem pe_sem pe_sem) (h.bind ok wi fun S1 t M1 H1 p1 ok1 wi1 ⟨q1, q2⟩ => by
    cases t with
    | true => rw [if_pos rfl]; exact (q1 rfl).from p1 ok1 wi1
    | false => rw [if_neg Bool.false_ne_true]; exact (q2 rfl).from p1 ok1 wi1)⟩

/-! ### argument lists, displays -/
theorem a_nil {Q : List D → Mem → Prop} (q : Q [] M) : A X PX [] env M Q := ⟨fun S σ H ok wi => semA_of pa_nil ⟨S, [], M, ok.refl, rfl, q⟩⟩
theorem a_cons {Q : List D → Mem → Prop} (h : E X PX e env M fun x M1 => A X PX es env M1 fun xs M2 => Q (x :: xs) M2) (hs : starEach (e :: es) X.env = (false, eval e X.env) :: starEach es X.env := by rfl) : A X PX (e :: es) env M Q :=
  ⟨fun S σ H ok wi => semA_of (pa_cons pe_sem pa_sem hs) (h.bind ok wi fun S1 x M1 v H1 p1 ok1 wi1 rx hr => hr.bind ok1 wi1 fun S2 xs M2 vs H2 p2 ok2 wi2 rxs q => ⟨S2, x :: xs, M2, p1.trans p2, ⟨v, vs, rfl, Rep.mono p2.ss _ _ rx, rxs⟩, q⟩)⟩
theorem e_tup {k : Nat} (h : A X PX es env M fun ds M1 => ds.length ≤ 1000 ∧ Q (.tup ds) M1) : E X PX (.Tuple es k pos) env M Q :=
  ⟨fun S σ H ok wi => semE_of (pe_tup pa_sem) (h.bind ok wi fun S1 ds M1 vs H1 p1 ok1 wi1 r ⟨hl, q⟩ => ⟨by rw [r.len]; exact Nat.le_trans hl (by decide), fun p hp => (post_tup ok1.sh ok1.mem hp r q).trans p1⟩)⟩
theorem e_lst (h : A X PX es env M fun ds M1 => ds.length ≤ 1000 ∧ Q (.lst ds) M1) : E X PX (.List es pos) env M Q :=
  ⟨fun S σ H ok wi => semE_of (pe_lst pa_sem) (h.bind ok wi fun S1 ds M1 vs H1 p1 ok1 wi1 r ⟨hl, q⟩ => ⟨by rw [r.len]; exact Nat.le_trans hl (by decide), fun p hp => (post_lst ok1.sh ok1.mem hp r q).trans p1⟩)⟩
/-- .. a list that will be changed -/
theorem e_lstM (h : A X PX es env M fun ds M1 => ds.length ≤ 1000 ∧ ∀ p, M1 p = none → Q (.ref p) (updM M1 p (.lst ds))) : E X PX (.List es pos) env M Q :=
  ⟨fun S σ H ok wi => semE_of (pe_lst pa_sem) (h.bind ok wi fun S1 ds M1 vs H1 p1 ok1 wi1 r ⟨hl, q⟩ => ⟨by rw [r.len]; exact Nat.le_trans hl (by decide), fun p hp => (post_cell ok1.sh ok1.mem hp r (q p (ok1.mem.free hp))).trans p1⟩)⟩
/-- a list in a cell is frozen behind an expression -/
theorem E.freeze (h : E X PX e env M fun x M1 => Q x M1 ∨ ∃ a ds, x = .ref a ∧ M1 a = some (.lst ds) ∧ Q (.lst ds) (delM M1 a)) : E X PX e env M Q :=
  ⟨fun S σ H ok wi => h.bind ok wi fun S1 x M1 v H1 p1 ok1 wi1 rx q => by
    rcases q with q | ⟨a, ds, rfl, hm, q⟩
    · exact (post_same ok1.sh ok1.mem rx q).trans p1
    · obtain ⟨xs, hx, pf, rf⟩ := Pst.freeze ok1.sh ok1.mem hm
      rw [show v = V.ref a from rx]
      exact ⟨_, _, _, p1.trans pf, rf, q⟩⟩
/-- a list in a cell is frozen behind an expression, also where the expression's value lies elsewhere -/
theorem E.thaw0 {a0 : Addr} {ds : List D} (hm : M a0 = some (.lst ds)) (h : E X PX e env (delM M a0) Q) : E X PX e env M Q :=
  ⟨fun S σ H ok wi => by
    obtain ⟨xs, hx, pf, rf⟩ := Pst.freeze ok.sh ok.mem hm
    exact h.from pf (ok.step pf) (wi.step pf)⟩

/-! ### subscripts -/
theorem e_ix {r : R2} {g : D → D → Mem → QD → Prop} (hr : IxR X r) (hd : D2 X.K r g) (h : E X PX a env M fun x M1 => E X PX b env M1 fun y M2 => g x y M2 Q) (hs : PlainIx b := by exact fun _ _ => rfl) : E X PX (.Subscript a b pos) env M Q :=
  ⟨fun S σ H ok wi => semE_of (pe_ix hr pe_sem pe_sem hs) (h.bind ok wi fun S1 x M1 v H1 p1 ok1 wi1 rx hb => hb.bind ok1 wi1 fun S2 y M2 u H2 p2 ok2 wi2 ry hg =>
    hd S2 M2 H2 x y v u Q _ ok2.sh ok2.mem (Rep.mono p2.ss _ _ rx) ry hg fun z H' q => (q.trans p2).trans p1)⟩
theorem atI_reps {K : PySem.W.Frag} {S : Hp} {ds : List D} {xs : List V} (r : Reps K S ds xs) {i : Int} {d : D} (h : atI ds i = some d) : ∃ v, atI xs i = some v ∧ Rep K S d v := by
  unfold atI at h ⊢
  rw [r.len]
  cases e : ixN ds.length i with
  | none => rw [e] at h; cases h
  | some j =>
    rw [e] at h
    exact r.get h
/-- t[i], xs[i] of frozen ones; xs[i] of a cell -/
def gIx : D → D → Mem → QD → Prop := fun x y M Q => ∃ i d, y = .int i ∧ Q d M ∧ ((∃ ds, x = .tup ds ∧ atI ds i = some d) ∨ (∃ ds, (x = .lst ds ∨ x = .rol ds) ∧ atI ds i = some d) ∨ ∃ a ds, x = .ref a ∧ M a = some (.lst ds) ∧ atI ds i = some d)
theorem d2_ix : D2 X.K (fun x y H Q => rIxT X.K x y H Q ∨ rIxL X.K x y H Q) gIx := by
  intro S M H x y v u Q R sh m rx ry hg hR
  obtain ⟨i, d, rfl, q, hx⟩ := hg
  rcases hx with ⟨ds, rfl, hd⟩ | ⟨ds, rfl | rfl, hd⟩ | ⟨a, ds, rfl, hm, hd⟩
  · obtain ⟨p, xs, rfl, hq, rs⟩ := rx
    obtain ⟨w, hw, rw'⟩ := atI_reps rs hd
    exact .inl ⟨p, xs, i, w, rfl, ry, Same.tup sh hq, hw, hR _ _ (post_same sh m rw' q)⟩
  · obtain ⟨p, xs, rfl, hq, rs⟩ := rx
    obtain ⟨w, hw, rw'⟩ := atI_reps rs hd
    exact .inr ⟨p, xs, i, w, rfl, ry, SqL.of (sh _ _ hq), hw, hR _ _ (post_same sh m rw' q)⟩
  · obtain ⟨p, xs, rfl, hq, rs⟩ := rx
    obtain ⟨w, hw, rw'⟩ := atI_reps rs hd
    exact .inr ⟨p, xs, i, w, rfl, ry, Same.seq sh hq, hw, hR _ _ (post_same sh m rw' q)⟩
  · obtain ⟨_, xs, hx, rs⟩ := m a _ hm
    obtain ⟨w, hw, rw'⟩ := atI_reps rs hd
    exact .inr ⟨a, xs, i, w, rx, ry, SqL.of hx, hw, hR _ _ (post_same sh m rw' q)⟩
theorem e_sub' (h : E X PX a env M fun x M1 => E X PX b env M1 fun y M2 => gIx x y M2 Q) (hs : PlainIx b := by exact fun _ _ => rfl) : E X PX (.Subscript a b pos) env M Q := e_ix (ix_tup.or ix_list) d2_ix h hs
theorem e_ixT (h : E X PX a env M fun x M1 => E X PX b env M1 fun y M2 => ∃ ds i d, x = .tup ds ∧ y = .int i ∧ atI ds i = some d ∧ Q d M2) (hs : PlainIx b := by exact fun _ _ => rfl) : E X PX (.Subscript a b pos) env M Q :=
  e_sub' (h.imp fun x M1 hb => hb.imp fun y M2 ⟨ds, i, d, e1, e2, h1, q⟩ => ⟨i, d, e2, q, .inl ⟨ds, e1, h1⟩⟩) hs
theorem e_ixL (h : E X PX a env M fun x M1 => E X PX b env M1 fun y M2 => ∃ ds i d, (x = .lst ds ∨ x = .rol ds) ∧ y = .int i ∧ atI ds i = some d ∧ Q d M2) (hs : PlainIx b := by exact fun _ _ => rfl) : E X PX (.Subscript a b pos) env M Q :=
  e_sub' (h.imp fun x M1 hb => hb.imp fun y M2 ⟨ds, i, d, e1, e2, h1, q⟩ => ⟨i, d, e2, q, .inr (.inl ⟨ds, e1, h1⟩)⟩) hs
theorem e_ixM (h : E X PX a env M fun x M1 => E X PX b env M1 fun y M2 => ∃ p ds i d, x = .ref p ∧ y = .int i ∧ M2 p = some (.lst ds) ∧ atI ds i = some d ∧ Q d M2) (hs : PlainIx b := by exact fun _ _ => rfl) : E X PX (.Subscript a b pos) env M Q :=
  e_sub' (h.imp fun x M1 hb => hb.imp fun y M2 ⟨p, ds, i, d, e1, e2, hm, h1, q⟩ => ⟨i, d, e2, q, .inr (.inr ⟨p, ds, e1, hm, h1⟩)⟩) hs
end
end DL

/-! DL3: targets, statements, loops, comprehensions, calls, defs -/
namespace DL
open PySem L2
section
variable {X : Cx} {PX : PXT} {e a b c tg it : Expr} {es : List Expr} {st : Stmt} {sts body els : List Stmt} {env : Vars} {M : Mem} {pos p : Pos} {x : Str} {P : Pk}
/-! ### targets -/
theorem g_name {d : D} {env' : Vars} {Q : Vars → Mem → Prop} (h : Put env x d env') (q : Q env' M) (hx : Loc X.env.scope x := by first | exact Or.inl rfl | exact Or.inr rfl) (hf : X.fn x = true ∨ X.env.scope.names.lookup x = some .local := by first | exact .inl rfl | exact .inr rfl) :
    G X PX (.Name x pos) d env M Q := ⟨fun S σ H v ok wi r => by
  obtain ⟨i, hN, ok'⟩ := ok.put h r
  exact semG_of (pg_name ok.nd hN hx hf) ⟨S, env', M, ok.refl, ok', q⟩⟩
theorem gs_nil {Q : Vars → Mem → Prop} (q : Q env M) : Gs X PX [] [] env M Q := ⟨fun S σ H vs ok wi r => semGs_of pgs_nil ⟨r, S, env, M, ok.refl, ok, q⟩⟩
theorem gs_cons {d : D} {ds : List D} {Q : Vars → Mem → Prop} (h : G X PX e d env M fun env1 M1 => Gs X PX es ds env1 M1 Q) (hs : (assignEach (e :: es) X.env).map (·.2) = assign e X.env :: (assignEach es X.env).map (·.2) := by rfl) : Gs X PX (e :: es) (d :: ds) env M Q :=
  ⟨fun S σ H vs ok wi r => by
    obtain ⟨v, vr, rfl, r1, r2⟩ := r
    refine semGs_of (pgs_cons pg_sem pgs_sem hs) ⟨v, vr, rfl, h.bind ok wi r1 fun S1 env1 M1 σ1 H1 p1 ok1 wi1 hg => ?_⟩
    exact semGs_mono (hg.run S1 σ1 H1 vr ok1 wi1 (Reps.mono p1.ss _ _ r2)) fun σ2 H2 ⟨S2, env2, M2, p2, ok2, q⟩ => ⟨S2, env2, M2, p1.trans p2, ok2, q⟩⟩
theorem g_tup {k n : Nat} {d : D} {Q : Vars → Mem → Prop} (h : ∃ ds, d = .tup ds ∧ ds.length = n ∧ Gs X PX es ds env M Q) (hc : X.calm = true := by rfl) (hn : (assignEach es X.env).length = n := by rfl) (hst : (assignEach es X.env).findIdx? (·.1) = none := by rfl) : G X PX (.Tuple es k pos) d env M Q :=
  ⟨fun S σ H v ok wi r => by
    obtain ⟨ds, rfl, hl, hg⟩ := h
    obtain ⟨a, xs, rfl, ht, rs⟩ := r
    exact semG_of (pg_tup hc pgs_sem hn hst) ⟨a, xs, rfl, Same.tup ok.sh ht, rs.len.trans hl, hg.run S σ H xs ok wi rs⟩⟩
theorem g_sub {d : D} {Q : Vars → Mem → Prop} (h : E X PX a env M fun o M1 => E X PX b env M1 fun i M2 => ∃ p ds k j, o = .ref p ∧ i = .int k ∧ M2 p = some (.lst ds) ∧ ixN ds.length k = some j ∧ Q env (updM M2 p (.lst (ds.set j d))))
    (ha : ∀ v, assign (.Subscript a b pos) X.env v = (do
      let ov ← holding [v] (eval a X.env)
      let iv ← holding [v, ov] (eval b X.env)
      standAt pos
      holding [v, ov, iv] (setItem ov iv v)
      release [v, ov, iv] []) := by intro _; rfl) : G X PX (.Subscript a b pos) d env M Q :=
  ⟨fun S σ H v ok wi r => semG_of (pg_sub pe_sem pe_sem set_list ha) (h.bind ok wi fun S1 o M1 ov H1 p1 ok1 wi1 ro hb => hb.bind ok1 wi1 fun S2 i M2 iv H2 p2 ok2 wi2 ri ⟨p, ds, k, j, eo, ei, hm, hj, q⟩ => by
    subst eo; subst ei
    obtain ⟨_, xs, hx, rs⟩ := ok2.mem p _ hm
    have rs' : Reps X.K S2 (ds.set j d) (xs.set j v) := rs.set (Rep.mono (p1.ss.trans p2.ss) _ _ r) j
    have pw := Pst.write (o := .lst (xs.set j v)) (c := .lst (ds.set j d)) ok2.sh ok2.mem (by rw [hm]; intro z; cases z) ⟨_, upd_same, rs'⟩
    exact ⟨p, xs, k, j, ro, ri, hx, by rw [rs.len]; exact hj, S2, env, _, (p1.trans p2).trans pw, ok2.step pw, q⟩)⟩

/-! ### statements -/
theorem Pk.eta {P : Pk} {N : Vars → Mem → Prop} {S H : Hp} {M : Mem} : ({ P with nx := N } : Pk).ends X S M H = { P.ends X S M H with nx := NPost X S M H N } := rfl
theorem ss_nil (q : P.nx env M) : SS X PX [] env M P := ⟨fun S σ H ok wi => semSS_of pss_nil ⟨S, env, M, ok.refl, ok, q⟩⟩
theorem ss_cons (h : S X PX st env M { P with nx := fun env' M' => SS X PX sts env' M' P }) : SS X PX (st :: sts) env M P :=
  ⟨fun S σ H ok wi => semSS_of (pss_cons ps_sem pss_sem) (by
    show semS X st { P.ends X S M H with nx := semSS X sts (P.ends X S M H) } σ H
    exact semS_mono (h.run S σ H ok wi) (fun σ1 H1 ⟨S1, env1, M1, p1, ok1, hs⟩ => hs.from p1 ok1 (wi.step p1)) (fun _ _ q => q) (fun _ _ q => q) (fun _ _ q => q))⟩
theorem s_asg (h : E X PX e env M fun d M1 => G X PX tg d env M1 P.nx) (hs : swapsWithSole [tg] e pos.line X.env = pure false := by rfl) (hw : swappedStores [tg] e X.env = pure none := by rfl) (h1 : (assignEach [tg] X.env).map (·.2) = [assign tg X.env] := by rfl) : S X PX (.Assign [tg] e pos) env M P :=
  ⟨fun S σ H ok wi => semS_of (ps_asg pe_sem pg_sem hs hw h1) (h.bind ok wi fun S1 d M1 v H1 p1 ok1 wi1 r hg => hg.bind ok1 wi1 r fun S2 env2 M2 σ2 H2 p2 ok2 wi2 q => ⟨S2, env2, M2, p1.trans p2, ok2, q⟩)⟩
theorem s_expr (h : E X PX e env M fun _ M1 => P.nx env M1) (hs : swapsWith e none pos.line X.env = pure false := by rfl) : S X PX (.Expr e pos) env M P :=
  ⟨fun S σ H ok wi => semS_of (ps_expr pe_sem hs) (h.bind ok wi fun S1 d M1 v H1 p1 ok1 wi1 r q => ⟨S1, env, M1, p1, ok1, q⟩)⟩
theorem s_ret (h : E X PX e env M fun d M1 => P.rt d M1) : S X PX (.Return (some e) pos) env M P := ⟨fun S σ H ok wi => semS_of (ps_ret pe_sem) (h.run S σ H ok wi)⟩
theorem s_retN (q : P.rt .non M) : S X PX (.Return none pos) env M P := ⟨fun S σ H ok wi => semS_of ps_retN (post_non ok.sh ok.mem q)⟩
theorem s_pass (q : P.nx env M) : S X PX (.Pass pos) env M P := ⟨fun S σ H ok wi => semS_of ps_pass ⟨S, env, M, ok.refl, ok, q⟩⟩
theorem s_break (q : P.bk env M) : S X PX (.Break pos) env M P := ⟨fun S σ H ok wi => semS_of ps_break ⟨S, env, M, ok.refl, ok, q⟩⟩
theorem s_cont (q : P.ct env M) : S X PX (.Continue pos) env M P := ⟨fun S σ H ok wi => semS_of ps_continue ⟨S, env, M, ok.refl, ok, q⟩⟩
theorem s_if (h : T X PX c env M fun t M1 => (t = true → SS X PX body env M1 P) ∧ (t = false → SS X PX els env M1 P)) : S X PX (.If c body els pos) env M P :=
  ⟨fun S σ H ok wi => semS_of (ps_if pt_sem pss_sem pss_sem) (h.bind ok wi fun S1 t M1 H1 p1 ok1 wi1 ⟨q1, q2⟩ => by
    cases t with
    | true => rw [if_pos rfl]; exact (q1 rfl).from p1 ok1 wi1
    | false => rw [if_neg Bool.false_ne_true]; exact (q2 rfl).from p1 ok1 wi1)⟩
/-- x op= e, by data -/
theorem s_aug {op : Operator} {ti : TIp} {g : D → D → Mem → QD → Prop} {d : D} (ho : PIp X op ti) (hd : D2 X.K ti g) (ha : At env x d) (h : E X PX e env M fun y M1 => g d y M1 fun z M2 => ∃ env', Put env x z env' ∧ P.nx env' M2)
    (hx : Loc X.env.scope x := by first | exact Or.inl rfl | exact Or.inr rfl) (hf : X.fn x = true ∨ X.env.scope.names.lookup x = some .local := by first | exact .inl rfl | exact .inr rfl) : S X PX (.AugAssign (.Name x p) op e pos) env M P :=
  ⟨fun S σ H ok wi => by
    obtain ⟨i, v, hN, hs, r⟩ := ok.at ha
    refine semS_of (ps_aug ok.nd hN hx pe_sem ho hf) ⟨v, hs, h.bind ok wi fun S1 y M1 u H1 p1 ok1 wi1 ry hg => ?_⟩
    refine hd S1 M1 H1 d y v u _ _ ok1.sh ok1.mem (Rep.mono p1.ss _ _ r) ry hg fun z H2 ⟨S2, dz, M2, p2, rz, env', hp, q⟩ => ?_
    obtain ⟨i2, hN2, ok'⟩ := (ok1.step p2).put hp rz
    have e1 : i = i2 := nodup_ix ok.nd hN hN2
    subst e1
    exact ⟨S2, env', M2, p1.trans p2, ok', q⟩⟩
theorem s_augAdd {i : Int} (ha : At env x (.int i)) (h : E X PX e env M fun y M1 => ∃ j, y = .int j ∧ ∃ env', Put env x (.int (i + j)) env' ∧ P.nx env' M1)
    (hx : Loc X.env.scope x := by first | exact Or.inl rfl | exact Or.inr rfl) (hf : X.fn x = true ∨ X.env.scope.names.lookup x = some .local := by first | exact .inl rfl | exact .inr rfl) : S X PX (.AugAssign (.Name x p) .Add e pos) env M P :=
  s_aug (ti := ipI fun i j => i + j) (g := gI0 fun i j => .int (i + j)) ip_add (by
    intro S M H x y v u Q R sh m rx ry hg hR
    obtain ⟨i, j, rfl, rfl, q⟩ := hg
    exact ⟨i, j, rx, ry, hR _ _ (post_int sh m q)⟩) ha (h.imp fun y M1 ⟨j, ej, q⟩ => ⟨i, j, rfl, ej, q⟩) hx hf
theorem Ok.ix {S H : Hp} {σ : St} (o : Ok X S env M σ H) {y : Str} {d : D} {env' : Vars} (h : Put env y d env') : ∃ i : Nat, X.N[i]? = some y := by
  obtain ⟨i, oo, e, _⟩ := h.ix
  refine ⟨i, ?_⟩
  rw [← o.nm, List.getElem?_map, e]
  rfl
/-- a, b = e1, e2 of local names -/
theorem s_par {y : Str} {px py pt : Pos} {kt k2 : Nat} {pt2 : Pos} {ex ey : Vars} (h0x : Put env x .non ex) (h0y : Put env y .non ey) (hne : ¬ x = y) (h : A X PX [a, b] env M fun ds M1 => ∃ d1 d2 env1 env2, ds = [d1, d2] ∧ Put env x d1 env1 ∧ Put env1 y d2 env2 ∧ P.nx env2 M1)
    (hx : X.env.scope.names.lookup x = some .local := by rfl) (hy : X.env.scope.names.lookup y = some .local := by rfl) (hc : X.calm = true := by rfl)
    (hw : swappedStores [.Tuple [.Name x px, .Name y py] kt pt] (.Tuple [a, b] k2 pt2) X.env = pure (some [x, y]) := by rfl) (hs : swapsWithSole [.Tuple [.Name x px, .Name y py] kt pt] (.Tuple [a, b] k2 pt2) pos.line X.env = pure false := by rfl) :
    S X PX (.Assign [.Tuple [.Name x px, .Name y py] kt pt] (.Tuple [a, b] k2 pt2) pos) env M P :=
  ⟨fun S σ H ok wi => by
    obtain ⟨i, hi⟩ := ok.ix h0x
    obtain ⟨j, hj⟩ := ok.ix h0y
    have hij : i ≠ j := fun z => hne (by rw [z, hj] at hi; exact (Option.some.inj hi).symm)
    refine semS_of (ps_par hc ok.nd hi hj hij hx hy pa_sem hw hs) (h.bind ok wi fun S1 ds M1 vs H1 p1 ok1 wi1 rs ⟨d1, d2, env1, env2, e1, h1, h2, q⟩ => ?_)
    subst e1
    obtain ⟨v, r, rfl, r1, w, r', e2, r2, e3⟩ := rs
    have e3 : r' = [] := e3
    subst e3 e2
    obtain ⟨i1, hN1, o1⟩ := ok1.put h1 r1
    obtain ⟨j1, hN2, o2⟩ := o1.put h2 r2
    have q1 := nodup_ix ok.nd hi hN1
    have q2 := nodup_ix ok.nd hj hN2
    subst q1 q2
    exact ⟨v, w, rfl, S1, env2, M1, p1, o2, q⟩⟩

/-! ### loops -/
theorem s_for (h : I X PX tg it env M fun items M1 => ∃ J : Nat → Vars → Mem → Prop, J 0 env M1 ∧ (∀ (i : Nat) (hi : i < items.length) env' M', J i env' M' → G X PX tg items[i] env' M' fun env2 M2 => SS X PX body env2 M2 { P with nx := J (i + 1), ct := J (i + 1), bk := P.nx }) ∧ ∀ env' M', J items.length env' M' → P.nx env' M')
    (hc : X.calm = true := by rfl) (hs : ∀ x, foldedSetIterable it X.env x = pure x := by intro _; rfl) : S X PX (.For tg it body [] pos) env M P :=
  ⟨fun S σ H ok wi => semS_of (ps_for wi.own hc pi_sem pg_sem pss_sem hs) (h.bind ok wi fun S1 items M1 J H1 p1 ok1 wi1 dl ⟨Jv, j0, jt, jd⟩ => by
    refine ⟨fun i m σ' H' => m = items.length - i ∧ i ≤ items.length ∧ NPost X S1 M1 H1 (Jv i) σ' H', ⟨items.length, by simp, Nat.zero_le _, S1, env, M1, ok1.refl, ok1, j0⟩, ?_⟩
    rintro i m σ' H' ⟨rfl, hi, S', env', M', p', ok', q⟩
    by_cases hlt : i < items.length
    · refine .inr ⟨dl.go i H' hlt (p'.ss.trans p'.sh), NPost X S1 M1 H1 (Jv (i + 1)), fun σ2 H2 n2 => ⟨items.length - (i + 1), by omega, rfl, hlt, n2⟩, fun x H2 hy => ?_⟩
      obtain ⟨S2, py, ry⟩ := dl.yld i H' x H2 S' M' hlt p'.ss p'.sh p'.mem hy
      have ok2 := ok'.step py
      have p2 := p'.trans py
      refine (jt i hlt env' M' q).bind ok2 (wi1.step p2) ry fun S3 env3 M3 σ3 H3 p3 ok3 wi3 hss => ?_
      refine semSS_mono (hss.from (p2.trans p3) ok3 wi3) (fun _ _ z => z) (fun _ _ z => Post.trans p1 z) (fun _ _ z => NPost.trans p1 z) (fun _ _ z => z)
    · have e : i = items.length := by omega
      subst e
      exact .inl ⟨dl.stop _ H' rfl (p'.ss.trans p'.sh), S', env', M', p1.trans p', ok', jd env' M' q⟩)⟩
theorem s_while {J : Nat → Vars → Mem → Prop} (m0 : Nat) (j0 : J m0 env M) (h : ∀ m env' M', J m env' M' → T X PX c env' M' fun t M1 => (t = true → SS X PX body env' M1 { P with nx := fun env2 M2 => ∃ m', m' < m ∧ J m' env2 M2, ct := fun env2 M2 => ∃ m', m' < m ∧ J m' env2 M2, bk := P.nx }) ∧ (t = false → P.nx env' M1)) :
    S X PX (.While c body [] pos) env M P :=
  ⟨fun S σ H ok wi => semS_of (ps_while wi.own pt_sem pss_sem) (by
    refine ⟨fun m σ' H' => NPost X S M H (J m) σ' H', ⟨m0, S, env, M, ok.refl, ok, j0⟩, ?_⟩
    rintro m σ' H' ⟨S', env', M', p', ok', q⟩
    refine (h m env' M' q).bind ok' (wi.step p') fun S1 t M1 H1 p1 ok1 wi1 ⟨q1, q2⟩ => ?_
    cases t with
    | true =>
      rw [if_pos rfl]
      refine ⟨NPost X S M H fun env2 M2 => ∃ m', m' < m ∧ J m' env2 M2, fun σ2 H2 ⟨S2, env2, M2, p2, ok2, m', hm, j2⟩ => ⟨m', hm, S2, env2, M2, p2, ok2, j2⟩, ?_⟩
      exact (q1 rfl).from (p'.trans p1) ok1 wi1
    | false =>
      rw [if_neg Bool.false_ne_true]
      exact ⟨S1, env', M1, p'.trans p1, ok1, q2 rfl⟩)⟩

/-! ### what is walked -/
theorem deals_tup {K : PySem.W.Frag} {S : Hp} {a : Addr} {xs : List V} {ds : List D} (hq : SqT K S a xs) (r : Reps K S ds xs) : Deals K (Itt K a) S ds where
  go := fun i H hi sh => ⟨xs, xs[i]'(by rw [r.len]; exact hi), Same.tup sh hq, by simp [r.len, hi]⟩
  stop := fun i H hi sh => ⟨xs, Same.tup sh hq, by rw [r.len, hi]; exact Nat.le_refl _⟩
  yld := fun i H x H' S' M hi ss sh m hy => by
    obtain ⟨rfl, hx⟩ := hy
    obtain ⟨v, hv, rv⟩ := r.get (i := i) (d := ds[i]) (by simp [hi])
    have e := hx xs (Same.tup (ss.trans sh) hq)
    rw [hv] at e
    cases e
    exact ⟨S', Pst.refl sh m, Rep.mono ss _ _ rv⟩
theorem i_tup {Q' : List D → Mem → Prop} (h : E X PX it env M fun d M1 => ∃ ds, d = .tup ds ∧ Q' ds M1) : I X PX tg it env M Q' :=
  ⟨fun S σ H ok wi => semI_of (pi_tup pe_sem) (h.bind ok wi fun S1 d M1 v H1 p1 ok1 wi1 r ⟨ds, e, q⟩ => by
    subst e
    obtain ⟨a, xs, rfl, hq, rs⟩ := r
    exact ⟨a, rfl, ⟨xs, Same.tup ok1.sh hq⟩, S1, ds, M1, p1, deals_tup hq rs, q⟩)⟩
theorem deals_list {K : PySem.W.Frag} {S : Hp} {a : Addr} {xs : List V} {ds : List D} (hq : SqL K S a xs) (r : Reps K S ds xs) : Deals K (Itl K a) S ds where
  go := fun i H hi sh => ⟨xs, xs[i]'(by rw [r.len]; exact hi), Same.seq sh hq, by simp [r.len, hi]⟩
  stop := fun i H hi sh => ⟨xs, Same.seq sh hq, by rw [r.len, hi]; exact Nat.le_refl _⟩
  yld := fun i H x H' S' M hi ss sh m hy => by
    obtain ⟨rfl, hx⟩ := hy
    obtain ⟨v, hv, rv⟩ := r.get (i := i) (d := ds[i]) (by simp [hi])
    have e := hx xs (Same.seq (ss.trans sh) hq)
    rw [hv] at e
    cases e
    exact ⟨S', Pst.refl sh m, Rep.mono ss _ _ rv⟩
theorem i_list {Q' : List D → Mem → Prop} (h : E X PX it env M fun d M1 => ∃ ds, (d = .lst ds ∨ d = .rol ds) ∧ Q' ds M1) : I X PX tg it env M Q' :=
  ⟨fun S σ H ok wi => semI_of (pi_list pe_sem) (h.bind ok wi fun S1 d M1 v H1 p1 ok1 wi1 r ⟨ds, e, q⟩ => by
    have hh : ∃ a xs, v = .ref a ∧ SqL X.K S1 a xs ∧ Reps X.K S1 ds xs := by
      rcases e with e | e
      · subst e; obtain ⟨a, xs, rfl, hq, rs⟩ := r; exact ⟨a, xs, rfl, SqL.of hq, rs⟩
      · subst e; exact r
    obtain ⟨a, xs, rfl, hq, rs⟩ := hh
    exact ⟨a, rfl, ⟨xs, Same.seq ok1.sh hq⟩, S1, ds, M1, p1, deals_list hq rs, q⟩)⟩
/-- a list in a cell is frozen ahead of the walk -/
theorem i_listF {Q' : List D → Mem → Prop} (h : E X PX it env M fun d M1 => ∃ p ds, d = .ref p ∧ M1 p = some (.lst ds) ∧ Q' ds (delM M1 p)) : I X PX tg it env M Q' :=
  i_list (E.freeze (h.imp fun d M1 ⟨p, ds, e, hm, q⟩ => .inr ⟨p, ds, e, hm, ds, .inl rfl, q⟩))
/-- the ints of a range -/
def rngD (lo : Int) (n : Nat) (c : Int) : List D := (List.range n).map fun i => D.int (lo + (i : Nat) * c)
theorem rngD_len {lo : Int} {n : Nat} {c : Int} : (rngD lo n c).length = n := by simp [rngD]
theorem rngD_get {lo : Int} {n : Nat} {c : Int} {i : Nat} (h : i < (rngD lo n c).length) : (rngD lo n c)[i] = D.int (lo + (i : Nat) * c) := by simp [rngD]
theorem deals_range {K : PySem.W.Frag} {S : Hp} {lo : Int} {n : Nat} : Deals K (Itr lo n) S (rngD lo n 1) where
  go := fun i H hi sh => by rw [rngD_len] at hi; exact hi
  stop := fun i H hi sh => by rw [rngD_len] at hi; rw [hi]; exact Nat.le_refl _
  yld := fun i H x H' S' M hi ss sh m hy => by
    obtain ⟨rfl, hx⟩ := hy
    refine ⟨S', Pst.refl sh m, ?_⟩
    rw [rngD_get, hx, Int.mul_one]
    rfl
def small (i : Int) : Prop := -(2 ^ 62) ≤ i ∧ i < 2 ^ 62
theorem i_range1 {Q' : List D → Mem → Prop} (hm : X.mg "range" = none) (h : E X PX a env M fun d M1 => ∃ j, d = .int j ∧ small j ∧ Q' (rngD 0 j.toNat 1) M1) (hg : Gl X "range" := by rfl)
    (hs : starEach [a] X.env = (false, eval a X.env) :: starEach [] X.env := by rfl) (hs' : starEach [a] X.env = [(false, eval a X.env)] := by rfl) : I X PX tg (.Call (.Name "range" p) [a] [] pos) env M Q' :=
  ⟨fun S σ H ok wi => semI_of (pi_range1 hg hm (pa_cons pe_sem pa_nil hs) hs') (h.bind ok wi fun S1 d M1 v H1 p1 ok1 wi1 r ⟨j, e, hj, q⟩ => by
    subst e
    exact ⟨j, by rw [show v = V.int j from r], hj.1, hj.2, S1, _, M1, p1, deals_range, q⟩)⟩
theorem i_range2 {Q' : List D → Mem → Prop} (hm : X.mg "range" = none) (h : E X PX a env M fun d M1 => ∃ i, d = .int i ∧ small i ∧ E X PX b env M1 fun d2 M2 => ∃ j, d2 = .int j ∧ small j ∧ Q' (rngD i (j - i).toNat 1) M2) (hg : Gl X "range" := by rfl)
    (hs : starEach [a, b] X.env = (false, eval a X.env) :: starEach [b] X.env := by rfl) (hs2 : starEach [b] X.env = (false, eval b X.env) :: starEach [] X.env := by rfl) (hs' : starEach [a, b] X.env = [(false, eval a X.env), (false, eval b X.env)] := by rfl) (hs2' : starEach [b] X.env = [(false, eval b X.env)] := by rfl) :
    I X PX tg (.Call (.Name "range" p) [a, b] [] pos) env M Q' :=
  ⟨fun S σ H ok wi => semI_of (pi_range2 hg hm (pa_cons pe_sem (pa_cons pe_sem pa_nil hs2) hs) hs' hs2') (h.bind ok wi fun S1 d M1 v H1 p1 ok1 wi1 r ⟨i, e, hi, hb⟩ => hb.bind ok1 wi1 fun S2 d2 M2 u H2 p2 ok2 wi2 r2 ⟨j, e2, hj, q⟩ => by
    subst e e2
    exact ⟨i, j, by rw [show v = V.int i from r, show u = V.int j from r2], ⟨hi.1, hi.2, hj.1, hj.2⟩, S2, _, M2, p1.trans p2, deals_range, q⟩)⟩

/-! ### comprehensions -/
/-- forgets names -/
inductive Drop : Vars → Str → Vars → Prop
  | here {x : Str} {o : Option D} {r : Vars} : Drop ((x, o) :: r) x ((x, none) :: r)
  | there {q : Str × Option D} {x : Str} {r r' : Vars} : Drop r x r' → Drop (q :: r) x (q :: r')
inductive Drops : Vars → List Str → Vars → Prop
  | nil {env : Vars} : Drops env [] env
  | cons {env env1 env2 : Vars} {x : Str} {xs : List Str} : Drops env xs env1 → Drop env1 x env2 → Drops env (x :: xs) env2
theorem Drop.ix {env env' : Vars} {x : Str} (h : Drop env x env') : ∃ (i : Nat) (o : Option D), env[i]? = some (x, o) ∧ env' = env.set i (x, none) := by
  induction h with
  | here => exact ⟨0, _, rfl, rfl⟩
  | there _ ih => obtain ⟨i, o, h, e⟩ := ih; exact ⟨i + 1, o, by simpa using h, by rw [e]; rfl⟩
/-- a comprehension's block, by its own names -/
def blkX (X : Cx) (scope : Scope) (s : Shared) (H : Hp) (C : Addr) (cl : List (Str × Addr)) (fp : List Addr) : Cx := X.blk s H scope (compEnvC scope cl C X.env) fp
theorem Ok.drop {S H : Hp} {σ : St} {own : List (Str × Nat)} (o : Ok X S env M σ H) (hx : ∀ p ∈ own, X.N[p.2]? = some p.1) : ∀ {env' : Vars} , Drops env (own.map (·.1)) env' → Ok X S env' M (wipe σ (own.map (·.2))) H := by
  induction own with
  | nil => intro env' h; cases h; exact o
  | cons p own ih =>
    intro env' h
    cases h with
    | cons h1 h2 =>
      have o1 := ih (fun q hq => hx q (List.mem_cons_of_mem _ hq)) h1
      obtain ⟨i, oo, e, e'⟩ := h2.ix
      have hN : X.N[i]? = some p.1 := by rw [← o1.nm, List.getElem?_map, e]; rfl
      have hi : i = p.2 := nodup_ix o.nd hN (hx p List.mem_cons_self)
      subst hi
      show Ok X S env' M ((wipe σ (own.map (·.2))).set p.2 none) H
      refine ⟨o1.sh, o1.mem, ?_, fun j y d ej => ?_, by rw [List.length_set]; exact o1.len, o.nd⟩
      · rw [e', List.map_set, o1.nm]
        apply List.ext_getElem?
        intro j
        by_cases hj : j = p.2
        · subst hj
          rw [List.getElem?_set_self ((List.getElem?_eq_some_iff.mp hN).1), hN]
        · rw [List.getElem?_set_ne (Ne.symm hj)]
      · rw [e'] at ej
        by_cases hj : j = p.2
        · subst hj
          rw [List.getElem?_set_self (List.getElem?_eq_some_iff.mp e).1] at ej
          cases ej
        · rw [List.getElem?_set_ne (Ne.symm hj)] at ej
          rw [List.getElem?_set_ne (Ne.symm hj)]
          exact o1.sl j y d ej
/-- a target whose names are the block's own -/
structure Gw (X : Cx) (vs : List (Str × Nat)) (tg : Expr) (d : D) (env : Vars) (M : Mem) (Q : Vars → Mem → Prop) : Prop where
  run : ∀ S σ H v, Ok X S env M σ H → Rep X.K S d v → semG X tg v σ H fun σ' H' => wipe σ' (vs.map (·.2)) = wipe σ (vs.map (·.2)) ∧ ∃ S' env' M', Pst X.K S M H S' M' H' ∧ Ok X S' env' M' σ' H' ∧ Q env' M'
structure Gws (X : Cx) (vs : List (Str × Nat)) (ts : List Expr) (ds : List D) (env : Vars) (M : Mem) (Q : Vars → Mem → Prop) : Prop where
  run : ∀ S σ H us, Ok X S env M σ H → Reps X.K S ds us → semGs X ts us σ H fun σ' H' => wipe σ' (vs.map (·.2)) = wipe σ (vs.map (·.2)) ∧ ∃ S' env' M', Pst X.K S M H S' M' H' ∧ Ok X S' env' M' σ' H' ∧ Q env' M'
theorem wipe_get (σ : St) (j : Nat) : ∀ vs : List Nat, (wipe σ vs)[j]? = if j ∈ vs then σ[j]?.map (fun _ => none) else σ[j]?
  | [] => by rw [if_neg (by simp)]; rfl
  | w :: vs => by
    show ((wipe σ vs).set w none)[j]? = _
    by_cases hj : j = w
    · subst hj
      rw [if_pos List.mem_cons_self]
      by_cases hl : j < σ.length
      · rw [List.getElem?_set_self (by rw [wipe_length]; exact hl), List.getElem?_eq_getElem hl]; rfl
      · rw [List.getElem?_eq_none (by rw [List.length_set, wipe_length]; omega), List.getElem?_eq_none (by omega)]; rfl
    · rw [List.getElem?_set_ne (Ne.symm hj), wipe_get σ j vs]
      by_cases hv : j ∈ vs
      · rw [if_pos hv, if_pos (List.mem_cons_of_mem _ hv)]
      · rw [if_neg hv, if_neg (fun z => by rcases List.mem_cons.mp z with q | q; exact hj q; exact hv q)]
theorem wipe_set {v : Option V} {i : Nat} {vs : List Nat} {σ : St} (h : i ∈ vs) : wipe (σ.set i v) vs = wipe σ vs := by
  apply List.ext_getElem?
  intro j
  rw [wipe_get, wipe_get]
  by_cases hj : j ∈ vs
  · rw [if_pos hj, if_pos hj]
    by_cases e : j = i
    · subst e
      by_cases hl : j < σ.length
      · rw [List.getElem?_set_self hl, List.getElem?_eq_getElem hl]; rfl
      · rw [List.getElem?_eq_none (by rw [List.length_set]; omega), List.getElem?_eq_none (by omega)]
    · rw [List.getElem?_set_ne (Ne.symm e)]
  · rw [if_neg hj, if_neg hj, List.getElem?_set_ne (fun z => hj (by rw [← z]; exact h))]
theorem gw_name {vs : List (Str × Nat)} {d : D} {env' : Vars} {Q : Vars → Mem → Prop} (h : Put env x d env') (q : Q env' M) (hv : ∃ i, (x, i) ∈ vs ∧ X.N[i]? = some x) (hx : Loc X.env.scope x := by first | exact Or.inl rfl | exact Or.inr rfl) (hf : X.fn x = true ∨ X.env.scope.names.lookup x = some .local := by first | exact .inl rfl | exact .inr rfl) :
    Gw X vs (.Name x pos) d env M Q := ⟨fun S σ H v ok r => by
  obtain ⟨i, hN, ok'⟩ := ok.put h r
  obtain ⟨j, hj, hN'⟩ := hv
  have e : j = i := nodup_ix ok.nd hN' hN
  subst e
  exact semG_of (pg_name ok.nd hN hx hf) ⟨wipe_set (List.mem_map.mpr ⟨(x, j), hj, rfl⟩), S, env', M, ok.refl, ok', q⟩⟩
theorem gws_nil {vs : List (Str × Nat)} {Q : Vars → Mem → Prop} (q : Q env M) : Gws X vs [] [] env M Q := ⟨fun S σ H us ok r => semGs_of pgs_nil ⟨r, rfl, S, env, M, ok.refl, ok, q⟩⟩
theorem gws_cons {vs : List (Str × Nat)} {d : D} {ds : List D} {Q : Vars → Mem → Prop} (h : Gw X vs e d env M fun env1 M1 => Gws X vs es ds env1 M1 Q) (hs : (assignEach (e :: es) X.env).map (·.2) = assign e X.env :: (assignEach es X.env).map (·.2) := by rfl) : Gws X vs (e :: es) (d :: ds) env M Q :=
  ⟨fun S σ H us ok r => by
    obtain ⟨v, vr, rfl, r1, r2⟩ := r
    refine semGs_of (pgs_cons pg_sem pgs_sem hs) ⟨v, vr, rfl, semG_mono (h.run S σ H v ok r1) fun σ1 H1 ⟨hw, S1, env1, M1, p1, ok1, hg⟩ => ?_⟩
    exact semGs_mono (hg.run S1 σ1 H1 vr ok1 (Reps.mono p1.ss _ _ r2)) fun σ2 H2 ⟨hw2, S2, env2, M2, p2, ok2, q⟩ => ⟨hw2.trans hw, S2, env2, M2, p1.trans p2, ok2, q⟩⟩
theorem gw_tup {vs : List (Str × Nat)} {k n : Nat} {d : D} {Q : Vars → Mem → Prop} (h : ∃ ds, d = .tup ds ∧ ds.length = n ∧ Gws X vs es ds env M Q) (hc : X.calm = true := by rfl) (hn : (assignEach es X.env).length = n := by rfl) (hst : (assignEach es X.env).findIdx? (·.1) = none := by rfl) : Gw X vs (.Tuple es k pos) d env M Q :=
  ⟨fun S σ H v ok r => by
    obtain ⟨ds, rfl, hl, hg⟩ := h
    obtain ⟨a, xs, rfl, ht, rs⟩ := r
    exact semG_of (pg_tup hc pgs_sem hn hst) ⟨a, xs, rfl, Same.tup ok.sh ht, rs.len.trans hl, hg.run S σ H xs ok rs⟩⟩
theorem wish_blk {s : Shared} {H H' : Hp} {scope : Scope} {cenv : PySem.Env} {fp : List Addr} {S : Hp} {M : Mem} : Wish (X.blk s H scope cenv fp) PX0 S M H' :=
  ⟨fun u s' x => by
    obtain ⟨_, _, _, _, _, _, _, _, _, _, _, _, _, _, _, _, z⟩ := x
    obtain ⟨_, _, _, _, _, z⟩ := z
    exact z.elim, PassesOwn.never⟩
theorem ts_nil {Q : Bool → Mem → Prop} (q : Q true M) : TS' X PX [] env M Q := ⟨fun S σ H ok wi => semPT_of pts_nil ⟨S, M, ok.refl, q⟩⟩
theorem ts_one {Q : Bool → Mem → Prop} (h : T X PX c env M Q) : TS' X PX [c] env M Q := ⟨fun S σ H ok wi => semPT_of (pts_one pt_sem) (h.run S σ H ok wi)⟩

/-- what a comprehension's loop is to show: J speaks of the turn, the items made so far, the memory -/
def LcD (X : Cx) (scope : Scope) (own : List (Str × Nat)) (tg elt : Expr) (ifs : List Expr) (envb : Vars) (items : List D) (J : Nat → List D → Mem → Prop) : Prop :=
  ∀ (i : Nat) (hi : i < items.length) (acc : List D) (M' : Mem), J i acc M' → acc.length ≤ i →
    ∀ (s : Shared) (H : Hp) (C : Addr) (cl : List (Str × Addr)) (fp : List Addr), Gw (X.blk s H scope (compEnvC scope cl C X.env) fp) own tg items[i] envb M' fun env2 M2 =>
      ∀ (s : Shared) (H : Hp) (C : Addr) (cl : List (Str × Addr)) (fp : List Addr), TS' (X.blk s H scope (compEnvC scope cl C X.env) fp) PX0 ifs env2 M2 fun t M3 =>
        (t = true → ∀ (s : Shared) (H : Hp) (C : Addr) (cl : List (Str × Addr)) (fp : List Addr), E (X.blk s H scope (compEnvC scope cl C X.env) fp) PX0 elt env2 M3 fun d M4 => J (i + 1) (acc ++ [d]) M4) ∧ (t = false → J (i + 1) acc M3)
def gAll (X : Cx) (scope : Scope) (tg : Expr) : TG := fun v σ H Q => ∀ (s : Shared) (H0 : Hp) (C : Addr) (cl : List (Str × Addr)) (fp : List Addr), semG (X.blk s H0 scope (compEnvC scope cl C X.env) fp) tg v σ H Q
def tAll (X : Cx) (scope : Scope) (ifs : List Expr) : TT := fun σ H Q => ∀ (s : Shared) (H0 : Hp) (C : Addr) (cl : List (Str × Addr)) (fp : List Addr), semPT (X.blk s H0 scope (compEnvC scope cl C X.env) fp) ifs σ H Q
def eAll (X : Cx) (scope : Scope) (e : Expr) : TE := fun σ H Q => ∀ (s : Shared) (H0 : Hp) (C : Addr) (cl : List (Str × Addr)) (fp : List Addr), semE (X.blk s H0 scope (compEnvC scope cl C X.env) fp) e σ H Q
theorem blk_ok {S H : Hp} {σ : St} {s0 : Shared} {H0 : Hp} {scope : Scope} {cenv : PySem.Env} {fp : List Addr} (o : Ok X S env M σ H) : Ok (X.blk s0 H0 scope cenv fp) S env M σ H := ⟨o.sh, o.mem, o.nm, o.sl, o.len, o.nd⟩
theorem blk_un {S H : Hp} {σ : St} {s0 : Shared} {H0 : Hp} {scope : Scope} {cenv : PySem.Env} {fp : List Addr} (o : Ok (X.blk s0 H0 scope cenv fp) S env M σ H) : Ok X S env M σ H := ⟨o.sh, o.mem, o.nm, o.sl, o.len, o.nd⟩
theorem lc_sem {elt : Expr} {ifs : List Expr} {scope : Scope} {own : List (Str × Nat)} {envb : Vars} {S H : Hp} {σ : St} {R : VK} {QF : List D → Mem → Prop} (ok : Ok X S env M σ H) (wi : Wish X PX S M H) (hown : ∀ p ∈ own, X.N[p.2]? = some p.1) (hd : Drops env (own.map (·.1)) envb)
    (h : I X PX tg it env M fun items M1 => items.length ≤ 100000 ∧ ∃ J : Nat → List D → Mem → Prop, J 0 [] M1 ∧ LcD X scope own tg elt ifs envb items J ∧ ∀ acc M', J items.length acc M' → acc.length ≤ items.length → QF acc M')
    (k : ∀ Dl acc vs S' M' H', Pst X.K S M H S' M' H' → H Dl = none → H' Dl = some (.lst vs) → S' Dl = none → M' Dl = none → Reps X.K S' acc vs → QF acc M' → R (.ref Dl) H') :
    tLc (semI X tg it) (gAll X scope tg) (tAll X scope ifs) (eAll X scope elt) (own.map (·.2)) σ H R := by
  refine h.bind ok wi fun S1 items M1 J H1 p1 ok1 wi1 dl ⟨hlen, Jv, j0, jt, jd⟩ => fun Dl hD => ?_
  have hDS : S1 Dl = none := Same.free ok1.sh hD
  have hDM : M1 Dl = none := ok1.mem.free hD
  refine ⟨fun i m H' => m = items.length - i ∧ i ≤ items.length ∧ ∃ S' M' acc vs, Pst X.K S1 M1 H1 S' M' H' ∧ H' Dl = some (.lst vs) ∧ S' Dl = none ∧ M' Dl = none ∧ Reps X.K S' acc vs ∧ acc.length ≤ i ∧ Jv i acc M',
    ⟨items.length, by simp, Nat.zero_le _, S1, M1, [], [], ok1.refl.untracked hD hDS hDM, upd_same, hDS, hDM, rfl, Nat.zero_le _, j0⟩, ?_⟩
  rintro i m H' ⟨rfl, hi, S', M', acc, vs, p', hDl, hS', hM', rs, hal, q⟩
  have okb : Ok X S' env M' σ H' := ok1.step p'
  by_cases hlt : i < items.length
  · refine .inr ⟨dl.go i H' hlt (p'.ss.trans p'.sh), fun H2 => i + 1 ≤ items.length ∧ ∃ S' M' acc vs, Pst X.K S1 M1 H1 S' M' H2 ∧ H2 Dl = some (.lst vs) ∧ S' Dl = none ∧ M' Dl = none ∧ Reps X.K S' acc vs ∧ acc.length ≤ i + 1 ∧ Jv (i + 1) acc M',
      fun H2 n2 => ⟨items.length - (i + 1), by omega, rfl, n2.1, n2.2⟩, fun x H2 hy => ?_⟩
    obtain ⟨S2, py, ry⟩ := dl.yld i H' x H2 S' M' hlt p'.ss p'.sh p'.mem hy
    have okd : Ok X S2 envb M' (wipe σ (own.map (·.2))) H2 := (okb.step py).drop hown hd
    intro s0 H0 C cl fp
    have p2 := p'.trans py
    have liv2 : H2 Dl ≠ none := py.liv Dl (by rw [hDl]; intro z; cases z)
    have d2 : S2 Dl = none := (py.snone hS' (by rw [hDl]; intro z; cases z) hM').1
    have e2 : H2 Dl = some (.lst vs) := py.keep Dl _ hDl hM'
    refine semG_mono ((jt i hlt acc M' q hal s0 H0 C cl fp).run S2 _ H2 x (blk_ok okd) ry) fun σ2 H3 ⟨hw, S3, env3, M3, p3, ok3, hts⟩ => ⟨?_, fun s1 H01 C1 cl1 fp1 => ?_⟩
    · rw [hw]
      apply List.ext_getElem?
      intro j
      rw [wipe_get, wipe_get]
      by_cases hj : j ∈ own.map (·.2)
      · rw [if_pos hj, if_pos hj]
        cases σ[j]? <;> rfl
      · rw [if_neg hj]
    · have e3 : H3 Dl = some (.lst vs) := p3.keep Dl _ e2 hM'
      obtain ⟨d3, m3⟩ := p3.snone d2 liv2 hM'
      refine semPT_mono ((hts s1 H01 C1 cl1 fp1).run S3 σ2 H3 (blk_ok (blk_un ok3)) wish_blk) fun t H4 ⟨S4, M4, p4, qy, qn⟩ => ?_
      have e4 : H4 Dl = some (.lst vs) := p4.keep Dl _ e3 m3
      obtain ⟨d4, m4⟩ := p4.snone d3 (by rw [e3]; intro z; cases z) m3
      have ok4 := (blk_un ok3).step p4
      cases t with
      | false =>
        rw [if_neg Bool.false_ne_true]
        exact ⟨hlt, S4, M4, acc, vs, (p2.trans p3).trans p4, e4, d4, m4, Reps.mono ((py.ss.trans p3.ss).trans p4.ss) _ _ rs, Nat.le_succ_of_le hal, qn rfl⟩
      | true =>
        rw [if_pos rfl]
        intro s2 H02 C2 cl2 fp2
        refine semE_mono ((qy rfl s2 H02 C2 cl2 fp2).run S4 σ2 H4 (blk_ok ok4) wish_blk) fun y H5 ⟨S5, d, M5, p5, ry5, q5⟩ => ?_
        have e5 : H5 Dl = some (.lst vs) := p5.keep Dl _ e4 m4
        obtain ⟨d5, m5⟩ := p5.snone d4 (by rw [e4]; intro z; cases z) m4
        have hlv : vs.length = acc.length := rs.len
        refine ⟨vs, e5, Nat.lt_of_lt_of_le (show vs.length < 200000 by omega) (by decide), hlt, S5, M5, acc ++ [d], vs ++ [y], (((p2.trans p3).trans p4).trans p5).untracked hD d5 m5, upd_same, d5, m5,
          Reps.append (Reps.mono (((py.ss.trans p3.ss).trans p4.ss).trans p5.ss) _ _ rs) ⟨y, [], rfl, ry5, rfl⟩, by rw [List.length_append]; exact Nat.succ_le_succ hal, q5⟩
  · have e : i = items.length := by omega
    subst e
    exact .inl ⟨dl.stop _ H' rfl (p'.ss.trans p'.sh), k Dl acc vs S' M' H' (p1.trans p') (p1.was hD) hDl hS' hM' rs (jd acc M' q hal)⟩
variable {elt : Expr} {ifs : List Expr} {scope : Scope} {own : List (Str × Nat)} {envb : Vars}
theorem pg_all : ∀ (s : Shared) (H : Hp) (C : Addr) (cl : List (Str × Addr)) (fp : List Addr), PG (X.blk s H scope (compEnvC scope cl C X.env) fp) tg (gAll X scope tg) := fun s H C cl fp => ⟨fun pins s' σ H' v u Q I r h => h s H C cl fp pins s' u I r⟩
theorem pts_all : ∀ (s : Shared) (H : Hp) (C : Addr) (cl : List (Str × Addr)) (fp : List Addr), PTs (X.blk s H scope (compEnvC scope cl C X.env) fp) ifs (tAll X scope ifs) := fun s H C cl fp => ⟨fun pins s' σ H' Q I h => h s H C cl fp pins s' I⟩
theorem pe_all : ∀ (s : Shared) (H : Hp) (C : Addr) (cl : List (Str × Addr)) (fp : List Addr), PE (X.blk s H scope (compEnvC scope cl C X.env) fp) elt (eAll X scope elt) := fun s H C cl fp => ⟨fun pins s' σ H' Q I h => h s H C cl fp pins s' I⟩
/-- a comprehension's reading by data: the list frozen, or in a cell -/
def LcI (X : Cx) (PX : PXT) (own : List (Str × Nat)) (tg it elt : Expr) (ifs : List Expr) (scope : Scope) (env envb : Vars) (M : Mem) (QF : List D → Mem → Prop) : Prop :=
  I X PX tg it env M fun items M1 => items.length ≤ 100000 ∧ ∃ J : Nat → List D → Mem → Prop, J 0 [] M1 ∧ LcD X scope own tg elt ifs envb items J ∧ ∀ acc M', J items.length acc M' → acc.length ≤ items.length → QF acc M'
theorem e_lc {Q : QD} (okB : BlkOk X.N X.env.scope scope own) (hd : Drops env (own.map (·.1)) envb) (h : LcI X PX own tg it elt ifs scope env envb M fun acc M' => Q (.lst acc) M')
    (hc : X.calm = true := by rfl) (hs : ∀ x, foldedSetIterable it X.env x = pure x := by intro _; rfl) : E X PX (.ListComp elt [⟨tg, it, ifs, 0⟩] scope pos) env M Q :=
  ⟨fun S σ H ok wi => semE_of (pe_lc hc ok.nd pi_sem okB pg_all pts_all pe_all hs) (lc_sem ok wi okB.ix hd h fun Dl acc vs S' M' H' p hD hDl hS hM rs q =>
    ⟨_, .lst acc, M', p.adopt hD hDl hS hM, ⟨Dl, vs, rfl, upd_same, Reps.mono (fun b x e => by rw [upd_ne (ne_of_none e hS)]; exact e) _ _ rs⟩, q⟩)⟩
theorem e_lcM {Q : QD} (okB : BlkOk X.N X.env.scope scope own) (hd : Drops env (own.map (·.1)) envb) (h : LcI X PX own tg it elt ifs scope env envb M fun acc M' => ∀ p, M' p = none → Q (.ref p) (updM M' p (.lst acc)))
    (hc : X.calm = true := by rfl) (hs : ∀ x, foldedSetIterable it X.env x = pure x := by intro _; rfl) : E X PX (.ListComp elt [⟨tg, it, ifs, 0⟩] scope pos) env M Q :=
  ⟨fun S σ H ok wi => semE_of (pe_lc hc ok.nd pi_sem okB pg_all pts_all pe_all hs) (lc_sem ok wi okB.ix hd h fun Dl acc vs S' M' H' p hD hDl hS hM rs q =>
    ⟨S', .ref Dl, _, p.adoptM (c := .lst acc) hD ⟨vs, hDl, rs⟩ hS, rfl, q Dl hM⟩)⟩
/-- name = [..] -/
theorem s_lc {y : Str} {py spos : Pos} (okB : BlkOk X.N X.env.scope scope own) (hd : Drops env (own.map (·.1)) envb) {ey : Vars} (h0 : Put env y .non ey) (h : LcI X PX own tg it elt ifs scope env envb M fun acc M' => ∃ env', Put env y (.lst acc) env' ∧ P.nx env' M')
    (hsw : swapsWith (.ListComp elt [⟨tg, it, ifs, 0⟩] scope pos) (some (.Name y py)) spos.line X.env = pure true := by exact sw_true rfl rfl rfl (by decide +kernel))
    (hyl : X.env.scope.names.lookup y = some .local := by rfl) (hc : X.calm = true := by rfl) (hs : ∀ x, foldedSetIterable it X.env x = pure x := by intro _; rfl) : S X PX (.Assign [.Name y py] (.ListComp elt [⟨tg, it, ifs, 0⟩] scope pos) spos) env M P :=
  ⟨fun S σ H ok wi => by
    obtain ⟨i, hi⟩ := ok.ix h0
    refine semS_of (ps_setLc hc ok.nd hi hyl hsw pi_sem okB pg_all pts_all pe_all hs) (lc_sem ok wi okB.ix hd h fun Dl acc vs S' M' H' p hD hDl hS hM rs ⟨env', hp, q⟩ => ?_)
    have p' := p.adopt hD hDl hS hM
    have r : Rep X.K (upd S' Dl (.lst vs)) (.lst acc) (.ref Dl) := ⟨Dl, vs, rfl, upd_same, Reps.mono (fun b x e => by rw [upd_ne (ne_of_none e hS)]; exact e) _ _ rs⟩
    obtain ⟨i', hN, ok'⟩ := (ok.step p').put hp r
    have e := nodup_ix ok.nd hi hN
    subst e
    exact ⟨_, env', M', p', ok', q⟩⟩
end

/-! ### defs and their calls -/
/-- a def's promise by data: its arguments, the memory, what is wanted behind it, what is wished of an exception -/
abbrev DSp := List D → Mem → QD → PXT → Prop
def lift (K : PySem.W.Frag) (sp : DSp) : Sp := fun vs H Q E => ∃ S ds M R RX, Same S H ∧ MemOk K S M H ∧ Reps K S ds vs ∧ sp ds M R RX ∧ (∀ v H', Post K S M H R v H' → Q v H') ∧ ∀ cls d H', XPost K S M H RX cls d H' → E cls d H'
structure Def (P : Program) (w : World) (K : PySem.W.Frag) (mg : Str → Option Value) (base : Heap) (x : Str) (k : Nat) (sp : DSp) : Prop where
  ex : ∃ f fd ps, (∃ (sp3 : DSp) (dd : List D) (dvs : List V) (us : List Value), FnOk P w K mg base (L2.CX P w) k f fd ps (lift K sp3) ∧ Binds K fd ps us ∧ Vals dvs us ∧ (∀ S, Reps K S dd dvs) ∧ ∀ ds M Q PX, sp ds M Q PX → sp3 (ds ++ dd) M Q PX) ∧ mg x = some (.ref f) ∧ PySem.W.keepIn K (.ref f) = true
section
variable {X : Cx} {PX : PXT} {e : Expr} {es : List Expr} {env : Vars} {M : Mem} {pos p : Pos} {x : Str} {Q : QD}
theorem lift_of {sp : DSp} {S S1 H H1 : Hp} {M M1 : Mem} {ds : List D} {vs : List V} {Q : QD} (p1 : Pst X.K S M H S1 M1 H1) (r : Reps X.K S1 ds vs) (h : sp ds M1 Q PX) : lift X.K sp vs H1 (Post X.K S M H Q) (fun cls d H' => XPost X.K S M H PX cls d H') :=
  ⟨S1, ds, M1, Q, PX, p1.sh, p1.mem, r, h, fun _ _ q => q.trans p1, fun _ _ _ ⟨S', M', fs, q, xr, z⟩ => ⟨S', M', fs, p1.trans q, xr, z⟩⟩
theorem e_call {sp : DSp} {k j : Nat} (F : Def X.prog X.w X.K X.mg X.base x k sp) (hr : Room j X.A) (hk : k ≤ j) (h : A X PX (e :: es) env M fun ds M1 => sp ds M1 Q PX) (hg : Gl X x := by rfl) (hdb : (x == ("__debug__" : Str)) = false := by decide)
    (he : starEach (e :: es) X.env = (false, eval e X.env) :: starEach es X.env := by rfl) (hpl : (backTo pos (starEach es X.env)).any (·.1) = false := by rfl) : E X PX (.Call (.Name x p) (e :: es) [] pos) env M Q :=
  ⟨fun S σ H ok wi => by
    obtain ⟨f, fd, ps, ⟨sp3, dd, dvs, us, G, hb, hv, hd, hsp⟩, hm, hkp⟩ := F.ex
    exact semE_of (pe_callSD G (hr.mono hk) hg hm hkp hb hv (fun σ => passAt wi.tk σ) pa_sem hdb he hpl) (h.bind ok wi fun S1 ds M1 vs H1 p1 ok1 wi1 r hs => lift_of p1 (r.append (hd S1)) (hsp _ _ _ _ hs))⟩
end
theorem env0_nm : ∀ (N : List Str) (ds : List D), (env0 N ds).map (·.1) = N
  | [], _ => rfl
  | x :: N, [] => by show x :: (env0 N []).map (·.1) = _; rw [env0_nm N []]
  | x :: N, d :: ds => by show x :: (env0 N ds).map (·.1) = _; rw [env0_nm N ds]
theorem env0_nil : ∀ (N : List Str) (i : Nat) (x : Str) (d : D), ¬ (env0 N [])[i]? = some (x, some d)
  | [], i, x, d => by simp [env0]
  | y :: N, 0, x, d => by simp [env0]
  | y :: N, i + 1, x, d => by simpa [env0] using env0_nil N i x d
theorem env0_sl {K : PySem.W.Frag} {S : Hp} : ∀ (N : List Str) (ds : List D) (vs : List V) (i : Nat) (x : Str) (d : D), Reps K S ds vs → (env0 N ds)[i]? = some (x, some d) → ∃ v, vs[i]? = some v ∧ Rep K S d v
  | [], _, _, i, x, d, _, h => by simp [env0] at h
  | y :: N, [], _, i, x, d, _, h => absurd h (env0_nil (y :: N) i x d)
  | y :: N, d' :: ds, vs, 0, x, d, r, h => by
    obtain ⟨v, vr, rfl, r1, _⟩ := r
    simp [env0] at h
    obtain ⟨_, rfl⟩ := h
    exact ⟨v, rfl, r1⟩
  | y :: N, d' :: ds, vs, i + 1, x, d, r, h => by
    obtain ⟨v, vr, rfl, _, r2⟩ := r
    obtain ⟨u, h1, h2⟩ := env0_sl N ds vr i x d r2 (by simpa [env0] using h)
    exact ⟨u, by simpa using h1, h2⟩
/-- THE RULE for a def -/
theorem fn_ok {P : Program} {w : World} {K : PySem.W.Frag} {mg : Str → Option Value} {base : Heap} {x qual : Str} {st : Stmt} {f : Addr} {fd : FuncData} {N ps : List Str} {k : Nat} {sp : DSp} (F : Fun K x qual st f fd) (Sc : FnScope N ps (defScope st))
    (len : ∀ ds M R RX, sp ds M R RX → ds.length = ps.length)
    (body : ∀ (cdv : Value) (A : Around) (outer : List PySem.Env) (s : Shared) (H : Hp) (E : XK) (ds : List D) (M : Mem) (R : QD) (RX : PXT), Room k (A.deeper (PyProof.Rows.envOfC qual (defScope st) s.heap.objs.size f cdv)) → sp ds M R RX →
      SS (cxOf (L2.CX P w) P w K mg base N qual (defScope st) f cdv A outer s H E) RX (defBody st) (env0 N ds) M ⟨fun _ M' => R .non M', R, fun _ _ => False, fun _ _ => False⟩) : FnOk P w K mg base (L2.CX P w) (k + 1) f fd ps (lift K sp) := by
  refine F.okX Sc (fun vs H Q E ⟨S, ds, M, R, RX, sh, m, r, hs, hQ, hE⟩ => r.len.trans (len _ _ _ _ hs)) (fun cdv A outer s H vs Q E hr ⟨S, ds, M, R, RX, sh, m, r, hs, hQ, hE⟩ => ?_)
  refine ⟨semSS _ (defBody st), pss_sem, ?_⟩
  have hb := body cdv A outer s H E ds M R RX hr hs
  have hl : vs.length = ps.length := r.len.trans (len _ _ _ _ hs)
  have hpl : ps.length ≤ N.length := by have := congrArg List.length Sc.pre; rw [List.length_take] at this; omega
  have ok : Ok (cxOf (L2.CX P w) P w K mg base N qual (defScope st) f cdv A outer s H E) S (env0 N ds) M (L2.start N vs) H := by
    refine ⟨sh, m, env0_nm N ds, fun i x d h => ?_, ?_, Sc.nd⟩
    · obtain ⟨v, h1, h2⟩ := env0_sl N ds vs i x d r h
      refine ⟨v, ?_, h2⟩
      have hi : i < vs.length := (List.getElem?_eq_some_iff.mp h1).1
      unfold L2.start
      rw [List.getElem?_append_left (by simpa using hi), List.getElem?_map, h1]
      rfl
    · unfold L2.start
      show _ = N.length
      rw [List.length_append, List.length_map, List.length_replicate]
      omega
  have wi : Wish (cxOf (L2.CX P w) P w K mg base N qual (defScope st) f cdv A outer s H E) RX S M H := ⟨(takes_of rfl rfl rfl rfl).imp fun cls d _ H' h => hE cls d H' h, passes_of rfl⟩
  refine semSS_mono (hb.run S _ H ok wi) (fun σ' H' ⟨S', env', M', p, ok', q⟩ => hQ .non H' ⟨S', .non, M', p, rfl, q⟩) (fun v H' q => hQ v H' q) (fun σ' H' ⟨_, _, _, _, _, q⟩ => q) (fun σ' H' ⟨_, _, _, _, _, q⟩ => q)
theorem def_mk {P : Program} {w : World} {K : PySem.W.Frag} {mg : Str → Option Value} {base : Heap} {x : Str} {f : Addr} {fd : FuncData} {ps : List Str} {k : Nat} {sp : DSp} (h : FnOk P w K mg base (L2.CX P w) k f fd ps (lift K sp)) (hm : mg x = some (.ref f)) (hk : PySem.W.keepIn K (.ref f) = true) (hb : Binds K fd ps []) :
    Def P w K mg base x k sp := ⟨f, fd, ps, ⟨sp, [], [], [], h, hb, .nil, fun _ => rfl, fun ds M Q PX z => by rw [List.append_nil]; exact z⟩, hm, hk⟩
theorem def_mkD {P : Program} {w : World} {K : PySem.W.Frag} {mg : Str → Option Value} {base : Heap} {x : Str} {f : Addr} {fd : FuncData} {ps : List Str} {k : Nat} {sp3 sp : DSp} {dd : List D} {dvs : List V} (h : FnOk P w K mg base (L2.CX P w) k f fd ps (lift K sp3)) (hm : mg x = some (.ref f)) (hk : PySem.W.keepIn K (.ref f) = true) (hb : ∃ us, Vals dvs us ∧ Binds K fd ps us)
    (hd : ∀ S, Reps K S dd dvs) (hsp : ∀ ds M Q PX, sp ds M Q PX → sp3 (ds ++ dd) M Q PX) : Def P w K mg base x k sp := by
  obtain ⟨us, h1, h2⟩ := hb
  exact ⟨f, fd, ps, ⟨sp3, dd, dvs, us, h, h2, h1, hd, hsp⟩, hm, hk⟩
end DL

/-! DL4: built-ins, sequences, fields, methods, objects -/
namespace DL
open PySem L2
section
variable {X : Cx} {PX : PXT} {e a b c o tg it : Expr} {es : List Expr} {env : Vars} {M : Mem} {pos p apos : Pos} {x m f : Str} {Q : QD} {P : Pk}
/-! ### built-ins by name -/
theorem e_blt {id : String} {r : List V → Hp → VK → Prop} {g : List D → Mem → QD → Prop} (hc : CallR X (.builtin id) r) (hd : DC X.K r g) (hm : X.mg x = none) (hv : bootBuiltins x = some (.builtin id)) (h : A X PX (e :: es) env M fun ds M1 => g ds M1 Q)
    (hg : Gl X x := by rfl) (hn : x ≠ "__name__" := by decide) (hdb : (x == ("__debug__" : Str)) = false := by decide) (he : starEach (e :: es) X.env = (false, eval e X.env) :: starEach es X.env := by rfl) (hpl : (backTo pos (starEach es X.env)).any (·.1) = false := by rfl) :
    E X PX (.Call (.Name x p) (e :: es) [] pos) env M Q :=
  ⟨fun S σ H ok wi => semE_of (pe_callB hc hg hm hv pa_sem hn hdb he hpl) (h.bind ok wi fun S1 ds M1 vs H1 p1 ok1 wi1 rs hg' => hd S1 M1 H1 ds vs Q _ ok1.sh ok1.mem rs hg' fun z H' q => q.trans p1)⟩
theorem e_bty {T : String} {r : List V → Hp → VK → Prop} {g : List D → Mem → QD → Prop} (hc : CallR X (.type T) r) (hd : DC X.K r g) (hm : X.mg x = none) (hv : bootBuiltins x = some (.type T)) (h : A X PX (e :: es) env M fun ds M1 => g ds M1 Q)
    (hg : Gl X x := by rfl) (hn : x ≠ "__name__" := by decide) (hdb : (x == ("__debug__" : Str)) = false := by decide) (he : starEach (e :: es) X.env = (false, eval e X.env) :: starEach es X.env := by rfl) (hpl : (backTo pos (starEach es X.env)).any (·.1) = false := by rfl) :
    E X PX (.Call (.Name x p) (e :: es) [] pos) env M Q :=
  ⟨fun S σ H ok wi => semE_of (pe_callTy hc hg hm hv pa_sem hn hdb he hpl) (h.bind ok wi fun S1 ds M1 vs H1 p1 ok1 wi1 rs hg' => hd S1 M1 H1 ds vs Q _ ok1.sh ok1.mem rs hg' fun z H' q => q.trans p1)⟩
theorem reps1 {K : PySem.W.Frag} {S : Hp} {d : D} {vs : List V} (r : Reps K S [d] vs) : ∃ v, vs = [v] ∧ Rep K S d v := by
  obtain ⟨v, r', rfl, h, e⟩ := r
  exact ⟨v, by rw [show r' = [] from e], h⟩
theorem reps2 {K : PySem.W.Frag} {S : Hp} {d d' : D} {vs : List V} (r : Reps K S [d, d'] vs) : ∃ v v', vs = [v, v'] ∧ Rep K S d v ∧ Rep K S d' v' := by
  obtain ⟨v, r', rfl, h, r2⟩ := r
  obtain ⟨v', rfl, h'⟩ := reps1 r2
  exact ⟨v, v', rfl, h, h'⟩
/-- how long a thing is -/
inductive LenD (M : Mem) : D → Nat → Prop
  | tup (ds : List D) : LenD M (.tup ds) ds.length
  | lst (ds : List D) : LenD M (.lst ds) ds.length
  | rol (ds : List D) : LenD M (.rol ds) ds.length
  | cell {a : Addr} {ds : List D} : M a = some (.lst ds) → LenD M (.ref a) ds.length
  | str (z : Str) : z.length ≤ sizeLine → LenD M (.str z) z.length
theorem e_len (hm : X.mg "len" = none) (h : E X PX e env M fun d M1 => ∃ n : Nat, LenD M1 d n ∧ Q (.int n) M1) (hg : Gl X "len" := by rfl)
    (he : starEach [e] X.env = (false, eval e X.env) :: starEach [] X.env := by rfl) (hpl : (backTo pos (starEach [] X.env)).any (·.1) = false := by rfl) : E X PX (.Call (.Name "len" p) [e] [] pos) env M Q :=
  e_blt (g := fun ds M Q => ∃ d, ∃ n : Nat, ds = [d] ∧ LenD M d n ∧ Q (.int n) M) call_len (by
    intro S M H xs vs Q R sh m rs ⟨d, n, e1, hl, q⟩ hR
    subst e1
    obtain ⟨v, rfl, r⟩ := reps1 rs
    refine ⟨v, n, rfl, ?_, hR _ _ (post_int sh m q)⟩
    cases hl with
    | tup ds => obtain ⟨a, xs, rfl, h1, h2⟩ := r; exact .inr ⟨xs, Same.tup sh h1, h2.len.symm⟩
    | lst ds => obtain ⟨a, xs, rfl, h1, h2⟩ := r; exact .inl ⟨xs, SqL.of (sh _ _ h1), h2.len.symm⟩
    | rol ds => obtain ⟨a, xs, rfl, h1, h2⟩ := r; exact .inl ⟨xs, Same.seq sh h1, h2.len.symm⟩
    | cell hc =>
      obtain ⟨_, xs, h1, h2⟩ := m _ _ hc
      rw [show v = V.ref _ from r]
      exact .inl ⟨xs, SqL.of h1, h2.len.symm⟩
    | str z hz => rw [show v = V.str z from r]; exact ⟨hz, rfl⟩) hm PySem.boot_len (a_cons (h.imp fun d M1 ⟨n, hl, q⟩ => a_nil ⟨d, n, rfl, hl, q⟩) he) hg (by decide) (by decide) he hpl
theorem e_abs (hm : X.mg "abs" = none) (h : E X PX e env M fun d M1 => ∃ i, d = .int i ∧ Q (.int (i.natAbs : Int)) M1) (hg : Gl X "abs" := by rfl)
    (he : starEach [e] X.env = (false, eval e X.env) :: starEach [] X.env := by rfl) (hpl : (backTo pos (starEach [] X.env)).any (·.1) = false := by rfl) : E X PX (.Call (.Name "abs" p) [e] [] pos) env M Q :=
  e_blt (g := fun ds M Q => ∃ i, ds = [.int i] ∧ Q (.int (i.natAbs : Int)) M) call_abs (by
    intro S M H xs vs Q R sh m rs ⟨i, e1, q⟩ hR
    subst e1
    obtain ⟨v, rfl, r⟩ := reps1 rs
    refine ⟨i, by rw [show v = V.int i from r], hR _ _ ?_⟩
    have e2 : (if i < 0 then -i else i) = (i.natAbs : Int) := by split <;> omega
    rw [e2]
    exact post_int sh m q) hm (by decide +kernel) (a_cons (h.imp fun d M1 ⟨i, e1, q⟩ => a_nil ⟨i, by rw [e1], q⟩) he) hg (by decide) (by decide) he hpl
theorem e_intI (hm : X.mg "int" = none) (h : E X PX e env M fun d M1 => (∃ i, d = .int i ∧ Q (.int i) M1) ∨ ∃ k : Bool, d = .bl k ∧ Q (.int (if k then 1 else 0)) M1) (hg : Gl X "int" := by rfl)
    (he : starEach [e] X.env = (false, eval e X.env) :: starEach [] X.env := by rfl) (hpl : (backTo pos (starEach [] X.env)).any (·.1) = false := by rfl) : E X PX (.Call (.Name "int" p) [e] [] pos) env M Q :=
  e_bty (g := fun ds M Q => (∃ i, ds = [.int i] ∧ Q (.int i) M) ∨ ∃ k : Bool, ds = [.bl k] ∧ Q (.int (if k then 1 else 0)) M) call_int1 (by
    intro S M H xs vs Q R sh m rs hg hR
    rcases hg with ⟨i, e1, q⟩ | ⟨k, e1, q⟩
    · subst e1
      obtain ⟨v, rfl, r⟩ := reps1 rs
      exact .inl ⟨i, by rw [show v = V.int i from r], hR _ _ (post_int sh m q)⟩
    · subst e1
      obtain ⟨v, rfl, r⟩ := reps1 rs
      exact .inr ⟨k, by rw [show v = V.bl k from r], hR _ _ (post_int sh m q)⟩) hm (by decide +kernel) (a_cons (h.imp fun d M1 z => a_nil (by
      rcases z with ⟨i, e1, q⟩ | ⟨k, e1, q⟩
      · exact .inl ⟨i, by rw [e1], q⟩
      · exact .inr ⟨k, by rw [e1], q⟩)) he) hg (by decide) (by decide) he hpl
theorem e_int1 (hm : X.mg "int" = none) (h : E X PX e env M fun d M1 => ∃ i, d = .int i ∧ Q (.int i) M1) (hg : Gl X "int" := by rfl)
    (he : starEach [e] X.env = (false, eval e X.env) :: starEach [] X.env := by rfl) (hpl : (backTo pos (starEach [] X.env)).any (·.1) = false := by rfl) : E X PX (.Call (.Name "int" p) [e] [] pos) env M Q :=
  e_intI hm (h.imp fun _ _ q => .inl q) hg he hpl
theorem e_intB (hm : X.mg "int" = none) (h : E X PX e env M fun d M1 => ∃ k : Bool, d = .bl k ∧ Q (.int (if k then 1 else 0)) M1) (hg : Gl X "int" := by rfl)
    (he : starEach [e] X.env = (false, eval e X.env) :: starEach [] X.env := by rfl) (hpl : (backTo pos (starEach [] X.env)).any (·.1) = false := by rfl) : E X PX (.Call (.Name "int" p) [e] [] pos) env M Q :=
  e_intI hm (h.imp fun _ _ q => .inr q) hg he hpl
/-- tuple(a list), tuple(a tuple) -/
theorem e_tuple (hm : X.mg "tuple" = none) (h : E X PX e env M fun d M1 => (∃ ds, (d = .lst ds ∨ d = .tup ds) ∧ Q (.tup ds) M1) ∨ ∃ q ds, d = .ref q ∧ M1 q = some (.lst ds) ∧ Q (.tup ds) M1) (hg : Gl X "tuple" := by rfl)
    (he : starEach [e] X.env = (false, eval e X.env) :: starEach [] X.env := by rfl) (hpl : (backTo pos (starEach [] X.env)).any (·.1) = false := by rfl) : E X PX (.Call (.Name "tuple" p) [e] [] pos) env M Q :=
  e_bty (g := fun xs M Q => ∃ d, xs = [d] ∧ ((∃ ds, (d = .lst ds ∨ d = .tup ds) ∧ Q (.tup ds) M) ∨ ∃ q ds, d = .ref q ∧ M q = some (.lst ds) ∧ Q (.tup ds) M)) call_tuple_of (by
    intro S M H xs vs Q R sh m rs ⟨d, e1, hg⟩ hR
    subst e1
    obtain ⟨v, rfl, r⟩ := reps1 rs
    rcases hg with ⟨ds, rfl | rfl, q⟩ | ⟨q0, ds, rfl, hq, q⟩
    · obtain ⟨a, xs, rfl, h1, h2⟩ := r
      exact ⟨a, xs, rfl, .inl ⟨SqL.of (sh _ _ h1), fun l hl => hR _ _ (post_tup sh m hl h2 q)⟩⟩
    · obtain ⟨a, xs, rfl, h1, h2⟩ := r
      exact ⟨a, xs, rfl, .inr ⟨Same.tup sh h1, hR _ _ (post_same (d := .tup ds) sh m ⟨a, xs, rfl, h1, h2⟩ q)⟩⟩
    · obtain ⟨_, xs, h1, h2⟩ := m _ _ hq
      exact ⟨q0, xs, by rw [show v = V.ref q0 from r], .inl ⟨SqL.of h1, fun l hl => hR _ _ (post_tup sh m hl h2 q)⟩⟩) hm (by decide +kernel) (a_cons (h.imp fun d M1 z => a_nil ⟨d, rfl, z⟩) he) hg (by decide) (by decide) he hpl
/-- list(a list), list(a tuple): frozen, or to be changed -/
inductive SeqD (M : Mem) : D → List D → Prop
  | tup (ds : List D) : SeqD M (.tup ds) ds
  | lst (ds : List D) : SeqD M (.lst ds) ds
  | rol (ds : List D) : SeqD M (.rol ds) ds
  | cell {a : Addr} {ds : List D} : M a = some (.lst ds) → SeqD M (.ref a) ds
theorem SeqD.rd {K : PySem.W.Frag} {S H : Hp} {M : Mem} {d : D} {ds : List D} {v : V} (h : SeqD M d ds) (sh : Same S H) (m : MemOk K S M H) (r : Rep K S d v) : ∃ a xs, v = .ref a ∧ (SqL K H a xs ∨ SqT K H a xs) ∧ Reps K S ds xs := by
  cases h with
  | tup => obtain ⟨a, xs, rfl, h1, h2⟩ := r; exact ⟨a, xs, rfl, .inr (Same.tup sh h1), h2⟩
  | lst => obtain ⟨a, xs, rfl, h1, h2⟩ := r; exact ⟨a, xs, rfl, .inl (SqL.of (sh _ _ h1)), h2⟩
  | rol => obtain ⟨a, xs, rfl, h1, h2⟩ := r; exact ⟨a, xs, rfl, .inl (Same.seq sh h1), h2⟩
  | cell hc =>
    obtain ⟨_, xs, h1, h2⟩ := m _ _ hc
    exact ⟨_, xs, r, .inl (SqL.of h1), h2⟩
theorem e_listOf (hm : X.mg "list" = none) (h : E X PX e env M fun d M1 => ∃ ds, SeqD M1 d ds ∧ Q (.lst ds) M1) (hg : Gl X "list" := by rfl)
    (he : starEach [e] X.env = (false, eval e X.env) :: starEach [] X.env := by rfl) (hpl : (backTo pos (starEach [] X.env)).any (·.1) = false := by rfl) : E X PX (.Call (.Name "list" p) [e] [] pos) env M Q :=
  e_bty (g := fun xs M Q => ∃ d ds, xs = [d] ∧ SeqD M d ds ∧ Q (.lst ds) M) call_list_of (by
    intro S M H xs vs Q R sh m rs ⟨d, ds, e1, hd, q⟩ hR
    subst e1
    obtain ⟨v, rfl, r⟩ := reps1 rs
    obtain ⟨a, xs, rfl, h1, h2⟩ := hd.rd sh m r
    exact ⟨a, xs, rfl, h1, fun l hl => hR _ _ (post_lst sh m hl h2 q)⟩) hm (by decide +kernel) (a_cons (h.imp fun d M1 ⟨ds, h1, q⟩ => a_nil ⟨d, ds, rfl, h1, q⟩) he) hg (by decide) (by decide) he hpl
theorem e_listM (hm : X.mg "list" = none) (h : E X PX e env M fun d M1 => ∃ ds, SeqD M1 d ds ∧ ∀ p, M1 p = none → Q (.ref p) (updM M1 p (.lst ds))) (hg : Gl X "list" := by rfl)
    (he : starEach [e] X.env = (false, eval e X.env) :: starEach [] X.env := by rfl) (hpl : (backTo pos (starEach [] X.env)).any (·.1) = false := by rfl) : E X PX (.Call (.Name "list" p) [e] [] pos) env M Q :=
  e_bty (g := fun xs M Q => ∃ d ds, xs = [d] ∧ SeqD M d ds ∧ ∀ p, M p = none → Q (.ref p) (updM M p (.lst ds))) call_list_of (by
    intro S M H xs vs Q R sh m rs ⟨d, ds, e1, hd, q⟩ hR
    subst e1
    obtain ⟨v, rfl, r⟩ := reps1 rs
    obtain ⟨a, xs, rfl, h1, h2⟩ := hd.rd sh m r
    exact ⟨a, xs, rfl, h1, fun l hl => hR _ _ (post_cell sh m hl h2 (q l (m.free hl)))⟩) hm (by decide +kernel) (a_cons (h.imp fun d M1 ⟨ds, h1, q⟩ => a_nil ⟨d, ds, rfl, h1, q⟩) he) hg (by decide) (by decide) he hpl

/-! ### + and * of sequences, slices -/
theorem e_catT (h : E X PX a env M fun x M1 => E X PX b env M1 fun y M2 => ∃ ds es, x = .tup ds ∧ y = .tup es ∧ ds.length + es.length ≤ 100000 ∧ Q (.tup (ds ++ es)) M2) : E X PX (.BinOp a .Add b pos) env M Q :=
  e_op (g := fun x y M Q => ∃ ds es, x = .tup ds ∧ y = .tup es ∧ ds.length + es.length ≤ 100000 ∧ Q (.tup (ds ++ es)) M) op_catA (by
    intro S M H x y v u Q R sh m rx ry ⟨ds, es, e1, e2, hl, q⟩ hR
    subst e1 e2
    obtain ⟨a, xs, rfl, h1, h2⟩ := rx
    obtain ⟨b, ys, rfl, h3, h4⟩ := ry
    refine ⟨a, b, xs, ys, rfl, rfl, Same.tup sh h1, Same.tup sh h3, Nat.le_trans (by rw [h2.len, h4.len]; exact hl) (by decide), fun e => ?_, fun _ e => ?_, fun _ _ p hp => hR _ _ (post_tup sh m hp (h2.append h4) q)⟩
    · have : ds = [] := List.eq_nil_of_length_eq_zero (by rw [← h2.len, e]; rfl)
      subst this
      exact hR _ _ (post_same (d := .tup es) sh m ⟨b, ys, rfl, h3, h4⟩ q)
    · have : es = [] := List.eq_nil_of_length_eq_zero (by rw [← h4.len, e]; rfl)
      subst this
      rw [List.append_nil] at q
      exact hR _ _ (post_same (d := .tup ds) sh m ⟨a, xs, rfl, h1, h2⟩ q)) h
theorem e_catL (h : E X PX a env M fun x M1 => E X PX b env M1 fun y M2 => ∃ ds es, x = .lst ds ∧ y = .lst es ∧ ds.length + es.length ≤ 100000 ∧ Q (.lst (ds ++ es)) M2) : E X PX (.BinOp a .Add b pos) env M Q :=
  e_op (g := fun x y M Q => ∃ ds es, x = .lst ds ∧ y = .lst es ∧ ds.length + es.length ≤ 100000 ∧ Q (.lst (ds ++ es)) M) op_cat (by
    intro S M H x y v u Q R sh m rx ry ⟨ds, es, e1, e2, hl, q⟩ hR
    subst e1 e2
    obtain ⟨a, xs, rfl, h1, h2⟩ := rx
    obtain ⟨b, ys, rfl, h3, h4⟩ := ry
    exact ⟨a, b, xs, ys, rfl, rfl, sh _ _ h1, sh _ _ h3, Nat.le_trans (by rw [h2.len, h4.len]; exact hl) (by decide), fun p hp => hR _ _ (post_lst sh m hp (h2.append h4) q)⟩) h
theorem reps_rep {K : PySem.W.Frag} {S : Hp} {ds : List D} {xs : List V} (r : Reps K S ds xs) : ∀ n : Nat, Reps K S (List.replicate n ds).flatten (List.replicate n xs).flatten
  | 0 => rfl
  | n + 1 => by rw [List.replicate_succ, List.replicate_succ, List.flatten_cons, List.flatten_cons]; exact r.append (reps_rep r n)
theorem e_repL (h : E X PX a env M fun x M1 => E X PX b env M1 fun y M2 => ∃ ds k, x = .lst ds ∧ y = .int k ∧ k ≤ 100000 ∧ -100000 ≤ k ∧ ds.length * k.toNat ≤ 100000 ∧ Q (.lst (List.replicate k.toNat ds).flatten) M2) : E X PX (.BinOp a .Mult b pos) env M Q :=
  e_op (g := fun x y M Q => ∃ ds k, x = .lst ds ∧ y = .int k ∧ k ≤ 100000 ∧ -100000 ≤ k ∧ ds.length * k.toNat ≤ 100000 ∧ Q (.lst (List.replicate k.toNat ds).flatten) M) op_rep (by
    intro S M H x y v u Q R sh m rx ry ⟨ds, k, e1, e2, hk, hk0, hl, q⟩ hR
    subst e1 e2
    obtain ⟨a, xs, rfl, h1, h2⟩ := rx
    exact ⟨a, k, xs, rfl, ry, sh _ _ h1, by omega, by omega, Nat.le_trans (by rw [h2.len]; exact hl) (by decide), fun p hp => hR _ _ (post_lst sh m hp (reps_rep h2 _) q)⟩) h
/-- .. a list that will be changed -/
theorem e_repLM (h : E X PX a env M fun x M1 => E X PX b env M1 fun y M2 => ∃ ds k, x = .lst ds ∧ y = .int k ∧ k ≤ 100000 ∧ -100000 ≤ k ∧ ds.length * k.toNat ≤ 100000 ∧ ∀ p, M2 p = none → Q (.ref p) (updM M2 p (.lst (List.replicate k.toNat ds).flatten))) : E X PX (.BinOp a .Mult b pos) env M Q :=
  e_op (g := fun x y M Q => ∃ ds k, x = .lst ds ∧ y = .int k ∧ k ≤ 100000 ∧ -100000 ≤ k ∧ ds.length * k.toNat ≤ 100000 ∧ ∀ p, M p = none → Q (.ref p) (updM M p (.lst (List.replicate k.toNat ds).flatten))) op_rep (by
    intro S M H x y v u Q R sh m rx ry ⟨ds, k, e1, e2, hk, hk0, hl, q⟩ hR
    subst e1 e2
    obtain ⟨a, xs, rfl, h1, h2⟩ := rx
    exact ⟨a, k, xs, rfl, ry, sh _ _ h1, by omega, by omega, Nat.le_trans (by rw [h2.len]; exact hl) (by decide), fun p hp => hR _ _ (post_cell sh m hp (reps_rep h2 _) (q p (m.free hp)))⟩) h
theorem e_repT2 (h : E X PX a env M fun x M1 => E X PX b env M1 fun y M2 => ∃ ds k, x = .tup ds ∧ y = .int k ∧ ds ≠ [] ∧ 2 ≤ k ∧ k ≤ 1000 ∧ ds.length ≤ 1000 ∧ Q (.tup (List.replicate k.toNat ds).flatten) M2) : E X PX (.BinOp a .Mult b pos) env M Q :=
  e_op (g := fun x y M Q => ∃ ds k, x = .tup ds ∧ y = .int k ∧ ds ≠ [] ∧ 2 ≤ k ∧ k ≤ 1000 ∧ ds.length ≤ 1000 ∧ Q (.tup (List.replicate k.toNat ds).flatten) M) op_repT (by
    intro S M H x y v u Q R sh m rx ry ⟨ds, k, e1, e2, hne, hk, hk1, hl, q⟩ hR
    subst e1 e2
    obtain ⟨a, xs, rfl, h1, h2⟩ := rx
    exact ⟨a, k, xs, rfl, ry, Same.tup sh h1, fun e => hne (List.eq_nil_of_length_eq_zero (by rw [← h2.len, e]; rfl)), hk, hk1, by rw [h2.len]; exact hl, fun p hp => hR _ _ (post_tup sh m hp (reps_rep h2 _) q)⟩) h
/-- a slice of a sequence -/
def cut {α : Type} (xs : List α) (lo hi : Option Int) : List α := (xs.drop (HT.sIx xs.length 0 lo)).take (HT.sIx xs.length xs.length hi - HT.sIx xs.length 0 lo)
theorem reps_cut {K : PySem.W.Frag} {S : Hp} {ds : List D} {xs : List V} (r : Reps K S ds xs) (lo hi : Option Int) : Reps K S (cut ds lo hi) (cutV xs lo hi) := by
  unfold cut cutV
  rw [r.len]
  exact (r.drop _).take _
def semO (X : Cx) (e : Option Expr) : TO := fun σ H Q => ∀ (pins : List (Addr × Obj)) (s : Shared), Inv X pins σ H s → wpAny (model X.prog X.w) X.A (evalPart e X.env) (fun u s' => ∃ o H', Inv X pins σ H' s' ∧ IsPart u o ∧ Q o H') X.xe s
theorem po_sem {e : Option Expr} : PO X e (semO X e) := ⟨fun pins s σ H Q I h => h pins s I⟩
structure O (X : Cx) (PX : PXT) (e : Option Expr) (env : Vars) (M : Mem) (Q : Option Int → Mem → Prop) : Prop where
  run : ∀ S σ H, Ok X S env M σ H → Wish X PX S M H → semO X e σ H fun o H' => ∃ S' M', Pst X.K S M H S' M' H' ∧ Q o M'
theorem O.bind {e : Option Expr} {Q : Option Int → Mem → Prop} {R : Option Int → Hp → Prop} {S0 H : Hp} {σ : St} (h : O X PX e env M Q) (ok : Ok X S0 env M σ H) (wi : Wish X PX S0 M H)
    (k : ∀ S' i M' H', Pst X.K S0 M H S' M' H' → Ok X S' env M' σ H' → Wish X PX S' M' H' → Q i M' → R i H') : semO X e σ H R :=
  fun pins s I => thn (h.run S0 σ H ok wi pins s I) fun u s' ⟨o, H', I', ip, S', M', p, q⟩ => ⟨o, H', I', ip, k S' o M' H' p (ok.step p) (wi.step p) q⟩
theorem o_none {Q : Option Int → Mem → Prop} (q : Q none M) : O X PX none env M Q := ⟨fun S σ H ok wi pins s I => po_none.run pins s σ H _ I ⟨S, M, ok.refl, q⟩⟩
theorem o_some {Q : Option Int → Mem → Prop} (h : E X PX e env M fun d M1 => ∃ i, d = .int i ∧ Q (some i) M1) : O X PX (some e) env M Q :=
  ⟨fun S σ H ok wi pins s I => (po_some pe_sem).run pins s σ H _ I (h.bind ok wi fun S1 d M1 v H1 p1 ok1 wi1 r ⟨i, e1, q⟩ => by subst e1; exact ⟨i, r, S1, M1, p1, q⟩)⟩
theorem e_sl {lo hi : Option Expr} {r : V → Option Int → Option Int → Hp → VK → Prop} {g : D → Option Int → Option Int → Mem → QD → Prop} (hr : SlR X r)
    (hd : ∀ S M H x v l u Q R, Same S H → MemOk X.K S M H → Rep X.K S x v → g x l u M Q → (∀ z H', Post X.K S M H Q z H' → R z H') → r v l u H R)
    (h : E X PX e env M fun x M1 => O X PX lo env M1 fun l M2 => O X PX hi env M2 fun u M3 => g x l u M3 Q) : E X PX (.Subscript e (.Slice lo hi none p) pos) env M Q :=
  ⟨fun S σ H ok wi => semE_of (pe_slice hr pe_sem po_sem po_sem) (h.bind ok wi fun S1 x M1 v H1 p1 ok1 wi1 rx ho => ho.bind ok1 wi1 fun S2 l M2 H2 p2 ok2 wi2 ho2 => ho2.bind ok2 wi2 fun S3 u M3 H3 p3 ok3 wi3 q =>
    hd S3 M3 H3 x v l u Q _ p3.sh p3.mem (Rep.mono (p2.ss.trans p3.ss) _ _ rx) q fun z H' q' => ((q'.trans p3).trans p2).trans p1)⟩
theorem cut_whole {α : Type} {xs : List α} {lo hi : Option Int} (h : HT.sIx xs.length 0 lo = 0 ∧ HT.sIx xs.length xs.length hi = xs.length) : cut xs lo hi = xs := by
  unfold cut
  rw [h.1, h.2]
  simp
theorem e_slT {lo hi : Option Expr} (h : E X PX e env M fun x M1 => O X PX lo env M1 fun l M2 => O X PX hi env M2 fun u M3 => ∃ ds, x = .tup ds ∧ Q (.tup (cut ds l u)) M3) : E X PX (.Subscript e (.Slice lo hi none p) pos) env M Q :=
  e_sl (g := fun x l u M Q => ∃ ds, x = .tup ds ∧ Q (.tup (cut ds l u)) M) sl_tupA (by
    intro S M H x v l u Q R sh m rx ⟨ds, e1, q⟩ hR
    subst e1
    obtain ⟨a, xs, rfl, h1, h2⟩ := rx
    refine ⟨a, xs, rfl, Same.tup sh h1, fun hw => ?_, fun _ p hp => hR _ _ (post_tup sh m hp (reps_cut h2 l u) q)⟩
    rw [h2.len] at hw
    rw [cut_whole hw] at q
    exact hR _ _ (post_same (d := .tup ds) sh m ⟨a, xs, rfl, h1, h2⟩ q)) h
theorem e_slL {lo hi : Option Expr} (h : E X PX e env M fun x M1 => O X PX lo env M1 fun l M2 => O X PX hi env M2 fun u M3 => ∃ ds, SeqD M3 x ds ∧ (∀ es, x ≠ .tup es) ∧ Q (.lst (cut ds l u)) M3) : E X PX (.Subscript e (.Slice lo hi none p) pos) env M Q :=
  e_sl (g := fun x l u M Q => ∃ ds, SeqD M x ds ∧ (∀ es, x ≠ .tup es) ∧ Q (.lst (cut ds l u)) M) sl_list (by
    intro S M H x v l u Q R sh m rx ⟨ds, hs, hn, q⟩ hR
    have hh : ∃ a xs, v = .ref a ∧ SqL X.K H a xs ∧ Reps X.K S ds xs := by
      cases hs with
      | tup => exact absurd rfl (hn _)
      | lst => obtain ⟨a, xs, rfl, h1, h2⟩ := rx; exact ⟨a, xs, rfl, SqL.of (sh _ _ h1), h2⟩
      | rol => obtain ⟨a, xs, rfl, h1, h2⟩ := rx; exact ⟨a, xs, rfl, Same.seq sh h1, h2⟩
      | cell hc => obtain ⟨_, xs, h1, h2⟩ := m _ _ hc; exact ⟨_, xs, rx, SqL.of h1, h2⟩
    obtain ⟨a, xs, rfl, h1, h2⟩ := hh
    exact ⟨a, xs, rfl, h1, fun p hp => hR _ _ (post_lst sh m hp (reps_cut h2 l u) q)⟩) h

/-! ### methods of built-in lists -/
theorem e_bm {T id : String} {r : V → List V → Hp → VK → Prop} {ty : D → Mem → Prop} {g : D → List D → Mem → QD → Prop} (pa : PlainAttrs T) (slot : Slot T m id) (hty : typeOf (.builtin id) = pure (.type "method_descriptor")) (hm : MtR X id r)
    (hT : ∀ S M H d v, Same S H → MemOk X.K S M H → Rep X.K S d v → ty d M → tyV X.K T v H)
    (hd : ∀ S M H d ds v vs Q R, Same S H → MemOk X.K S M H → Rep X.K S d v → Reps X.K S ds vs → g d ds M Q → (∀ z H', Post X.K S M H Q z H' → R z H') → r v vs H R)
    (h : E X PX o env M fun x M1 => ty x M1 ∧ A X PX (e :: es) env M1 fun ds M2 => g x ds M2 Q)
    (hbase : attributeBase o m X.env (eval o X.env) = eval o X.env := by rfl)
    (hfew : ((backTo pos (starEach (e :: es) X.env)).all (fun x => !x.1) && (backToKw pos (keywordEach [] X.env)).all (fun x => x.1.isSome)
      && decide ((e :: es).length + ([] : List Keyword).length + (if ([] : List Keyword).isEmpty then 0 else 1) < 30)) = true := by rfl)
    (hline : (apos.endLine == pos.line) = true := by rfl) (hs : starEach (e :: es) X.env = (false, eval e X.env) :: starEach es X.env := by rfl) (hplain : (backTo pos (starEach es X.env)).any (·.1) = false := by rfl) :
    E X PX (.Call (.Attribute o m apos) (e :: es) [] pos) env M Q :=
  ⟨fun S σ H ok wi => semE_of (pe_bm pa slot hty hm pe_sem pa_sem hbase hfew hline hs hplain) (h.bind ok wi fun S1 d M1 v H1 p1 ok1 wi1 r1 ⟨ht, ha⟩ => ⟨hT S1 M1 H1 d v ok1.sh ok1.mem r1 ht, ha.bind ok1 wi1 fun S2 ds M2 vs H2 p2 ok2 wi2 rs q =>
    hd S2 M2 H2 d ds v vs Q _ ok2.sh ok2.mem (Rep.mono p2.ss _ _ r1) rs q fun z H' q' => (q'.trans p2).trans p1⟩)⟩
theorem e_append (h : E X PX o env M fun x M1 => ∃ q ds0, x = .ref q ∧ M1 q = some (.lst ds0) ∧ E X PX a env M1 fun y M2 => ∃ ds, M2 q = some (.lst ds) ∧ ds.length < 100000 ∧ Q .non (updM M2 q (.lst (ds ++ [y]))))
    (hbase : attributeBase o "append" X.env (eval o X.env) = eval o X.env := by rfl)
    (hfew : ((backTo pos (starEach [a] X.env)).all (fun x => !x.1) && (backToKw pos (keywordEach [] X.env)).all (fun x => x.1.isSome)
      && decide ([a].length + ([] : List Keyword).length + (if ([] : List Keyword).isEmpty then 0 else 1) < 30)) = true := by rfl)
    (hline : (apos.endLine == pos.line) = true := by rfl) (hs : starEach [a] X.env = (false, eval a X.env) :: starEach [] X.env := by rfl) (hplain : (backTo pos (starEach [] X.env)).any (·.1) = false := by rfl) :
    E X PX (.Call (.Attribute o "append" apos) [a] [] pos) env M Q :=
  e_bm (ty := fun d M => ∃ q ds0, d = .ref q ∧ M q = some (.lst ds0)) (g := fun d es M Q => ∃ q ds y, d = .ref q ∧ es = [y] ∧ M q = some (.lst ds) ∧ ds.length < 100000 ∧ Q .non (updM M q (.lst (ds ++ [y]))))
    PySem.F.plainAttrs_list PySem.F.slot_list_append PySem.F.type_list_append mt_append (by
      intro S M H d v sh m r ⟨q, ds0, e1, hq⟩
      subst e1
      obtain ⟨_, xs, h1, _⟩ := m _ _ hq
      rw [show v = V.ref q from r]
      exact Or.inl ⟨rfl, xs, SqL.of h1⟩) (by
      intro S M H d es v vs Q R sh m r rs ⟨q, ds, y, e1, e2, hq, hl, k⟩ hR
      subst e1 e2
      obtain ⟨u, rfl, ru⟩ := reps1 rs
      obtain ⟨_, xs, h1, h2⟩ := m _ _ hq
      refine ⟨q, xs, u, r, rfl, h1, Nat.lt_of_lt_of_le (show xs.length < 100000 by rw [h2.len]; exact hl) (by decide), hR _ _ ?_⟩
      exact ⟨S, .non, _, Pst.write (c := .lst (ds ++ [y])) sh m (by rw [hq]; intro z; cases z) ⟨_, upd_same, h2.append ⟨u, [], rfl, ru, rfl⟩⟩, rfl, k⟩)
    (h.imp fun x M1 ⟨q, ds0, e1, h0, ha⟩ => ⟨⟨q, ds0, e1, h0⟩, a_cons (ha.imp fun y M2 ⟨ds, hq, hl, k⟩ => a_nil ⟨q, ds, y, e1, rfl, hq, hl, k⟩) hs⟩) hbase hfew hline hs hplain

/-! ### fields of own instances -/
inductive FAt : List (Str × D) → Str → D → Prop
  | here {f : Str} {d : D} {r : List (Str × D)} : FAt ((f, d) :: r) f d
  | there {g f : Str} {x d : D} {r : List (Str × D)} : ¬ f = g → FAt r f d → FAt ((g, x) :: r) f d
inductive FPut : List (Str × D) → Str → D → List (Str × D) → Prop
  | here {f : Str} {x d : D} {r : List (Str × D)} : FPut ((f, x) :: r) f d ((f, d) :: r)
  | there {g f : Str} {x d : D} {r r' : List (Str × D)} : ¬ g = f → FPut r f d r' → FPut ((g, x) :: r) f d ((g, x) :: r')
  | last {f : Str} {d : D} : FPut [] f d [(f, d)]
inductive FNo : List (Str × D) → Str → Prop
  | nil {f : Str} : FNo [] f
  | cons {g f : Str} {x : D} {r : List (Str × D)} : ¬ f = g → FNo r f → FNo ((g, x) :: r) f
theorem FAt.rd {K : PySem.W.Frag} {S : Hp} {fs : List (Str × D)} {gs : List (Str × V)} {d : D} (h : FAt fs f d) (r : FRep K S fs gs) : ∃ v, gs.lookup f = some v ∧ Rep K S d v := by
  induction h generalizing gs with
  | here => cases r with
    | @cons p q _ _ h1 _ =>
      obtain ⟨e, r1⟩ := h1
      obtain ⟨g, v⟩ := q
      cases e
      exact ⟨v, by simp [List.lookup], r1⟩
  | @there g f' x d' rr hne _ ih => cases r with
    | @cons p q _ _ h1 h2 =>
      obtain ⟨e, r1⟩ := h1
      obtain ⟨g', v⟩ := q
      cases e
      obtain ⟨u, e1, e2⟩ := ih h2
      refine ⟨u, ?_, e2⟩
      rw [List.lookup, beq_eq_false_iff_ne.mpr hne]
      exact e1
theorem FNo.rd {K : PySem.W.Frag} {S : Hp} {fs : List (Str × D)} {gs : List (Str × V)} (h : FNo fs f) (r : FRep K S fs gs) : gs.lookup f = none := by
  induction h generalizing gs with
  | nil => cases r; rfl
  | @cons g f' x rr hne _ ih => cases r with
    | @cons p q _ _ h1 h2 =>
      obtain ⟨e, r1⟩ := h1
      obtain ⟨g', v⟩ := q
      cases e
      rw [List.lookup, beq_eq_false_iff_ne.mpr hne]
      exact ih h2
theorem FPut.rd {K : PySem.W.Frag} {S : Hp} {fs fs' : List (Str × D)} {gs : List (Str × V)} {d : D} {v : V} (h : FPut fs f d fs') (r : FRep K S fs gs) (rd : Rep K S d v) : FRep K S fs' (putF f v gs) := by
  induction h generalizing gs with
  | @here f' x d' rr => cases r with
    | @cons p q _ _ h1 h2 =>
      obtain ⟨e, r1⟩ := h1
      obtain ⟨g', u⟩ := q
      cases e
      show FRep K S _ (if f' = f' then (f', v) :: _ else _)
      rw [if_pos rfl]
      exact .cons ⟨rfl, rd⟩ h2
  | @there g f' x d' rr rr' hne _ ih => cases r with
    | @cons p q _ _ h1 h2 =>
      obtain ⟨e, r1⟩ := h1
      obtain ⟨g', u⟩ := q
      cases e
      show FRep K S _ (if g = f' then _ else (g, u) :: putF f' v _)
      rw [if_neg hne]
      exact .cons ⟨rfl, r1⟩ (ih h2 rd)
  | last => cases r; exact .cons ⟨rfl, rd⟩ .nil
theorem FRep.len {K : PySem.W.Frag} {S : Hp} {fs : List (Str × D)} {gs : List (Str × V)} (r : FRep K S fs gs) : gs.length = fs.length := (Paired.length r).symm
/-- o.f -/
theorem e_fld (hb : attributeBase e f X.env (eval e X.env) = eval e X.env := by rfl) {C : Addr} (cl : Cls X.K C) (na : NoAttr X.K C f) (h : E X PX e env M fun x M1 => ∃ a fs d, x = .ref a ∧ M1 a = some (.ins C fs) ∧ FAt fs f d ∧ Q d M1) : E X PX (.Attribute e f pos) env M Q :=
  ⟨fun S σ H ok wi => semE_of (pe_fld pe_sem hb) (h.bind ok wi fun S1 x M1 v H1 p1 ok1 wi1 r ⟨a, fs, d, e1, hm, hf, q⟩ => by
    subst e1
    obtain ⟨_, dx, gs, h1, h2⟩ := ok1.mem _ _ hm
    obtain ⟨u, h3, h4⟩ := hf.rd h2
    exact ⟨a, C, dx, gs, u, r, h1, cl, na, h3, (post_same ok1.sh ok1.mem h4 q).trans p1⟩)⟩
/-- o.f = e -/
theorem s_fld {p' : Pos} {C : Addr} (cl : Cls X.K C) (na : NoAttr X.K C f) (h : E X PX e env M fun d M1 => E X PX o env M1 fun x M2 => ∃ a fs fs', x = .ref a ∧ M2 a = some (.ins C fs) ∧ fs.length < 900 ∧ FPut fs f d fs' ∧ P.nx env (updM M2 a (.ins C fs')))
    (hs : swapsWith e (some (.Attribute o f p')) pos.line X.env = pure false := by rfl) : S X PX (.Assign [.Attribute o f p'] e pos) env M P :=
  ⟨fun S σ H ok wi => semS_of (ps_fld pe_sem pe_sem hs) (h.bind ok wi fun S1 d M1 v H1 p1 ok1 wi1 r ho => ho.bind ok1 wi1 fun S2 x M2 u H2 p2 ok2 wi2 rx ⟨a, fs, fs', e1, hm, hl, hf, q⟩ => by
    subst e1
    obtain ⟨_, dx, gs, h1, h2⟩ := ok2.mem _ _ hm
    have pw := Pst.write (o := .ins C dx (putF f v gs)) (c := .ins C fs') ok2.sh ok2.mem (by rw [hm]; intro z; cases z) ⟨dx, _, upd_same, hf.rd h2 (Rep.mono p2.ss _ _ r)⟩
    exact ⟨a, C, dx, gs, rx, h1, cl, na, by rw [h2.len]; omega, _, env, _, (p1.trans p2).trans pw, ok2.step pw, q⟩)⟩
/-- o.f += e (ints) -/
theorem s_fldAdd {C : Addr} (cl : Cls X.K C) (na : NoAttr X.K C f) (h : E X PX o env M fun x M1 => ∃ a fs i, x = .ref a ∧ M1 a = some (.ins C fs) ∧ FAt fs f (.int i) ∧ E X PX e env M1 fun y M2 => ∃ j fs2 fs', y = .int j ∧ M2 a = some (.ins C fs2) ∧ fs2.length < 900 ∧ FPut fs2 f (.int (i + j)) fs' ∧ P.nx env (updM M2 a (.ins C fs'))) :
    S X PX (.AugAssign (.Attribute o f p) .Add e pos) env M P :=
  ⟨fun S σ H ok wi => semS_of (ps_fldaug pe_sem pe_sem in_add) (h.bind ok wi fun S1 x M1 v H1 p1 ok1 wi1 r ⟨a, fs, i, e1, hm, hf, he⟩ => by
    subst e1
    obtain ⟨_, dx, gs, h1, h2⟩ := ok1.mem _ _ hm
    obtain ⟨u, h3, h4⟩ := hf.rd h2
    refine ⟨a, C, dx, gs, u, r, h1, cl, na, h3, he.bind ok1 wi1 fun S2 y M2 w H2 p2 ok2 wi2 ry ⟨j, fs2, fs', e2, hm2, hl, hp, q⟩ => ?_⟩
    subst e2
    obtain ⟨_, dx2, gs2, k1, k2⟩ := ok2.mem _ _ hm2
    have pw := Pst.write (o := .ins C dx2 (putF f (.int (i + j)) gs2)) (c := .ins C fs') ok2.sh ok2.mem (by rw [hm2]; intro z; cases z) ⟨dx2, _, upd_same, hp.rd k2 rfl⟩
    exact ⟨i, j, h4, ry, dx2, gs2, k1, by rw [k2.len]; omega, _, env, _, (p1.trans p2).trans pw, ok2.step pw, q⟩)⟩
/-- o.f *= e (ints) -/
theorem in_mulW : InOp X .Mult (fun x y H Q => ∃ i j, x = .int i ∧ y = .int j ∧ CMulW i j ∧ Q (.int (i * j)) H) := by
  rintro pins s σ H x y u v Q I rx ry ⟨i, j, rfl, rfl, hc, q⟩
  obtain ⟨t, rfl⟩ := (show ∃ t, u = Value.int i t from rx)
  obtain ⟨t', rfl⟩ := (show ∃ t', v = Value.int j t' from ry)
  exact PyProof.Rows.imul_int ⟨.int _, H, I.tok _, ⟨_, rfl⟩, q⟩ hc.ok
theorem s_fldMul {C : Addr} (cl : Cls X.K C) (na : NoAttr X.K C f) (h : E X PX o env M fun x M1 => ∃ a fs i, x = .ref a ∧ M1 a = some (.ins C fs) ∧ FAt fs f (.int i) ∧ E X PX e env M1 fun y M2 => ∃ j fs2 fs', y = .int j ∧ CMulW i j ∧ M2 a = some (.ins C fs2) ∧ fs2.length < 900 ∧ FPut fs2 f (.int (i * j)) fs' ∧ P.nx env (updM M2 a (.ins C fs'))) :
    S X PX (.AugAssign (.Attribute o f p) .Mult e pos) env M P :=
  ⟨fun S σ H ok wi => semS_of (ps_fldaug pe_sem pe_sem in_mulW) (h.bind ok wi fun S1 x M1 v H1 p1 ok1 wi1 r ⟨a, fs, i, e1, hm, hf, he⟩ => by
    subst e1
    obtain ⟨_, dx, gs, h1, h2⟩ := ok1.mem _ _ hm
    obtain ⟨u, h3, h4⟩ := hf.rd h2
    refine ⟨a, C, dx, gs, u, r, h1, cl, na, h3, he.bind ok1 wi1 fun S2 y M2 w H2 p2 ok2 wi2 ry ⟨j, fs2, fs', e2, hc, hm2, hl, hp, q⟩ => ?_⟩
    subst e2
    obtain ⟨_, dx2, gs2, k1, k2⟩ := ok2.mem _ _ hm2
    have pw := Pst.write (o := .ins C dx2 (putF f (.int (i * j)) gs2)) (c := .ins C fs') ok2.sh ok2.mem (by rw [hm2]; intro z; cases z) ⟨dx2, _, upd_same, hp.rd k2 rfl⟩
    exact ⟨i, j, h4, ry, hc, dx2, gs2, k1, by rw [k2.len]; omega, _, env, _, (p1.trans p2).trans pw, ok2.step pw, q⟩)⟩

/-! ### methods of own instances, new instances -/
structure MDef (P : Program) (w : World) (K : PySem.W.Frag) (mg : Str → Option Value) (base : Heap) (C : Addr) (m : Str) (k : Nat) (sp : DSp) : Prop where
  ex : ∃ f fd ps, FnOk P w K mg base (L2.CX P w) k f fd ps (lift K sp) ∧ Meth K C m f ∧ Binds K fd ps []
theorem pass_of {S H : Hp} {M : Mem} (wi : Wish X PX S M H) : Passes (L2.CX X.prog X.w) X (fun cls d H' => XPost X.K S M H PX cls d H') := passes_call wi.tk fun _ _ _ _ h => h
theorem e_meth {sp : DSp} {k : Nat} {C : Addr} (h : E X PX o env M fun x M1 => ∃ a fs, x = .ref a ∧ M1 a = some (.ins C fs) ∧ FNo fs m ∧ A X PX (e :: es) env M1 fun ds M2 => sp (.ref a :: ds) M2 Q PX)
    (hpe : ∀ Ex : XK, Passes (L2.CX X.prog X.w) X Ex → PE X (.Call (.Attribute o m apos) (e :: es) [] pos) (tMeth C m (lift X.K sp) [] Ex (semE X o) (semA X (e :: es)))) : E X PX (.Call (.Attribute o m apos) (e :: es) [] pos) env M Q :=
  ⟨fun S σ H ok wi => semE_of (hpe _ (pass_of wi)) (h.bind ok wi fun S1 x M1 v H1 p1 ok1 wi1 r ⟨a, fs, e1, hm, hf, ha⟩ => by
    subst e1
    obtain ⟨_, dx, gs, h1, h2⟩ := ok1.mem _ _ hm
    refine ⟨a, dx, gs, r, h1, hf.rd h2, ha.bind ok1 wi1 fun S2 ds M2 vs H2 p2 ok2 wi2 rs hs => ?_⟩
    rw [List.append_nil]
    exact lift_of (ds := .ref a :: ds) (p1.trans p2) ⟨v, vs, rfl, Rep.mono p2.ss _ _ r, rs⟩ hs)⟩
theorem e_meth0 {sp : DSp} {k : Nat} {C : Addr} (h : E X PX o env M fun x M1 => ∃ a fs, x = .ref a ∧ M1 a = some (.ins C fs) ∧ FNo fs m ∧ sp [.ref a] M1 Q PX)
    (hpe : ∀ Ex : XK, Passes (L2.CX X.prog X.w) X Ex → PE X (.Call (.Attribute o m apos) [] [] pos) (tMeth C m (lift X.K sp) [] Ex (semE X o) tNil)) : E X PX (.Call (.Attribute o m apos) [] [] pos) env M Q :=
  ⟨fun S σ H ok wi => semE_of (hpe _ (pass_of wi)) (h.bind ok wi fun S1 x M1 v H1 p1 ok1 wi1 r ⟨a, fs, e1, hm, hf, hs⟩ => by
    subst e1
    obtain ⟨_, dx, gs, h1, h2⟩ := ok1.mem _ _ hm
    exact ⟨a, dx, gs, r, h1, hf.rd h2, lift_of (ds := [.ref a]) p1 ⟨v, [], rfl, r, rfl⟩ hs⟩)⟩
theorem e_make {sp : DSp} {C : Addr} (h : A X PX (e :: es) env M fun ds M1 => ∀ a, M1 a = none → sp (.ref a :: ds) (updM M1 a (.ins C [])) (fun d M2 => d = .non ∧ Q (.ref a) M2) PX)
    (hpe : ∀ Ex : XK, Passes (L2.CX X.prog X.w) X Ex → PE X (.Call (.Name x p) (e :: es) [] pos) (tMake C (lift X.K sp) [] Ex (semA X (e :: es)))) : E X PX (.Call (.Name x p) (e :: es) [] pos) env M Q :=
  ⟨fun S σ H ok wi => semE_of (hpe _ (pass_of wi)) (h.bind ok wi fun S1 ds M1 vs H1 p1 ok1 wi1 rs hs => fun a dx ha hdx hne => by
    rw [List.append_nil]
    have q1 := ok1.refl.untracked (o := .own a) hdx (Same.free ok1.sh hdx) (ok1.mem.free hdx)
    have q2 := Pst.cell (p := a) (o := .ins C dx []) (c := .ins C []) q1.sh q1.mem (by rw [upd_ne hne.symm]; exact ha) ⟨dx, [], upd_same, .nil⟩
    have q3 := (p1.trans q1).trans q2
    refine ⟨S1, .ref a :: ds, _, fun d M2 => d = .non ∧ Q (.ref a) M2, PX, q3.sh, q3.mem, ⟨_, vs, rfl, rfl, rs⟩, hs a (ok1.mem.free ha), fun v H' ⟨S', d, M', p', rd, ed, q⟩ => ?_, fun _ _ _ ⟨S', M', fs, q, xr, z⟩ => ⟨S', M', fs, q3.trans q, xr, z⟩⟩
    subst ed
    exact ⟨rd, S', .ref a, M', q3.trans p', rfl, q⟩)⟩
end
end DL

/-! DL5: answers to the questions of the rules, for the walk -/
namespace DL
open PySem L2
theorem x_ii {a b : Int} {Q : Int → Int → Prop} (h : Q a b) : ∃ i j, D.int a = D.int i ∧ D.int b = D.int j ∧ Q i j := ⟨_, _, rfl, rfl, h⟩
theorem x_i {a : Int} {Q : Int → Prop} (h : Q a) : ∃ i, D.int a = D.int i ∧ Q i := ⟨_, rfl, h⟩
theorem x_b {a : Bool} {Q : Bool → Prop} (h : Q a) : ∃ i, D.bl a = D.bl i ∧ Q i := ⟨_, rfl, h⟩
theorem x_par {env e1 e2 : Vars} {x y : Str} {a b : D} {Q : Vars → Prop} (h1 : Put env x a e1) (h2 : Put e1 y b e2) (h : Q e2) : ∃ d1 d2 env1 env2, [a, b] = [d1, d2] ∧ Put env x d1 env1 ∧ Put env1 y d2 env2 ∧ Q env2 := ⟨_, _, _, _, rfl, h1, h2, h⟩
theorem x_put {env e1 : Vars} {x : Str} {a : D} {Q : Vars → Prop} (h1 : Put env x a e1) (h : Q e1) : ∃ env', Put env x a env' ∧ Q env' := ⟨_, h1, h⟩
theorem x_le {n : Nat} {Q : Prop} (h : Q) (hn : Nat.ble n 1000 = true := by exact rfl) : n ≤ 1000 ∧ Q := ⟨Nat.le_of_ble_eq_true hn, h⟩
theorem x_tup {ds : List D} {n : Nat} {Q : List D → Prop} (h : Q ds) (hn : ds.length = n := by exact rfl) : ∃ es, D.tup ds = D.tup es ∧ es.length = n ∧ Q es := ⟨_, rfl, hn, h⟩
theorem x_tup1 {ds : List D} {Q : List D → Prop} (h : Q ds) : ∃ es, D.tup ds = D.tup es ∧ Q es := ⟨_, rfl, h⟩
theorem x_ixT {M : Mem} {Q : QD} {ds : List D} {i : Int} {d : D} (h : atI ds i = some d) (q : Q d M) : gIx (.tup ds) (.int i) M Q := ⟨i, d, rfl, q, .inl ⟨ds, rfl, h⟩⟩
theorem x_ixL {M : Mem} {Q : QD} {ds : List D} {i : Int} {d : D} (h : atI ds i = some d) (q : Q d M) : gIx (.lst ds) (.int i) M Q := ⟨i, d, rfl, q, .inr (.inl ⟨ds, .inl rfl, h⟩)⟩
theorem x_ixR {M : Mem} {Q : QD} {ds : List D} {i : Int} {d : D} (h : atI ds i = some d) (q : Q d M) : gIx (.rol ds) (.int i) M Q := ⟨i, d, rfl, q, .inr (.inl ⟨ds, .inr rfl, h⟩)⟩
theorem x_ixM {M : Mem} {Q : QD} {a : Addr} {ds : List D} {i : Int} {d : D} (hm : M a = some (.lst ds)) (h : atI ds i = some d) (q : Q d M) : gIx (.ref a) (.int i) M Q := ⟨i, d, rfl, q, .inr (.inr ⟨a, ds, rfl, hm, h⟩)⟩
theorem x_len {M : Mem} {d : D} {n : Nat} {Q : Nat → Prop} (h : LenD M d n) (q : Q n) : ∃ n : Nat, LenD M d n ∧ Q n := ⟨n, h, q⟩
theorem at_nat {α : Type} {xs : List α} {i : Nat} {d : α} (h : xs[i]? = some d) : atI xs (i : Int) = some d := atI_nat h
theorem mulL {i j : Int} (h : -1000000000 ≤ i ∧ i ≤ 1000000000) : CMul i j ∨ CMulW i j := .inl (.inl (by omega))
theorem mulR {i j : Int} (h : -1000000000 ≤ j ∧ j ≤ 1000000000) : CMul i j ∨ CMulW i j := .inl (.inr (by omega))
theorem divS {i j : Int} (h : 0 < j ∧ j ≤ 1000000000) : CDiv i j ∨ CDivW i j := .inl (by unfold CDiv; omega)
theorem divN {i j : Int} (h : 0 < j) (hb : j.natAbs < 2 ^ 5000) : CDiv i j ∨ CDivW i j := .inr (wide_div h hb (by decide) (by decide))
theorem hu64 {k : Nat} {A : Around} (hr : Room k A) : A.units + 64 < cLine := by have := hr.un; omega
theorem hu1 {k : Nat} {A : Around} (hr : Room k A) : A.units + 1 < cLine := by have := hr.un; omega
end DL

/-! DL6: enumerate and zip of tuples and lists, isinstance, tuple * 1 -/
namespace DL
open PySem L2

/-! ### sources: a tuple or a list that is read -/
inductive Sk where | tup | lst
def SrcQ (K : PySem.W.Frag) (H : Hp) (k : Sk) (a : Addr) (xs : List V) : Prop := match k with | .tup => SqT K H a xs | .lst => SqL K H a xs
def SrcH (k : Sk) (h : Heap) (a : Addr) (its : Array Value) : Prop := match k with | .tup => h.IsTuple a its | .lst => h.IsList a its
def SrcI (k : Sk) (h : Heap) (it a : Addr) (i : Nat) : Prop := match k with | .tup => h.IsTupleIter it a i | .lst => h.IsListIter it a i
def SrcO (k : Sk) (a : Addr) : Obj := match k with | .tup => { cls := .type "tuple_iterator", data := .fields #[.ref a, .int 0 0] } | .lst => { cls := .type "list_iterator", data := .fields #[.ref a, .int 0 0] }
theorem SrcQ.mono {K : PySem.W.Frag} {H H' : Hp} {k : Sk} {a : Addr} {xs : List V} (e : Same H H') (h : SrcQ K H k a xs) : SrcQ K H' k a xs := by
  cases k with
  | tup => exact Same.tup e h
  | lst => exact Same.seq e h
section
variable {X : Cx} {pins : List (Addr × Obj)} {σ : St} {H : Hp} {s : Shared}
theorem Inv.src (I : Inv X pins σ H s) {k : Sk} {a : Addr} {xs : List V} (h : SrcQ X.K H k a xs) : ∃ its : List Value, Vals xs its ∧ SrcH k s.heap a its.toArray ∧ xs.length ≤ sizeLine ∧ a < s.heap.objs.size := by
  cases k with
  | tup => obtain ⟨its, rv, p, hz⟩ := I.tuple h; exact ⟨its, rv, p, hz, p.lt⟩
  | lst => obtain ⟨its, rv, p, hz⟩ := I.list h; exact ⟨its, rv, p.isList, hz, p.lt⟩
theorem Inv.src_inj (I : Inv X pins σ H s) {k : Sk} {a : Addr} {xs ys : List V} (h : SrcQ X.K H k a xs) (h' : SrcQ X.K H k a ys) : xs = ys := by
  cases k with
  | tup => exact I.tuple_inj h h'
  | lst => exact I.list_inj h h'
end
theorem SrcI.obj {k : Sk} {h : Heap} {it a : Addr} {i : Nat} (x : SrcI k h it a i) : ∃ o, h.get? it = some o ∧ ∀ v, o.data ≠ .cell v := by
  cases k with
  | tup => obtain ⟨o, e, _, d⟩ := x; exact ⟨o, e, fun v z => by rw [d] at z; cases z⟩
  | lst => obtain ⟨o, e, _, d⟩ := x; exact ⟨o, e, fun v z => by rw [d] at z; cases z⟩
theorem SrcI.keep {k : Sk} {h h' : Heap} {it a : Addr} {i : Nat} (x : SrcI k h it a i) (hk : ∀ o, h.get? it = some o → h'.get? it = some o) : SrcI k h' it a i := by
  cases k with
  | tup => exact Heap.IsTupleIter.at x hk
  | lst => exact Heap.IsListIter.at x hk
theorem draws_src {prog : Program} {w : World} {A : Around} (hh : A.handled = none) (k : Sk) (it a : Addr) (hne : a ≠ it) (its : Array Value) :
    Draws prog w A it [it, a] its.size (fun i v => its[i]? = some v) (fun i h => SrcI k h it a i ∧ SrcH k h a its) := by
  cases k with
  | tup => exact Draws.tuple hh it a hne its
  | lst => exact Draws.list hh it a hne its
theorem begins_src (k : Sk) (a : Addr) (its : Array Value) : Begins (.ref a) (SrcO k a) fun h => SrcH k h a its := by
  cases k with
  | tup => exact begins_tuple a its
  | lst => exact begins_list a its
theorem srcI_new {k : Sk} {h : Heap} {it a : Addr} (e : h.get? it = some (SrcO k a)) : SrcI k h it a 0 := by
  cases k with
  | tup => exact ⟨_, e, rfl, rfl⟩
  | lst => exact ⟨_, e, rfl, rfl⟩

/-! ### enumerate(a source) -/
def ItE (K : PySem.W.Frag) (k : Sk) (a : Addr) : It :=
  ⟨fun i H => ∃ (xs : List V) (x : V), SrcQ K H k a xs ∧ xs[i]? = some x, fun i H v H' => ∃ T x, v = .ref T ∧ H T = none ∧ H' = upd H T (.tup [.int (i : Nat), x]) ∧ ∀ xs, SrcQ K H k a xs → xs[i]? = some x, fun i H => ∃ xs : List V, SrcQ K H k a xs ∧ xs.length = i⟩
theorem turn_enumS {P : Program} {w : World} {K : PySem.W.Frag} {elts : List Expr} {kk : Nat} {tpos : Pos} (k : Sk) (a e it : Addr) (hei : e ≠ it) (hae : a ≠ e) (hai : a ≠ it) :
    Turn P w K (.Tuple elts kk tpos) (ItE K k a) [e, it] e (fun i h => (∃ old, IsEnum h e it ((0 : Int) + (i : Int)) old) ∧ SrcI k h it a i) where
  mem := List.mem_cons_self
  obj := fun i h ⟨⟨old, he⟩, hi⟩ b hb => by
    have e' : b = e ∨ b = it := by simpa using hb
    rcases e' with q | q
    · rw [q]; exact ⟨_, he, fun v q => nomatch q⟩
    · rw [q]; exact hi.obj
  keep := fun i h h' ⟨⟨old, he⟩, hi⟩ hk => ⟨⟨old, hk e (by simp) _ he⟩, hi.keep fun o q => hk it (by simp) o q⟩
  item := by
    intro X hP hw hK hc i pins s σ H E I hf ⟨⟨old, he⟩, hi⟩ hg
    subst hP hw hK
    obtain ⟨xs, x, hq, hx⟩ := hg
    obtain ⟨its, rv, hs, hz, _⟩ := Inv.src I hq
    obtain ⟨u, hu, ru⟩ := rv.get hx
    have hil : i < its.toArray.size := by
      have := (List.getElem?_eq_some_iff.mp hu).1
      simpa using this
    have hh : X.A.in1.handled = none := I.ok.hd hc
    have W := WalksT.enumFrom (0 : Int) (draws_src (prog := X.prog) (w := X.w) hh k it a hai its.toArray) e hei (by
      intro z
      rcases List.mem_cons.mp z with z | z
      · exact hei z
      · exact hae (List.mem_singleton.mp z).symm) List.mem_cons_self
    have helt : e < s.heap.objs.size := Heap.lt_size he
    obtain ⟨oi, ei, _⟩ := hi.obj
    have hilt : it < s.heap.objs.size := Heap.lt_size ei
    refine W.item i s _ E hil ⟨⟨old, he⟩, hi, hs⟩ fun T vals h' tk ⟨t, y, hy, hvs⟩ hT hTu hm hk => ⟨.ref T, rfl, ?_⟩
    have ey : y = u := by
      have q1 : its.toArray[i]? = some u := by simpa using hu
      rw [q1] at hy
      exact (Option.some.inj hy).symm
    subst ey
    refine W.go elts kk tpos i T { s with heap := h', toks := tk } _ E hm fun h'' st'' hk'' => ?_
    have aT : T ≠ e ∧ T ≠ it := by
      have := W.apart i T h' hm
      exact ⟨fun z => this (by simp [z]), fun z => this (by simp [z])⟩
    have hT2 : h''.IsTuple T #[.int ((0 : Int) + (i : Int)) t, y] := by
      obtain ⟨o, e1, e2⟩ := hvs ▸ hTu
      exact ⟨o, hk'' T o (by simp [aT.1, aT.2]) e1, e2⟩
    have new : ObjOk X.prog X.w (upd H T (.tup [.int (i : Nat), x])) h'' T (.tup [.int (i : Nat), x]) := by
      refine ⟨by show 2 ≤ sizeLine; decide, [.int ((0 : Int) + (i : Int)) t, y], .cons ⟨t, by rw [Int.zero_add]⟩ (.cons ru .nil), hT2⟩
    have I1 : Inv X pins σ (upd H T (.tup [.int (i : Nat), x])) { s with heap := h'', toks := tk } :=
      I.turnedNew (t' := tk) (ch := [e, it]) (fun c o hb q => hk'' c o hb (hk c o hb q)) hf hT new
    refine ⟨.ref T, _, I1, rfl, ⟨T, x, rfl, I.hok.fresh hT, rfl, fun l hl => by rw [Inv.src_inj I hl hq]; exact hx⟩, ⟨st''.1, st''.2.1⟩, fun c hcm => ?_⟩
    have hlt : c < s.heap.objs.size := by
      have e' : c = e ∨ c = it := by simpa using hcm
      rcases e' with q | q
      · rw [q]; exact helt
      · rw [q]; exact hilt
    rw [upd_ne (Nat.ne_of_lt (Nat.lt_of_lt_of_le hlt hT))]
    exact (hf c hcm).1
  done := by
    intro X hP hw hK hc i pins s σ H E I hf ⟨⟨old, he⟩, hi⟩ hg
    subst hP hw hK
    obtain ⟨xs, hq, hl⟩ := hg
    obtain ⟨its, rv, hs, hz, _⟩ := Inv.src I hq
    have hh : X.A.in1.handled = none := I.ok.hd hc
    have W := WalksT.enumFrom (0 : Int) (draws_src (prog := X.prog) (w := X.w) hh k it a hai its.toArray) e hei (by
      intro z
      rcases List.mem_cons.mp z with z | z
      · exact hei z
      · exact hae (List.mem_singleton.mp z).symm) List.mem_cons_self
    have en : its.toArray.size = i := by rw [List.size_toArray, ← rv.length]; exact hl
    refine W.done s _ E (by rw [en]; exact ⟨⟨old, he⟩, hi, hs⟩) fun h' tk hk => ⟨rfl, I.turnedL (t' := tk) (ch := [e, it]) (fun c o hb q => hk c o hb q) hf⟩
  self := fun A i s Q E ⟨⟨old, he⟩, _⟩ h => wpAny_pyIter_enum he h
theorem meets_enum1 {v : Value} {o : Obj} {H : Heap → Prop} (B : Begins v o H) :
    Meets (Builtin.«enumerate.__new__» ⟨[.type "enumerate", v], []⟩) (fun _ R s => H s.heap ∧
      R (.ok (.ret (.ref (s.heap.push o).objs.size))) { s with heap := (s.heap.push o).push { cls := .type "enumerate", data := .fields #[.none, .bool false, .ref s.heap.objs.size, rawInt 0, .none, .none] } }) :=
  .of_wp fun prog w A R s h => by
    obtain ⟨hp, g, d, tk, os⟩ := s; obtain ⟨h1, h⟩ := h
    have hsub := sub_enumerate
    have q1 : ∀ {A' : Around} {E : Value → Shared → Prop} {Q : Value → Shared → Prop}, Q (.ref hp.objs.size) ⟨hp.push o, g, d, tk, os⟩ → wpAny (model prog w) A' (pyIter v) Q E ⟨hp, g, d, tk, os⟩ :=
      fun q => B.iter prog w _ _ ⟨hp, g, d, tk, os⟩ _ h1 q
    wp_walk using q1
    refine wpAny_stack_any fun st => wpAny_pure ?_
    split
    · rename_i c _ _ _ _ _
      cases (c == Value.type "enumerate")
      · wp_walk using q1
        exact ⟨_, rfl, h⟩
      · wp_walk using q1
        exact ⟨_, rfl, h⟩
    · wp_walk using q1
      exact ⟨_, rfl, h⟩
theorem enum_begins1 {prog : Program} {w : World} {A : Around} {E : Value → Shared → Prop} {s : Shared} {v : Value} {o : Obj} {H : Heap → Prop} {Q : Value → Shared → Prop} (B : Begins v o H) (h1 : H s.heap)
    (h : ∀ h', IsEnum h' (s.heap.objs.size + 1) s.heap.objs.size ((0 : Int) + ((0 : Nat) : Int)) .none → h'.get? s.heap.objs.size = some o → (∀ b o, s.heap.get? b = some o → h'.get? b = some o) → Q (.ref (s.heap.objs.size + 1)) { s with heap := h' }) :
    wpAny (model prog w) A (call (.type "enumerate") [v]) Q E s := by
  refine callType_new F.called_enumerate (by decide) (F.typeCall_enumerate_1 _) (F.newCall_enumerate_1 _) (fun obj => F.args_object_init_2 obj _) F.entry_enumerate_new
    (meets_enum1 B) ⟨h1, ?_⟩
  have hz : (s.heap.push o).objs.size = s.heap.objs.size + 1 := Heap.size_push ..
  show _ ∧ _
  rw [hz]
  have he : IsEnum ((s.heap.push o).push { cls := .type "enumerate", data := .fields #[.none, .bool false, .ref s.heap.objs.size, rawInt 0, .none, .none] }) (s.heap.objs.size + 1) s.heap.objs.size ((0 : Int) + ((0 : Nat) : Int)) .none := by
    have := Heap.get?_push_size (s.heap.push o) (o := { cls := .type "enumerate", data := .fields #[.none, .bool false, .ref s.heap.objs.size, rawInt 0, .none, .none] }) rfl
    rw [hz] at this; exact this
  refine ⟨⟨_, he, rfl⟩, h _ he (Heap.get?_push_of_some _ (Heap.get?_push_size _ B.free)) fun b o x => Heap.get?_push_of_some _ (Heap.get?_push_of_some _ x)⟩
def one1 (Q : V → Hp → Prop) : List V → Hp → Prop := fun vs H => match vs with | [v] => Q v H | _ => False
theorem one1_inv {Q : V → Hp → Prop} {vs : List V} {H : Hp} (h : one1 Q vs H) : ∃ v, vs = [v] ∧ Q v H := by
  match vs, h with
  | [v], h => exact ⟨v, rfl, h⟩
def iEnumS (K : PySem.W.Frag) (te : TE) : TI := fun σ H R => te σ H fun v H1 => ∃ k a xs, v = .ref a ∧ SrcQ K H1 k a xs ∧ R (ItE K k a) H1
theorem pi_enumS {X : Cx} {e : Expr} {te : TE} {p pos tpos : Pos} {elts : List Expr} {kk : Nat} (hg : Gl X "enumerate") (hm : X.mg "enumerate" = none) (he : PE X e te) (hs : starEach [e] X.env = [(false, eval e X.env)] := by rfl) (hs' : starEach [e] X.env = (false, eval e X.env) :: starEach [] X.env := by rfl) :
    PI X (.Tuple elts kk tpos) (.Call (.Name "enumerate" p) [e] [] pos) (iEnumS X.K te) := by
  refine ⟨fun pins s σ H R I h => ?_⟩
  refine PyProof.Rows.Call_ (ld_blt I hg hm PyProof.Rows.boot_enumerate (PyProof.Rows.callWith_type1 (thn ((pa_cons he pa_nil hs').run pos pins s σ H (one1 fun v H1 => ∃ k a xs, v = .ref a ∧ SrcQ X.K H1 k a xs ∧ R (ItE X.K k a) H1) I h) fun us s1 ⟨vs, H1, I1, r1, q1⟩ => ?_) hs rfl))
  obtain ⟨v, rfl, k, a, xs, ea, hq, q⟩ := one1_inv q1
  subst ea
  cases r1 with
  | cons r rr =>
    cases rr
    cases r
    obtain ⟨its, rv, hsrc, hz, hal⟩ := Inv.src I1 hq
    refine enum_begins1 (begins_src k a its.toArray) hsrc fun h' he hit hk => wpAny_pyIter_enum he ?_
    have I2 : Inv X pins σ H1 { s1 with heap := h' } := I1.kept (t' := s1.toks) hk
    refine ⟨s1.heap.objs.size + 1, [s1.heap.objs.size + 1, s1.heap.objs.size], _, _, H1, rfl, I2, turn_enumS k a (s1.heap.objs.size + 1) s1.heap.objs.size (Nat.succ_ne_self _) (Nat.ne_of_lt (Nat.lt_succ_of_lt hal)) (Nat.ne_of_lt hal), ⟨⟨.none, he⟩, srcI_new hit⟩, fun b hb => ?_, q⟩
    have e' : b = s1.heap.objs.size + 1 ∨ b = s1.heap.objs.size := by simpa using hb
    have hle : s1.heap.objs.size ≤ b := by
      rcases e' with z | z
      · rw [z]; exact Nat.le_add_right _ _
      · rw [z]; exact Nat.le_refl _
    exact I1.fpOk hle (I1.hok.fresh hle)

theorem deals_enum {K : PySem.W.Frag} {S : Hp} {k : Sk} {a : Addr} {xs : List V} {ds : List D} (hq : SrcQ K S k a xs) (r : Reps K S ds xs) : Deals K (ItE K k a) S (ds.mapIdx fun i d => D.tup [.int (i : Nat), d]) where
  go := fun i H hi sh => by
    have hi' : i < ds.length := by simpa using hi
    exact ⟨xs, xs[i]'(by rw [r.len]; exact hi'), hq.mono sh, by simp [r.len, hi']⟩
  stop := fun i H hi sh => ⟨xs, hq.mono sh, by rw [r.len, hi]; simp⟩
  yld := fun i H x H' S' M hi ss sh m hy => by
    have hi' : i < ds.length := by simpa using hi
    obtain ⟨T, y, rfl, hT, rfl, hx⟩ := hy
    obtain ⟨v, hv, rv⟩ := r.get (i := i) (d := ds[i]) (by simp [hi'])
    have e := hx xs (hq.mono (ss.trans sh))
    have e2 : y = v := Option.some.inj (e.symm.trans hv)
    subst e2
    have pw := Pst.new (o := .tup [.int (i : Nat), y]) sh m hT
    refine ⟨_, pw, ?_⟩
    rw [List.getElem_mapIdx]
    exact ⟨T, _, rfl, SqT.of upd_same, _, _, rfl, rfl, _, _, rfl, Rep.mono (ss.trans pw.ss) _ _ rv, rfl⟩
theorem src_of {K : PySem.W.Frag} {S H : Hp} {M : Mem} {d : D} {ds : List D} {v : V} (h : SeqD M d ds) (hn : ∀ a, d ≠ .ref a) (r : Rep K S d v) : ∃ k a xs, v = .ref a ∧ SrcQ K S k a xs ∧ Reps K S ds xs := by
  cases h with
  | tup => obtain ⟨a, xs, rfl, h1, h2⟩ := r; exact ⟨.tup, a, xs, rfl, h1, h2⟩
  | lst => obtain ⟨a, xs, rfl, h1, h2⟩ := r; exact ⟨.lst, a, xs, rfl, SqL.of h1, h2⟩
  | rol => obtain ⟨a, xs, rfl, h1, h2⟩ := r; exact ⟨.lst, a, xs, rfl, h1, h2⟩
  | cell hc => exact absurd rfl (hn _)
/-- for i, x in enumerate(a tuple, a frozen list) -/
theorem i_enum {X : Cx} {PX : PXT} {e : Expr} {env : Vars} {M : Mem} {p pos tpos : Pos} {elts : List Expr} {kk : Nat} {Q' : List D → Mem → Prop} (hm : X.mg "enumerate" = none)
    (h : E X PX e env M fun d M1 => ∃ ds, SeqD M1 d ds ∧ (∀ a, d ≠ .ref a) ∧ Q' (ds.mapIdx fun i d => D.tup [.int (i : Nat), d]) M1) (hg : Gl X "enumerate" := by rfl) (hs : starEach [e] X.env = [(false, eval e X.env)] := by rfl) (hs' : starEach [e] X.env = (false, eval e X.env) :: starEach [] X.env := by rfl) :
    I X PX (.Tuple elts kk tpos) (.Call (.Name "enumerate" p) [e] [] pos) env M Q' :=
  ⟨fun S σ H ok wi => semI_of (pi_enumS hg hm pe_sem hs hs') (h.bind ok wi fun S1 d M1 v H1 p1 ok1 wi1 r ⟨ds, h1, h2, q⟩ => by
    obtain ⟨k, a, xs, rfl, hq, rs⟩ := src_of (H := H1) h1 h2 r
    exact ⟨k, a, xs, rfl, hq.mono ok1.sh, S1, _, M1, p1, deals_enum hq rs, q⟩)⟩

/-! ### zip of three sources -/
def ItZ3 (K : PySem.W.Frag) (k1 k2 k3 : Sk) (a1 a2 a3 : Addr) : It :=
  ⟨fun i H => ∃ (xs ys zs : List V) (x y z : V), SrcQ K H k1 a1 xs ∧ SrcQ K H k2 a2 ys ∧ SrcQ K H k3 a3 zs ∧ xs[i]? = some x ∧ ys[i]? = some y ∧ zs[i]? = some z,
    fun i H v H' => ∃ T x y z, v = .ref T ∧ H T = none ∧ H' = upd H T (.tup [x, y, z]) ∧ (∀ xs, SrcQ K H k1 a1 xs → xs[i]? = some x) ∧ (∀ ys, SrcQ K H k2 a2 ys → ys[i]? = some y) ∧ (∀ zs, SrcQ K H k3 a3 zs → zs[i]? = some z),
    fun i H => ∃ xs ys zs : List V, SrcQ K H k1 a1 xs ∧ SrcQ K H k2 a2 ys ∧ SrcQ K H k3 a3 zs ∧ min (min xs.length ys.length) zs.length = i⟩
theorem z3sub {N c : Nat} (z : c ∈ [N + 5, N + 4, N, N + 1, N + 2]) : c ∈ [N + 5, N + 3, N + 4, N, N + 1, N + 2] := by
  simp only [List.mem_cons, List.not_mem_nil, or_false] at z ⊢
  omega
theorem z3le {N c : Nat} (z : c ∈ [N + 5, N + 3, N + 4, N, N + 1, N + 2]) : c ≤ N + 5 := by
  simp only [List.mem_cons, List.not_mem_nil, or_false] at z
  omega
theorem z3ge {N c : Nat} (z : c ∈ [N + 5, N + 3, N + 4, N, N + 1, N + 2]) : N ≤ c := by
  simp only [List.mem_cons, List.not_mem_nil, or_false] at z
  omega
theorem turn_zip3S {P : Program} {w : World} {K : PySem.W.Frag} {elts : List Expr} {kk : Nat} {tpos : Pos} (k1 k2 k3 : Sk) (a1 a2 a3 : Addr) (N : Nat) (l1 : a1 < N) (l2 : a2 < N) (l3 : a3 < N) :
    Turn P w K (.Tuple elts kk tpos) (ItZ3 K k1 k2 k3 a1 a2 a3) [N + 5, N + 3, N + 4, N, N + 1, N + 2] (N + 5)
      (fun i h => IsZip h (N + 5) (N + 3) (N + 4) .none ∧ IsTupOf3 h (N + 3) (.ref N) (.ref (N + 1 : Nat)) (.ref (N + 2 : Nat)) ∧ (∃ x y z, IsTupOf3 h (N + 4) x y z) ∧ SrcI k1 h N a1 i ∧ SrcI k2 h (N + 1) a2 i ∧ SrcI k3 h (N + 2) a3 i) where
  mem := List.mem_cons_self
  obj := fun i h ⟨hz, hTI, ⟨x, y, z, hTO⟩, h1, h2, h3⟩ c hc => by
    have e' : c = N + 5 ∨ c = N + 3 ∨ c = N + 4 ∨ c = N ∨ c = N + 1 ∨ c = N + 2 := by simpa using hc
    rcases e' with q | q | q | q | q | q
    · rw [q]; exact ⟨_, hz, fun v q => nomatch q⟩
    · rw [q]; exact ⟨_, hTI, fun v q => nomatch q⟩
    · rw [q]; exact ⟨_, hTO, fun v q => nomatch q⟩
    · rw [q]; exact h1.obj
    · rw [q]; exact h2.obj
    · rw [q]; exact h3.obj
  keep := fun i h h' ⟨hz, hTI, ⟨x, y, z, hTO⟩, h1, h2, h3⟩ k => ⟨k (N + 5) (by simp) _ hz, k (N + 3) (by simp) _ hTI, ⟨x, y, z, k (N + 4) (by simp) _ hTO⟩, h1.keep fun o q => k N (by simp) o q, h2.keep fun o q => k (N + 1) (by simp) o q, h3.keep fun o q => k (N + 2) (by simp) o q⟩
  item := by
    intro X hP hw hK hc i pins s σ H E I hf ⟨hz, hTI, hTO, h1, h2, h3⟩ hg
    subst hP hw hK
    obtain ⟨xs, ys, zs, x, y, z, hqx, hqy, hqz, hx, hy, hz'⟩ := hg
    obtain ⟨its, rv, hs1, _, _⟩ := Inv.src I hqx
    obtain ⟨its2, rv2, hs2, _, _⟩ := Inv.src I hqy
    obtain ⟨its3, rv3, hs3, _, _⟩ := Inv.src I hqz
    obtain ⟨u, hu, ru⟩ := rv.get hx
    obtain ⟨u2, hu2, ru2⟩ := rv2.get hy
    obtain ⟨u3, hu3, ru3⟩ := rv3.get hz'
    have hh : X.A.in1.handled = none := I.ok.hd hc
    have W := WalksT.zipD3 (zip_sep3 (N := N) (fp1 := [a1]) (fp2 := [a2]) (fp3 := [a3]) (fun b hb => by rw [List.mem_singleton.mp hb]; exact l1) (fun b hb => by rw [List.mem_singleton.mp hb]; exact l2) (fun b hb => by rw [List.mem_singleton.mp hb]; exact l3))
      (draws_src (prog := X.prog) (w := X.w) hh k1 N a1 (Nat.ne_of_lt l1) its.toArray) (draws_src (prog := X.prog) (w := X.w) hh k2 (N + 1) a2 (Nat.ne_of_lt (Nat.lt_succ_of_lt l2)) its2.toArray) (draws_src (prog := X.prog) (w := X.w) hh k3 (N + 2) a3 (Nat.ne_of_lt (Nat.lt_succ_of_lt (Nat.lt_succ_of_lt l3))) its3.toArray)
    have il : i < min (min its.toArray.size its2.toArray.size) its3.toArray.size := by
      have q1 := (List.getElem?_eq_some_iff.mp hu).1
      have q2 := (List.getElem?_eq_some_iff.mp hu2).1
      have q3 := (List.getElem?_eq_some_iff.mp hu3).1
      simp only [List.size_toArray]
      omega
    refine W.item i s _ E il ⟨hz, hTI, hTO, ⟨h1, hs1⟩, ⟨h2, hs2⟩, ⟨h3, hs3⟩⟩ fun T vals h' tk ⟨x1, x2, x3, p1, p2, p3, hvs⟩ hT hTu hm hk => ⟨.ref T, rfl, ?_⟩
    have e1 : x1 = u := by have q1 : its.toArray[i]? = some u := by simpa using hu
                           rw [q1] at p1; exact (Option.some.inj p1).symm
    have e2 : x2 = u2 := by have q1 : its2.toArray[i]? = some u2 := by simpa using hu2
                            rw [q1] at p2; exact (Option.some.inj p2).symm
    have e3 : x3 = u3 := by have q1 : its3.toArray[i]? = some u3 := by simpa using hu3
                            rw [q1] at p3; exact (Option.some.inj p3).symm
    subst e1 e2 e3
    refine W.go elts kk tpos i T { s with heap := h', toks := tk } _ E hm fun h'' st'' hk'' => ?_
    have aT := W.apart i T h' hm
    have hT2 : h''.IsTuple T #[x1, x2, x3] := by
      obtain ⟨o, q1, q2⟩ := hvs ▸ hTu
      exact ⟨o, hk'' T o aT q1, q2⟩
    have new : ObjOk X.prog X.w (upd H T (.tup [x, y, z])) h'' T (.tup [x, y, z]) :=
      ⟨by show 3 ≤ sizeLine; decide, [x1, x2, x3], .cons ru (.cons ru2 (.cons ru3 .nil)), hT2⟩
    have I1 : Inv X pins σ (upd H T (.tup [x, y, z])) { s with heap := h'', toks := tk } :=
      I.turnedNew (t' := tk) (ch := [N + 5, N + 3, N + 4, N, N + 1, N + 2]) (fun c o hb q => hk'' c o (fun z => hb (z3sub z)) (hk c o (fun z => hb (z3sub z)) q)) hf hT new
    refine ⟨.ref T, _, I1, rfl, ⟨T, x, y, z, rfl, I.hok.fresh hT, rfl, fun l hl => by rw [Inv.src_inj I hl hqx]; exact hx, fun l hl => by rw [Inv.src_inj I hl hqy]; exact hy, fun l hl => by rw [Inv.src_inj I hl hqz]; exact hz'⟩,
      ⟨st''.1, st''.2.1, st''.2.2.1, st''.2.2.2.1.1, st''.2.2.2.2.1.1, st''.2.2.2.2.2.1⟩, fun c hcm => ?_⟩
    have hl5 : N + 5 < s.heap.objs.size := Heap.lt_size hz
    have hlt : c < s.heap.objs.size := Nat.lt_of_le_of_lt (z3le hcm) hl5
    rw [upd_ne (Nat.ne_of_lt (Nat.lt_of_lt_of_le hlt hT))]
    exact (hf c hcm).1
  done := by
    intro X hP hw hK hc i pins s σ H E I hf ⟨hz, hTI, hTO, h1, h2, h3⟩ hg
    subst hP hw hK
    obtain ⟨xs, ys, zs, hqx, hqy, hqz, hl⟩ := hg
    obtain ⟨its, rv, hs1, _, _⟩ := Inv.src I hqx
    obtain ⟨its2, rv2, hs2, _, _⟩ := Inv.src I hqy
    obtain ⟨its3, rv3, hs3, _, _⟩ := Inv.src I hqz
    have hh : X.A.in1.handled = none := I.ok.hd hc
    have W := WalksT.zipD3 (zip_sep3 (N := N) (fp1 := [a1]) (fp2 := [a2]) (fp3 := [a3]) (fun b hb => by rw [List.mem_singleton.mp hb]; exact l1) (fun b hb => by rw [List.mem_singleton.mp hb]; exact l2) (fun b hb => by rw [List.mem_singleton.mp hb]; exact l3))
      (draws_src (prog := X.prog) (w := X.w) hh k1 N a1 (Nat.ne_of_lt l1) its.toArray) (draws_src (prog := X.prog) (w := X.w) hh k2 (N + 1) a2 (Nat.ne_of_lt (Nat.lt_succ_of_lt l2)) its2.toArray) (draws_src (prog := X.prog) (w := X.w) hh k3 (N + 2) a3 (Nat.ne_of_lt (Nat.lt_succ_of_lt (Nat.lt_succ_of_lt l3))) its3.toArray)
    have en : min (min its.toArray.size its2.toArray.size) its3.toArray.size = i := by
      have q1 := rv.length
      have q2 := rv2.length
      have q3 := rv3.length
      simp only [List.size_toArray]
      omega
    refine W.done s _ E (by rw [en]; exact ⟨hz, hTI, hTO, ⟨h1, hs1⟩, ⟨h2, hs2⟩, ⟨h3, hs3⟩⟩) fun h' tk hk => ⟨rfl, I.turnedL (t' := tk) (ch := [N + 5, N + 3, N + 4, N, N + 1, N + 2]) (fun c o hb q => hk c o (fun z => hb (z3sub z)) q) hf⟩
  self := fun A i s Q E st h => wpAny_pyIter_zip st.1 h
def iZip3S (K : PySem.W.Frag) (ta : TA) : TI := fun σ H R => ta σ H fun vs H1 => ∃ k1 k2 k3 a1 a2 a3 xs ys zs, vs = [.ref a1, .ref a2, .ref a3] ∧ SrcQ K H1 k1 a1 xs ∧ SrcQ K H1 k2 a2 ys ∧ SrcQ K H1 k3 a3 zs ∧ R (ItZ3 K k1 k2 k3 a1 a2 a3) H1
theorem pi_zip3S {X : Cx} {e e2 e3 : Expr} {ta : TA} {p pos tpos : Pos} {elts : List Expr} {kk : Nat} (hg : Gl X "zip") (hm : X.mg "zip" = none) (ha : PA X [e, e2, e3] ta)
    (hs : starEach [e, e2, e3] X.env = (false, eval e X.env) :: starEach [e2, e3] X.env := by rfl) (hpl : (backTo pos (starEach [e2, e3] X.env)).any (·.1) = false := by rfl) :
    PI X (.Tuple elts kk tpos) (.Call (.Name "zip" p) [e, e2, e3] [] pos) (iZip3S X.K ta) := by
  refine ⟨fun pins s σ H R I h => ?_⟩
  refine PyProof.Rows.Call_ (ld_blt I hg hm PyProof.Rows.boot_zip (PyProof.Rows.callWith_type1 (thn (ha.run pos pins s σ H _ I h) fun us s1 ⟨vs, H1, I1, r1, q1⟩ => ?_) hs hpl))
  obtain ⟨k1, k2, k3, a1, a2, a3, xs, ys, zs, ex, hqx, hqy, hqz, q⟩ := q1
  subst ex
  cases r1 with
  | cons r rr =>
    cases rr with
    | cons r' rr =>
      cases rr with
      | cons r'' rr =>
        cases rr
        cases r
        cases r'
        cases r''
        obtain ⟨its, rv, hs1, _, l1⟩ := Inv.src I1 hqx
        obtain ⟨its2, rv2, hs2, _, l2⟩ := Inv.src I1 hqy
        obtain ⟨its3, rv3, hs3, _, l3⟩ := Inv.src I1 hqz
        refine zip_begins3 (begins_src k1 a1 its.toArray) (begins_src k2 a2 its2.toArray) (begins_src k3 a3 its3.toArray) hs1 hs2 hs3 fun h' hz hTI hTO g1 g2 g3 hsz hk => wpAny_pyIter_zip hz ?_
        have I2 : Inv X pins σ H1 { s1 with heap := h' } := I1.kept (t' := s1.toks) hk
        refine ⟨s1.heap.objs.size + 5, [s1.heap.objs.size + 5, s1.heap.objs.size + 3, s1.heap.objs.size + 4, s1.heap.objs.size, s1.heap.objs.size + 1, s1.heap.objs.size + 2], _, _, H1, rfl, I2, turn_zip3S k1 k2 k3 a1 a2 a3 s1.heap.objs.size l1 l2 l3, ⟨hz, hTI, ⟨_, _, _, hTO⟩, srcI_new g1, srcI_new g2, srcI_new g3⟩, fun c hcm => ?_, q⟩
        have hle : s1.heap.objs.size ≤ c := z3ge hcm
        exact I1.fpOk hle (I1.hok.fresh hle)
/-- the triples -/
def zip3 : List D → List D → List D → List D
  | x :: xs, y :: ys, z :: zs => .tup [x, y, z] :: zip3 xs ys zs
  | _, _, _ => []
theorem zip3_len : ∀ xs ys zs : List D, (zip3 xs ys zs).length = min (min xs.length ys.length) zs.length
  | [], _, _ => by simp [zip3]
  | _ :: _, [], _ => by simp [zip3]
  | _ :: _, _ :: _, [] => by simp [zip3]
  | x :: xs, y :: ys, z :: zs => by
    show (zip3 xs ys zs).length + 1 = _
    rw [zip3_len xs ys zs]
    simp only [List.length_cons]
    omega
theorem zip3_get : ∀ (xs ys zs : List D) (i : Nat) (h : i < (zip3 xs ys zs).length), ∃ x y z, xs[i]? = some x ∧ ys[i]? = some y ∧ zs[i]? = some z ∧ (zip3 xs ys zs)[i] = .tup [x, y, z]
  | [], _, _, _, h => by simp [zip3] at h
  | _ :: _, [], _, _, h => by simp [zip3] at h
  | _ :: _, _ :: _, [], _, h => by simp [zip3] at h
  | x :: xs, y :: ys, z :: zs, 0, h => ⟨x, y, z, rfl, rfl, rfl, rfl⟩
  | x :: xs, y :: ys, z :: zs, i + 1, h => by
    obtain ⟨a, b, c, h1, h2, h3, h4⟩ := zip3_get xs ys zs i (by simpa [zip3] using h)
    exact ⟨a, b, c, by simpa using h1, by simpa using h2, by simpa using h3, by simpa [zip3] using h4⟩
theorem deals_zip3 {K : PySem.W.Frag} {S : Hp} {k1 k2 k3 : Sk} {a1 a2 a3 : Addr} {xs ys zs : List V} {ds es fs : List D} (q1 : SrcQ K S k1 a1 xs) (q2 : SrcQ K S k2 a2 ys) (q3 : SrcQ K S k3 a3 zs) (r1 : Reps K S ds xs) (r2 : Reps K S es ys) (r3 : Reps K S fs zs) :
    Deals K (ItZ3 K k1 k2 k3 a1 a2 a3) S (zip3 ds es fs) where
  go := fun i H hi sh => by
    obtain ⟨x, y, z, h1, h2, h3, _⟩ := zip3_get ds es fs i hi
    obtain ⟨u1, g1, _⟩ := r1.get h1
    obtain ⟨u2, g2, _⟩ := r2.get h2
    obtain ⟨u3, g3, _⟩ := r3.get h3
    exact ⟨xs, ys, zs, u1, u2, u3, q1.mono sh, q2.mono sh, q3.mono sh, g1, g2, g3⟩
  stop := fun i H hi sh => ⟨xs, ys, zs, q1.mono sh, q2.mono sh, q3.mono sh, by rw [r1.len, r2.len, r3.len, hi, zip3_len]⟩
  yld := fun i H x H' S' M hi ss sh m hy => by
    obtain ⟨x1, y1, z1, h1, h2, h3, h4⟩ := zip3_get ds es fs i hi
    obtain ⟨u1, g1, v1⟩ := r1.get h1
    obtain ⟨u2, g2, v2⟩ := r2.get h2
    obtain ⟨u3, g3, v3⟩ := r3.get h3
    obtain ⟨T, a, b, c, rfl, hT, rfl, e1, e2, e3⟩ := hy
    have f1 : a = u1 := Option.some.inj ((e1 xs (q1.mono (ss.trans sh))).symm.trans g1)
    have f2 : b = u2 := Option.some.inj ((e2 ys (q2.mono (ss.trans sh))).symm.trans g2)
    have f3 : c = u3 := Option.some.inj ((e3 zs (q3.mono (ss.trans sh))).symm.trans g3)
    subst f1 f2 f3
    have pw := Pst.new (o := .tup [a, b, c]) sh m hT
    refine ⟨_, pw, ?_⟩
    rw [h4]
    exact ⟨T, _, rfl, SqT.of upd_same, _, _, rfl, Rep.mono (ss.trans pw.ss) _ _ v1, _, _, rfl, Rep.mono (ss.trans pw.ss) _ _ v2, _, _, rfl, Rep.mono (ss.trans pw.ss) _ _ v3, rfl⟩
/-- for x, y, z in zip(..) of tuples and frozen lists -/
theorem i_zip3 {X : Cx} {PX : PXT} {e e2 e3 : Expr} {env : Vars} {M : Mem} {p pos tpos : Pos} {elts : List Expr} {kk : Nat} {Q' : List D → Mem → Prop} (hm : X.mg "zip" = none)
    (h : A X PX [e, e2, e3] env M fun ds M1 => ∃ d1 d2 d3 xs ys zs, ds = [d1, d2, d3] ∧ SeqD M1 d1 xs ∧ (∀ a, d1 ≠ .ref a) ∧ SeqD M1 d2 ys ∧ (∀ a, d2 ≠ .ref a) ∧ SeqD M1 d3 zs ∧ (∀ a, d3 ≠ .ref a) ∧ Q' (zip3 xs ys zs) M1) (hg : Gl X "zip" := by rfl)
    (hs : starEach [e, e2, e3] X.env = (false, eval e X.env) :: starEach [e2, e3] X.env := by rfl) (hpl : (backTo pos (starEach [e2, e3] X.env)).any (·.1) = false := by rfl) :
    I X PX (.Tuple elts kk tpos) (.Call (.Name "zip" p) [e, e2, e3] [] pos) env M Q' :=
  ⟨fun S σ H ok wi => semI_of (pi_zip3S hg hm pa_sem hs hpl) (h.bind ok wi fun S1 ds M1 vs H1 p1 ok1 wi1 r ⟨d1, d2, d3, xs, ys, zs, e1, h1, n1, h2, n2, h3, n3, q⟩ => by
    subst e1
    obtain ⟨v1, r', rfl, r1, v2, r'', e2, r2, v3, r''', e3, r3, e4⟩ := r
    have e4 : r''' = [] := e4
    subst e4 e3 e2
    obtain ⟨k1, a1, us, rfl, q1, s1⟩ := src_of (H := H1) h1 n1 r1
    obtain ⟨k2, a2, vs, rfl, q2, s2⟩ := src_of (H := H1) h2 n2 r2
    obtain ⟨k3, a3, ws, rfl, q3, s3⟩ := src_of (H := H1) h3 n3 r3
    exact ⟨k1, k2, k3, a1, a2, a3, us, vs, ws, rfl, q1.mono ok1.sh, q2.mono ok1.sh, q3.mono ok1.sh, S1, _, M1, p1, deals_zip3 q1 q2 q3 s1 s2 s3, q⟩)⟩

/-! ### isinstance -/
def D.tyn : D → Option String
  | .non => some "NoneType"
  | .bl _ => some "bool"
  | .int _ => some "int"
  | .str _ => some "str"
  | .tup _ => some "tuple"
  | .lst _ => some "list"
  | _ => none
theorem tyX_of {K : PySem.W.Frag} {S H : Hp} {d : D} {v : V} {t : String} (sh : Same S H) (r : Rep K S d v) (h : d.tyn = some t) : TyX K H v (.type t) := by
  cases d with
  | non => cases h; rw [show v = V.non from r]; exact .base .non
  | bl b => cases h; rw [show v = V.bl b from r]; exact .base (.bl b)
  | int b => cases h; rw [show v = V.int b from r]; exact .base (.int b)
  | str b => cases h; rw [show v = V.str b from r]; exact .base (.str b)
  | tup ds =>
    cases h
    obtain ⟨a, xs, rfl, h1, _⟩ := r
    rcases Same.tup sh h1 with (h | ⟨o, h⟩) | ⟨o, its, n, hk, hc, _⟩
    · exact .base (.tup h)
    · exact .fTuple h
    · exact .kTuple hk hc
  | lst ds =>
    cases h
    obtain ⟨a, xs, rfl, h1, _⟩ := r
    exact .base (.lst (sh _ _ h1))
  | _ => cases h
/-- isinstance(x, T), T a built-in class by its name -/
theorem e_isi {X : Cx} {PX : PXT} {a : Expr} {env : Vars} {M : Mem} {p pos p2 : Pos} {n : Str} {N : String} {Q : QD} (hm : X.mg "isinstance" = none) (hmn : X.mg n = none) (hN : bootBuiltins n = some (.type N))
    (h : E X PX a env M fun d M1 => ∃ t b, d.tyn = some t ∧ kitB t N = some b ∧ Q (.bl b) M1) (hg : Gl X "isinstance" := by rfl) (hgn : Gl X n := by rfl) (hnn : n ≠ "__name__" := by decide) (hnd : (n == ("__debug__" : Str)) = false := by decide)
    (he : starEach [a, .Name n p2] X.env = (false, eval a X.env) :: starEach [.Name n p2] X.env := by rfl) (he2 : starEach [.Name n p2] X.env = (false, eval (.Name n p2) X.env) :: starEach [] X.env := by rfl) (hpl : (backTo pos (starEach [.Name n p2] X.env)).any (·.1) = false := by rfl) :
    E X PX (.Call (.Name "isinstance" p) [a, .Name n p2] [] pos) env M Q :=
  e_blt (g := fun ds M Q => ∃ d t b, ds = [d, .ty N] ∧ d.tyn = some t ∧ kitB t N = some b ∧ Q (.bl b) M) call_isi (by
    intro S M H xs vs Q R sh m rs ⟨d, t, b, e1, ht, hb, q⟩ hR
    subst e1
    obtain ⟨v, v', rfl, r1, r2⟩ := reps2 rs
    rw [show v' = V.ty N from r2]
    exact ⟨v, .ty N, .type t, .type N, b, rfl, .ty N, tyX_of sh r1 ht, kit_ty hb, hR _ _ (post_bl sh m q)⟩) hm PyProof.Rows.boot_isinstance
    (a_cons (h.imp fun d M1 ⟨t, b, h1, h2, q⟩ => a_cons ⟨fun S σ H ok wi => semE_of (pe_bltn (v := .ty N) hgn hmn hN rfl hnn hnd) (post_same (d := .ty N) (Q := fun x M2 => A X PX [] env M2 fun xs M3 => ∃ d' t b, d :: x :: xs = [d', .ty N] ∧ d'.tyn = some t ∧ kitB t N = some b ∧ Q (.bl b) M3) ok.sh ok.mem rfl (a_nil ⟨d, t, b, rfl, h1, h2, q⟩))⟩ he2) he) hg (by decide) (by decide) he hpl
end DL

/-! DL7: dicts of ints and texts in a cell; tuple * int, any number -/
namespace DL
open PySem L2
def lookD (kvs : List (Key × D)) (k : Key) : Option D := (kvs.find? fun kv => decide (kv.1 = k)).map (·.2)
def putD (kvs : List (Key × D)) (k : Key) (v : D) : List (Key × D) :=
  if (kvs.any fun kv => decide (kv.1 = k)) = true then kvs.map (fun kv => if kv.1 = k then (kv.1, v) else kv) else kvs ++ [(k, v)]
def kD : Key → D
  | .inl i => .int i
  | .inr x => .str x
section
variable {K : PySem.W.Frag} {S : Hp}
theorem frep_look : ∀ {kvs : List (Key × D)} {xs : List (Key × V)} {k : Key} {d : D}, FRep K S kvs xs → lookD kvs k = some d → ∃ v, valV xs k = some v ∧ Rep K S d v
  | _, _, _, _, .nil, h => by simp [lookD] at h
  | (k', d') :: kvs, _, k, d, .cons (b := q) h1 h2, h => by
    obtain ⟨e, r⟩ := h1
    obtain ⟨k2, v⟩ := q
    cases e
    unfold lookD at h
    unfold valV
    by_cases hk : k' = k
    · rw [List.find?_cons_of_pos (by simpa using hk)] at h ⊢
      cases h
      exact ⟨v, rfl, r⟩
    · rw [List.find?_cons_of_neg (by simpa using hk)] at h ⊢
      exact frep_look h2 h
theorem frep_any {kvs : List (Key × D)} {xs : List (Key × V)} (r : FRep K S kvs xs) (k : Key) : (xs.any fun kv => decide (kv.1 = k)) = kvs.any fun kv => decide (kv.1 = k) := by
  induction r with
  | nil => rfl
  | cons h _ ih => rw [List.any_cons, List.any_cons, ih, h.1]
theorem frep_map {kvs : List (Key × D)} {xs : List (Key × V)} {d : D} {v : V} (rd : Rep K S d v) (r : FRep K S kvs xs) (k : Key) : FRep K S (kvs.map fun kv => if kv.1 = k then (kv.1, d) else kv) (xs.map fun kv => if kv.1 = k then (kv.1, v) else kv) := by
  induction r with
  | nil => exact .nil
  | @cons p q _ _ h _ ih =>
    refine .cons ?_ ih
    obtain ⟨e, r⟩ := h
    dsimp only
    by_cases hk : p.1 = k
    · rw [if_pos hk, if_pos (e ▸ hk)]; exact ⟨e, rd⟩
    · rw [if_neg hk, if_neg (fun z => hk (e ▸ z))]; exact ⟨e, r⟩
theorem frep_app {κ : Type} {kvs ls : List (κ × D)} {xs ys : List (κ × V)} (r : FRep K S kvs xs) (q : FRep K S ls ys) : FRep K S (kvs ++ ls) (xs ++ ys) := by
  induction r with
  | nil => exact q
  | cons h _ ih => exact .cons h ih
theorem frep_put {kvs : List (Key × D)} {xs : List (Key × V)} {d : D} {v : V} (rd : Rep K S d v) (r : FRep K S kvs xs) (k : Key) : FRep K S (putD kvs k d) (putK xs k v) := by
  unfold putD putK
  rw [frep_any r k]
  split
  · exact frep_map rd r k
  · exact frep_app r (.cons ⟨rfl, rd⟩ .nil)
end
section
variable {X : Cx} {PX : PXT} {e a b c o i : Expr} {es : List Expr} {env : Vars} {M : Mem} {pos p apos : Pos} {x m f : Str} {Q : QD} {P : Pk}
/-- {} -/
theorem e_dnew (h : ∀ p, M p = none → Q (.ref p) (updM M p (.dK []))) : E X PX (.Dict [] [] pos) env M Q :=
  ⟨fun S σ H ok wi => semE_of pe_dnewK fun p hp => ⟨S, .ref p, _, Pst.cell (c := .dK []) ok.sh ok.mem hp ⟨[], upd_same, .nil⟩, rfl, h p (ok.mem.free hp)⟩⟩
theorem rep_kD {K : PySem.W.Frag} {S : Hp} {k : Key} {v : V} (r : Rep K S (kD k) v) : v = kV k := by
  cases k with
  | inl i => exact r
  | inr x => exact r
/-- d[k], there -/
theorem e_dget (hu : X.A.units + 1 < cLine) (h : E X PX o env M fun x M1 => E X PX i env M1 fun y M2 => ∃ q kvs k d, x = .ref q ∧ y = kD k ∧ M2 q = some (.dK kvs) ∧ lookD kvs k = some d ∧ Q d M2) (hs : NoSl i := by exact fun _ _ => rfl) : E X PX (.Subscript o i pos) env M Q :=
  ⟨fun S σ H ok wi => semE_of (pe_dget hu pe_sem pe_sem hs) (h.bind ok wi fun S1 x M1 v H1 p1 ok1 wi1 rx hi => hi.bind ok1 wi1 fun S2 y M2 u H2 p2 ok2 wi2 ry ⟨q, kvs, k, d, e1, e2, hm, hl, hq⟩ => by
    subst e1 e2
    obtain ⟨_, xs, h1, h2⟩ := ok2.mem _ _ hm
    obtain ⟨z, hz, rz⟩ := frep_look h2 hl
    rw [rep_kD ry]
    exact ⟨q, z, rx, hz ▸ DGet.k h1, (post_same ok2.sh ok2.mem rz hq).trans p2 |>.trans p1⟩)⟩
/-- d[k] = v -/
theorem s_dput (hu : X.A.units + 1 < cLine) {p' : Pos} (h : E X PX e env M fun d M1 => E X PX o env M1 fun x M2 => E X PX i env M2 fun y M3 => ∃ q kvs k, x = .ref q ∧ y = kD k ∧ M3 q = some (.dK kvs) ∧ kvs.length < 100000 ∧ P.nx env (updM M3 q (.dK (putD kvs k d))))
    (hs : swapsWith e (some (.Subscript o i p')) pos.line X.env = pure false := by rfl) : S X PX (.Assign [.Subscript o i p'] e pos) env M P :=
  ⟨fun S σ H ok wi => semS_of (ps_dput hu pe_sem pe_sem pe_sem hs) (h.bind ok wi fun S1 d M1 v H1 p1 ok1 wi1 r ho => ho.bind ok1 wi1 fun S2 x M2 w H2 p2 ok2 wi2 rx hi => hi.bind ok2 wi2 fun S3 y M3 u H3 p3 ok3 wi3 ry ⟨q, kvs, k, e1, e2, hm, hl, hq⟩ => by
    subst e1 e2
    obtain ⟨_, xs, h1, h2⟩ := ok3.mem _ _ hm
    have hlen : xs.length = kvs.length := (Paired.length h2).symm
    have pw := Pst.write (o := .dK (putK xs k v)) (c := .dK (putD kvs k d)) ok3.sh ok3.mem (by rw [hm]; intro z; cases z) ⟨_, upd_same, frep_put (Rep.mono (p2.ss.trans p3.ss) _ _ r) h2 k⟩
    rw [rep_kD ry]
    exact ⟨q, _, rx, DPut.k h1 (Nat.lt_of_lt_of_le (show xs.length < 100000 by rw [hlen]; exact hl) (by decide)), S3, env, _, ((p1.trans p2).trans p3).trans pw, ok3.step pw, hq⟩)⟩

/-! ### {k: v for k, v in d.items()} -/
theorem sqT_frz {K : PySem.W.Frag} {S : Hp} {d a : Addr} {od : Obj} {kvs : List (Key × V)} {xs : List V} (hd : S d = none) (h : SqT K (upd S d (.frz od (.dK kvs))) a xs) : SqT K S a xs := by
  rcases h with (h | ⟨o, h⟩) | h
  · by_cases e : a = d
    · subst e; rw [upd_same] at h; cases h
    · rw [upd_ne e] at h; exact .inl (.inl h)
  · by_cases e : a = d
    · subst e; rw [upd_same] at h; cases h
    · rw [upd_ne e] at h; exact .inl (.inr ⟨o, h⟩)
  · exact .inr h
/-- a heap without one address -/
def wo (S : Hp) (d : Addr) : Hp := fun b => if b = d then none else S b
theorem wo_ne {S : Hp} {d b : Addr} (h : b ≠ d) : wo S d b = S b := if_neg h
theorem wo_same {S : Hp} {d : Addr} : wo S d d = none := if_pos rfl
section
variable {K : PySem.W.Frag} {S : Hp} {d : Addr} {od : Obj} {kvs : List (Key × V)}
theorem rd_wo {a : Addr} {u : HO} (hd : S d = some (.frz od (.dK kvs))) (hu : ∀ l : List (Key × V), u ≠ .dK l) (hf : ∀ o x, u ≠ .frz o x) (h : Rd S a u) : Rd (wo S d) a u := by
  have ne : a ≠ d := by
    rintro rfl
    rcases h with h | ⟨o, h⟩
    · rw [hd] at h; exact hf _ _ (Option.some.inj h).symm
    · rw [hd] at h
      injection h with h
      injection h with _ h
      exact hu _ h.symm
  rcases h with h | ⟨o, h⟩
  · exact .inl (by rw [wo_ne ne]; exact h)
  · exact .inr ⟨o, by rw [wo_ne ne]; exact h⟩
mutual
theorem Rep.wo (hd : S d = some (.frz od (.dK kvs))) : ∀ (x : D) (v : V), Rep K S x v → Rep K (DL.wo S d) x v
  | .non, _, h => h
  | .bl _, _, h => h
  | .int _, _, h => h
  | .str _, _, h => h
  | .byt _, _, h => h
  | .ty _, _, h => h
  | .ref _, _, h => h
  | .tup ds, v, h => by
    obtain ⟨a, xs, e1, h1, h2⟩ := h
    refine ⟨a, xs, e1, ?_, Reps.wo hd ds xs h2⟩
    rcases h1 with h1 | h1
    · exact .inl (rd_wo hd (fun _ z => nomatch z) (fun _ _ z => nomatch z) h1)
    · exact .inr h1
  | .lst ds, v, h => by
    obtain ⟨a, xs, e1, h1, h2⟩ := h
    refine ⟨a, xs, e1, ?_, Reps.wo hd ds xs h2⟩
    have ne : a ≠ d := by rintro rfl; rw [hd] at h1; cases h1
    rw [wo_ne ne]; exact h1
  | .rol ds, v, h => by
    obtain ⟨a, xs, e1, h1, h2⟩ := h
    refine ⟨a, xs, e1, ?_, Reps.wo hd ds xs h2⟩
    rcases h1 with h1 | h1
    · exact .inl (rd_wo hd (fun _ z => nomatch z) (fun _ _ z => nomatch z) h1)
    · exact .inr h1
theorem Reps.wo (hd : S d = some (.frz od (.dK kvs))) : ∀ (ds : List D) (xs : List V), Reps K S ds xs → Reps K (DL.wo S d) ds xs
  | [], _, h => h
  | x :: ds, xs, h => by
    obtain ⟨y, r, e1, h1, h2⟩ := h
    exact ⟨y, r, e1, Rep.wo hd x y h1, Reps.wo hd ds r h2⟩
end
theorem FRep.wo (hd : S d = some (.frz od (.dK kvs))) {κ : Type} : ∀ {ps : List (κ × D)} {qs : List (κ × V)}, FRep K S ps qs → FRep K (DL.wo S d) ps qs
  | _, _, .nil => .nil
  | _, _, .cons h t => .cons ⟨h.1, Rep.wo hd _ _ h.2⟩ (FRep.wo hd t)
theorem CellOk.wo {H H' : Hp} (hd : S d = some (.frz od (.dK kvs))) {a : Addr} {c : Cell} (ha : H' a = H a) (h : CellOk K S H a c) : CellOk K (DL.wo S d) H' a c := by
  cases c with
  | lst ds => obtain ⟨xs, h1, h2⟩ := h; exact ⟨xs, ha.trans h1, Reps.wo hd _ _ h2⟩
  | ins C fs => obtain ⟨dx, gs, h1, h2⟩ := h; exact ⟨dx, gs, ha.trans h1, h2.wo hd⟩
  | dK kvs => obtain ⟨xs, h1, h2⟩ := h; exact ⟨xs, ha.trans h1, h2.wo hd⟩
  | tbl q =>
    obtain ⟨ps, h1, h2, h3⟩ := h
    refine ⟨ps, ha.trans h1, h2, fun pos cv z => ?_⟩
    obtain ⟨c, e1, e2⟩ := h3 pos cv z
    refine ⟨c, e1, ?_⟩
    rw [wo_ne (fun q => by subst q; rw [hd] at e2; unfold LamX.CodeO at e2; cases e2)]
    exact e2
end
/-- behind a lock -/
theorem Pst.unlock {K : PySem.W.Frag} {S S' H H' : Hp} {M M' : Mem} {d : Addr} {od : Obj} {xs : List (Key × V)} {kvs : List (Key × D)} (hm : M d = some (.dK kvs)) (hS : S d = none) (hH : H d = some (.dK xs)) (hr : FRep K S kvs xs)
    (p : Pst K (upd S d (.frz od (.dK xs))) (delM M d) (upd H d (.frz od (.dK xs))) S' M' H') : H' d = some (.frz od (.dK xs)) ∧ Pst K S M H (wo S' d) (updM M' d (.dK kvs)) (upd H' d (.dK xs)) ∧ ∀ x v, Rep K S' x v → Rep K (wo S' d) x v := by
  have hs' : S' d = some (.frz od (.dK xs)) := p.ss d _ upd_same
  have hh' : H' d = some (.frz od (.dK xs)) := p.sh d _ hs'
  have sw : Same S (wo S' d) := fun b o e => by
    have nb := ne_of_none e hS
    rw [wo_ne nb]
    exact p.ss b o (by rw [upd_ne nb]; exact e)
  refine ⟨hh', ⟨sw, fun b o e => ?_, fun b c e => ?_, fun b o e hb => ?_, fun b hb => ?_, fun b hb => ?_, fun b hb => ?_⟩, fun x v r => Rep.wo hs' x v r⟩
  · by_cases nb : b = d
    · subst nb; rw [wo_same] at e; cases e
    · rw [wo_ne nb] at e; rw [upd_ne nb]; exact p.sh b o e
  · by_cases nb : b = d
    · subst nb
      rw [updM_same] at e
      cases e
      exact ⟨wo_same, xs, upd_same, hr.mono sw⟩
    · rw [updM_ne nb] at e
      obtain ⟨h1, h2⟩ := p.mem b c e
      exact ⟨by rw [wo_ne nb]; exact h1, h2.wo hs' (upd_ne nb)⟩
  · have nb : b ≠ d := by rintro rfl; rw [hm] at hb; cases hb
    rw [upd_ne nb]
    exact p.keep b o (by rw [upd_ne nb]; exact e) (by rw [delM_ne nb]; exact hb)
  · by_cases nb : b = d
    · subst nb; exact .inl (by rw [hm]; intro z; cases z)
    · rw [updM_ne nb] at hb
      rcases p.dom b hb with z | z
      · rw [delM_ne nb] at z; exact .inl z
      · rw [upd_ne nb] at z; exact .inr z
  · by_cases nb : b = d
    · subst nb; exact absurd wo_same hb
    · rw [wo_ne nb] at hb
      rcases p.sdom b hb with z | z | z
      · rw [upd_ne nb] at z; exact .inl z
      · rw [upd_ne nb] at z; exact .inr (.inl z)
      · rw [delM_ne nb] at z; exact .inr (.inr z)
  · by_cases nb : b = d
    · subst nb; rw [upd_same]; intro z; cases z
    · rw [upd_ne nb]; exact p.liv b (by rw [upd_ne nb]; exact hb)
theorem Pst.lock {K : PySem.W.Frag} {S H : Hp} {M : Mem} {d : Addr} {od : Obj} {xs : List (Key × V)} {kvs : List (Key × D)} (sh : Same S H) (m : MemOk K S M H) (hm : M d = some (.dK kvs)) :
    Same (upd S d (.frz od (.dK xs))) (upd H d (.frz od (.dK xs))) ∧ MemOk K (upd S d (.frz od (.dK xs))) (delM M d) (upd H d (.frz od (.dK xs))) ∧ Same S (upd S d (.frz od (.dK xs))) := by
  have hS : S d = none := (m d _ hm).1
  have s1 : Same S (upd S d (.frz od (.dK xs))) := fun b o e => by rw [upd_ne (ne_of_none e hS)]; exact e
  refine ⟨fun b o e => ?_, fun b c e => ?_, s1⟩
  · by_cases nb : b = d
    · subst nb; rw [upd_same] at e ⊢; exact e
    · rw [upd_ne nb] at e ⊢; exact sh b o e
  · by_cases nb : b = d
    · subst nb; rw [delM_same] at e; cases e
    · rw [delM_ne nb] at e
      obtain ⟨h1, h2⟩ := m b c e
      exact ⟨by rw [upd_ne nb]; exact h1, h2.mono s1 (upd_ne nb)⟩

/-- what the comprehension's loop is to show -/
def DcD (X : Cx) (scope : Scope) (own : List (Str × Nat)) (tg kx vx : Expr) (envb : Vars) (items : List D) (J : Nat → List (Key × D) → Mem → Prop) : Prop :=
  ∀ (i : Nat) (hi : i < items.length) (acc : List (Key × D)) (M' : Mem), J i acc M' → acc.length ≤ i →
    ∀ (s : Shared) (H : Hp) (C : Addr) (cl : List (Str × Addr)) (fp : List Addr), Gw (X.blk s H scope (compEnvC scope cl C X.env) fp) own tg items[i] envb M' fun env2 M2 =>
      ∀ (s : Shared) (H : Hp) (C : Addr) (cl : List (Str × Addr)) (fp : List Addr), E (X.blk s H scope (compEnvC scope cl C X.env) fp) PX0 kx env2 M2 fun y M3 => ∃ k, y = kD k ∧
        ∀ (s : Shared) (H : Hp) (C : Addr) (cl : List (Str × Addr)) (fp : List Addr), E (X.blk s H scope (compEnvC scope cl C X.env) fp) PX0 vx env2 M3 fun d M4 => J (i + 1) (putD acc k d) M4
theorem putD_len (kvs : List (Key × D)) (k : Key) (d : D) : (putD kvs k d).length ≤ kvs.length + 1 := by
  unfold putD
  split
  · rw [List.length_map]; omega
  · rw [List.length_append]; exact Nat.le_refl _
def itD (kvs : List (Key × D)) : List D := kvs.map fun kv => .tup [kD kv.1, kv.2]
theorem frep_get {K : PySem.W.Frag} {S : Hp} {κ : Type} : ∀ {kvs : List (κ × D)} {xs : List (κ × V)} {i : Nat} {p : κ × D}, FRep K S kvs xs → kvs[i]? = some p → ∃ q, xs[i]? = some q ∧ p.1 = q.1 ∧ Rep K S p.2 q.2
  | _, _, _, _, .nil, h => by simp at h
  | _, _, 0, p, .cons h _, e => by simp at e; subst e; exact ⟨_, rfl, h.1, h.2⟩
  | _, _, i + 1, p, .cons _ t, e => by
    obtain ⟨q, h1, h2⟩ := frep_get (i := i) t (by simpa using e)
    exact ⟨q, by simpa using h1, h2⟩
theorem rep_kV {K : PySem.W.Frag} {S : Hp} (k : Key) : Rep K S (kD k) (kV k) := by
  cases k <;> rfl
theorem deals_items {K : PySem.W.Frag} {S : Hp} {d : Addr} {od : Obj} {xs : List (Key × V)} {kvs : List (Key × D)} (hd : S d = some (.frz od (.dK xs))) (r : FRep K S kvs xs) : Deals K (Iti d od xs) S (itD kvs) where
  go := fun i H hi sh => ⟨sh _ _ hd, by rw [← Paired.length r]; simpa [itD] using hi⟩
  stop := fun i H hi sh => ⟨sh _ _ hd, by rw [← Paired.length r, hi]; simp [itD]⟩
  yld := fun i H x H' S' M hi ss sh m hy => by
    obtain ⟨T, k, v, h1, rfl, hT, rfl⟩ := hy
    have hi' : i < kvs.length := by simpa [itD] using hi
    obtain ⟨q, g1, g2, g3⟩ := frep_get (i := i) (p := kvs[i]) r (by simp [hi'])
    rw [h1] at g1
    cases g1
    have pw := Pst.new (o := .tup [kV k, v]) sh m hT
    refine ⟨_, pw, ?_⟩
    have e : (itD kvs)[i] = .tup [kD k, kvs[i].2] := by
      simp only [itD, List.getElem_map]
      rw [show kvs[i].1 = k from g2]
    rw [e]
    exact ⟨T, _, rfl, SqT.of upd_same, _, _, rfl, rep_kV k, _, _, rfl, Rep.mono (ss.trans pw.ss) _ _ g3, rfl⟩
def kAll (X : Cx) (scope : Scope) (e : Expr) : TE := eAll X scope e
/-- {k: v for .. in o.items()}, o a field or a name whose dict is a cell; nothing else is changed -/
theorem e_dcItems {kx vx : Expr} {scope : Scope} {own : List (Str × Nat)} {envb : Vars} {elts : List Expr} {kk : Nat} {tpos : Pos} {d : Addr} {kvs : List (Key × D)} (okB : BlkOk X.N X.env.scope scope own) (hd : Drops env (own.map (·.1)) envb) (hm : M d = some (.dK kvs)) (hlen : kvs.length ≤ 1000)
    (ho : E X PX0 o env (delM M d) fun x M1 => x = .ref d ∧ ∃ J : Nat → List (Key × D) → Mem → Prop, J 0 [] M1 ∧ DcD X scope own (.Tuple elts kk tpos) kx vx envb (itD kvs) J ∧ ∀ acc M', J kvs.length acc M' → ∀ p, (updM M' d (.dK kvs)) p = none → Q (.ref p) (updM (updM M' d (.dK kvs)) p (.dK acc)))
    (hc : X.calm = true := by rfl) (hs : ∀ x, foldedSetIterable (.Call (.Attribute o "items" apos) [] [] p) X.env x = pure x := by intro _; rfl)
    (hbase : attributeBase o "items" X.env (eval o X.env) = eval o X.env := by rfl) (hline : (apos.endLine == p.line) = true := by rfl) :
    E X PX (.DictComp kx vx [⟨.Tuple elts kk tpos, .Call (.Attribute o "items" apos) [] [] p, [], 0⟩] scope pos) env M Q :=
  ⟨fun S σ H ok wi => semE_of (pe_lock (pe_dc hc ok.nd (pi_items pe_sem hbase hline) okB pg_all (fun _ _ _ _ _ => pts_nil) (pe_all (elt := kx)) (pe_all (elt := vx)) hs)) (by
    obtain ⟨hS, xs, hH, hr⟩ := ok.mem d _ hm
    refine ⟨d, .dK xs, hH, trivial, fun od => ?_⟩
    obtain ⟨shL, memL, sL⟩ := Pst.lock (od := od) (xs := xs) ok.sh ok.mem hm
    have okL : Ok X (upd S d (.frz od (.dK xs))) env (delM M d) σ (upd H d (.frz od (.dK xs))) := ⟨shL, memL, ok.nm, fun i x d' e => let ⟨v, h1, h2⟩ := ok.sl i x d' e; ⟨v, h1, Rep.mono sL _ _ h2⟩, ok.len, ok.nd⟩
    have wiL : Wish X PX0 (upd S d (.frz od (.dK xs))) (delM M d) (upd H d (.frz od (.dK xs))) := ⟨takes0.imp fun _ _ _ _ ⟨_, _, _, _, _, z⟩ => z, wi.own⟩
    refine ho.bind okL wiL fun S1 x M1 v H1 p1 ok1 wi1 rx ⟨ex, Jv, j0, jt, jd⟩ => ?_
    subst ex
    have hd1 : S1 d = some (.frz od (.dK xs)) := p1.ss _ _ upd_same
    refine ⟨d, od, xs, rx, p1.sh _ _ hd1, fun Dl hD => ?_⟩
    have dl := deals_items hd1 (hr.mono (sL.trans p1.ss))
    have hil : (itD kvs).length = kvs.length := by simp [itD]
    have hDS : S1 Dl = none := Same.free ok1.sh hD
    have hDM : M1 Dl = none := ok1.mem.free hD
    have hDd : Dl ≠ d := by
      rintro rfl
      rw [p1.sh _ _ hd1] at hD
      cases hD
    have hD0 : H Dl = none := by
      have q := p1.was hD
      rw [upd_ne hDd] at q
      exact q
    refine ⟨fun i m H' => m = kvs.length - i ∧ i ≤ kvs.length ∧ ∃ S' M' acc vs, Pst X.K S1 M1 H1 S' M' H' ∧ H' Dl = some (.dK vs) ∧ S' Dl = none ∧ M' Dl = none ∧ FRep X.K S' acc vs ∧ acc.length ≤ i ∧ Jv i acc M',
      ⟨kvs.length, by simp, Nat.zero_le _, S1, M1, [], [], ok1.refl.untracked hD hDS hDM, upd_same, hDS, hDM, .nil, Nat.zero_le _, j0⟩, ?_⟩
    rintro i m H' ⟨rfl, hi, S', M', acc, vs, p', hDl, hS', hM', rs, hal, q⟩
    have okb : Ok X S' env M' σ H' := ok1.step p'
    by_cases hlt : i < kvs.length
    · have hlt' : i < (itD kvs).length := by rw [hil]; exact hlt
      refine .inr ⟨dl.go i H' hlt' (p'.ss.trans p'.sh), fun H2 => i + 1 ≤ kvs.length ∧ ∃ S' M' acc vs, Pst X.K S1 M1 H1 S' M' H2 ∧ H2 Dl = some (.dK vs) ∧ S' Dl = none ∧ M' Dl = none ∧ FRep X.K S' acc vs ∧ acc.length ≤ i + 1 ∧ Jv (i + 1) acc M',
        fun H2 n2 => ⟨kvs.length - (i + 1), by omega, rfl, n2.1, n2.2⟩, fun x H2 hy => ?_⟩
      obtain ⟨S2, py, ry⟩ := dl.yld i H' x H2 S' M' hlt' p'.ss p'.sh p'.mem hy
      have okd : Ok X S2 envb M' (wipe σ (own.map (·.2))) H2 := (okb.step py).drop okB.ix hd
      intro s0 H0 C cl fp
      have p2 := p'.trans py
      have liv2 : H2 Dl ≠ none := py.liv Dl (by rw [hDl]; intro z; cases z)
      have d2 : S2 Dl = none := (py.snone hS' (by rw [hDl]; intro z; cases z) hM').1
      have e2 : H2 Dl = some (.dK vs) := py.keep Dl _ hDl hM'
      refine semG_mono ((jt i hlt' acc M' q hal s0 H0 C cl fp).run S2 _ H2 x (blk_ok okd) ry) fun σ2 H3 ⟨hw, S3, env3, M3, p3, ok3, hk⟩ => ⟨?_, ?_⟩
      · rw [hw]
        apply List.ext_getElem?
        intro j
        rw [wipe_get, wipe_get]
        by_cases hj : j ∈ own.map (·.2)
        · rw [if_pos hj, if_pos hj]
          cases σ[j]? <;> rfl
        · rw [if_neg hj]
      · have e3 : H3 Dl = some (.dK vs) := p3.keep Dl _ e2 hM'
        obtain ⟨d3, m3⟩ := p3.snone d2 liv2 hM'
        unfold tYes
        dsimp only
        rw [if_pos rfl]
        intro s1 H01 C1 cl1 fp1
        refine semE_mono ((hk s1 H01 C1 cl1 fp1).run S3 σ2 H3 (blk_ok (blk_un ok3)) wish_blk) fun y H4 ⟨S4, dy, M4, p4, ry4, k, ek, hv⟩ => ?_
        subst ek
        have e4 : H4 Dl = some (.dK vs) := p4.keep Dl _ e3 m3
        obtain ⟨d4, m4⟩ := p4.snone d3 (by rw [e3]; intro z; cases z) m3
        have ok4 := (blk_un ok3).step p4
        intro s2 H02 C2 cl2 fp2
        refine semE_mono ((hv s2 H02 C2 cl2 fp2).run S4 σ2 H4 (blk_ok ok4) wish_blk) fun z H5 ⟨S5, dz, M5, p5, rz5, q5⟩ => ?_
        have e5 : H5 Dl = some (.dK vs) := p5.keep Dl _ e4 m4
        obtain ⟨d5, m5⟩ := p5.snone d4 (by rw [e4]; intro z; cases z) m4
        have hlv : vs.length = acc.length := (Paired.length rs).symm
        have hpl := putD_len acc k dz
        refine ⟨vs, k, rep_kD ry4, e5, Nat.lt_of_lt_of_le (show vs.length < 100000 by omega) (by decide), hlt, S5, M5, putD acc k dz, putK vs k z, (((p2.trans p3).trans p4).trans p5).untracked hD d5 m5, upd_same, d5, m5,
          frep_put rz5 (rs.mono (((py.ss.trans p3.ss).trans p4.ss).trans p5.ss)) k, by omega, q5⟩
    · have e : i = kvs.length := by omega
      subst e
      have pw := p1.trans p'
      obtain ⟨hfz, u, hre⟩ := Pst.unlock hm hS hH hr pw
      have hs' : S' d = some (.frz od (.dK xs)) := pw.ss _ _ upd_same
      refine .inl ⟨dl.stop _ H' hil.symm (p'.ss.trans p'.sh), hfz, wo S' d, .ref Dl, updM (updM M' d (.dK kvs)) Dl (.dK acc), u.adoptM (c := .dK acc) hD0 ⟨vs, by rw [upd_ne hDd]; exact hDl, rs.wo hs'⟩ (by rw [wo_ne hDd]; exact hS'), rfl, jd acc M' q Dl (by rw [updM_ne hDd]; exact hM')⟩)⟩

/-! ### tuple * int, any number -/
end
theorem tuple_mul1 (l : Addr) (items : Array Value) (n : Nat) (dd : Option Addr) (sl : Array (Option Value)) (u : Tok) :
    Meets (Builtin.«tuple.__mul__» ⟨[.ref l, .int 1 u], []⟩) (fun _ R s => s.heap.get? l = some { cls := .type "tuple", dict := dd, data := .seq items n, slots := sl } ∧ R (.ok (.ret (Value.ref l))) s) :=
  .of_wp fun prog w A R s h => by
    obtain ⟨hp, g, d, tk, os⟩ := s
    obtain ⟨hl, h⟩ := h
    have f1 := AutoSeq1.idx_int
    wp_walk using wpAny_loadPart' hl
    exact ⟨_, rfl, h⟩
def rRep1 (K : PySem.W.Frag) : R2 := fun x y H Q => ∃ l xs, x = .ref l ∧ y = .int 1 ∧ SqT K H l xs ∧ Q (.ref l) H
theorem op_rep1 {X : Cx} : OpR X (binaryOp .Mult) (rRep1 X.K) := by
  intro pins s σ H x y v u Q I rx ry h
  obtain ⟨l, xs, rfl, rfl, hT, q⟩ := h
  cases rx
  obtain ⟨t, rfl⟩ := ry
  obtain ⟨its, r, ⟨⟨cls, dd, data, sl⟩, ho, hc, n, hd⟩, hs⟩ := I.tuple hT
  simp only at hc hd
  subst hc hd
  exact wpAny_binaryOp_repeat_ref (T := "tuple") (U := "int") (by decide) ⟨_, ho, rfl⟩ (fun s' => typeIs_int s' 1 t) noFill_tuple_mul F.fills_int_mul F.slot_int_rmul repeat_tuple F.slot_int_index.lookup
    (call_meets F.slot_int_rmul (typeIs_int s 1 t) F.entry_int_rmul (F.args_int_rmul_2 _ _) (int_rmul_tuple 1 t l its.toArray n dd sl)
      ⟨ho, rfl, ⟨_, ho, rfl⟩, call_meets F.slot_tuple_mul ⟨_, ho, rfl⟩ F.entry_tuple_mul (F.args_tuple_mul_2 _ _) (tuple_mul1 l its.toArray n dd sl t) ⟨ho, ⟨.ref l, H, I, rfl, q⟩⟩⟩)
section
variable {X : Cx} {PX : PXT} {a b : Expr} {env : Vars} {M : Mem} {pos : Pos} {Q : QD}
/-- t * k, k from 1 on -/
theorem e_repT (h : E X PX a env M fun x M1 => E X PX b env M1 fun y M2 => ∃ ds k, x = .tup ds ∧ y = .int k ∧ ds ≠ [] ∧ 1 ≤ k ∧ k ≤ 1000 ∧ ds.length ≤ 1000 ∧ Q (.tup (List.replicate k.toNat ds).flatten) M2) : E X PX (.BinOp a .Mult b pos) env M Q :=
  e_op (g := fun x y M Q => ∃ ds k, x = .tup ds ∧ y = .int k ∧ ds ≠ [] ∧ 1 ≤ k ∧ k ≤ 1000 ∧ ds.length ≤ 1000 ∧ Q (.tup (List.replicate k.toNat ds).flatten) M) (OpR.or op_repT op_rep1) (by
    intro S M H x y v u Q R sh m rx ry ⟨ds, k, e1, e2, hne, hk, hk1, hl, q⟩ hR
    subst e1 e2
    obtain ⟨a, xs, rfl, h1, h2⟩ := rx
    by_cases hk2 : 2 ≤ k
    · exact .inl ⟨a, k, xs, rfl, ry, Same.tup sh h1, fun e => hne (List.eq_nil_of_length_eq_zero (by rw [← h2.len, e]; rfl)), hk2, hk1, by rw [h2.len]; exact hl, fun p hp => hR _ _ (post_tup sh m hp (reps_rep h2 _) q)⟩
    · have e : k = 1 := by omega
      subst e
      have e2 : (List.replicate (1 : Int).toNat ds).flatten = ds := by simp
      rw [e2] at q
      exact .inr ⟨a, xs, rfl, ry, Same.tup sh h1, hR _ _ (post_same (d := .tup ds) sh m ⟨a, xs, rfl, h1, h2⟩ q)⟩) h
end
end DL

/-! DL8: in, not in of flat items; more answers -/
namespace DL
open PySem L2
section
variable {X : Cx} {PX : PXT} {e a b c tg it : Expr} {es : List Expr} {env : Vars} {M : Mem} {Q : QD} {pos p : Pos} {x : Str}
def D.flat : D → Bool
  | .non | .bl _ | .int _ | .str _ => true
  | _ => false
def D.fv : D → V
  | .bl k => .bl k
  | .int i => .int i
  | .str s => .str s
  | _ => .non
theorem rep_flat {K : PySem.W.Frag} {S : Hp} {d : D} {v : V} (h : d.flat = true) (r : Rep K S d v) : v = d.fv ∧ flatV v = true := by
  cases d <;> first | exact ⟨r, by rw [show v = _ from r]; rfl⟩ | exact absurd (show false = true from h) Bool.false_ne_true
theorem reps_flat {K : PySem.W.Frag} {S : Hp} : ∀ {ds : List D} {xs : List V}, ds.all D.flat = true → Reps K S ds xs → xs = ds.map D.fv ∧ xs.all flatV = true
  | [], _, _, r => by rw [show _ = _ from r]; exact ⟨rfl, rfl⟩
  | d :: ds, _, h, r => by
    obtain ⟨v, vs, rfl, r1, r2⟩ := r
    rw [List.all_cons, Bool.and_eq_true] at h
    obtain ⟨e1, f1⟩ := rep_flat h.1 r1
    obtain ⟨e2, f2⟩ := reps_flat h.2 r2
    exact ⟨by rw [e1, e2]; rfl, by rw [List.all_cons, f1, f2]; rfl⟩
/-- a flat value among the items -/
def inD (d : D) (ds : List D) : Bool := ds.any fun y => eqV y.fv d.fv
def gIn (neg : Bool) : D → D → Mem → QD → Prop := fun x y M Q => ∃ ds, (y = .tup ds ∨ y = .lst ds ∨ y = .rol ds) ∧ x.flat = true ∧ ds.all D.flat = true ∧ Q (.bl (if neg then !inD x ds else inD x ds)) M
theorem d2_in {K : PySem.W.Frag} {neg : Bool} : D2 K (rIn K neg) (gIn neg) := by
  intro S M H x y v u Q R sh m rx ry hg hR
  obtain ⟨ds, hy, fx, fs, q⟩ := hg
  obtain ⟨ex, f1⟩ := rep_flat fx rx
  have hh : ∃ p xs, u = V.ref p ∧ (SqL K H p xs ∨ SqT K H p xs) ∧ Reps K S ds xs := by
    rcases hy with e | e | e
    · subst e; obtain ⟨p, xs, rfl, hq, rs⟩ := ry; exact ⟨p, xs, rfl, .inr (Same.tup sh hq), rs⟩
    · subst e; obtain ⟨p, xs, rfl, hq, rs⟩ := ry; exact ⟨p, xs, rfl, .inl (Same.seq sh (SqL.of hq)), rs⟩
    · subst e; obtain ⟨p, xs, rfl, hq, rs⟩ := ry; exact ⟨p, xs, rfl, .inl (Same.seq sh hq), rs⟩
  obtain ⟨p, xs, rfl, hq, rs⟩ := hh
  obtain ⟨exs, f2⟩ := reps_flat fs rs
  refine ⟨p, xs, rfl, hq, f1, f2, hR _ _ ?_⟩
  have e3 : inV v xs = inD x ds := by rw [exs, ex]; unfold inV inD; rw [List.any_map]; rfl
  rw [e3]
  exact post_bl sh m q
theorem e_in (h : E X PX a env M fun x M1 => E X PX b env M1 fun y M2 => gIn false x y M2 Q) (hm : behindInMarks .In b = false := by rfl) : E X PX (.Compare a [.In] [b] pos) env M Q := e_cmp op_in_seq d2_in h hm
theorem e_notIn (h : E X PX a env M fun x M1 => E X PX b env M1 fun y M2 => gIn true x y M2 Q) (hm : behindInMarks .NotIn b = false := by rfl) : E X PX (.Compare a [.NotIn] [b] pos) env M Q := e_cmp op_notIn_seq d2_in h hm
theorem t_in {Q : Bool → Mem → Prop} (h : E X PX a env M fun x M1 => E X PX b env M1 fun y M2 => gIn false x y M2 fun d M3 => ∃ k, d = .bl k ∧ Q k M3) (hm : behindInMarks .In b = false := by rfl) : T X PX (.Compare a [.In] [b] pos) env M Q := t_cmp op_in_seq d2_in h hm
theorem t_notIn {Q : Bool → Mem → Prop} (h : E X PX a env M fun x M1 => E X PX b env M1 fun y M2 => gIn true x y M2 fun d M3 => ∃ k, d = .bl k ∧ Q k M3) (hm : behindInMarks .NotIn b = false := by rfl) : T X PX (.Compare a [.NotIn] [b] pos) env M Q := t_cmp op_notIn_seq d2_in h hm
theorem e_globI {i : Int} (hm : ∃ u, X.mg x = some u ∧ RelV (.int i) u) (q : Q (.int i) M) (hg : Gl X x := by rfl) (hd : (x == ("__debug__" : Str)) = false := by decide) : E X PX (.Name x pos) env M Q := e_glob (d := .int i) hm (fun _ => rfl) q hg hd
theorem br_t {c : Bool} {P Q : Prop} (h : c = true) (p : P) : (c = true → P) ∧ (c = false → Q) := ⟨fun _ => p, fun z => by rw [h] at z; cases z⟩
theorem br_f {c : Bool} {P Q : Prop} (h : c = false) (p : Q) : (c = true → P) ∧ (c = false → Q) := ⟨fun z => (by rw [h] at z; cases z), fun _ => p⟩
theorem rb_t {c : Bool} {P Q : Prop} (h : c = true) (p : Q) : (c = false → P) ∧ (c = true → Q) := ⟨fun z => (by rw [h] at z; cases z), fun _ => p⟩
theorem rb_f {c : Bool} {P Q : Prop} (h : c = false) (p : P) : (c = false → P) ∧ (c = true → Q) := ⟨fun _ => p, fun z => by rw [h] at z; cases z⟩
theorem mulS {i j : Int} (h : i.natAbs < 2 ^ 400000) (h' : j.natAbs < 2 ^ 400000) : CMul i j ∨ CMulW i j := .inr (wide_mul h h' (by decide) (by decide) (by decide))
theorem nat_lt_pow {n k : Nat} (m : Nat) (h : n < 2 ^ k) (hk : k ≤ m) : n < 2 ^ m := Nat.lt_of_lt_of_le h (Nat.pow_le_pow_right (by decide) hk)
end
end DL

/-! DL9: own classes from what is known of them; memories that grow; dicts of ints -/
namespace DL
open PySem L2
section
variable {X : Cx} {PX : PXT} {e a b c o tg it : Expr} {es : List Expr} {env : Vars} {M : Mem} {Q : QD} {pos p apos : Pos} {x m : Str} {pl : Sem Bool}
theorem e_methD {sp : DSp} {k j : Nat} {C : Addr} (F : MDef X.prog X.w X.K X.mg X.base C m k sp) (cl : Cls X.K C) (hr : Room j X.A) (hk : k ≤ j)
    (h : E X PX o env M fun x M1 => ∃ a fs, x = .ref a ∧ M1 a = some (.ins C fs) ∧ FNo fs m ∧ A X PX (e :: es) env M1 fun ds M2 => sp (.ref a :: ds) M2 Q PX)
    (hst : starEach (e :: es) X.env = (false, eval e X.env) :: starEach es X.env := by rfl) (hpl : (backTo pos (starEach es X.env)).any (·.1) = false := by rfl)
    (ht : eval (.Call (.Attribute o m apos) (e :: es) [] pos) X.env = (do
      let ov ← eval o X.env
      standAt apos.atName
      let (f, first) ← holding [ov] (getMethod ov m pl)
      callWith pos f first (backTo pos (starEach (e :: es) X.env)) (backToKw pos (keywordEach [] X.env))) := by rfl) : E X PX (.Call (.Attribute o m apos) (e :: es) [] pos) env M Q := by
  obtain ⟨f, fd, ps, G, hm, hb⟩ := F.ex
  exact e_meth (k := k) h fun Ex hx => pe_meth (pl := pl) pe_sem cl hm G (hr.mono hk) hb .nil hx pa_sem hst hpl ht
theorem e_meth0D {sp : DSp} {k j : Nat} {C : Addr} (F : MDef X.prog X.w X.K X.mg X.base C m k sp) (cl : Cls X.K C) (hr : Room j X.A) (hk : k ≤ j)
    (h : E X PX o env M fun x M1 => ∃ a fs, x = .ref a ∧ M1 a = some (.ins C fs) ∧ FNo fs m ∧ sp [.ref a] M1 Q PX)
    (ht : eval (.Call (.Attribute o m apos) [] [] pos) X.env = (do
      let ov ← eval o X.env
      standAt apos.atName
      let (f, first) ← holding [ov] (getMethod ov m pl)
      callWith pos f first (backTo pos (starEach [] X.env)) (backToKw pos (keywordEach [] X.env))) := by rfl) : E X PX (.Call (.Attribute o m apos) [] [] pos) env M Q := by
  obtain ⟨f, fd, ps, G, hm, hb⟩ := F.ex
  exact e_meth0 (k := k) h fun Ex hx => pe_meth0 (pl := pl) pe_sem cl hm G (hr.mono hk) hb .nil hx ht
/-- a class that is made by its own __init__ -/
structure CDef (P : Program) (w : World) (K : PySem.W.Frag) (mg : Str → Option Value) (base : Heap) (x : Str) (C : Addr) (k : Nat) (sp : DSp) : Prop where
  ex : ∃ f fd ps, FnOk P w K mg base (L2.CX P w) k f fd ps (lift K sp) ∧ Mk K C f ∧ Binds K fd ps [] ∧ mg x = some (.ref C)
theorem e_makeD {sp : DSp} {k j : Nat} {C : Addr} (F : CDef X.prog X.w X.K X.mg X.base x C k sp) (hr : Room j X.A) (hk : k + 1 ≤ j)
    (h : A X PX (e :: es) env M fun ds M1 => ∀ a, M1 a = none → sp (.ref a :: ds) (updM M1 a (.ins C [])) (fun d M2 => d = .non ∧ Q (.ref a) M2) PX)
    (hg : Gl X x := by rfl) (hdb : (x == ("__debug__" : Str)) = false := by decide) (he : starEach (e :: es) X.env = (false, eval e X.env) :: starEach es X.env := by rfl) (hpl : (backTo pos (starEach es X.env)).any (·.1) = false := by rfl) :
    E X PX (.Call (.Name x p) (e :: es) [] pos) env M Q := by
  obtain ⟨f, fd, ps, G, hm, hb, hn⟩ := F.ex
  exact e_make h fun Ex hx => pe_make hm G (hr.mono hk) hg hn hb .nil hx pa_sem hdb he hpl
theorem e_pow (h : E X PX a env M fun x M1 => E X PX b env M1 fun y M2 => ∃ i j, x = .int i ∧ y = .int j ∧ CPow i j ∧ Q (.int (i ^ j.toNat)) M2) : E X PX (.BinOp a .Pow b pos) env M Q := e_op op_pow d2_int h
theorem e_intC {p1 : Pos} {ops : List CmpOp} {bs : List Expr} (hm : X.mg "int" = none) (h : E X PX (.Compare a ops bs p1) env M fun d M1 => ∃ k : Bool, d = .bl k ∧ Q (.int (if k then 1 else 0)) M1) (hg : Gl X "int" := by rfl)
    (he : starEach [.Compare a ops bs p1] X.env = (false, eval (.Compare a ops bs p1) X.env) :: starEach [] X.env := by rfl) (hpl : (backTo pos (starEach [] X.env)).any (·.1) = false := by rfl) : E X PX (.Call (.Name "int" p) [.Compare a ops bs p1] [] pos) env M Q := e_intB hm h hg he hpl
theorem e_repTt {k0 : Nat} {p0 : Pos} (h : E X PX (.Tuple es k0 p0) env M fun x M1 => E X PX b env M1 fun y M2 => ∃ ds k, x = .tup ds ∧ y = .int k ∧ ds ≠ [] ∧ 1 ≤ k ∧ k ≤ 1000 ∧ ds.length ≤ 1000 ∧ Q (.tup (List.replicate k.toNat ds).flatten) M2) : E X PX (.BinOp (.Tuple es k0 p0) .Mult b pos) env M Q := e_repT h
theorem e_chg {i : Expr} (hu : X.A.units + 1 < cLine) (h : E X PX (.Attribute o "changes" p) env M fun x M1 => E X PX i env M1 fun y M2 => ∃ q kvs k d, x = .ref q ∧ y = kD k ∧ M2 q = some (.dK kvs) ∧ lookD kvs k = some d ∧ Q d M2) (hs : NoSl i := by exact fun _ _ => rfl) : E X PX (.Subscript (.Attribute o "changes" p) i pos) env M Q := e_dget hu h hs
theorem x_fld {M : Mem} {a : Addr} {C : Addr} {fs : List (Str × D)} {f : Str} {d : D} {Q : D → Prop} (hm : M a = some (.ins C fs)) (hf : FAt fs f d) (q : Q d) : ∃ a' fs d, D.ref a = .ref a' ∧ M a' = some (.ins C fs) ∧ FAt fs f d ∧ Q d := ⟨_, _, _, rfl, hm, hf, q⟩
theorem x_mth {M : Mem} {a : Addr} {C : Addr} {fs : List (Str × D)} {f : Str} {Q : Addr → Prop} (hm : M a = some (.ins C fs)) (hf : FNo fs f) (q : Q a) : ∃ a' fs, D.ref a = .ref a' ∧ M a' = some (.ins C fs) ∧ FNo fs f ∧ Q a' := ⟨_, _, rfl, hm, hf, q⟩
end
/-- a memory that keeps what was there -/
def Ext (M M' : Mem) : Prop := ∀ a c, M a = some c → M' a = some c
theorem Ext.refl {M : Mem} : Ext M M := fun _ _ h => h
theorem Ext.trans {M M1 M2 : Mem} (h : Ext M M1) (h' : Ext M1 M2) : Ext M M2 := fun a c e => h' a c (h a c e)
theorem Ext.new {M M' : Mem} {p : Addr} {c : Cell} (h : Ext M M') (hp : M p = none) : Ext M (updM M' p c) := fun a d e => by
  have : a ≠ p := fun z => by rw [z, hp] at e; cases e
  rw [updM_ne this]; exact h a d e
theorem Ext.none {M M' : Mem} (h : Ext M M') {p : Addr} (hp : M' p = none) : M p = none := by
  cases e : M p with
  | none => rfl
  | some c => rw [h p c e] at hp; cases hp
/-! ### dicts whose keys and values are ints -/
def encC (ch : List (Int × Int)) : List (Key × D) := ch.map fun p => (.inl p.1, .int p.2)
theorem itD_encC (ch : List (Int × Int)) : itD (encC ch) = ch.map fun p => .tup [.int p.1, .int p.2] := by unfold itD encC; rw [List.map_map]; rfl
theorem lookC {ch : List (Int × Int)} {k : Int} {v : Int} (h : ch.find? (fun p => decide (p.1 = k)) = some (k, v)) : lookD (encC ch) (.inl k) = some (.int v) := by
  unfold lookD encC
  rw [List.find?_map]
  have e : (fun kv : Key × D => decide (kv.1 = Sum.inl k)) ∘ (fun p : Int × Int => ((Sum.inl p.1 : Key), D.int p.2)) = fun p => decide (p.1 = k) := by
    funext p
    show decide ((Sum.inl p.1 : Key) = Sum.inl k) = decide (p.1 = k)
    exact decide_eq_decide.mpr ⟨fun z => Sum.inl.inj z, fun z => by rw [z]⟩
  rw [e, h]
  rfl
theorem putC {ch : List (Int × Int)} {k v : Int} (h : ∀ p ∈ ch, p.1 ≠ k) : putD (encC ch) (.inl k) (.int v) = encC (ch ++ [(k, v)]) := by
  unfold putD
  rw [if_neg]
  · unfold encC; rw [List.map_append]; rfl
  · intro z
    rw [List.any_eq_true] at z
    obtain ⟨q, hq, e⟩ := z
    unfold encC at hq
    rw [List.mem_map] at hq
    obtain ⟨p, hp, rfl⟩ := hq
    have e := of_decide_eq_true e
    exact h p hp (Sum.inl.inj e)
end DL

/-! DL10: {k: v for .. in .. if ..} into a cell; sorted(a dict with int keys) -/
namespace DL
open PySem L2
section
variable {X : Cx} {PX : PXT} {e a b c o tg it : Expr} {es : List Expr} {env : Vars} {M : Mem} {Q : QD} {pos p apos : Pos} {x m : Str}
/-- what the loop of such a comprehension is to show -/
def DcG (X : Cx) (scope : Scope) (own : List (Str × Nat)) (tg kx vx : Expr) (ifs : List Expr) (envb : Vars) (items : List D) (J : Nat → List (Key × D) → Mem → Prop) : Prop :=
  ∀ (i : Nat) (hi : i < items.length) (acc : List (Key × D)) (M' : Mem), J i acc M' → acc.length ≤ i →
    ∀ (s : Shared) (H : Hp) (C : Addr) (cl : List (Str × Addr)) (fp : List Addr), Gw (X.blk s H scope (compEnvC scope cl C X.env) fp) own tg items[i] envb M' fun env2 M2 =>
      ∀ (s : Shared) (H : Hp) (C : Addr) (cl : List (Str × Addr)) (fp : List Addr), TS' (X.blk s H scope (compEnvC scope cl C X.env) fp) PX0 ifs env2 M2 fun t M3 =>
        (t = true → ∀ (s : Shared) (H : Hp) (C : Addr) (cl : List (Str × Addr)) (fp : List Addr), E (X.blk s H scope (compEnvC scope cl C X.env) fp) PX0 kx env2 M3 fun y M4 => ∃ k, y = kD k ∧
          ∀ (s : Shared) (H : Hp) (C : Addr) (cl : List (Str × Addr)) (fp : List Addr), E (X.blk s H scope (compEnvC scope cl C X.env) fp) PX0 vx env2 M4 fun d M5 => J (i + 1) (putD acc k d) M5) ∧ (t = false → J (i + 1) acc M3)
theorem e_dcM {kx vx : Expr} {ifs : List Expr} {scope : Scope} {own : List (Str × Nat)} {envb : Vars} (okB : BlkOk X.N X.env.scope scope own) (hd : Drops env (own.map (·.1)) envb)
    (h : I X PX tg it env M fun items M1 => items.length ≤ 50000 ∧ ∃ J : Nat → List (Key × D) → Mem → Prop, J 0 [] M1 ∧ DcG X scope own tg kx vx ifs envb items J ∧ ∀ acc M', J items.length acc M' → acc.length ≤ items.length → ∀ p, M' p = none → Q (.ref p) (updM M' p (.dK acc)))
    (hc : X.calm = true := by rfl) (hs : ∀ x, foldedSetIterable it X.env x = pure x := by intro _; rfl) : E X PX (.DictComp kx vx [⟨tg, it, ifs, 0⟩] scope pos) env M Q :=
  ⟨fun S σ H ok wi => semE_of (pe_dc hc ok.nd pi_sem okB pg_all (pts_all (ifs := ifs)) (pe_all (elt := kx)) (pe_all (elt := vx)) hs) (by
    refine h.bind ok wi fun S1 items M1 J H1 p1 ok1 wi1 dl ⟨hlen, Jv, j0, jt, jd⟩ => fun Dl hD => ?_
    have hDS : S1 Dl = none := Same.free ok1.sh hD
    have hDM : M1 Dl = none := ok1.mem.free hD
    refine ⟨fun i m H' => m = items.length - i ∧ i ≤ items.length ∧ ∃ S' M' acc vs, Pst X.K S1 M1 H1 S' M' H' ∧ H' Dl = some (.dK vs) ∧ S' Dl = none ∧ M' Dl = none ∧ FRep X.K S' acc vs ∧ acc.length ≤ i ∧ Jv i acc M',
      ⟨items.length, by simp, Nat.zero_le _, S1, M1, [], [], ok1.refl.untracked hD hDS hDM, upd_same, hDS, hDM, .nil, Nat.zero_le _, j0⟩, ?_⟩
    rintro i m H' ⟨rfl, hi, S', M', acc, vs, p', hDl, hS', hM', rs, hal, q⟩
    have okb : Ok X S' env M' σ H' := ok1.step p'
    by_cases hlt : i < items.length
    · refine .inr ⟨dl.go i H' hlt (p'.ss.trans p'.sh), fun H2 => i + 1 ≤ items.length ∧ ∃ S' M' acc vs, Pst X.K S1 M1 H1 S' M' H2 ∧ H2 Dl = some (.dK vs) ∧ S' Dl = none ∧ M' Dl = none ∧ FRep X.K S' acc vs ∧ acc.length ≤ i + 1 ∧ Jv (i + 1) acc M',
        fun H2 n2 => ⟨items.length - (i + 1), by omega, rfl, n2.1, n2.2⟩, fun x H2 hy => ?_⟩
      obtain ⟨S2, py, ry⟩ := dl.yld i H' x H2 S' M' hlt p'.ss p'.sh p'.mem hy
      have okd : Ok X S2 envb M' (wipe σ (own.map (·.2))) H2 := (okb.step py).drop okB.ix hd
      intro s0 H0 C cl fp
      have p2 := p'.trans py
      have liv2 : H2 Dl ≠ none := py.liv Dl (by rw [hDl]; intro z; cases z)
      have d2 : S2 Dl = none := (py.snone hS' (by rw [hDl]; intro z; cases z) hM').1
      have e2 : H2 Dl = some (.dK vs) := py.keep Dl _ hDl hM'
      refine semG_mono ((jt i hlt acc M' q hal s0 H0 C cl fp).run S2 _ H2 x (blk_ok okd) ry) fun σ2 H3 ⟨hw, S3, env3, M3, p3, ok3, hts⟩ => ⟨?_, fun s1 H01 C1 cl1 fp1 => ?_⟩
      · rw [hw]
        apply List.ext_getElem?
        intro j
        rw [wipe_get, wipe_get]
        by_cases hj : j ∈ own.map (·.2)
        · rw [if_pos hj, if_pos hj]
          cases σ[j]? <;> rfl
        · rw [if_neg hj]
      · have e3 : H3 Dl = some (.dK vs) := p3.keep Dl _ e2 hM'
        obtain ⟨d3, m3⟩ := p3.snone d2 liv2 hM'
        refine semPT_mono ((hts s1 H01 C1 cl1 fp1).run S3 σ2 H3 (blk_ok (blk_un ok3)) wish_blk) fun t H4 ⟨S4, M4, p4, qy, qn⟩ => ?_
        have e4 : H4 Dl = some (.dK vs) := p4.keep Dl _ e3 m3
        obtain ⟨d4, m4⟩ := p4.snone d3 (by rw [e3]; intro z; cases z) m3
        have ok4 := (blk_un ok3).step p4
        cases t with
        | false =>
          rw [if_neg Bool.false_ne_true]
          exact ⟨hlt, S4, M4, acc, vs, (p2.trans p3).trans p4, e4, d4, m4, rs.mono ((py.ss.trans p3.ss).trans p4.ss), Nat.le_succ_of_le hal, qn rfl⟩
        | true =>
          rw [if_pos rfl]
          intro s2 H02 C2 cl2 fp2
          refine semE_mono ((qy rfl s2 H02 C2 cl2 fp2).run S4 σ2 H4 (blk_ok ok4) wish_blk) fun y H5 ⟨S5, dy, M5, p5, ry5, k, ek, hv⟩ => ?_
          subst ek
          have e5 : H5 Dl = some (.dK vs) := p5.keep Dl _ e4 m4
          obtain ⟨d5, m5⟩ := p5.snone d4 (by rw [e4]; intro z; cases z) m4
          have ok5 := ok4.step p5
          intro s3 H03 C3 cl3 fp3
          refine semE_mono ((hv s3 H03 C3 cl3 fp3).run S5 σ2 H5 (blk_ok ok5) wish_blk) fun z H6 ⟨S6, dz, M6, p6, rz6, q6⟩ => ?_
          have e6 : H6 Dl = some (.dK vs) := p6.keep Dl _ e5 m5
          obtain ⟨d6, m6⟩ := p6.snone d5 (by rw [e5]; intro z; cases z) m5
          have hlv : vs.length = acc.length := (Paired.length rs).symm
          have hpl := putD_len acc k dz
          refine ⟨vs, k, rep_kD ry5, e6, Nat.lt_of_lt_of_le (show vs.length < 100000 by omega) (by decide), hlt, S6, M6, putD acc k dz, putK vs k z, ((((p2.trans p3).trans p4).trans p5).trans p6).untracked hD d6 m6, upd_same, d6, m6,
            frep_put rz6 (rs.mono ((((py.ss.trans p3.ss).trans p4.ss).trans p5.ss).trans p6.ss)) k, by omega, q6⟩
    · have e : i = items.length := by omega
      subst e
      exact .inl ⟨dl.stop _ H' rfl (p'.ss.trans p'.sh), S', .ref Dl, _, (p1.trans p').adoptM (c := .dK acc) (p1.was hD) ⟨vs, hDl, rs⟩ hS', rfl, jd acc M' q hal Dl hM'⟩)⟩
theorem frep_keys {K : PySem.W.Frag} {S : Hp} {kvs : List (Key × D)} {xs : List (Key × V)} (r : FRep K S kvs xs) : xs.map (·.1) = kvs.map (·.1) := by
  induction r with
  | nil => rfl
  | cons h _ ih => rw [List.map_cons, List.map_cons, ih, h.1]
theorem reps_one {K : PySem.W.Frag} {S : Hp} {d : D} {vs : List V} (r : Reps K S [d] vs) : ∃ v, vs = [v] ∧ Rep K S d v := by
  obtain ⟨v, r', rfl, h1, h2⟩ := r
  have h2 : r' = [] := h2
  subst h2
  exact ⟨v, rfl, h1⟩
/-- sorted(a dict with int keys): the keys in order, a frozen list -/
theorem e_sortDI (hc : X.calm = true := by rfl) (hm : X.mg "sorted" = none) (h : E X PX e env M fun d M1 => ∃ q kvs ks, d = .ref q ∧ M1 q = some (.dK kvs) ∧ kvs.map (·.1) = ks.map Sum.inl ∧ ks.length < 64 ∧ ∀ ys : List Int, ys.Perm ks → ys.Pairwise (· ≤ ·) → Q (.lst (ys.map D.int)) M1) (hg : Gl X "sorted" := by rfl)
    (he : starEach [e] X.env = (false, eval e X.env) :: starEach [] X.env := by rfl) (hpl : (backTo pos (starEach [] X.env)).any (·.1) = false := by rfl) : E X PX (.Call (.Name "sorted" p) [e] [] pos) env M Q :=
  e_blt (g := fun ds M Q => ∃ q kvs ks, ds = [.ref q] ∧ M q = some (.dK kvs) ∧ kvs.map (·.1) = ks.map Sum.inl ∧ ks.length < 64 ∧ ∀ ys : List Int, ys.Perm ks → ys.Pairwise (· ≤ ·) → Q (.lst (ys.map D.int)) M) (call_sortedDI hc) (by
    intro S M H ds vs Q R sh m r ⟨q, kvs, ks, e1, hq, hk, hl, k⟩ hR
    subst e1
    obtain ⟨v, rfl, rv⟩ := reps_one r
    obtain ⟨_, xs, h1, h2⟩ := m _ _ hq
    rw [show v = V.ref q from rv]
    refine ⟨q, xs, ks, rfl, Rd.of h1, (frep_keys h2).trans hk, hl, fun ys p hp hs hH => hR _ _ ?_⟩
    exact ⟨upd S p (.lst (ys.map V.int)), .lst (ys.map D.int), M, Pst.new sh m hH, ⟨p, _, rfl, upd_same, reps_map_int ys⟩, k ys hp hs⟩) hm (by rfl) (a_cons (h.imp fun d M1 ⟨q, kvs, ks, e1, hq⟩ => a_nil ⟨q, kvs, ks, by rw [e1], hq⟩) he) hg (by decide) (by decide) he hpl
theorem ip_mulW : PIp X .Mult (fun x y H Q => ∃ i j, x = .int i ∧ y = .int j ∧ CMulW i j ∧ Q (.int (i * j)) H) := by
  intro pins s σ H x y v u Q I r1 r2 h
  obtain ⟨i, j, e1, e2, hc, q⟩ := h
  subst e1; subst e2
  obtain ⟨t, rfl⟩ := r1
  obtain ⟨t', rfl⟩ := r2
  exact PyProof.Rows.imul_int ⟨.int _, H, I.tok _, ⟨_, rfl⟩, q⟩ hc.ok
theorem s_augMul {P : Pk} {i : Int} (ha : At env x (.int i)) (h : E X PX e env M fun y M1 => ∃ j, y = .int j ∧ CMulW i j ∧ ∃ env', Put env x (.int (i * j)) env' ∧ P.nx env' M1)
    (hx : Loc X.env.scope x := by first | exact Or.inl rfl | exact Or.inr rfl) (hf : X.fn x = true ∨ X.env.scope.names.lookup x = some .local := by first | exact .inl rfl | exact .inr rfl) : S X PX (.AugAssign (.Name x p) .Mult e pos) env M P :=
  s_aug (g := fun x y M Q => ∃ i j, x = .int i ∧ y = .int j ∧ CMulW i j ∧ Q (.int (i * j)) M) ip_mulW (by
    intro S M H x y v u Q R sh m rx ry hg hR
    obtain ⟨i, j, rfl, rfl, hc, q⟩ := hg
    exact ⟨i, j, rx, ry, hc, hR _ _ (post_int sh m q)⟩) ha (h.imp fun y M1 ⟨j, ej, hc, q⟩ => ⟨i, j, rfl, ej, hc, q⟩) hx hf
theorem s_augSub {P : Pk} {i : Int} (ha : At env x (.int i)) (h : E X PX e env M fun y M1 => ∃ j, y = .int j ∧ ∃ env', Put env x (.int (i - j)) env' ∧ P.nx env' M1)
    (hx : Loc X.env.scope x := by first | exact Or.inl rfl | exact Or.inr rfl) (hf : X.fn x = true ∨ X.env.scope.names.lookup x = some .local := by first | exact .inl rfl | exact .inr rfl) : S X PX (.AugAssign (.Name x p) .Sub e pos) env M P :=
  s_aug (ti := ipI fun i j => i - j) (g := gI0 fun i j => .int (i - j)) ip_sub (by
    intro S M H x y v u Q R sh m rx ry hg hR
    obtain ⟨i, j, rfl, rfl, q⟩ := hg
    exact ⟨i, j, rx, ry, hR _ _ (post_int sh m q)⟩) ha (h.imp fun y M1 ⟨j, ej, q⟩ => ⟨i, j, rfl, ej, q⟩) hx hf
end
/-! ### == of lists of ints -/
theorem eqvAll_ints : ∀ a b : List Int, PyData.eqvAll (D.pys (a.map .int)) (D.pys (b.map .int)) = decide (a = b)
  | [], [] => rfl
  | [], _ :: _ => rfl
  | _ :: _, [] => rfl
  | x :: a, y :: b => by
    show (x == y && PyData.eqvAll (D.pys (a.map .int)) (D.pys (b.map .int))) = _
    rw [eqvAll_ints a b]
    by_cases h : x = y
    · subst h; simp
    · rw [beq_eq_false_iff_ne.mpr h]; simp [h]
theorem eqv_ints (a b : List Int) : D.eqv (.tup (a.map .int)) (.tup (b.map .int)) = decide (a = b) := eqvAll_ints a b
theorem eqv_intsL (a b : List Int) : D.eqv (.lst (a.map .int)) (.lst (b.map .int)) = decide (a = b) := eqvAll_ints a b
end DL

/-! DL11: order of data, the lesser of two data -/
namespace DL
open PySem L2
open PySem.W (alike dataLt reads_keeps iter_tupleW moved_old cmpIn_lt gt_data lt_data)
section
variable {G : Program} {w : World} {A : Around} {F0 : Value → Shared → Prop} {z : Shared}
/-- the built-in's loop over a new pair: what its walk gives is handed on -/
theorem min_pair {u v : Value} {K : Value → Shared → Prop} (walk : ∀ z1 : Shared, z1 = { z with heap := z.heap.push { cls := .type "tuple", data := .seq #[u, v] } } →
      wpAny (model G w) A.in1 (pyIter (.ref z.heap.objs.size)) (fun o z2 => ∃ (i : Addr) (fp wr : List Addr) (Gd : Array GenState → Array GenState → Prop) (n : Nat) (P : Nat → Value → Prop) (St : Nat → Shared → Prop) (H : Heap) (bt : Nat → Nat → Bool), o = .ref i ∧
        WalksS G w A.in1 i fp wr Gd n P St ∧ St 0 z2 ∧ 0 < n ∧ (∀ b ∈ fp, b < z2.heap.objs.size) ∧ (∀ b o, H.get? b = some o → b ∉ wr ∧ z2.heap.get? b = some o) ∧ CmpIn G w A.in1 .Lt H P bt ∧
        ∀ x z3, P (argBest bt (n - 1)) x → Moved wr Gd z2 z3 → K x z3) F0 z1) :
    wpAny (model G w) A (call (.builtin "min") [u, v]) K F0 z := by
  refine call_function_tree F.kind_min F.plain_min F.entry_min (F.args_min2 u v) ?_
  have noKey : Builtin.Builtins.bindParams "min" ["key", "default"] 0 ⟨[], []⟩ = pure [none, none] := by rfl
  have nm : (toString "min" ++ toString ".loop" : String) = "min.loop" := by decide
  show wpAny (model G w) A.in1 (Builtin.Builtins.bindParams "min" ["key", "default"] 0 ⟨[], []⟩ >>= _) _ F0 z
  apply wpAny_bind
  apply wpAny_of_eq noKey
  show wpAny (model G w) A.in1 (newTuple [u, v] >>= _) _ F0 z
  apply wpAny_bind
  refine wpAny_newObj_type ?_
  apply wpAny_bind
  refine wpAny_mono (walk _ rfl) ?_ (fun _ _ e => e)
  rintro _ z2 ⟨i, fp, wr, Gd, n, P, St, H, bt, rfl, W, st0, n0, inside, keeps, cmp, fin⟩
  apply wpAny_bind
  refine wpAny_newObj_type ?_
  rw [nm]
  have top : z2.heap.objs.size ∉ fp := fun hm => Nat.lt_irrefl _ (inside _ hm)
  apply wpAny_pure
  refine ⟨plainId_quiet F.plain_min_loop _, ?_⟩
  refine codeAny_min_loop_firstH W H (fun b o e => (keeps b o e).1) bt cmp z2.heap.objs.size top (fresh_in fun b o e => (keeps b o e).2) _ n0 ?_ ?_ (Heap.get?_push_size _ rfl) ?_
  · intro b o e; exact Heap.get?_push_of_some _ (keeps b o e).2
  · exact W.frame 0 z2 _ z2.toks st0 (Nat.le_refl _) fun b _ o e => Heap.get?_push_of_some _ e
  · intro x z3 hx mv
    exact fin x z3 hx (Moved.drop_new (tk := z2.toks) mv (Nat.le_refl _))
/-- min(u, v) of alike data -/
theorem min_pair_data {u v : Value} {du dv : PyData} {us vs : List Addr} {K : Value → Shared → Prop} (calm : A.handled = none) (ru : Reads z.heap u du us) (rv : Reads z.heap v dv vs) (al : ∀ x ∈ [du, dv], ∀ y ∈ [du, dv], alike x y = true) (nn : ∀ x ∈ [du, dv], x ≠ .none)
    (room : A.units + 1 + PyData.depthAll [du, dv] < cLine) (fin : ∀ h' tk, (∀ b o, z.heap.get? b = some o → h'.get? b = some o) → K (if dataLt dv du then v else u) { z with heap := h', toks := tk }) :
    wpAny (model G w) A (call (.builtin "min") [u, v]) K F0 z := by
  refine min_pair fun z1 e1 => ?_
  have grow : ∀ b o, z.heap.get? b = some o → z1.heap.get? b = some o := fun b o e => by rw [e1]; exact Heap.get?_push_of_some _ e
  have hT : z1.heap.IsTuple z.heap.objs.size #[u, v] := by rw [e1]; exact ⟨_, Heap.get?_push_size _ rfl, rfl, 0, rfl⟩
  have rd : ∃ as, ReadsAll z1.heap (#[u, v] : Array Value).toList [du, dv] as := ⟨_, .cons (reads_keeps grow ru) (.cons (reads_keeps grow rv) .nil)⟩
  obtain ⟨as, rd⟩ := rd
  refine iter_tupleW (A := A.in1) calm hT fun z2 e2 W st inside apart keep => ?_
  refine ⟨_, _, _, _, _, _, _, z1.heap, _, rfl, W, st, by simp, inside, fun b o e => ⟨apart b o e, keep b o e⟩, cmpIn_lt (A := A.in1) rd ⟨al, nn⟩ (by show A.units + 1 + _ < _; exact room), fun x z3 hx mv => ?_⟩
  obtain ⟨h', tk, rfl, keep3⟩ := moved_old e2 rfl mv
  have which : x = if dataLt dv du then v else u := by
    have e : argBest (fun i j => dataLt ([du, dv].getD i .none) ([du, dv].getD j .none)) 1 = if dataLt dv du then 1 else 0 := by
      show (if dataLt dv du = true then 1 else argBest _ 0) = _
      cases dataLt dv du <;> rfl
    have hx : (#[u, v] : Array Value)[argBest (fun i j => dataLt ([du, dv].getD i .none) ([du, dv].getD j .none)) 1]? = some x := hx
    rw [e] at hx
    cases hd : dataLt dv du with
    | true => rw [hd] at hx; exact (Option.some.inj hx).symm
    | false => rw [hd] at hx; exact (Option.some.inj hx).symm
  rw [which]
  have := fin h' tk fun b o e => keep3 b o (grow b o e)
  rw [e1]
  exact this
end
section
variable {X : Cx} {PX : PXT} {e a b : Expr} {es : List Expr} {env : Vars} {M : Mem} {Q : QD} {pos p : Pos} {x : Str}
def rOrd (K : PySem.W.Frag) (f : PyData → PyData → Bool) : R2 := fun x y H Q => ∃ d e, Dp K H x d ∧ Dp K H y e ∧ SeqAt.shaped d = true ∧ SeqAt.shaped e = true ∧ alike d e = true ∧ d ≠ .none ∧ Q (.bl (f d e)) H
theorem op_gtD (hu : X.A.units + 64 < cLine) : OpR X (compareOp .Gt) (rOrd X.K fun d e => dataLt e d) := by
  rintro pins s σ H x y v u Q I rx ry ⟨d, e, hd, he, sd, se, al, nn, q⟩
  obtain ⟨as, r1⟩ := Dp.reads I d x v hd rx
  obtain ⟨bs, r2⟩ := Dp.reads I e y u he ry
  exact gt_data r1 r2 al nn (SeqAt.room_of_shaped sd hu) ⟨.bl _, H, I, rfl, q⟩
theorem op_ltD (hu : X.A.units + 64 < cLine) : OpR X (compareOp .Lt) (rOrd X.K fun d e => dataLt d e) := by
  rintro pins s σ H x y v u Q I rx ry ⟨d, e, hd, he, sd, se, al, nn, q⟩
  obtain ⟨as, r1⟩ := Dp.reads I d x v hd rx
  obtain ⟨bs, r2⟩ := Dp.reads I e y u he ry
  exact lt_data r1 r2 al nn (SeqAt.room_of_shaped sd hu) ⟨.bl _, H, I, rfl, q⟩
def gOrd (f : PyData → PyData → Bool) : D → D → Mem → QD → Prop := fun x y M Q => x.plain 60 = true ∧ y.plain 60 = true ∧ alike x.py y.py = true ∧ x.py ≠ .none ∧ Q (.bl (f x.py y.py)) M
theorem d2_ord {f : PyData → PyData → Bool} : D2 X.K (rOrd X.K f) (gOrd f) := by
  intro S M H x y v u Q R sh m rx ry hg hR
  obtain ⟨h1, h2, al, nn, q⟩ := hg
  exact ⟨x.py, y.py, Dp.mono sh (D.plain_dp x 60 v h1 rx), Dp.mono sh (D.plain_dp y 60 u h2 ry), D.shaped h1, D.shaped h2, al, nn, hR _ _ (post_bl sh m q)⟩
theorem e_gtD (hu : X.A.units + 64 < cLine) (h : E X PX a env M fun x M1 => E X PX b env M1 fun y M2 => gOrd (fun d e => dataLt e d) x y M2 Q) : E X PX (.Compare a [.Gt] [b] pos) env M Q := e_cmp (op_gtD hu) d2_ord h (nomark _)
theorem t_gtD {Q : Bool → Mem → Prop} (hu : X.A.units + 64 < cLine) (h : E X PX a env M fun x M1 => E X PX b env M1 fun y M2 => gOrd (fun d e => dataLt e d) x y M2 fun d M3 => ∃ k, d = .bl k ∧ Q k M3) : T X PX (.Compare a [.Gt] [b] pos) env M Q := t_cmp (op_gtD hu) d2_ord h (nomark _)
theorem t_ltD {Q : Bool → Mem → Prop} (hu : X.A.units + 64 < cLine) (h : E X PX a env M fun x M1 => E X PX b env M1 fun y M2 => gOrd (fun d e => dataLt d e) x y M2 fun d M3 => ∃ k, d = .bl k ∧ Q k M3) : T X PX (.Compare a [.Lt] [b] pos) env M Q := t_cmp (op_ltD hu) d2_ord h (nomark _)
end
end DL
namespace DL
open PySem L2
open PySem.W (alike dataLt)
section
variable {X : Cx} {PX : PXT} {e a b : Expr} {es : List Expr} {env : Vars} {M : Mem} {Q : QD} {pos p : Pos} {x : Str}
def rMin2D (K : PySem.W.Frag) : List V → Hp → VK → Prop := fun xs H Q => ∃ x y d e, xs = [x, y] ∧ Dp K H x d ∧ Dp K H y e ∧ d.depth ≤ 60 ∧ e.depth ≤ 60 ∧ (∀ u ∈ [d, e], ∀ v ∈ [d, e], alike u v = true) ∧ (∀ u ∈ [d, e], u ≠ .none) ∧ Q (if dataLt e d then y else x) H
theorem call_min2D (hc : X.calm = true) (hu : X.A.units + 64 < cLine) : CallR X (.builtin "min") (rMin2D X.K) := by
  rintro pins s σ H xs us Q I r ⟨x, y, d, e, rfl, hd, he, l1, l2, al, nn, q⟩
  obtain ⟨u, v, rfl, ru, rv⟩ := vals2 r
  obtain ⟨as, r1⟩ := Dp.reads I d x u hd ru
  obtain ⟨bs, r2⟩ := Dp.reads I e y v he rv
  refine min_pair_data (I.ok.hd hc) r1 r2 al nn ?_ fun h' tk k => ⟨_, H, I.kept k, ?_, q⟩
  · show X.A.units + 1 + max d.depth (max e.depth 0) < cLine
    omega
  · cases dataLt e d
    · exact ru
    · exact rv
theorem e_min2D (hm : X.mg "min" = none) (hu : X.A.units + 64 < cLine) (h : A X PX [a, b] env M fun ds M1 => ∃ x y, ds = [x, y] ∧ x.plain 60 = true ∧ y.plain 60 = true ∧ (∀ u ∈ [x.py, y.py], ∀ v ∈ [x.py, y.py], alike u v = true) ∧ (∀ u ∈ [x.py, y.py], u ≠ .none) ∧ Q (if dataLt y.py x.py then y else x) M1)
    (hc : X.calm = true := by rfl) (hg : Gl X "min" := by rfl) (he : starEach [a, b] X.env = (false, eval a X.env) :: starEach [b] X.env := by rfl) (hpl : (backTo pos (starEach [b] X.env)).any (·.1) = false := by rfl) : E X PX (.Call (.Name "min" p) [a, b] [] pos) env M Q :=
  e_blt (g := fun ds M Q => ∃ x y, ds = [x, y] ∧ x.plain 60 = true ∧ y.plain 60 = true ∧ (∀ u ∈ [x.py, y.py], ∀ v ∈ [x.py, y.py], alike u v = true) ∧ (∀ u ∈ [x.py, y.py], u ≠ .none) ∧ Q (if dataLt y.py x.py then y else x) M) (call_min2D hc hu) (by
    intro S M H ds vs Q R sh m r ⟨x, y, e1, h1, h2, al, nn, q⟩ hR
    subst e1
    obtain ⟨v, v', rfl, r1, r2⟩ := reps2 r
    refine ⟨v, v', x.py, y.py, rfl, Dp.mono sh (D.plain_dp x 60 v h1 r1), Dp.mono sh (D.plain_dp y 60 v' h2 r2), (D.plain_lay x 60 h1).2, (D.plain_lay y 60 h2).2, al, nn, hR _ _ ?_⟩
    cases hd : dataLt y.py x.py with
    | true => rw [hd] at q; exact post_same sh m r2 q
    | false => rw [hd] at q; exact post_same sh m r1 q) hm (by rfl) h hg (by decide) (by decide) he hpl
end
end DL

/-! DL12: statements with what follows put away -/
namespace DL
open PySem L2
/-- what follows a statement, by a name -/
structure Goto (K : Vars → Mem → Prop) (env : Vars) (M : Mem) : Prop where
  go : K env M
theorem goto_eq (K : Vars → Mem → Prop) : Goto K = K := funext fun _ => funext fun _ => propext ⟨fun g => g.go, fun k => ⟨k⟩⟩
section
variable {X : Cx} {PX : PXT} {st : Stmt} {sts : List Stmt} {env : Vars} {M : Mem} {P : Pk}
theorem ss_consA (h : ∀ K : Vars → Mem → Prop, (∀ env' M', SS X PX sts env' M' P → Goto K env' M') → S X PX st env M { P with nx := Goto K }) : SS X PX (st :: sts) env M P := by
  have z := h (fun env' M' => SS X PX sts env' M' P) fun _ _ z => ⟨z⟩
  rw [goto_eq] at z
  exact ss_cons z
end
end DL

/-! TM: trains in plain Lean -/
namespace Tr
open PySem L2 DL
structure Pin where
  a : Nat
  f : Int
  b : Nat
  s : Int
structure Train where
  cs : List Int
  ps : List Pin
def encPin (p : Pin) : D := .tup [.int p.a, .int p.f, .int p.b, .int p.s]
def dints (l : List Int) : List D := l.map D.int
def enc (t : Train) : D := .tup [.tup (dints t.cs), .tup (t.ps.map encPin)]
structure Pin.ok (cs : List Int) (p : Pin) : Prop where
  ab : p.a < p.b
  bn : p.b < cs.length
  f0 : 0 ≤ p.f
  f1 : p.f < cs.getD p.a 0
  s0 : -9 ≤ p.s
  s1 : p.s ≤ 9
  sn : p.s ≠ 0
structure Train.ok (t : Train) : Prop where
  n0 : 1 ≤ t.cs.length
  n1 : t.cs.length ≤ 8
  c : ∀ c ∈ t.cs, 2 ≤ c ∧ c ≤ 40
  m : t.ps.length ≤ 24
  p : ∀ p ∈ t.ps, p.ok t.cs
def pas (c st f n : Int) : Int := (st + n - f) / c - (st - f) / c
/-- a sum over the pins that push a wheel -/
def psum (w : Nat) (g : Pin → Int) : List Pin → Int
  | [] => 0
  | p :: r => (if p.b = w then g p else 0) + psum w g r
theorem psum_snoc (w : Nat) (g : Pin → Int) (l : List Pin) (p : Pin) : psum w g (l ++ [p]) = psum w g l + (if p.b = w then g p else 0) := by
  induction l with
  | nil => simp [psum]
  | cons q r ih => simp only [List.cons_append, psum, ih]; omega
theorem psum_congr (w : Nat) {g g' : Pin → Int} : ∀ {l : List Pin}, (∀ p ∈ l, p.b = w → g p = g' p) → psum w g l = psum w g' l
  | [], _ => rfl
  | p :: r, h => by
    unfold psum
    rw [psum_congr w fun q hq => h q (List.mem_cons_of_mem _ hq)]
    by_cases e : p.b = w
    · rw [if_pos e, if_pos e, h p List.mem_cons_self e]
    · rw [if_neg e, if_neg e]
/-- one wheel's total, from the totals of the wheels before -/
def wtot (t : Train) (st : List Int) (m : Int) (acc : List Int) (w : Nat) : Int :=
  (if w = 0 then m else 0) + psum w (fun p => p.s * pas (t.cs.getD p.a 0) (st.getD p.a 0) p.f (acc.getD p.a 0)) t.ps
def totL (t : Train) (st : List Int) (m : Int) : Nat → List Int
  | 0 => []
  | n + 1 => totL t st m n ++ [wtot t st m (totL t st m n) n]
def tot (t : Train) (st : List Int) (m : Int) : List Int := totL t st m t.cs.length
theorem totL_len (t : Train) (st : List Int) (m : Int) : ∀ n, (totL t st m n).length = n
  | 0 => rfl
  | n + 1 => by rw [totL, List.length_append, totL_len t st m n]; rfl
theorem tot_len (t : Train) (st : List Int) (m : Int) : (tot t st m).length = t.cs.length := totL_len ..
theorem getD_of {l : List Int} {i : Nat} (h : i < l.length) : l[i]? = some (l.getD i 0) := by
  rw [List.getD_eq_getElem?_getD, List.getElem?_eq_getElem h]; rfl
theorem dints_get {l : List Int} {i : Nat} (h : i < l.length) : (dints l)[i]? = some (.int (l.getD i 0)) := by
  unfold dints
  rw [List.getElem?_map, getD_of h]; rfl
theorem dints_at {l : List Int} {i : Nat} (h : i < l.length) : atI (dints l) (i : Int) = some (.int (l.getD i 0)) := at_nat (dints_get h)
theorem dints_el {l : List Int} {i : Nat} (h : i < (dints l).length) (h' : i < l.length) : (dints l)[i] = .int (l.getD i 0) := Option.some.inj ((List.getElem?_eq_getElem h).symm.trans (dints_get h'))
theorem dints_len {l : List Int} : (dints l).length = l.length := by simp [dints]
theorem Train.ok.cget {t : Train} (h : t.ok) {i : Nat} (hi : i < t.cs.length) : 2 ≤ t.cs.getD i 0 ∧ t.cs.getD i 0 ≤ 40 := by
  have q := getD_of hi
  exact h.c _ (List.mem_of_getElem? q)
end Tr

/-! SP: what the defs promise -/
namespace Tr
open PySem L2 DL
theorem gcd_step (x y : Int) : Int.gcd y (x % y) = Int.gcd x y := by
  rw [Int.emod_def, Int.gcd_sub_mul_left_right, Int.gcd_comm]
def isInt (d : D) (lo hi : Int) : Bool := match d with | .int v => decide (lo ≤ v ∧ v ≤ hi) | _ => false
/-- a start: one face a wheel -/
structure StOk (t : Train) (st : List Int) : Prop where
  len : st.length = t.cs.length
  r : ∀ i, i < t.cs.length → 0 ≤ st.getD i 0 ∧ st.getD i 0 < t.cs.getD i 0
def mkF (a b : Int) : Int × Int := (a / Int.gcd a b, b / Int.gcd a b)
def addF (x y : Int × Int) : Int × Int := mkF (x.1 * y.2 + y.1 * x.2) (x.2 * y.2)
def fr (x : Int × Int) : D := .tup [.int x.1, .int x.2]
def encO : Option Int → D
  | none => .non
  | some i => .int i
def spGcd : DSp := fun ds M R _ => ∃ a b : Int, ds = [.int a, .int b] ∧ 0 ≤ b ∧ R (.int (Int.gcd a b)) M
def spMkF : DSp := fun ds M R _ => ∃ a b : Int, ds = [.int a, .int b] ∧ 0 < b ∧ b.natAbs < 2 ^ 4000 ∧ R (fr (mkF a b)) M
def spAddF : DSp := fun ds M R _ => ∃ x y : Int × Int, ds = [fr x, fr y] ∧ 0 < x.2 ∧ 0 < y.2 ∧ x.1.natAbs < 2 ^ 1000 ∧ x.2.natAbs < 2 ^ 1000 ∧ y.1.natAbs < 2 ^ 1000 ∧ y.2.natAbs < 2 ^ 1000 ∧ R (fr (addF x y)) M
def spInv : DSp := fun ds M R _ => ∃ a m : Int, ds = [.int a, .int m] ∧ 0 < m ∧ m ≤ 1000 ∧ ∀ r : Int, 0 ≤ r → r < m → (Int.gcd a m = 1 → m ∣ (a * r - 1)) → R (.int r) M
def spIsInt : DSp := fun ds M R _ => ∃ (d : D) (lo hi : Int), ds = [d, .int lo, .int hi] ∧ d.tyn.isSome = true ∧ R (.bl (isInt d lo hi)) M
def spIsPin : DSp := fun ds M R _ => ∃ (cs : List Int) (p : Pin), ds = [.tup (dints cs), encPin p] ∧ p.ok cs ∧ R (.bl true) M
def spTrain : DSp := fun ds M R _ => ∃ t : Train, ds = [enc t] ∧ t.ok ∧ R .non M
def spFaces : DSp := fun ds M R _ => ∃ (t : Train) (st : List Int), ds = [enc t, .tup (dints st)] ∧ StOk t st ∧ R .non M
def spDisp : DSp := fun ds M R _ => ∃ (t : Train) (dp : List (Option Int)), ds = [enc t, .tup (dp.map encO)] ∧ dp.length = t.cs.length ∧ (∀ i f, dp[i]? = some (some f) → 0 ≤ f ∧ f < t.cs.getD i 0) ∧ R .non M
def spMoment : DSp := fun ds M R _ => ∃ m : Int, ds = [.int m] ∧ -1000000000000000000 ≤ m ∧ m ≤ 1000000000000000000 ∧ R .non M
def spPin : DSp := fun ds M R _ => ∃ (t : Train) (i : Nat), ds = [enc t, .int i] ∧ i < t.ps.length ∧ R .non M
def spPasses : DSp := fun ds M R _ => ∃ c s f n : Int, ds = [.int c, .int s, .int f, .int n] ∧ 0 < c ∧ c ≤ 1000 ∧ R (.int (pas c s f n)) M
def spTotal : DSp := fun ds M R _ => ∃ (t : Train) (st : List Int) (m : Int), ds = [enc t, .tup (dints st), .int m] ∧ t.ok ∧ StOk t st ∧ ∀ p, M p = none → R (.ref p) (updM M p (.lst (dints (tot t st m))))
def spAll : DSp := fun ds M R _ => ∃ (t : Train) (st : List Int) (m : Int), ds = [enc t, .tup (dints st), .int m] ∧ t.ok ∧ StOk t st ∧ -1000000000000000000 ≤ m ∧ m ≤ 1000000000000000000 ∧ R .non M
def spSteps : DSp := fun ds M R _ => ∃ (t : Train) (st : List Int) (m : Int), ds = [enc t, .tup (dints st), .int m] ∧ t.ok ∧ StOk t st ∧ -1000000000000000000 ≤ m ∧ m ≤ 1000000000000000000 ∧ ∀ p, M p = none → R (.ref p) (updM M p (.lst (dints (tot t st m))))
theorem plains_dints : ∀ (l : List Int) (n : Nat), D.plains (dints l) n = true
  | [], _ => rfl
  | x :: l, n => by show (D.plain (.int x) n && D.plains (dints l) n) = true; rw [plains_dints l n]; rfl
theorem plain_ints (l : List Int) : (D.tup (dints l)).plain 60 = true := plains_dints l 59
theorem enumD_get {ds : List D} {i : Nat} {d : D} (h : ds[i]? = some d) (hi : i < (ds.mapIdx fun i d => D.tup [.int (i : Nat), d]).length) : (ds.mapIdx fun i d => D.tup [.int (i : Nat), d])[i] = .tup [.int (i : Nat), d] := by
  rw [List.getElem_mapIdx]
  have : i < ds.length := by simpa using hi
  rw [List.getElem?_eq_getElem this] at h
  cases h; rfl
theorem enumD_len {ds : List D} : (ds.mapIdx fun i d => D.tup [.int (i : Nat), d]).length = ds.length := List.length_mapIdx
theorem encs_get {α : Type} {f : α → D} {l : List α} {i : Nat} {p : α} (h : l[i]? = some p) : (l.map f)[i]? = some (f p) := by rw [List.getElem?_map, h]; rfl
theorem flat_encO : ∀ l : List (Option Int), (l.map encO).all D.flat = true
  | [] => rfl
  | none :: l => by rw [List.map_cons, List.all_cons, flat_encO l]; rfl
  | some i :: l => by rw [List.map_cons, List.all_cons, flat_encO l]; rfl
theorem dints_encO (l : List Int) : dints l = (l.map some).map encO := by unfold dints; rw [List.map_map]; rfl
theorem inD_dints : ∀ l : List Int, inD .non (dints l) = false
  | [] => rfl
  | x :: l => inD_dints l
theorem rep_zero (n : Nat) : (List.replicate n [D.int 0]).flatten = dints (List.replicate n 0) := by
  induction n with
  | zero => rfl
  | succ n ih => rw [List.replicate_succ, List.flatten_cons, ih]; rfl
theorem pow_mul_lt {i j : Int} {a b : Nat} (h : i.natAbs < 2 ^ a) (h' : j.natAbs < 2 ^ b) : (i * j).natAbs < 2 ^ (a + b) := by
  rw [Int.natAbs_mul, Nat.pow_add]
  exact Nat.mul_lt_mul'' h h'
theorem take_snoc {α : Type} {l : List α} {j : Nat} (h : j < l.length) : l.take (j + 1) = l.take j ++ [l[j]] := by
  rw [List.take_succ_eq_append_getElem h]
theorem frs_len (l : List (Int × Int)) : (l.map fr).length = l.length := List.length_map _
theorem frs_at {l : List (Int × Int)} {i : Nat} (h : i < l.length) : atI (l.map fr) (i : Int) = some (fr (l.getD i (0, 1))) := at_nat (encs_get (by rw [List.getD_eq_getElem?_getD, List.getElem?_eq_getElem h]; rfl))
end Tr

/-! PG: progressions of moments, in plain Lean -/
namespace Tr
open PySem L2 DL
/-- one wheel's total -/
def tw (t : Train) (st : List Int) (m : Int) (w : Nat) : Int := (tot t st m).getD w 0
theorem totL_pre (t : Train) (st : List Int) (m : Int) {w : Nat} : ∀ {n : Nat}, w < n → (totL t st m n).getD w 0 = wtot t st m (totL t st m w) w
  | n + 1, h => by
    rw [totL]
    by_cases e : w = n
    · subst e
      rw [List.getD_eq_getElem?_getD, List.getElem?_append_right (by rw [totL_len]; exact Nat.le_refl _), totL_len, Nat.sub_self]; rfl
    · have hl : w < n := by omega
      rw [List.getD_eq_getElem?_getD, List.getElem?_append_left (by rw [totL_len]; exact hl), ← List.getD_eq_getElem?_getD]
      exact totL_pre t st m hl
theorem tw_eq {t : Train} (ht : t.ok) (st : List Int) (m : Int) {w : Nat} (h : w < t.cs.length) :
    tw t st m w = (if w = 0 then m else 0) + psum w (fun p => p.s * pas (t.cs.getD p.a 0) (st.getD p.a 0) p.f (tw t st m p.a)) t.ps := by
  unfold tw tot
  rw [totL_pre t st m h]
  unfold wtot
  congr 1
  refine psum_congr w fun p hp hb => ?_
  have hab := (ht.p p hp).ab
  rw [totL_pre t st m (n := w) (show p.a < w by omega), totL_pre t st m (n := t.cs.length) (show p.a < t.cs.length by omega)]
theorem pas_mul {c : Int} (hc : c ≠ 0) (st f n q : Int) : pas c st f (n + c * q) = pas c st f n + q := by
  unfold pas
  rw [show st + (n + c * q) - f = (st + n - f) + c * q by omega, Int.add_mul_ediv_left _ _ hc]
  omega
def face (t : Train) (st : List Int) (m : Int) (w : Nat) : Int := (st.getD w 0 + tw t st m w) % t.cs.getD w 0
theorem emod_is {x f c : Int} (h0 : 0 ≤ f) (h1 : f < c) : x % c = f ↔ c ∣ x - f := by
  constructor
  · intro h; rw [← h]; exact Int.dvd_self_sub_emod
  · rintro ⟨k, h⟩
    have : x = f + c * k := by omega
    rw [this, Int.add_mul_emod_self_left, Int.emod_eq_of_lt h0 h1]
/-! ### the state of a progression -/
structure Pg where
  first : Int
  per : Int
  ch : List (Int × Int)
def look (ch : List (Int × Int)) (w : Nat) : Int := ((ch.find? fun p => decide (p.1 = (w : Int))).map (·.2)).getD 0
def chOf (t : Train) (per : Int) (ch : List (Int × Int)) (w : Nat) : Int := (if w = 0 then per else 0) + psum w (fun p => p.s * (look ch p.a / t.cs.getD p.a 0)) t.ps
/-- the keys: the wheels shown -/
def keysTo (dp : Nat → Option Int) (k : Nat) : List Nat := (List.range k).filter fun w => (dp w).isSome
theorem keysTo_succ (dp : Nat → Option Int) (k : Nat) : keysTo dp (k + 1) = keysTo dp k ++ (if (dp k).isSome then [k] else []) := by
  unfold keysTo
  rw [List.range_succ, List.filter_append]
  congr 1
  cases h : (dp k).isSome <;> simp [h]
theorem mem_keysTo {dp : Nat → Option Int} {k w : Nat} : w ∈ keysTo dp k ↔ w < k ∧ (dp w).isSome = true := by
  unfold keysTo; rw [List.mem_filter, List.mem_range]
/-- shown wheels have shown drivers -/
def Clo (t : Train) (dp : Nat → Option Int) : Prop := ∀ p ∈ t.ps, (dp p.b).isSome = true → (dp p.a).isSome = true
structure PgI (t : Train) (st : List Int) (dp : Nat → Option Int) (k : Nat) (g : Pg) : Prop where
  p0 : 0 < g.per
  f0 : 0 ≤ g.first
  f1 : g.first < g.per
  pb : g.per ≤ 40 ^ k
  keys : g.ch.map (·.1) = (keysTo dp k).map Int.ofNat
  dv : ∀ w, w < k → (dp w).isSome = true → t.cs.getD w 0 ∣ look g.ch w
  eq : ∀ w, w < k → (dp w).isSome = true → look g.ch w = chOf t g.per g.ch w
  bd : ∀ w, w < k → (dp w).isSome = true → (look g.ch w).natAbs ≤ g.per.natAbs * 217 ^ (w + 1)
  mom : ∀ m, (∀ w, w < k → ∀ f, dp w = some f → face t st m w = f) ↔ g.per ∣ m - g.first
theorem psum_add (w : Nat) (g h : Pin → Int) : ∀ l, psum w (fun p => g p + h p) l = psum w g l + psum w h l
  | [] => rfl
  | p :: r => by unfold psum; rw [psum_add w g h r]; by_cases e : p.b = w <;> simp only [e, if_true, if_false] <;> omega
theorem psum_mul (w : Nat) (g : Pin → Int) (c : Int) : ∀ l, psum w (fun p => c * g p) l = c * psum w g l
  | [] => by simp [psum]
  | p :: r => by
    unfold psum; rw [psum_mul w g c r, Int.mul_add]
    by_cases e : p.b = w
    · rw [if_pos e, if_pos e]
    · rw [if_neg e, if_neg e, Int.mul_zero]
theorem psum_bd (w : Nat) (g : Pin → Int) (B : Nat) : ∀ l : List Pin, (∀ p ∈ l, p.b = w → (g p).natAbs ≤ B) → (psum w g l).natAbs ≤ l.length * B
  | [], _ => by simp [psum]
  | p :: r, h => by
    have ih := psum_bd w g B r fun q hq => h q (List.mem_cons_of_mem _ hq)
    unfold psum
    rw [List.length_cons, Nat.succ_mul]
    by_cases e : p.b = w
    · rw [if_pos e]
      have := h p List.mem_cons_self e
      omega
    · rw [if_neg e]; omega
/-- one more period: all the totals shown grow by what is held -/
theorem tw_per {t : Train} (ht : t.ok) {st : List Int} {dp : Nat → Option Int} {k : Nat} {g : Pg} (I : PgI t st dp k g) (hcl : Clo t dp) (m j : Int) :
    ∀ w, w < t.cs.length → (w < k → (dp w).isSome = true → tw t st (m + g.per * j) w = tw t st m w + j * look g.ch w) ∧ (w = k → (∀ p ∈ t.ps, p.b = k → (dp p.a).isSome = true) → tw t st (m + g.per * j) w = tw t st m w + j * chOf t g.per g.ch w) := by
  intro w
  induction w using Nat.strongRecOn with
  | ind w ih =>
  intro hw
  have key : (w ≤ k) → (∀ p ∈ t.ps, p.b = w → (dp p.a).isSome = true) → tw t st (m + g.per * j) w = tw t st m w + j * chOf t g.per g.ch w := by
    intro hk hd
    rw [tw_eq ht st _ hw, tw_eq ht st m hw]
    have e : psum w (fun p => p.s * pas (t.cs.getD p.a 0) (st.getD p.a 0) p.f (tw t st (m + g.per * j) p.a)) t.ps = psum w (fun p => p.s * pas (t.cs.getD p.a 0) (st.getD p.a 0) p.f (tw t st m p.a) + j * (p.s * (look g.ch p.a / t.cs.getD p.a 0))) t.ps := by
      refine psum_congr w fun p hp hb => ?_
      have hab := (ht.p p hp).ab
      have hc := ht.cget (show p.a < t.cs.length by omega)
      have hs := hd p hp hb
      rw [(ih p.a (by omega) (by omega)).1 (by omega) hs]
      obtain ⟨q, hq⟩ := I.dv p.a (by omega) hs
      rw [hq, Int.mul_ediv_cancel_left _ (by omega), Int.mul_left_comm j, pas_mul (by omega), Int.mul_add]
      congr 1
      rw [Int.mul_left_comm]
    rw [e, psum_add, psum_mul]
    unfold chOf
    rw [Int.mul_add]
    by_cases h0 : w = 0
    · rw [if_pos h0, if_pos h0, if_pos h0, Int.mul_comm g.per j]; omega
    · rw [if_neg h0, if_neg h0, if_neg h0]; omega
  refine ⟨fun h1 h2 => ?_, fun h1 h2 => key (Nat.le_of_eq h1) (by rw [h1]; exact h2)⟩
  rw [I.eq w h1 h2]
  exact key (Nat.le_of_lt h1) fun p hp hb => hcl p hp (by rw [hb]; exact h2)
theorem chOf_bd {t : Train} (ht : t.ok) {st : List Int} {dp : Nat → Option Int} {k : Nat} {g : Pg} (I : PgI t st dp k g) (hk : ∀ p ∈ t.ps, p.b = k → (dp p.a).isSome = true) : (chOf t g.per g.ch k).natAbs ≤ g.per.natAbs * 217 ^ (k + 1) := by
  have hb : (psum k (fun p => p.s * (look g.ch p.a / t.cs.getD p.a 0)) t.ps).natAbs ≤ t.ps.length * (9 * (g.per.natAbs * 217 ^ k)) := by
    refine psum_bd k _ _ _ fun p hp hpb => ?_
    have hP := ht.p p hp
    have hab := hP.ab
    have hbn := hP.bn
    have hs0 := hP.s0
    have hs1 := hP.s1
    have hc := ht.cget (show p.a < t.cs.length by omega)
    rw [Int.natAbs_mul]
    refine Nat.mul_le_mul (by omega) ?_
    obtain ⟨q, hq⟩ := I.dv p.a (by omega) (hk p hp hpb)
    have h1 := I.bd p.a (by omega) (hk p hp hpb)
    have h2 : (look g.ch p.a / t.cs.getD p.a 0).natAbs ≤ (look g.ch p.a).natAbs := by
      rw [hq, Int.mul_ediv_cancel_left _ (by omega), Int.natAbs_mul]
      exact Nat.le_mul_of_pos_left _ (by omega)
    refine Nat.le_trans h2 (Nat.le_trans h1 (Nat.mul_le_mul_left _ (Nat.pow_le_pow_right (by decide) (by omega))))
  have hm := ht.m
  have h24 : t.ps.length * (9 * (g.per.natAbs * 217 ^ k)) ≤ 24 * (9 * (g.per.natAbs * 217 ^ k)) := Nat.mul_le_mul_right _ hm
  have hp : g.per.natAbs ≤ g.per.natAbs * 217 ^ k := Nat.le_mul_of_pos_right _ (Nat.pow_pos (by decide))
  have e : g.per.natAbs * 217 ^ (k + 1) = 217 * (g.per.natAbs * 217 ^ k) := by rw [Nat.pow_succ]; rw [← Nat.mul_assoc, Nat.mul_comm]
  rw [e]
  unfold chOf
  generalize g.per.natAbs * 217 ^ k = X at *
  by_cases h0 : k = 0
  · rw [if_pos h0]; omega
  · rw [if_neg h0]; omega
theorem find_scale (ch : List (Int × Int)) (f : Int) (w : Nat) : (ch.map fun p => (p.1, p.2 * f)).find? (fun p => decide (p.1 = (w : Int))) = (ch.find? fun p => decide (p.1 = (w : Int))).map fun p => (p.1, p.2 * f) := by
  rw [List.find?_map]; rfl
theorem look_scale (ch : List (Int × Int)) (f : Int) (w : Nat) : look (ch.map fun p => (p.1, p.2 * f)) w = look ch w * f := by
  unfold look
  rw [find_scale]
  cases ch.find? fun p => decide (p.1 = (w : Int)) with
  | none => simp
  | some p => rfl
theorem look_last {ch : List (Int × Int)} {k : Nat} {v : Int} (h : ∀ p ∈ ch, p.1 ≠ (k : Int)) : look (ch ++ [((k : Int), v)]) k = v := by
  unfold look
  rw [List.find?_append, List.find?_eq_none.mpr (fun p hp z => h p hp (of_decide_eq_true z))]
  simp
theorem look_old {ch : List (Int × Int)} {k w : Nat} {v : Int} (h : w ≠ k) : look (ch ++ [((k : Int), v)]) w = look ch w := by
  unfold look
  rw [List.find?_append]
  cases e : ch.find? fun p => decide (p.1 = (w : Int)) with
  | some p => rfl
  | none =>
    have : ¬ ((k : Int) = (w : Int)) := by omega
    simp [this]
/-- the state, one wheel further -/
def Pg.next (t : Train) (k : Nat) (g : Pg) (turns fac : Int) : Pg := ⟨g.first + g.per * turns, g.per * fac, (g.ch.map fun p => (p.1, p.2 * fac)) ++ [((k : Int), chOf t g.per g.ch k * fac)]⟩
theorem PgI.key_ne {t : Train} {st : List Int} {dp : Nat → Option Int} {k : Nat} {g : Pg} (I : PgI t st dp k g) : ∀ p ∈ g.ch, p.1 ≠ (k : Int) := by
  intro p hp z
  have h1 : p.1 ∈ g.ch.map (·.1) := List.mem_map_of_mem hp
  rw [I.keys, List.mem_map] at h1
  obtain ⟨w, hw, e⟩ := h1
  have := (mem_keysTo.mp hw).1
  have e' : (w : Int) = p.1 := e
  omega
theorem PgI.find {t : Train} {st : List Int} {dp : Nat → Option Int} {k : Nat} {g : Pg} (I : PgI t st dp k g) {w : Nat} (hw : w < k) (hs : (dp w).isSome = true) : g.ch.find? (fun p => decide (p.1 = (w : Int))) = some ((w : Int), look g.ch w) := by
  have h1 : (w : Int) ∈ g.ch.map (·.1) := by rw [I.keys]; exact List.mem_map.mpr ⟨w, mem_keysTo.mpr ⟨hw, hs⟩, rfl⟩
  unfold look
  cases e : g.ch.find? fun p => decide (p.1 = (w : Int)) with
  | none =>
    rw [List.find?_eq_none] at e
    obtain ⟨p, hp, ep⟩ := List.mem_map.mp h1
    exact absurd (decide_eq_true ep) (e p hp)
  | some p =>
    have hp := List.find?_some e
    have hp := of_decide_eq_true hp
    obtain ⟨a, b⟩ := p
    cases (show a = (w : Int) from hp)
    rfl
theorem PgI.clen {t : Train} {st : List Int} {dp : Nat → Option Int} {k : Nat} {g : Pg} (I : PgI t st dp k g) : g.ch.length ≤ k := by
  have h := congrArg List.length I.keys
  rw [List.length_map, List.length_map] at h
  rw [h]
  unfold keysTo
  exact Nat.le_trans (List.length_filter_le _ _) (by rw [List.length_range]; exact Nat.le_refl _)
theorem PgI.zero (t : Train) (st : List Int) (dp : Nat → Option Int) : PgI t st dp 0 ⟨0, 1, []⟩ :=
  ⟨by decide, by decide, by decide, by decide, rfl, fun w h => absurd h (Nat.not_lt_zero _), fun w h => absurd h (Nat.not_lt_zero _), fun w h => absurd h (Nat.not_lt_zero _), fun m => ⟨fun _ => ⟨m - 0, by show m - 0 = 1 * (m - 0); omega⟩, fun _ w h => absurd h (Nat.not_lt_zero _)⟩⟩
theorem PgI.skip {t : Train} {st : List Int} {dp : Nat → Option Int} {k : Nat} {g : Pg} (I : PgI t st dp k g) (h : dp k = none) : PgI t st dp (k + 1) g := by
  have ne : ∀ {w}, w < k + 1 → (dp w).isSome = true → w < k := fun {w} hw hs => by
    by_cases e : w = k
    · subst e; rw [h] at hs; cases hs
    · omega
  refine ⟨I.p0, I.f0, I.f1, Int.le_trans I.pb ?_, ?_, fun w hw hs => I.dv w (ne hw hs) hs, fun w hw hs => I.eq w (ne hw hs) hs, fun w hw hs => I.bd w (ne hw hs) hs, fun m => Iff.trans ⟨fun hh w hw f hf => hh w (by omega) f hf, fun hh w hw f hf => hh w (ne hw (by rw [hf]; rfl)) f hf⟩ (I.mom m)⟩
  · rw [Int.pow_succ]
    have : (0 : Int) < 40 ^ k := Int.pow_pos (by decide)
    omega
  · rw [keysTo_succ, h]; simpa using I.keys
/-- what a shown wheel asks of the periods gone by -/
theorem PgI.ask {t : Train} (ht : t.ok) {st : List Int} {dp : Nat → Option Int} {k : Nat} {g : Pg} (I : PgI t st dp k g) (hk : k < t.cs.length) (hcl : Clo t dp) {fc : Int} (hd : dp k = some fc) (h0 : 0 ≤ fc) (h1 : fc < t.cs.getD k 0) (m : Int) :
    (∀ w, w < k + 1 → ∀ f, dp w = some f → face t st m w = f) ↔ ∃ j, m = g.first + g.per * j ∧ t.cs.getD k 0 ∣ (st.getD k 0 + tw t st g.first k - fc) + j * chOf t g.per g.ch k := by
  have hdr : ∀ p ∈ t.ps, p.b = k → (dp p.a).isSome = true := fun p hp hb => hcl p hp (by rw [hb, hd]; rfl)
  have face_j : ∀ j, face t st (g.first + g.per * j) k = fc ↔ t.cs.getD k 0 ∣ (st.getD k 0 + tw t st g.first k - fc) + j * chOf t g.per g.ch k := fun j => by
    unfold face
    rw [emod_is h0 h1, (tw_per ht I hcl g.first j k hk).2 rfl hdr]
    rw [show st.getD k 0 + (tw t st g.first k + j * chOf t g.per g.ch k) - fc = st.getD k 0 + tw t st g.first k - fc + j * chOf t g.per g.ch k by omega]
  constructor
  · intro hh
    obtain ⟨j, hj⟩ := (I.mom m).mp fun w hw f hf => hh w (by omega) f hf
    have em : m = g.first + g.per * j := by omega
    refine ⟨j, em, (face_j j).mp ?_⟩
    rw [← em]; exact hh k (by omega) fc hd
  · rintro ⟨j, rfl, hj⟩ w hw f hf
    by_cases e : w = k
    · subst e; rw [hd] at hf; cases hf; exact (face_j j).mpr hj
    · exact (I.mom _).mpr ⟨j, by omega⟩ w (by omega) f hf
theorem PgI.fail {t : Train} (ht : t.ok) {st : List Int} {dp : Nat → Option Int} {k : Nat} {g : Pg} (I : PgI t st dp k g) (hk : k < t.cs.length) (hcl : Clo t dp) {fc : Int} (hd : dp k = some fc) (h0 : 0 ≤ fc) (h1 : fc < t.cs.getD k 0)
    (hf : ¬ fc % (Int.gcd (chOf t g.per g.ch k) (t.cs.getD k 0) : Int) = (st.getD k 0 + tw t st g.first k) % (Int.gcd (chOf t g.per g.ch k) (t.cs.getD k 0) : Int)) (m : Int) : ¬ ∀ w, w < k + 1 → ∀ f, dp w = some f → face t st m w = f := by
  rw [I.ask ht hk hcl hd h0 h1]
  rintro ⟨j, _, hj⟩
  apply hf
  rw [Int.emod_eq_emod_iff_emod_sub_eq_zero, ← Int.dvd_iff_emod_eq_zero, ← Int.dvd_neg, Int.neg_sub]
  have g1 : (Int.gcd (chOf t g.per g.ch k) (t.cs.getD k 0) : Int) ∣ chOf t g.per g.ch k := Int.gcd_dvd_left ..
  have g2 : (Int.gcd (chOf t g.per g.ch k) (t.cs.getD k 0) : Int) ∣ t.cs.getD k 0 := Int.gcd_dvd_right ..
  exact (Int.dvd_add_left (Int.dvd_mul_of_dvd_right g1)).mp (Int.dvd_trans g2 hj)
theorem PgI.step {t : Train} (ht : t.ok) {st : List Int} {dp : Nat → Option Int} {k : Nat} {g : Pg} (I : PgI t st dp k g) (hk : k < t.cs.length) (hcl : Clo t dp) {fc : Int} (hd : dp k = some fc) (h0 : 0 ≤ fc) (h1 : fc < t.cs.getD k 0)
    {G chg fac d turns inv : Int} (eG : G = Int.gcd (chOf t g.per g.ch k) (t.cs.getD k 0)) (ec : chg = chOf t g.per g.ch k / G) (ef : fac = t.cs.getD k 0 / G) (ed : d = (fc - (st.getD k 0 + tw t st g.first k)) / G)
    (hf : fc % G = (st.getD k 0 + tw t st g.first k) % G) (hinv : Int.gcd chg fac = 1 → fac ∣ chg * inv - 1) (et : turns = (d * inv) % fac) : 0 < fac ∧ fac ≤ 40 ∧ Int.gcd chg fac = 1 ∧ PgI t st dp (k + 1) (g.next t k turns fac) := by
  have hc := ht.cget hk
  have gne : 0 < Int.gcd (chOf t g.per g.ch k) (t.cs.getD k 0) := Int.gcd_pos_of_ne_zero_right _ (by omega)
  have hG : 0 < G := by omega
  have d1 : G ∣ chOf t g.per g.ch k := by rw [eG]; exact Int.gcd_dvd_left ..
  have d2 : G ∣ t.cs.getD k 0 := by rw [eG]; exact Int.gcd_dvd_right ..
  have d3 : G ∣ fc - (st.getD k 0 + tw t st g.first k) := by rw [Int.dvd_iff_emod_eq_zero, ← Int.emod_eq_emod_iff_emod_sub_eq_zero]; exact hf
  have q1 : chOf t g.per g.ch k = G * chg := by rw [ec]; exact (Int.mul_ediv_cancel' d1).symm
  have q2 : t.cs.getD k 0 = G * fac := by rw [ef]; exact (Int.mul_ediv_cancel' d2).symm
  have q3 : fc - (st.getD k 0 + tw t st g.first k) = G * d := by rw [ed]; exact (Int.mul_ediv_cancel' d3).symm
  have hfac : 0 < fac := by
    rw [ef]; exact Int.ediv_pos_of_pos_of_dvd (by omega) (Int.le_of_lt hG) d2
  have hcop : Int.gcd chg fac = 1 := by rw [ec, ef, eG]; exact Int.gcd_ediv_gcd_ediv_gcd gne
  have hfl : fac ≤ 40 := by
    have h9 := Int.mul_nonneg (show 0 ≤ G - 1 by omega) (Int.le_of_lt hfac)
    rw [Int.sub_mul, Int.one_mul] at h9
    omega
  have hi := hinv hcop
  have t0 : 0 ≤ turns := by rw [et]; exact Int.emod_nonneg _ (by omega)
  have t1 : turns < fac := by rw [et]; exact Int.emod_lt_of_pos _ hfac
  have ht1 : fac ∣ turns * chg - d := by
    have a1 : fac ∣ turns - d * inv := by
      rw [et, ← Int.dvd_neg, Int.neg_sub]; exact Int.dvd_self_sub_emod
    have a2 : turns * chg - d = (turns - d * inv) * chg + d * (chg * inv - 1) := by
      rw [Int.sub_mul, Int.mul_sub, Int.mul_one, Int.mul_assoc d inv chg, Int.mul_comm inv chg]; omega
    rw [a2]; exact Int.dvd_add (Int.dvd_mul_of_dvd_left a1) (Int.dvd_mul_of_dvd_right hi)
  have mono : g.per * turns ≤ g.per * (fac - 1) := Int.mul_le_mul_of_nonneg_left (by omega) (Int.le_of_lt I.p0)
  have mono0 : 0 ≤ g.per * turns := Int.mul_nonneg (Int.le_of_lt I.p0) t0
  have e1 : g.per * (fac - 1) = g.per * fac - g.per := by rw [Int.mul_sub, Int.mul_one]
  have p0 := I.p0
  have f0 := I.f0
  have f1 := I.f1
  have old : ∀ w, w < k → look (g.next t k turns fac).ch w = look g.ch w * fac := fun w hw => by
    unfold Pg.next
    rw [look_old (by omega), look_scale]
  have new : look (g.next t k turns fac).ch k = chOf t g.per g.ch k * fac := by
    unfold Pg.next
    refine look_last ?_
    intro p hp
    rw [List.mem_map] at hp
    obtain ⟨q, hq, rfl⟩ := hp
    exact I.key_ne q hq
  have ch2 : ∀ w, w ≤ k → (∀ p ∈ t.ps, p.b = w → (dp p.a).isSome = true) → chOf t (g.per * fac) (g.next t k turns fac).ch w = chOf t g.per g.ch w * fac := fun w hw hs => by
    unfold chOf
    have e : psum w (fun p => p.s * (look (g.next t k turns fac).ch p.a / t.cs.getD p.a 0)) t.ps = psum w (fun p => fac * (p.s * (look g.ch p.a / t.cs.getD p.a 0))) t.ps := by
      refine psum_congr w fun p hp hb => ?_
      have hab := (ht.p p hp).ab
      have hc := ht.cget (show p.a < t.cs.length by omega)
      rw [old p.a (by omega)]
      obtain ⟨q, hq⟩ := I.dv p.a (by omega) (hs p hp hb)
      rw [hq, Int.mul_ediv_cancel_left _ (by omega), Int.mul_assoc, Int.mul_ediv_cancel_left _ (by omega), ← Int.mul_assoc, Int.mul_comm]
    rw [e, psum_mul, Int.add_mul, Int.mul_comm fac]
    by_cases h0 : w = 0
    · rw [if_pos h0, if_pos h0]
    · rw [if_neg h0, if_neg h0, Int.zero_mul]
  have hdr : ∀ w, (dp w).isSome = true → ∀ p ∈ t.ps, p.b = w → (dp p.a).isSome = true := fun w hs p hp hb => hcl p hp (by rw [hb]; exact hs)
  have sk : (dp k).isSome = true := by rw [hd]; rfl
  have hpf : (g.per * fac).natAbs = g.per.natAbs * fac.natAbs := Int.natAbs_mul _ _
  refine ⟨hfac, hfl, hcop, ?_, ?_, ?_, ?_, ?_, ?_, ?_, ?_, ?_⟩
  · exact Int.mul_pos I.p0 hfac
  · show 0 ≤ g.first + g.per * turns; omega
  · show g.first + g.per * turns < g.per * fac; omega
  · show g.per * fac ≤ 40 ^ (k + 1)
    rw [Int.pow_succ]
    exact Int.mul_le_mul I.pb hfl (Int.le_of_lt hfac) (Int.le_of_lt (Int.pow_pos (by decide)))
  · show ((g.ch.map fun p => (p.1, p.2 * fac)) ++ [((k : Int), chOf t g.per g.ch k * fac)]).map (fun p : Int × Int => p.1) = _
    rw [keysTo_succ, sk, List.map_append, List.map_append, ← I.keys, List.map_map]
    rfl
  · intro w hw hs
    by_cases e : w = k
    · subst e
      rw [new, q1]
      refine ⟨chg, ?_⟩
      rw [q2, Int.mul_assoc, Int.mul_assoc, Int.mul_comm chg]
    · rw [old w (by omega)]; exact Int.dvd_mul_of_dvd_left (I.dv w (by omega) hs)
  · intro w hw hs
    rw [show (g.next t k turns fac).per = g.per * fac from rfl, ch2 w (by omega) (hdr w hs)]
    by_cases e : w = k
    · subst e; rw [new]
    · rw [old w (by omega), I.eq w (by omega) hs]
  · intro w hw hs
    rw [show (g.next t k turns fac).per = g.per * fac from rfl, hpf, Nat.mul_right_comm]
    by_cases e : w = k
    · subst e
      rw [new, Int.natAbs_mul]
      exact Nat.mul_le_mul_right _ (chOf_bd ht I (hdr w hs))
    · rw [old w (by omega), Int.natAbs_mul]
      exact Nat.mul_le_mul_right _ (I.bd w (by omega) hs)
  · intro m
    rw [I.ask ht hk hcl hd h0 h1]
    have hj : ∀ j, t.cs.getD k 0 ∣ (st.getD k 0 + tw t st g.first k - fc) + j * chOf t g.per g.ch k ↔ fac ∣ j - turns := fun j => by
      have e3 : (st.getD k 0 + tw t st g.first k - fc) + j * chOf t g.per g.ch k = G * (j * chg - d) := by
        rw [q1, Int.mul_sub, ← q3, Int.mul_left_comm]; omega
      rw [e3, q2, Int.mul_dvd_mul_iff_left (by omega)]
      have e4 : j * chg - d = chg * (j - turns) + (turns * chg - d) := by rw [Int.mul_sub, Int.mul_comm chg j, Int.mul_comm chg turns]; omega
      rw [e4, Int.dvd_add_left ht1, ← Int.dvd_gcd_mul_iff_dvd_mul, Int.gcd_comm, hcop]
      simp
    show (∃ j, m = g.first + g.per * j ∧ _) ↔ g.per * fac ∣ m - (g.first + g.per * turns)
    constructor
    · rintro ⟨j, rfl, h⟩
      rw [hj] at h
      rw [show g.first + g.per * j - (g.first + g.per * turns) = g.per * (j - turns) by rw [Int.mul_sub]; omega]
      exact Int.mul_dvd_mul (Int.dvd_refl _) h
    · rintro ⟨q, hq⟩
      refine ⟨turns + fac * q, ?_, ?_⟩
      · rw [Int.mul_add, ← Int.mul_assoc]; omega
      · rw [hj]; exact ⟨q, by omega⟩
end Tr

/-! PS: promises about progressions; the period -/
namespace Tr
open PySem L2 DL
/-- a memory that keeps what was there, but for one cell -/
def ExtB (M M' : Mem) (a : Addr) : Prop := ∀ b c, b ≠ a → M b = some c → M' b = some c
theorem ExtB.refl {M : Mem} {a : Addr} : ExtB M M a := fun _ _ _ h => h
theorem ExtB.upd {M M' : Mem} {a : Addr} {c : Cell} (h : ExtB M M' a) : ExtB M (updM M' a c) a := fun b d hb e => by rw [updM_ne hb]; exact h b d hb e
theorem ExtB.new {M M' : Mem} {a p : Addr} {c : Cell} (h : ExtB M M' a) (hp : M' p = none) : ExtB M (updM M' p c) a := fun b d hb e => by
  have e1 := h b d hb e
  have : b ≠ p := fun z => by rw [z, hp] at e1; cases e1
  rw [updM_ne this]; exact e1
theorem ExtB.ext {M M1 M2 : Mem} {a : Addr} (h : ExtB M M1 a) (h' : Ext M1 M2) : ExtB M M2 a := fun b c hb e => h' b c (h b c hb e)
theorem ExtB.trans {M M1 M2 : Mem} {a : Addr} (h : ExtB M M1 a) (h' : ExtB M1 M2 a) : ExtB M M2 a := fun b c hb e => h' b c hb (h b c hb e)
theorem Ext.extB {M M1 M2 : Mem} {a : Addr} (h : Ext M M1) (ha : M a = none) (h' : ExtB M1 M2 a) : Ext M M2 := fun b c e => by
  have : b ≠ a := fun z => by rw [z, ha] at e; cases e
  exact h' b c this (h b c e)
def pgF (t : Train) (st : List Int) (g : Pg) (q : Addr) : List (Str × D) := [("train", enc t), ("start", .tup (dints st)), ("first", .int g.first), ("period", .int g.per), ("changes", .ref q)]
def PgM (C : Addr) (M : Mem) (a : Addr) (t : Train) (st : List Int) (g : Pg) : Prop := ∃ q, q ≠ a ∧ M a = some (.ins C (pgF t st g q)) ∧ M q = some (.dK (encC g.ch))
theorem PgM.ext {C : Addr} {M M' : Mem} {a : Addr} {t : Train} {st : List Int} {g : Pg} (h : PgM C M a t st g) (e : Ext M M') : PgM C M' a t st g := by
  obtain ⟨q, h0, h1, h2⟩ := h
  exact ⟨q, h0, e _ _ h1, e _ _ h2⟩
def nowG (t : Train) (st : List Int) (g : Pg) (k : Nat) : Int := st.getD k 0 + tw t st g.first k
def modG (t : Train) (g : Pg) (k : Nat) : Int := Int.gcd (chOf t g.per g.ch k) (t.cs.getD k 0)
/-- a display's items as a function -/
def dpf (dp : List (Option Int)) (w : Nat) : Option Int := dp.getD w none
def DpOk (t : Train) (dp : List (Option Int)) : Prop := dp.length = t.cs.length ∧ ∀ w f, dpf dp w = some f → 0 ≤ f ∧ f < t.cs.getD w 0
structure Here (C : Addr) (M : Mem) (a : Addr) (t : Train) (st : List Int) (dp : Nat → Option Int) (k : Nat) (g : Pg) : Prop where
  ht : t.ok
  hst : StOk t st
  hk : k < t.cs.length
  m : PgM C M a t st g
  I : PgI t st dp k g
  dr : ∀ p ∈ t.ps, p.b = k → (dp p.a).isSome = true
def spPInit (C : Addr) : DSp := fun ds M R _ => ∃ a t st, ds = [.ref a, enc t, .tup (dints st)] ∧ M a = some (.ins C []) ∧ ∀ M', ExtB M M' a → PgM C M' a t st ⟨0, 1, []⟩ → R .non M'
def spChg (C : Addr) : DSp := fun ds M R _ => ∃ a t st dp k g, ds = [.ref a, .int (k : Nat)] ∧ Here C M a t st dp k g ∧ R (.int (chOf t g.per g.ch k)) M
def spRest (C : Addr) : DSp := fun ds M R _ => ∃ a t st dp k g, ds = [.ref a, .int (k : Nat)] ∧ Here C M a t st dp k g ∧ ∀ M', Ext M M' → R (.tup [.int (modG t g k), .int (nowG t st g k % modG t g k)]) M'
def spReq (C : Addr) : DSp := fun ds M R _ => ∃ a t st dp k g fc, ds = [.ref a, .int (k : Nat), .int fc] ∧ Here C M a t st dp k g ∧ Clo t dp ∧ dp k = some fc ∧ 0 ≤ fc ∧ fc < t.cs.getD k 0 ∧ fc % modG t g k = nowG t st g k % modG t g k ∧
  ∀ M' g', ExtB M M' a → PgM C M' a t st g' → PgI t st dp (k + 1) g' → R .non M'
def spFollow (C : Addr) : DSp := fun ds M R _ => ∃ t st dp, ds = [enc t, .tup (dints st), .tup (dp.map encO)] ∧ t.ok ∧ StOk t st ∧ DpOk t dp ∧ Clo t (dpf dp) ∧
  (∀ M' a g (k : Nat) fc, Ext M M' → M a = none → PgM C M' a t st g → PgI t st (dpf dp) k g → k < t.cs.length → dpf dp k = some fc → ¬ fc % modG t g k = nowG t st g k % modG t g k → R (.tup [.ref a, .int k]) M') ∧
  (∀ M' a g, Ext M M' → M a = none → PgM C M' a t st g → PgI t st (dpf dp) t.cs.length g → R (.tup [.ref a, .non]) M')
/-! ### the period -/
theorem pas_zero (c st f : Int) : pas c st f 0 = 0 := by unfold pas; rw [Int.add_zero]; omega
theorem psum_zero (w : Nat) (g : Pin → Int) : ∀ l : List Pin, (∀ p ∈ l, p.b = w → g p = 0) → psum w g l = 0
  | [], _ => rfl
  | p :: r, h => by
    unfold psum
    rw [psum_zero w g r fun q hq => h q (List.mem_cons_of_mem _ hq)]
    by_cases e : p.b = w
    · rw [if_pos e, h p List.mem_cons_self e]; rfl
    · rw [if_neg e]; rfl
theorem tw_zero {t : Train} (ht : t.ok) (st : List Int) : ∀ w, w < t.cs.length → tw t st 0 w = 0 := by
  intro w
  induction w using Nat.strongRecOn with
  | ind w ih =>
  intro hw
  rw [tw_eq ht st _ hw]
  rw [psum_zero w _ _ fun p hp hb => by
    have hab := (ht.p p hp).ab
    rw [ih p.a (by omega) (by omega), pas_zero, Int.mul_zero]]
  by_cases h : w = 0 <;> simp [h]
def perS (t : Train) : Nat → Pg
  | 0 => ⟨0, 1, []⟩
  | k + 1 => (perS t k).next t k 0 (t.cs.getD k 0 / modG t (perS t k) k)
def perOf (t : Train) : Int := (perS t t.cs.length).per
def dpAll (t : Train) (st : List Int) (w : Nat) : Option Int := if w < t.cs.length then some (st.getD w 0) else none
theorem dpAll_some {t : Train} {st : List Int} {w : Nat} (h : w < t.cs.length) : dpAll t st w = some (st.getD w 0) := if_pos h
theorem clo_all {t : Train} (ht : t.ok) (st : List Int) : Clo t (dpAll t st) := fun p hp _ => by
  have h1 := (ht.p p hp).ab
  have h2 := (ht.p p hp).bn
  rw [dpAll_some (by omega)]; rfl
theorem ex_inv (a m : Int) (h : 0 < m) (hc : Int.gcd a m = 1) : ∃ r, m ∣ a * r - 1 := by
  have key : ∀ n : Nat, ∀ x y l r : Int, 0 ≤ y → n = y.toNat → 0 ≤ x → Int.gcd x y = 1 → m ∣ a * l - x → m ∣ a * r - y → ∃ r, m ∣ a * r - 1 := by
    intro n
    induction n using Nat.strongRecOn with
    | ind n ih =>
    intro x y l r hy hn hx hg hl hr
    by_cases z : y = 0
    · subst z
      rw [Int.gcd_zero_right] at hg
      have : x = 1 := by omega
      subst this
      exact ⟨l, hl⟩
    · have b1 := Int.emod_nonneg x z
      have b2 := Int.emod_lt_of_pos x (show 0 < y by omega)
      refine ih (x % y).toNat (by omega) y (x % y) r (l - x / y * r) b1 rfl hy (by rw [gcd_step]; exact hg) hr ?_
      have e2 : a * (l - x / y * r) - x % y = (a * l - x) - (x / y) * (a * r - y) := by
        rw [Int.emod_def, Int.mul_sub, Int.mul_sub, Int.mul_left_comm a (x / y) r, Int.mul_comm y]; omega
      rw [e2]; exact Int.dvd_sub hl (Int.dvd_mul_of_dvd_right hr)
  refine key m.toNat (a % m) m 1 0 (Int.le_of_lt h) rfl (Int.emod_nonneg _ (by omega)) (by rw [Int.gcd_comm, gcd_step]; exact hc) ?_ ?_
  · rw [Int.mul_one]; exact Int.dvd_self_sub_emod
  · rw [Int.mul_zero, Int.zero_sub]; exact Int.dvd_neg.mpr (Int.dvd_refl m)
theorem perS_ok {t : Train} (ht : t.ok) {st : List Int} (hst : StOk t st) : ∀ k, k ≤ t.cs.length → (perS t k).first = 0 ∧ PgI t st (dpAll t st) k (perS t k)
  | 0, _ => ⟨rfl, PgI.zero t st _⟩
  | k + 1, h => by
    obtain ⟨e, I⟩ := perS_ok ht hst k (by omega)
    have hr := hst.r k (by omega)
    have hc := ht.cget (show k < t.cs.length by omega)
    have e0 : tw t st (perS t k).first k = 0 := by rw [e]; exact tw_zero ht st k (by omega)
    have gne : 0 < Int.gcd (chOf t (perS t k).per (perS t k).ch k) (t.cs.getD k 0) := Int.gcd_pos_of_ne_zero_right _ (by omega)
    have hcop := Int.gcd_ediv_gcd_ediv_gcd gne
    have hfac : 0 < t.cs.getD k 0 / (Int.gcd (chOf t (perS t k).per (perS t k).ch k) (t.cs.getD k 0) : Int) := Int.ediv_pos_of_pos_of_dvd (by omega) (by omega) (Int.gcd_dvd_right ..)
    obtain ⟨inv, hi⟩ := ex_inv _ _ hfac hcop
    have hs := I.step ht (show k < t.cs.length by omega) (clo_all ht st) (dpAll_some (by omega)) hr.1 hr.2 rfl rfl rfl rfl (by rw [e0, Int.add_zero]) (fun _ => hi) rfl
    rw [e0, Int.add_zero, Int.sub_self, Int.zero_ediv, Int.zero_mul, Int.zero_emod] at hs
    refine ⟨?_, hs.2.2.2⟩
    show (perS t k).first + (perS t k).per * 0 = 0
    rw [e, Int.mul_zero]; rfl
/-- two states that ask the same moments are alike -/
theorem PgI.same {t : Train} {st : List Int} {dp dp' : Nat → Option Int} {k : Nat} {g g' : Pg} (I : PgI t st dp k g) (I' : PgI t st dp' k g') (h : ∀ w, w < k → dp w = dp' w) : g.per = g'.per ∧ g.first = g'.first := by
  have hm : ∀ m, g.per ∣ m - g.first ↔ g'.per ∣ m - g'.first := fun m => by
    rw [← I.mom, ← I'.mom]
    exact ⟨fun z w hw f hf => z w hw f (by rw [h w hw]; exact hf), fun z w hw f hf => z w hw f (by rw [← h w hw]; exact hf)⟩
  have a1 := (hm g.first).mp (by rw [Int.sub_self]; exact Int.dvd_zero _)
  have a2 := (hm (g.first + g.per)).mp ⟨1, by omega⟩
  have b1 := (hm g'.first).mpr (by rw [Int.sub_self]; exact Int.dvd_zero _)
  have b2 := (hm (g'.first + g'.per)).mpr ⟨1, by omega⟩
  have c1 : g'.per ∣ g.per := by
    have := Int.dvd_sub a2 a1
    rwa [show g.first + g.per - g'.first - (g.first - g'.first) = g.per by omega] at this
  have c2 : g.per ∣ g'.per := by
    have := Int.dvd_sub b2 b1
    rwa [show g'.first + g'.per - g.first - (g'.first - g.first) = g'.per by omega] at this
  have p0 := I.p0
  have p0' := I'.p0
  have l1 := Int.le_of_dvd p0 c1
  have l2 := Int.le_of_dvd p0' c2
  have ep : g.per = g'.per := by omega
  refine ⟨ep, ?_⟩
  obtain ⟨q, hq⟩ := a1
  have f0 := I.f0
  have f1 := I.f1
  have f0' := I'.f0
  have f1' := I'.f1
  have : q = 0 := by
    have h1 : g'.per * q < g'.per * 1 := by omega
    have h2 : g'.per * (-1) < g'.per * q := by omega
    have h3 := Int.lt_of_mul_lt_mul_left h1 (Int.le_of_lt p0')
    have h4 := Int.lt_of_mul_lt_mul_left h2 (Int.le_of_lt p0')
    omega
  subst this
  omega
def spPer : DSp := fun ds M R _ => ∃ t, ds = [enc t] ∧ t.ok ∧ ∀ M', Ext M M' → R (.int (perOf t)) M'
end Tr
namespace Tr
theorem PgI.nodup {t : Train} {st : List Int} {dp : Nat → Option Int} {k : Nat} {g : Pg} (I : PgI t st dp k g) : (g.ch.map (·.1)).Nodup := by
  rw [I.keys]
  have h : (keysTo dp k).Pairwise (· ≠ ·) := List.Pairwise.filter _ (List.nodup_range (n := k))
  exact List.pairwise_map.mpr (h.imp fun {a b} h z => h (Int.ofNat.inj z))
theorem PgI.key_take {t : Train} {st : List Int} {dp : Nat → Option Int} {k : Nat} {g : Pg} (I : PgI t st dp k g) {j : Nat} (hj : j < g.ch.length) : ∀ x ∈ g.ch.take j, x.1 ≠ g.ch[j].1 := by
  intro x hx
  have h := I.nodup
  rw [← List.take_append_drop j g.ch, List.map_append, List.nodup_append] at h
  refine h.2.2 x.1 (List.mem_map_of_mem hx) g.ch[j].1 (List.mem_map_of_mem (f := fun p : Int × Int => p.1) ?_)
  rw [List.drop_eq_getElem_cons hj]
  exact List.mem_cons_self
theorem pow40 {i : Nat} (h : i ≤ 8) : (40 : Int) ^ i ≤ 6553600000000 := (show ∀ i : Fin 9, (40 : Int) ^ (i : Nat) ≤ 6553600000000 by decide) ⟨i, by omega⟩
theorem PgI.pbig {t : Train} {st : List Int} {dp : Nat → Option Int} {k : Nat} {g : Pg} (I : PgI t st dp k g) (h : k ≤ 8) : g.per ≤ 6553600000000 := Int.le_trans I.pb (pow40 h)
theorem zeros_ok {t : Train} (ht : t.ok) : StOk t (List.replicate t.cs.length 0) := by
  refine ⟨List.length_replicate, fun i hi => ?_⟩
  have hc := ht.cget hi
  rw [List.getD_eq_getElem?_getD, List.getElem?_replicate, if_pos hi]
  show (0 : Int) ≤ 0 ∧ (0 : Int) < _
  omega
theorem dpf_some {st : List Int} {w : Nat} : dpf (st.map some) w = if w < st.length then some (st.getD w 0) else none := by
  unfold dpf
  rw [List.getD_eq_getElem?_getD, List.getElem?_map]
  by_cases h : w < st.length
  · rw [if_pos h, getD_of h]; rfl
  · rw [if_neg h, List.getElem?_eq_none (by omega)]; rfl
theorem dpf_all {t : Train} {st : List Int} (hst : StOk t st) : dpf (st.map some) = dpAll t st := by
  funext w; rw [dpf_some]; unfold dpAll; rw [hst.len]
theorem dpok_all {t : Train} {st : List Int} (hst : StOk t st) : DpOk t (st.map some) := by
  refine ⟨by rw [List.length_map]; exact hst.len, fun w f h => ?_⟩
  rw [dpf_all hst] at h
  unfold dpAll at h
  by_cases hw : w < t.cs.length
  · rw [if_pos hw] at h; cases h; exact hst.r w hw
  · rw [if_neg hw] at h; cases h
end Tr

/-! SPD: average speeds as fractions -/
namespace Tr
open PySem L2 DL
def spin (t : Train) (acc : List (Int × Int)) (p : Pin) : Int × Int := mkF (p.s * (acc.getD p.a (0, 1)).1) (t.cs.getD p.a 0 * (acc.getD p.a (0, 1)).2)
def spw (t : Train) (acc : List (Int × Int)) (w : Nat) (l : List Pin) : Int × Int := l.foldl (fun v p => if p.b = w then addF v (spin t acc p) else v) (if w = 0 then (1, 1) else (0, 1))
def spdL (t : Train) : Nat → List (Int × Int)
  | 0 => []
  | n + 1 => spdL t n ++ [spw t (spdL t n) n t.ps]
def speeds (t : Train) : List (Int × Int) := spdL t t.cs.length
def spd (t : Train) (w : Nat) : Int × Int := (speeds t).getD w (0, 1)
theorem spdL_len (t : Train) : ∀ n, (spdL t n).length = n
  | 0 => rfl
  | n + 1 => by rw [spdL, List.length_append, spdL_len t n]; rfl
/-- a fraction in lowest terms, P times it is v -/
structure RatOk (P : Int) (x : Int × Int) (v : Int) : Prop where
  b0 : 0 < x.2
  eq : x.1 * P = v * x.2
  g : Int.gcd x.1 x.2 = 1
theorem mkF_ok {P a b v : Int} (hb : 0 < b) (h : a * P = v * b) : RatOk P (mkF a b) v := by
  have gne : 0 < Int.gcd a b := Int.gcd_pos_of_ne_zero_right _ (by omega)
  obtain ⟨a', ha⟩ := Int.gcd_dvd_left a b
  obtain ⟨b', hb'⟩ := Int.gcd_dvd_right a b
  have e1 : a / (Int.gcd a b : Int) = a' := by
    conv => lhs; lhs; rw [ha]
    exact Int.mul_ediv_cancel_left _ (by omega)
  have e2 : b / (Int.gcd a b : Int) = b' := by
    conv => lhs; lhs; rw [hb']
    exact Int.mul_ediv_cancel_left _ (by omega)
  refine ⟨?_, ?_, ?_⟩
  · show 0 < b / (Int.gcd a b : Int)
    exact Int.ediv_pos_of_pos_of_dvd hb (by omega) (Int.gcd_dvd_right ..)
  · show a / (Int.gcd a b : Int) * P = v * (b / (Int.gcd a b : Int))
    rw [e1, e2]
    have h2 : (Int.gcd a b : Int) * (a' * P) = (Int.gcd a b : Int) * (v * b') := by
      rw [← Int.mul_assoc, ← ha, h, Int.mul_left_comm, ← hb']
    exact Int.eq_of_mul_eq_mul_left (by omega) h2
  · exact Int.gcd_ediv_gcd_ediv_gcd gne
theorem addF_ok {P : Int} {x y : Int × Int} {v u : Int} (hx : RatOk P x v) (hy : RatOk P y u) : RatOk P (addF x y) (v + u) := by
  refine mkF_ok (Int.mul_pos hx.b0 hy.b0) ?_
  rw [Int.add_mul, Int.add_mul, Int.mul_right_comm x.1, hx.eq, Int.mul_right_comm y.1, hy.eq]
  rw [Int.mul_assoc v, Int.mul_assoc u, Int.mul_comm y.2 x.2]
theorem RatOk.low {P : Int} {x : Int × Int} {v : Int} (h : RatOk P x v) (hP : 0 < P) : x.2 ∣ P ∧ x.2 ≤ P ∧ x.1.natAbs ≤ v.natAbs := by
  have d : x.2 ∣ P := by
    have h1 : x.2 ∣ x.1 * P := by rw [h.eq]; exact Int.dvd_mul_left ..
    rw [← Int.dvd_gcd_mul_iff_dvd_mul, Int.gcd_comm, h.g] at h1
    simpa using h1
  have l := Int.le_of_dvd hP d
  refine ⟨d, l, ?_⟩
  have e := congrArg Int.natAbs h.eq
  rw [Int.natAbs_mul, Int.natAbs_mul] at e
  have b0 := h.b0
  have l2 : v.natAbs * x.2.natAbs ≤ v.natAbs * P.natAbs := Nat.mul_le_mul_left _ (by omega)
  rw [← e] at l2
  exact Nat.le_of_mul_le_mul_right l2 (by omega)
/-- the steps of the wheels in a period -/
def perCh (t : Train) (w : Nat) : Int := look (perS t t.cs.length).ch w
structure PerOk (t : Train) : Prop where
  p0 : 0 < perOf t
  pb : perOf t ≤ 6553600000000
  dv : ∀ w, w < t.cs.length → t.cs.getD w 0 ∣ perCh t w
  eq : ∀ w, w < t.cs.length → perCh t w = (if w = 0 then perOf t else 0) + psum w (fun p => p.s * (perCh t p.a / t.cs.getD p.a 0)) t.ps
  bd : ∀ w, w < t.cs.length → (perCh t w).natAbs ≤ 6553600000000 * 217 ^ 8
  tw : ∀ st, StOk t st → ∀ m j w, w < t.cs.length → tw t st (m + perOf t * j) w = tw t st m w + j * perCh t w
theorem per_ok {t : Train} (ht : t.ok) : PerOk t := by
  have n1 := ht.n1
  have hp := fun st (hst : StOk t st) => (perS_ok ht hst t.cs.length (Nat.le_refl _)).2
  have I := hp _ (zeros_ok ht)
  have sm : ∀ st w, w < t.cs.length → (dpAll t st w).isSome = true := fun st w hw => by rw [dpAll_some hw]; rfl
  refine ⟨I.p0, I.pbig n1, fun w hw => I.dv w hw (sm _ w hw), fun w hw => I.eq w hw (sm _ w hw), fun w hw => ?_, fun st hst m j w hw => ?_⟩
  · have h1 := I.bd w hw (sm _ w hw)
    have h2 := I.pbig n1
    have h3 := I.p0
    refine Nat.le_trans h1 (Nat.mul_le_mul (by omega) (Nat.pow_le_pow_right (by decide) (by omega)))
  · exact (tw_per ht (hp st hst) (clo_all ht st) m j w hw).1 hw (sm _ w hw)
theorem perCh_tw {t : Train} (ht : t.ok) {st : List Int} (hst : StOk t st) {w : Nat} (hw : w < t.cs.length) : tw t st (perOf t) w = perCh t w := by
  have h := (per_ok ht).tw st hst 0 1 w hw
  rw [tw_zero ht st w hw] at h
  simpa using h
theorem spdL_pre (t : Train) {w : Nat} : ∀ {n : Nat}, w < n → (spdL t n).getD w (0, 1) = spw t (spdL t w) w t.ps
  | n + 1, h => by
    rw [spdL]
    by_cases e : w = n
    · subst e
      rw [List.getD_eq_getElem?_getD, List.getElem?_append_right (by rw [spdL_len]; exact Nat.le_refl _), spdL_len, Nat.sub_self]; rfl
    · have hl : w < n := by omega
      rw [List.getD_eq_getElem?_getD, List.getElem?_append_left (by rw [spdL_len]; exact hl), ← List.getD_eq_getElem?_getD]
      exact spdL_pre t hl
theorem spw_snoc (t : Train) (acc : List (Int × Int)) (w : Nat) (l : List Pin) (p : Pin) : spw t acc w (l ++ [p]) = if p.b = w then addF (spw t acc w l) (spin t acc p) else spw t acc w l := by
  unfold spw; rw [List.foldl_append]; rfl
theorem spin_ok {t : Train} (ht : t.ok) {acc : List (Int × Int)} {p : Pin} (hp : p ∈ t.ps) (h : RatOk (perOf t) (acc.getD p.a (0, 1)) (perCh t p.a)) : RatOk (perOf t) (spin t acc p) (p.s * (perCh t p.a / t.cs.getD p.a 0)) := by
  have h1 := (ht.p p hp).ab
  have h2 := (ht.p p hp).bn
  have hc := ht.cget (show p.a < t.cs.length by omega)
  refine mkF_ok (Int.mul_pos (by omega) h.b0) ?_
  obtain ⟨q, hq⟩ := (per_ok ht).dv p.a (by omega)
  rw [Int.mul_assoc, h.eq, hq, Int.mul_ediv_cancel_left _ (by omega), Int.mul_assoc, Int.mul_assoc, Int.mul_left_comm q]
/-- the sum over the first pins -/
def psv (t : Train) (w j : Nat) : Int := (if w = 0 then perOf t else 0) + psum w (fun p => p.s * (perCh t p.a / t.cs.getD p.a 0)) (t.ps.take j)
theorem spw_ok {t : Train} (ht : t.ok) {w : Nat} (hw : w < t.cs.length) (hacc : ∀ v, v < w → RatOk (perOf t) ((spdL t w).getD v (0, 1)) (perCh t v)) : ∀ j, j ≤ t.ps.length → RatOk (perOf t) (spw t (spdL t w) w (t.ps.take j)) (psv t w j)
  | 0, _ => by
    unfold psv spw
    have hp := (per_ok ht).p0
    rw [List.take_zero]
    show RatOk _ (if w = 0 then (1, 1) else (0, 1)) _
    by_cases e : w = 0
    · rw [if_pos e, if_pos e]; exact ⟨by show (0:Int) < 1; omega, by show 1 * perOf t = (perOf t + 0) * 1; omega, rfl⟩
    · rw [if_neg e, if_neg e]; exact ⟨by show (0:Int) < 1; omega, by show 0 * perOf t = (0 + 0) * 1; omega, rfl⟩
  | j + 1, h => by
    have ih := spw_ok ht hw hacc j (by omega)
    have hj : j < t.ps.length := by omega
    have hm := List.getElem_mem hj
    have e0 : t.ps.take (j + 1) = t.ps.take j ++ [t.ps[j]] := by rw [List.take_succ_eq_append_getElem hj]
    unfold psv at ih ⊢
    rw [e0, spw_snoc, psum_snoc]
    by_cases e : t.ps[j].b = w
    · rw [if_pos e, if_pos e, ← Int.add_assoc]
      exact addF_ok ih (spin_ok ht hm (hacc _ (by have := (ht.p _ hm).ab; omega)))
    · rw [if_neg e, if_neg e, Int.add_zero]; exact ih
theorem spd_okL {t : Train} (ht : t.ok) : ∀ n, n ≤ t.cs.length → ∀ w, w < n → RatOk (perOf t) ((spdL t n).getD w (0, 1)) (perCh t w) := by
  intro n hn w
  induction w using Nat.strongRecOn generalizing n with
  | ind w ih =>
  intro hw
  rw [spdL_pre t hw]
  have h := spw_ok ht (show w < t.cs.length by omega) (fun v hv => ih v hv w (by omega) hv) t.ps.length (Nat.le_refl _)
  unfold psv at h
  rw [List.take_length, ← (per_ok ht).eq w (by omega)] at h
  exact h
theorem spd_ok {t : Train} (ht : t.ok) {w : Nat} (hw : w < t.cs.length) : RatOk (perOf t) (spd t w) (perCh t w) := spd_okL ht _ (Nat.le_refl _) w hw
theorem psv_bd {t : Train} (ht : t.ok) {w : Nat} (hw : w < t.cs.length) (j : Nat) : (psv t w j).natAbs < 2 ^ 200 := by
  have h := per_ok ht
  have hb := psum_bd w (fun p => p.s * (perCh t p.a / t.cs.getD p.a 0)) (9 * (6553600000000 * 217 ^ 8)) (t.ps.take j) fun p hp hpb => by
    have hp := List.mem_of_mem_take hp
    have hP := ht.p p hp
    have h1 := hP.ab
    have h2 := hP.bn
    have h3 := hP.s0
    have h4 := hP.s1
    have hc := ht.cget (show p.a < t.cs.length by omega)
    rw [Int.natAbs_mul]
    refine Nat.mul_le_mul (by omega) ?_
    obtain ⟨q, hq⟩ := h.dv p.a (by omega)
    have h6 := h.bd p.a (by omega)
    refine Nat.le_trans ?_ h6
    rw [hq, Int.mul_ediv_cancel_left _ (by omega), Int.natAbs_mul]
    exact Nat.le_mul_of_pos_left _ (by omega)
  have hm := ht.m
  have hl : (t.ps.take j).length ≤ 24 := by rw [List.length_take]; omega
  have hb2 := Nat.le_trans hb (Nat.mul_le_mul_right _ hl)
  have hp0 := h.p0
  have hpb := h.pb
  unfold psv
  have e : (24 * (9 * (6553600000000 * 217 ^ 8)) : Nat) + 6553600000000 < 2 ^ 200 := by decide
  obtain ⟨Y, hY⟩ : ∃ Y, Y = 24 * (9 * (6553600000000 * 217 ^ 8)) := ⟨_, rfl⟩
  rw [← hY] at hb2 e
  refine Nat.lt_of_le_of_lt ?_ e
  clear e hY
  by_cases h0 : w = 0
  · rw [if_pos h0]; omega
  · rw [if_neg h0]; omega
theorem rat_small {P : Int} {x : Int × Int} {v : Int} (h : RatOk P x v) (hP : 0 < P) (hb : P ≤ 6553600000000) (hv : v.natAbs < 2 ^ 200) : x.1.natAbs < 2 ^ 200 ∧ x.2.natAbs < 2 ^ 50 ∧ 0 < x.2 := by
  have l := h.low hP
  have b := h.b0
  exact ⟨Nat.lt_of_le_of_lt l.2.2 hv, by omega, b⟩
theorem perCh_bd {t : Train} (ht : t.ok) {w : Nat} (hw : w < t.cs.length) : (perCh t w).natAbs < 2 ^ 200 := Nat.lt_of_le_of_lt ((per_ok ht).bd w hw) (by decide)
theorem spd_small {t : Train} (ht : t.ok) {n w : Nat} (hn : n ≤ t.cs.length) (hw : w < n) : ((spdL t n).getD w (0, 1)).1.natAbs < 2 ^ 200 ∧ ((spdL t n).getD w (0, 1)).2.natAbs < 2 ^ 50 ∧ 0 < ((spdL t n).getD w (0, 1)).2 :=
  rat_small (spd_okL ht n hn w hw) (per_ok ht).p0 (per_ok ht).pb (perCh_bd ht (by omega))
def pinAt (t : Train) (i : Nat) : Pin := t.ps.getD i ⟨0, 0, 0, 0⟩
def fshare (t : Train) (i : Nat) : Int × Int := mkF (spd t (pinAt t i).a).1 ((spd t (pinAt t i).a).2 * t.cs.getD (pinAt t i).a 0)
def share (t : Train) (i : Nat) : Int × Int := mkF ((pinAt t i).s * (fshare t i).1) (fshare t i).2
theorem pinAt_get {t : Train} {i : Nat} (h : i < t.ps.length) : t.ps[i]? = some (pinAt t i) := by
  unfold pinAt
  rw [List.getD_eq_getElem?_getD, List.getElem?_eq_getElem h]; rfl
theorem pinAt_mem {t : Train} {i : Nat} (h : i < t.ps.length) : pinAt t i ∈ t.ps := List.mem_of_getElem? (pinAt_get h)
theorem fshare_ok {t : Train} (ht : t.ok) {i : Nat} (h : i < t.ps.length) : RatOk (perOf t) (fshare t i) (perCh t (pinAt t i).a / t.cs.getD (pinAt t i).a 0) := by
  have hP := ht.p _ (pinAt_mem h)
  have h1 := hP.ab
  have h2 := hP.bn
  have hc := ht.cget (show (pinAt t i).a < t.cs.length by omega)
  have hs := spd_ok ht (show (pinAt t i).a < t.cs.length by omega)
  refine mkF_ok (Int.mul_pos hs.b0 (by omega)) ?_
  obtain ⟨q, hq⟩ := (per_ok ht).dv (pinAt t i).a (by omega)
  rw [hs.eq, hq, Int.mul_ediv_cancel_left _ (by omega), Int.mul_comm (t.cs.getD (pinAt t i).a 0) q, Int.mul_assoc, Int.mul_comm (t.cs.getD (pinAt t i).a 0)]
theorem share_ok {t : Train} (ht : t.ok) {i : Nat} (h : i < t.ps.length) : RatOk (perOf t) (share t i) ((pinAt t i).s * (perCh t (pinAt t i).a / t.cs.getD (pinAt t i).a 0)) := by
  have hs := fshare_ok ht h
  refine mkF_ok hs.b0 ?_
  rw [Int.mul_assoc, hs.eq, Int.mul_assoc]
theorem fshare_small {t : Train} (ht : t.ok) {i : Nat} (h : i < t.ps.length) : (fshare t i).1.natAbs < 2 ^ 200 ∧ (fshare t i).2.natAbs < 2 ^ 50 ∧ 0 < (fshare t i).2 := by
  have hP := ht.p _ (pinAt_mem h)
  have h1 := hP.ab
  have h2 := hP.bn
  have hc := ht.cget (show (pinAt t i).a < t.cs.length by omega)
  refine rat_small (fshare_ok ht h) (per_ok ht).p0 (per_ok ht).pb (Nat.lt_of_le_of_lt ?_ (perCh_bd ht (show (pinAt t i).a < t.cs.length by omega)))
  obtain ⟨q, hq⟩ := (per_ok ht).dv (pinAt t i).a (by omega)
  rw [hq, Int.mul_ediv_cancel_left _ (by omega), Int.natAbs_mul]
  exact Nat.le_mul_of_pos_left _ (by omega)
def spSpeeds : DSp := fun ds M R _ => ∃ t : Train, ds = [enc t] ∧ t.ok ∧ ∀ p, M p = none → R (.ref p) (updM M p (.lst ((speeds t).map fr)))
def spFShare : DSp := fun ds M R _ => ∃ (t : Train) (i : Nat), ds = [enc t, .int i] ∧ t.ok ∧ i < t.ps.length ∧ ∀ M', Ext M M' → R (fr (fshare t i)) M'
def spShare : DSp := fun ds M R _ => ∃ (t : Train) (i : Nat), ds = [enc t, .int i] ∧ t.ok ∧ i < t.ps.length ∧ ∀ M', Ext M M' → R (fr (share t i)) M'
end Tr

/-! LD: the laws' dice, trains drawn -/
namespace Tr
open PySem L2 DL
def DiceC (c : Cell) : Prop := ∃ (ns : List Int) (i mx r : Int), c = .lst [.rol (dints ns), .int i, .int mx, .int r] ∧ 0 ≤ i ∧ 0 ≤ mx ∧ mx < 2147483647 ∧ 0 ≤ r
def DiceM (M : Mem) (a : Addr) : Prop := ∃ c, M a = some c ∧ DiceC c
theorem DiceM.new {M : Mem} {a p : Addr} {c : Cell} (h : DiceM M a) (hp : M p = none) : DiceM (updM M p c) a := by
  obtain ⟨d, h1, h2⟩ := h
  exact ⟨d, Ext.refl.new hp _ _ h1, h2⟩
theorem DiceM.ext {M M' : Mem} {a : Addr} (h : DiceM M a) (e : Ext M M') : DiceM M' a := by
  obtain ⟨d, h1, h2⟩ := h
  exact ⟨d, e _ _ h1, h2⟩
theorem DiceM.set {M : Mem} {a : Addr} {c : Cell} (h : DiceC c) : DiceM (updM M a c) a := ⟨c, updM_same, h⟩
def spDice : DSp := fun ds M R _ => ∃ ns : List Int, ds = [.rol (dints ns)] ∧ ∀ a c, M a = none → DiceC c → R (.ref a) (updM M a c)
def spNext : DSp := fun ds M R _ => ∃ (a : Addr) (n : Int), ds = [.ref a, .int n] ∧ DiceM M a ∧ 0 < n ∧ n ≤ 1000000000000000 ∧ ∀ (x : Int) c, 0 ≤ x → x < n → DiceC c → R (.int x) (updM M a c)
def spLPin : DSp := fun ds M R _ => ∃ (a : Addr) (cs : List Int) (most : Int), ds = [.ref a, .tup (dints cs), .int most] ∧ DiceM M a ∧ 2 ≤ cs.length ∧ cs.length ≤ 8 ∧ (∀ c ∈ cs, 2 ≤ c ∧ c ≤ 40) ∧ 1 ≤ most ∧ most ≤ 9 ∧ ∀ (p : Pin) c, p.ok cs → DiceC c → R (encPin p) (updM M a c)
/-- what a train drawn keeps -/
structure Drawn (t : Train) (wh fa pn : Int) : Prop where
  ok : t.ok
  wh : (t.cs.length : Int) ≤ wh
  fa : ∀ c ∈ t.cs, c ≤ fa
  pn : (t.ps.length : Int) ≤ pn
def spLTrain : DSp := fun ds M R _ => ∃ (a : Addr) (wh fa pn most : Int), ds = [.ref a, .int wh, .int fa, .int pn, .int most] ∧ DiceM M a ∧ 1 ≤ wh ∧ wh ≤ 8 ∧ 2 ≤ fa ∧ fa ≤ 40 ∧ 0 ≤ pn ∧ pn ≤ 24 ∧ 1 ≤ most ∧ most ≤ 9 ∧ ∀ (t : Train) c, Drawn t wh fa pn → DiceC c → R (enc t) (updM M a c)
def spLStart : DSp := fun ds M R _ => ∃ (a : Addr) (t : Train), ds = [.ref a, enc t] ∧ DiceM M a ∧ t.ok ∧ ∀ (st : List Int) c, StOk t st → DiceC c → R (.tup (dints st)) (updM M a c)
end Tr

/-! MO: faces at moments, searches: plain laws and promises -/
namespace Tr
open PySem L2 DL
/-- all faces at a moment -/
def facesL (t : Train) (st : List Int) (m : Int) : List Int := (List.range t.cs.length).map (face t st m)
theorem facesL_len (t : Train) (st : List Int) (m : Int) : (facesL t st m).length = t.cs.length := by unfold facesL; rw [List.length_map, List.length_range]
theorem facesL_get {t : Train} {st : List Int} {m : Int} {w : Nat} (h : w < t.cs.length) : (facesL t st m).getD w 0 = face t st m w := by
  unfold facesL
  rw [List.getD_eq_getElem?_getD, List.getElem?_map, List.getElem?_range h]; rfl
theorem facesL_ok {t : Train} (ht : t.ok) (st : List Int) (m : Int) : StOk t (facesL t st m) := ⟨facesL_len .., fun i hi => by
  have hc := ht.cget hi
  rw [facesL_get hi]
  exact ⟨Int.emod_nonneg _ (by omega), Int.emod_lt_of_pos _ (by omega)⟩⟩
theorem ext_getD {a b : List Int} (hl : a.length = b.length) (h : ∀ i, i < a.length → a.getD i 0 = b.getD i 0) : a = b := by
  apply List.ext_getElem hl
  intro i h1 h2
  have e := h i h1
  rw [List.getD_eq_getElem?_getD, List.getD_eq_getElem?_getD, List.getElem?_eq_getElem h1, List.getElem?_eq_getElem h2] at e
  exact e
theorem facesL_eq {t : Train} {st : List Int} {m : Int} {l : List Int} (hl : l.length = t.cs.length) : facesL t st m = l ↔ ∀ w, w < t.cs.length → face t st m w = l.getD w 0 := by
  constructor
  · rintro rfl w hw; exact (facesL_get hw).symm
  · intro h
    refine ext_getD (by rw [facesL_len, hl]) fun i hi => ?_
    rw [facesL_len] at hi
    rw [facesL_get hi, h i hi]
theorem facesL_zero {t : Train} (ht : t.ok) {st : List Int} (hst : StOk t st) : facesL t st 0 = st := by
  rw [facesL_eq hst.len]
  intro w hw
  unfold face
  rw [tw_zero ht st w hw, Int.add_zero, Int.emod_eq_of_lt (hst.r w hw).1 (hst.r w hw).2]
/-- one way: the totals over two stretches -/
theorem pas_add (c s f a b : Int) : pas c s f (a + b) = pas c s f a + pas c (s + a) f b := by
  unfold pas
  rw [show s + a + b - f = s + (a + b) - f by omega, show s + a - f = s + a - f from rfl]
  omega
theorem pas_mod {c : Int} (hc : c ≠ 0) (s f n : Int) : pas c (s % c) f n = pas c s f n := by
  unfold pas
  have e : s = s % c + c * (s / c) := (Int.emod_add_mul_ediv s c).symm
  generalize s / c = q at e
  generalize s % c = r at e
  subst e
  rw [show r + c * q + n - f = (r + n - f) + c * q by omega, show r + c * q - f = (r - f) + c * q by omega, Int.add_mul_ediv_left _ _ hc, Int.add_mul_ediv_left _ _ hc]
  omega
theorem tw_add {t : Train} (ht : t.ok) (st : List Int) (a b : Int) : ∀ w, w < t.cs.length → tw t st (a + b) w = tw t st a w + tw t (facesL t st a) b w := by
  intro w
  induction w using Nat.strongRecOn with
  | ind w ih =>
  intro hw
  rw [tw_eq ht st _ hw, tw_eq ht st _ hw, tw_eq ht _ b hw]
  have e : psum w (fun p => p.s * pas (t.cs.getD p.a 0) (st.getD p.a 0) p.f (tw t st (a + b) p.a)) t.ps = psum w (fun p => p.s * pas (t.cs.getD p.a 0) (st.getD p.a 0) p.f (tw t st a p.a) + p.s * pas (t.cs.getD p.a 0) ((facesL t st a).getD p.a 0) p.f (tw t (facesL t st a) b p.a)) t.ps := by
    refine psum_congr w fun p hp hb => ?_
    have hab := (ht.p p hp).ab
    have hc := ht.cget (show p.a < t.cs.length by omega)
    rw [ih p.a (by omega) (by omega), facesL_get (by omega), ← Int.mul_add, pas_add]
    unfold face
    rw [pas_mod (by omega)]
  rw [e, psum_add]
  by_cases h0 : w = 0
  · rw [if_pos h0, if_pos h0, if_pos h0]; omega
  · rw [if_neg h0, if_neg h0, if_neg h0]; omega
theorem face_add {t : Train} (ht : t.ok) (st : List Int) (a b : Int) {w : Nat} (hw : w < t.cs.length) : face t st (a + b) w = face t (facesL t st a) b w := by
  unfold face
  rw [tw_add ht st a b w hw, facesL_get hw]
  unfold face
  rw [Int.emod_add_emod]
  congr 1; omega
theorem facesL_add {t : Train} (ht : t.ok) (st : List Int) (a b : Int) : facesL t st (a + b) = facesL t (facesL t st a) b := by
  rw [facesL_eq (facesL_len ..)]
  intro w hw
  rw [facesL_get hw, face_add ht st a b hw]
theorem facesL_back {t : Train} (ht : t.ok) {st : List Int} (hst : StOk t st) (m : Int) : facesL t (facesL t st m) (-m) = st := by
  rw [← facesL_add ht, Int.add_right_neg, facesL_zero ht hst]
/-- the moments of a whole display -/
theorem mom_all {t : Train} {st l : List Int} {g : Pg} (hl : l.length = t.cs.length) {dp : Nat → Option Int} (hdp : ∀ w, w < t.cs.length → dp w = some (l.getD w 0)) (I : PgI t st dp t.cs.length g) (m : Int) : facesL t st m = l ↔ g.per ∣ m - g.first := by
  rw [facesL_eq hl, ← I.mom m]
  exact ⟨fun h w hw f hf => by rw [hdp w hw] at hf; cases hf; exact h w hw, fun h w hw => h w hw _ (hdp w hw)⟩
theorem PgI.congr {t : Train} {st : List Int} {dp dp' : Nat → Option Int} {k : Nat} {g : Pg} (I : PgI t st dp k g) (h : ∀ w, w < k → dp w = dp' w) : PgI t st dp' k g := by
  have hk : keysTo dp' k = keysTo dp k := by
    unfold keysTo
    refine List.filter_congr fun w hw => ?_
    rw [h w (List.mem_range.mp hw)]
  exact ⟨I.p0, I.f0, I.f1, I.pb, by rw [hk]; exact I.keys, fun w hw hs => I.dv w hw (by rw [h w hw]; exact hs), fun w hw hs => I.eq w hw (by rw [h w hw]; exact hs), fun w hw hs => I.bd w hw (by rw [h w hw]; exact hs),
    fun m => Iff.trans ⟨fun z w hw f hf => z w hw f (by rw [← h w hw]; exact hf), fun z w hw f hf => z w hw f (by rw [h w hw]; exact hf)⟩ (I.mom m)⟩
/-- the period of a whole display is the train's -/
theorem per_all {t : Train} (ht : t.ok) {st : List Int} (hst : StOk t st) {l : List Int} {g : Pg} (hl : l.length = t.cs.length) {dp : Nat → Option Int} (hdp : ∀ w, w < t.cs.length → dp w = some (l.getD w 0)) (I : PgI t st dp t.cs.length g) : g.per = perOf t := by
  have J := (perS_ok ht hst t.cs.length (Nat.le_refl _)).2
  have j0 := (perS_ok ht hst t.cs.length (Nat.le_refl _)).1
  have hf : facesL t st g.first = l := (mom_all hl hdp I _).mpr (by rw [Int.sub_self]; exact Int.dvd_zero _)
  -- both ask the same differences
  have key : ∀ d, g.per ∣ d ↔ perOf t ∣ d := fun d => by
    have h1 := mom_all hl hdp I (g.first + d)
    rw [show g.first + d - g.first = d by omega] at h1
    have h2 := mom_all hst.len (fun w hw => dpAll_some hw) J d
    rw [j0, Int.sub_zero] at h2
    rw [← h1]
    refine Iff.trans ?_ h2
    constructor
    · intro h
      rw [facesL_add ht, hf] at h
      -- shift back by first
      have e : facesL t st d = facesL t (facesL t st (g.first + d)) (-g.first) := by rw [← facesL_add ht]; congr 1; omega
      rw [e, facesL_add ht, hf, h, ← hf, facesL_back ht hst]
    · intro h
      rw [Int.add_comm, facesL_add ht, h, hf]
  have p0 := I.p0
  have p0' : 0 < perOf t := J.p0
  have a1 := Int.le_of_dvd p0' ((key _).mpr (Int.dvd_refl _))
  have a2 := Int.le_of_dvd p0 ((key _).mp (Int.dvd_refl _))
  omega
/-! ### promises -/
def spAfter : DSp := fun ds M R _ => ∃ (t : Train) (st : List Int) (m : Int), ds = [enc t, .tup (dints st), .int m] ∧ t.ok ∧ StOk t st ∧ R (.tup (dints (facesL t st m))) M
def spFacesAt : DSp := fun ds M R _ => ∃ (t : Train) (st : List Int) (m : Int), ds = [enc t, .tup (dints st), .int m] ∧ t.ok ∧ StOk t st ∧ -1000000000000000000 ≤ m ∧ m ≤ 1000000000000000000 ∧ R (.tup (dints (facesL t st m))) M
def spStartFor : DSp := fun ds M R _ => ∃ (t : Train) (st : List Int) (m : Int), ds = [enc t, .tup (dints st), .int m] ∧ t.ok ∧ StOk t st ∧ -1000000000000000000 ≤ m ∧ m ≤ 1000000000000000000 ∧ R (.tup (dints (facesL t st (-m)))) M
def spDrv : DSp := fun ds M R _ => ∃ (t : Train) (w : Nat), ds = [enc t, .int w] ∧ t.ok ∧ ∀ (ys : List Int) M', (∀ y, y ∈ ys ↔ ∃ p ∈ t.ps, p.b = w ∧ (p.a : Int) = y) → ys.Pairwise (· < ·) → Ext M M' → R (.lst (dints ys)) M'
def spClosed : DSp := fun ds M R _ => ∃ (t : Train) (dp : List (Option Int)), ds = [enc t, .tup (dp.map encO)] ∧ t.ok ∧ DpOk t dp ∧ Clo t (dpf dp) ∧ ∀ M', Ext M M' → R .non M'
def spSearch : DSp := fun ds M R _ => ∃ (t : Train) (st : List Int) (dp : List (Option Int)), ds = [enc t, .tup (dints st), .tup (dp.map encO)] ∧ t.ok ∧ StOk t st ∧ DpOk t dp ∧ Clo t (dpf dp) ∧ ∀ M', Ext M M' → R .non M'
/-- no moment shows the display -/
def NoMom (t : Train) (st : List Int) (dp : List (Option Int)) : Prop := ∀ m, ¬ ∀ w, w < t.cs.length → ∀ f, dpf dp w = some f → face t st m w = f
def spFindM : DSp := fun ds M R _ => ∃ (t : Train) (st : List Int) (dp : List (Option Int)), ds = [enc t, .tup (dints st), .tup (dp.map encO)] ∧ t.ok ∧ StOk t st ∧ DpOk t dp ∧ Clo t (dpf dp) ∧
  ∀ (d : D) (M' : Mem), Ext M M' → ((∃ g, d = .tup [.int g.first, .int g.per] ∧ PgI t st (dpf dp) t.cs.length g) ∨ (d = .non ∧ NoMom t st dp)) → R d M'
def spObst : DSp := fun ds M R _ => ∃ (t : Train) (st : List Int) (dp : List (Option Int)), ds = [enc t, .tup (dints st), .tup (dp.map encO)] ∧ t.ok ∧ StOk t st ∧ DpOk t dp ∧ Clo t (dpf dp) ∧
  ∀ (d : D) (M' : Mem), Ext M M' → ((∃ (g : Pg) (k : Nat) (fc : Int), d = .tup [.int k, .int (modG t g k), .int (nowG t st g k % modG t g k), .int (fc % modG t g k)] ∧ PgI t st (dpf dp) k g ∧ k < t.cs.length ∧ dpf dp k = some fc ∧ ¬ fc % modG t g k = nowG t st g k % modG t g k) ∨
    (d = .non ∧ ∃ g, PgI t st (dpf dp) t.cs.length g)) → R d M'
def spNextM : DSp := fun ds M R _ => ∃ (t : Train) (st : List Int) (dp : List (Option Int)) (m : Int), ds = [enc t, .tup (dints st), .tup (dp.map encO), .int m] ∧ t.ok ∧ StOk t st ∧ DpOk t dp ∧ Clo t (dpf dp) ∧ -1000000000000000000 ≤ m ∧ m ≤ 1000000000000000000 ∧
  ∀ (d : D) (M' : Mem), Ext M M' → ((∃ g, d = .int (m + (g.first - m) % g.per) ∧ PgI t st (dpf dp) t.cs.length g) ∨ (d = .non ∧ NoMom t st dp)) → R d M'
def prodL : List Int → Int
  | [] => 1
  | x :: r => x * prodL r
def spCourses : DSp := fun ds M R _ => ∃ t : Train, ds = [enc t] ∧ t.ok ∧ ∀ M', Ext M M' → R (.int (prodL t.cs / perOf t)) M'
/-- l stands at or before every display of the course -/
def Least (t : Train) (st l : List Int) : Prop := ∀ m, facesL t st m = l ∨ ∃ w, w < t.cs.length ∧ (∀ v, v < w → face t st m v = l.getD v 0) ∧ l.getD w 0 < face t st m w
def spFirst : DSp := fun ds M R _ => ∃ (t : Train) (st : List Int), ds = [enc t, .tup (dints st)] ∧ t.ok ∧ StOk t st ∧ ∀ M' (l : List Int) g, Ext M M' → l.length = t.cs.length → PgI t st (fun w => some (l.getD w 0)) t.cs.length g → Least t st l → R (.tup [.tup (dints l), .int g.first]) M'
def spSame : DSp := fun ds M R _ => ∃ (t : Train) (st ot : List Int), ds = [enc t, .tup (dints st), .tup (dints ot)] ∧ t.ok ∧ StOk t st ∧ StOk t ot ∧ ∀ (M' : Mem) (b : Bool), Ext M M' → (b = true ↔ ∃ m, facesL t st m = ot) → R (.bl b) M'
theorem prodL_take (l : List Int) {i : Nat} (h : i < l.length) : prodL (l.take (i + 1)) = prodL (l.take i) * l.getD i 0 := by
  have e : ∀ (a b : List Int), prodL (a ++ b) = prodL a * prodL b := by
    intro a
    induction a with
    | nil => intro b; show prodL b = 1 * prodL b; omega
    | cons x a ih => intro b; show x * prodL (a ++ b) = x * prodL a * prodL b; rw [ih, Int.mul_assoc]
  rw [take_snoc h, e]
  show _ * (l[i] * 1) = _
  rw [Int.mul_one, List.getD_eq_getElem?_getD, List.getElem?_eq_getElem h]; rfl
theorem prodL_bd {l : List Int} (h : ∀ c ∈ l, 2 ≤ c ∧ c ≤ 40) : (prodL l).natAbs ≤ 40 ^ l.length := by
  induction l with
  | nil => decide
  | cons x l ih =>
    show (x * prodL l).natAbs ≤ _
    rw [Int.natAbs_mul, List.length_cons, Nat.pow_succ, Nat.mul_comm]
    have hx := h x List.mem_cons_self
    exact Nat.mul_le_mul (ih fun c hc => h c (List.mem_cons_of_mem _ hc)) (by omega)
end Tr

/-! W0: rules by values and by data that the small terms need besides -/
namespace DL
section
open PySem PySem.SeqAt PyProof.Rows PySem.W
/-! ### min, max of a list of data: the item that is it -/
theorem min_list_at {prog : Program} {w : World} {A : Around} {E : Value → Shared → Prop} {s : Shared} {l : Addr} {vs : Array Value} {x : PyData} {xs : List PyData} {as : List Addr} {Q : Value → Shared → Prop} (hh : A.handled = none) (hl : s.heap.IsList l vs) (hr : ReadsAll s.heap vs.toList (x :: xs) as) (ha : AlikeAll (x :: xs)) (hu : A.units + 1 + PyData.depthAll (x :: xs) < cLine)
    (h : ∀ (i : Nat) v h' tk, vs[i]? = some v → (x :: xs).getD i .none = minD x xs → (∀ b o, s.heap.get? b = some o → h'.get? b = some o) → Q v { s with heap := h', toks := tk }) :
    wpAny (model prog w) A (call (.builtin "min") [.ref l]) Q E s := by
  have hn : vs.size = xs.length + 1 := PySem.W.readsAll_len hr
  refine call_min_walkH (iter_listW (A := A.in1) hh hl fun s₂ e W st hfp hw hk => ?_)
  refine ⟨_, _, _, _, _, _, _, s.heap, _, rfl, W, st, hfp, by omega, hw, hk, cmpIn_lt (A := A.in1) hr ha (by show A.units + 1 + _ < _; exact hu), fun v s' hP m => ?_⟩
  obtain ⟨h', tk, rfl, hk'⟩ := moved_old e rfl m
  obtain ⟨bs, r, _, _, _⟩ := readsAll_atA hr _ v hP
  have e1 : vs.size - 1 = xs.length := by omega
  have e2 := (argBest_fold dataLt PyData.none x xs xs.length (Nat.le_refl _)).2
  rw [List.take_length] at e2
  exact h _ v h' tk hP (by rw [e1]; unfold minD; rw [← e2]) hk'
theorem max_list_at {prog : Program} {w : World} {A : Around} {E : Value → Shared → Prop} {s : Shared} {l : Addr} {vs : Array Value} {x : PyData} {xs : List PyData} {as : List Addr} {Q : Value → Shared → Prop} (hh : A.handled = none) (hl : s.heap.IsList l vs) (hr : ReadsAll s.heap vs.toList (x :: xs) as) (ha : AlikeAll (x :: xs)) (hu : A.units + 1 + PyData.depthAll (x :: xs) < cLine)
    (h : ∀ (i : Nat) v h' tk, vs[i]? = some v → (x :: xs).getD i .none = maxD x xs → (∀ b o, s.heap.get? b = some o → h'.get? b = some o) → Q v { s with heap := h', toks := tk }) :
    wpAny (model prog w) A (call (.builtin "max") [.ref l]) Q E s := by
  have hn : vs.size = xs.length + 1 := PySem.W.readsAll_len hr
  refine call_max_walkH (iter_listW (A := A.in1) hh hl fun s₂ e W st hfp hw hk => ?_)
  refine ⟨_, _, _, _, _, _, _, s.heap, _, rfl, W, st, hfp, by omega, hw, hk, cmpIn_gt (A := A.in1) hr ha (by show A.units + 1 + _ < _; exact hu), fun v s' hP m => ?_⟩
  obtain ⟨h', tk, rfl, hk'⟩ := moved_old e rfl m
  obtain ⟨bs, r, _, _, _⟩ := readsAll_atA hr _ v hP
  have e1 : vs.size - 1 = xs.length := by omega
  have e2 := (argBest_fold (fun a b => dataLt b a) PyData.none x xs xs.length (Nat.le_refl _)).2
  rw [List.take_length] at e2
  exact h _ v h' tk hP (by rw [e1]; unfold maxD; rw [← e2]) hk'
end
open PySem L2
open PySem.W (AlikeAll minD maxD dataLt alike)
section
variable {X : Cx}
def rMinLD (K : PySem.W.Frag) : List V → Hp → VK → Prop := fun vs H Q => ∃ (a : Addr) (ys : List V) (x : PyData) (xs : List PyData), vs = [.ref a] ∧ SqL K H a ys ∧ DpAll K H ys (x :: xs) ∧ PyData.depthAll (x :: xs) ≤ 60 ∧ AlikeAll (x :: xs) ∧ ∀ (i : Nat) y, ys[i]? = some y → (x :: xs).getD i .none = minD x xs → Q y H
theorem DpAll.reads {pins : List (Addr × Obj)} {σ : St} {H : Hp} {s : Shared} (I : Inv X pins σ H s) : ∀ (ds : List PyData) (xs : List V) (us : List Value), DpAll X.K H xs ds → Vals xs us → ∃ as, ReadsAll s.heap us ds as
  | [], _, _, h, r => by
    cases h
    cases r
    exact ⟨_, .nil⟩
  | d :: ds, _, _, h, r => by
    cases h with
    | cons h1 h2 =>
      cases r with
      | cons r1 r2 =>
        obtain ⟨as, a1⟩ := Dp.reads I d _ _ h1 r1
        obtain ⟨bs, a2⟩ := DpAll.reads I ds _ _ h2 r2
        exact ⟨_, .cons a1 a2⟩
theorem call_minLD (hc : X.calm = true) (hu : X.A.units + 65 < cLine) : CallR X (.builtin "min") (rMinLD X.K) := by
  rintro pins s σ H vs us Q I r ⟨a, ys, x, xs, rfl, hq, hd, hdp, al, q⟩
  rw [Vals.ref1 r]
  obtain ⟨its, rv, p, hz⟩ := I.list hq
  obtain ⟨as, ra⟩ := DpAll.reads I _ _ _ hd rv
  refine min_list_at (I.ok.hd hc) p.isList (vs := its.toArray) (by simpa using ra) al (by omega) fun i v h' tk hv e k => ?_
  have hv' : its[i]? = some v := by simpa using hv
  have hi : i < ys.length := by rw [Vals.length rv]; exact (List.getElem?_eq_some_iff.mp hv').1
  have hy := List.getElem?_eq_getElem hi
  obtain ⟨u, hu', ru⟩ := Vals.get rv hy
  rw [hv'] at hu'
  cases hu'
  exact ⟨_, H, I.kept k, ru, q i _ hy e⟩
def rMaxLD (K : PySem.W.Frag) : List V → Hp → VK → Prop := fun vs H Q => ∃ (a : Addr) (ys : List V) (x : PyData) (xs : List PyData), vs = [.ref a] ∧ SqL K H a ys ∧ DpAll K H ys (x :: xs) ∧ PyData.depthAll (x :: xs) ≤ 60 ∧ AlikeAll (x :: xs) ∧ ∀ (i : Nat) y, ys[i]? = some y → (x :: xs).getD i .none = maxD x xs → Q y H
theorem call_maxLD (hc : X.calm = true) (hu : X.A.units + 65 < cLine) : CallR X (.builtin "max") (rMaxLD X.K) := by
  rintro pins s σ H vs us Q I r ⟨a, ys, x, xs, rfl, hq, hd, hdp, al, q⟩
  rw [Vals.ref1 r]
  obtain ⟨its, rv, p, hz⟩ := I.list hq
  obtain ⟨as, ra⟩ := DpAll.reads I _ _ _ hd rv
  refine max_list_at (I.ok.hd hc) p.isList (vs := its.toArray) (by simpa using ra) al (by omega) fun i v h' tk hv e k => ?_
  have hv' : its[i]? = some v := by simpa using hv
  have hi : i < ys.length := by rw [Vals.length rv]; exact (List.getElem?_eq_some_iff.mp hv').1
  have hy := List.getElem?_eq_getElem hi
  obtain ⟨u, hu', ru⟩ := Vals.get rv hy
  rw [hv'] at hu'
  cases hu'
  exact ⟨_, H, I.kept k, ru, q i _ hy e⟩
/-! ### set(a list of ints), its length -/
/-- how many unlike ones -/
def ddc (ns : List Int) : Nat := (PyProof.Rows.firstMet (fun i => ns.getD i 0) ns.length).length
def SetI (P : Program) (w : World) (a : Addr) (S : Int → Bool) (n : Nat) : HO := .ext fun h => h.SetOf (intKind P w) a S n
theorem setI_new {w : World} {P : Program} {H : Hp} {h : Heap} {a : Addr} {S : Int → Bool} {n : Nat} (R : h.SetOf (intKind P w) a S n) : ObjOk P w H h a (SetI P w a S n) := by
  have ⟨o, _, _, _, ho, _⟩ := R
  refine ⟨R, ⟨o, ho⟩, fun h1 h2 p k => ?_⟩
  obtain ⟨o, es, ep, t, ho, r⟩ := p
  exact ⟨o, es, ep, t, k o ho, r⟩
theorem setI_get {pins : List (Addr × Obj)} {σ : St} {H : Hp} {s : Shared} {a : Addr} {S : Int → Bool} {n : Nat} (I : Inv X pins σ H s) (ha : H a = some (SetI X.prog X.w a S n)) : s.heap.SetOf (intKind X.prog X.w) a S n := (I.hok a _ ha).1
def rSetL (K : PySem.W.Frag) (P : Program) (w : World) : List V → Hp → VK → Prop := fun xs H Q => ∃ a ns, xs = [.ref a] ∧ SqL K H a (ns.map V.int) ∧ ns.length + 1 < scanBound ∧ ∀ p S, H p = none → Q (.ref p) (upd H p (SetI P w p S (ddc ns)))
theorem cr_setL (hc : X.calm = true) : CallR X (.type "set") (rSetL X.K X.prog X.w) := by
  rintro pins s σ H xs us Q I r ⟨a, ns, rfl, hq, hb, q⟩
  rw [Vals.ref1 r]
  obtain ⟨its, rv, p, hz⟩ := I.list hq
  have hl : its.length = ns.length := by rw [← Vals.length rv, List.length_map]
  refine PySem.call_set_list (items := its.toArray) (ns := ns) (I.ok.hd hc) p.isList (by simpa using ints_of_vals rv) (by simpa [hl] using hb) fun h' tk hS hk => ?_
  have hS' : h'.SetOf (intKind X.prog X.w) s.heap.objs.size (fun k' => (PyProof.Rows.firstMet (fun i => ns.getD i 0) ns.length).any (· == k')) (ddc ns) := by
    have e : its.toArray.size = ns.length := by simpa using hl
    rw [e] at hS
    exact hS
  refine ⟨.ref _, upd H s.heap.objs.size (SetI X.prog X.w s.heap.objs.size _ (ddc ns)), I.laid (t' := tk) (fun b u e => hk b u (Heap.lt_size e) e) (Nat.le_refl _) (setI_new hS'), rfl, q _ _ (I.hok.fresh (Nat.le_refl _))⟩
theorem call_lenSI : CallR X (.builtin "len") (fun xs H Q => ∃ a S n, xs = [.ref a] ∧ H a = some (SetI X.prog X.w a S n) ∧ Q (.int (n : Nat)) H) := by
  rintro pins s σ H xs us Q I r ⟨a, S, n, rfl, ha, q⟩
  rw [Vals.ref1 r]
  obtain ⟨o, es, ep, t, ho, hx, hd, _, _, hb, hf, hn⟩ := setI_get I ha
  subst hn
  exact call_len_set ho hx hd hf (by unfold scanBound at hb; omega) ⟨.int _, H, I.tok _, ⟨_, rfl⟩, q⟩
end
section
variable {X : Cx} {PX : PXT} {e a b o : Expr} {es : List Expr} {env : Vars} {M : Mem} {Q : QD} {pos p apos : Pos} {x m : Str} {tg : Expr}
theorem DpAll.mono {K : PySem.W.Frag} {S H : Hp} (e : Same S H) : ∀ {vs : List V} {ds : List PyData}, DpAll K S vs ds → DpAll K H vs ds
  | _, _, .nil => .nil
  | _, _, .cons h t => .cons (Dp.mono e h) (DpAll.mono e t)
/-- a list's items, frozen or in a cell -/
def wSeqL (d : D) (M : Mem) (k : List D → Prop) : Prop := match d with
  | .lst ds => k ds
  | .rol ds => k ds
  | .ref a => ∃ ds, M a = some (.lst ds) ∧ k ds
  | _ => False
theorem wSeqL_rd {K : PySem.W.Frag} {S H : Hp} {M : Mem} {d : D} {v : V} {k : List D → Prop} (h : wSeqL d M k) (sh : Same S H) (m : MemOk K S M H) (r : Rep K S d v) : ∃ a xs ds, v = .ref a ∧ SqL K H a xs ∧ Reps K S ds xs ∧ k ds := by
  cases d with
  | lst ds => obtain ⟨a, xs, rfl, h1, h2⟩ := r; exact ⟨a, xs, ds, rfl, SqL.of (sh _ _ h1), h2, h⟩
  | rol ds => obtain ⟨a, xs, rfl, h1, h2⟩ := r; exact ⟨a, xs, ds, rfl, Same.seq sh h1, h2, h⟩
  | ref a =>
    obtain ⟨ds, hm, q⟩ := h
    obtain ⟨_, xs, h1, h2⟩ := m _ _ hm
    exact ⟨a, xs, ds, r, SqL.of h1, h2, q⟩
  | _ => exact h.elim
/-- a list in a cell, read -/
def rsv (d : D) (M : Mem) (k : D → Prop) : Prop := match d with
  | .ref a => ∃ ds, M a = some (.lst ds) ∧ k (.lst ds)
  | d => k d
theorem rsv_dp {K : PySem.W.Frag} {S H : Hp} {M : Mem} {d : D} {v : V} {k : D → Prop} (h : rsv d M k) (sh : Same S H) (m : MemOk K S M H) (r : Rep K S d v) : ∃ d', k d' ∧ ∀ n, d'.plain n = true → Dp K H v d'.py := by
  cases d with
  | ref a =>
    obtain ⟨ds, hm, q⟩ := h
    obtain ⟨_, xs, h1, h2⟩ := m _ _ hm
    refine ⟨.lst ds, q, fun n hp => ?_⟩
    rw [show v = V.ref a from r]
    cases n with
    | zero => cases hp
    | succ n =>
      have h3 := D.plains_dp ds n xs hp h2
      exact .lst (SqL.of h1) (DpAll.mono sh h3)
  | _ => exact ⟨_, h, fun n hp => Dp.mono sh (D.plain_dp _ n v hp r)⟩
/-! ### built-in calls upon lists -/
def isInts (ds : List D) (k : List Int → Prop) : Prop := ∃ ns : List Int, ds = ns.map D.int ∧ k ns
def isBls (ds : List D) (k : List Bool → Prop) : Prop := ∃ ns : List Bool, ds = ns.map D.bl ∧ k ns
theorem reps_bls {K : PySem.W.Frag} {S : Hp} : ∀ {ns : List Bool} {xs : List V}, Reps K S (ns.map D.bl) xs → xs = ns.map V.bl
  | [], _, h => h
  | n :: ns, xs, h => by
    obtain ⟨x, r, rfl, h1, h3⟩ := h
    rw [show x = V.bl n from h1, reps_bls h3]; rfl
theorem dc_list {K : PySem.W.Frag} {r : List V → Hp → VK → Prop} {g : List D → Mem → QD → Prop} (h : ∀ S M H a xs ds Q R, Same S H → MemOk K S M H → SqL K H a xs → Reps K S ds xs → g ds M Q → (∀ z H', Post K S M H Q z H' → R z H') → r [.ref a] H R) :
    DC K r fun ds M Q => ∃ d, ds = [d] ∧ wSeqL d M fun is => g is M Q := by
  intro S M H xs vs Q R sh m rs ⟨d, e1, hg⟩ hR
  subst e1
  obtain ⟨v, rfl, rv⟩ := reps1 rs
  obtain ⟨a, ys, ds, rfl, h1, h2, h3⟩ := wSeqL_rd hg sh m rv
  exact h S M H a ys ds Q R sh m h1 h2 h3 hR
theorem e_listB {id : String} {n : Str} {r : List V → Hp → VK → Prop} {g : List D → Mem → QD → Prop} (hc : CallR X (.builtin id) r) (hd : DC X.K r fun ds M Q => ∃ d, ds = [d] ∧ wSeqL d M fun is => g is M Q) (hm : X.mg n = none) (hv : bootBuiltins n = some (.builtin id))
    (h : E X PX e env M fun d M1 => wSeqL d M1 fun is => g is M1 Q) (hg : Gl X n) (hn : n ≠ "__name__") (hdb : (n == ("__debug__" : Str)) = false) (hs : starEach [e] X.env = (false, eval e X.env) :: starEach [] X.env) : E X PX (.Call (.Name n p) [e] [] pos) env M Q :=
  e_blt hc hd hm hv (a_cons (h.imp fun d M1 q => a_nil ⟨d, rfl, q⟩) hs) hg hn hdb hs rfl
def gSum : List D → Mem → QD → Prop := fun ds M Q => isInts ds fun ns => Q (.int ns.sum) M
def gMaxI : List D → Mem → QD → Prop := fun ds M Q => isInts ds fun ns => 0 < ns.length ∧ ∀ m, m ∈ ns → (∀ y, y ∈ ns → y ≤ m) → Q (.int m) M
def gMinI : List D → Mem → QD → Prop := fun ds M Q => isInts ds fun ns => 0 < ns.length ∧ ∀ m, m ∈ ns → (∀ y, y ∈ ns → m ≤ y) → Q (.int m) M
def gAny : List D → Mem → QD → Prop := fun ds M Q => isBls ds fun bs => Q (.bl (bs.any id)) M
def gAll' : List D → Mem → QD → Prop := fun ds M Q => isBls ds fun bs => Q (.bl (bs.all id)) M
def gMinD : List D → Mem → QD → Prop := fun ds M Q => ∃ x xs, ds = x :: xs ∧ D.plains ds 50 = true ∧ AlikeAll (D.pys ds) ∧ ∀ z, z ∈ ds → z.py = minD x.py (D.pys xs) → Q z M
def gMaxD : List D → Mem → QD → Prop := fun ds M Q => ∃ x xs, ds = x :: xs ∧ D.plains ds 50 = true ∧ AlikeAll (D.pys ds) ∧ ∀ z, z ∈ ds → z.py = maxD x.py (D.pys xs) → Q z M
theorem pys_get : ∀ {ds : List D} {i : Nat} {d : D}, ds[i]? = some d → (D.pys ds).getD i .none = d.py
  | [], _, _, h => by simp at h
  | x :: ds, 0, d, h => by simp at h; subst h; rfl
  | x :: ds, i + 1, d, h => by
    have := pys_get (ds := ds) (i := i) (by simpa using h)
    show (x.py :: D.pys ds).getD (i + 1) .none = _
    rw [List.getD_cons_succ]; exact this
theorem reps_back {K : PySem.W.Frag} {S : Hp} {ds : List D} {xs : List V} (r : Reps K S ds xs) {i : Nat} {v : V} (h : xs[i]? = some v) : ∃ d, ds[i]? = some d ∧ Rep K S d v := by
  have hi : i < ds.length := by rw [← r.len]; exact (List.getElem?_eq_some_iff.mp h).1
  obtain ⟨x, h1, h2⟩ := r.get (List.getElem?_eq_getElem hi)
  rw [h] at h1; cases h1
  exact ⟨_, List.getElem?_eq_getElem hi, h2⟩
theorem e_sumL (hc : X.calm = true) (hm : X.mg "sum" = none) (h : E X PX e env M fun d M1 => wSeqL d M1 fun is => gSum is M1 Q) (hg : Gl X "sum") (hs : starEach [e] X.env = (false, eval e X.env) :: starEach [] X.env) : E X PX (.Call (.Name "sum" p) [e] [] pos) env M Q :=
  e_listB (g := gSum) (cr_sum hc) (dc_list fun S M H a xs ds Q R sh m h1 h2 ⟨ns, e1, q⟩ hR => by
    subst e1; rw [h2.ints] at h1; exact ⟨a, ns, rfl, h1, hR _ _ (post_int sh m q)⟩) hm (by decide +kernel) h hg (by decide) (by decide) hs
theorem e_maxL (hc : X.calm = true) (hm : X.mg "max" = none) (h : E X PX e env M fun d M1 => wSeqL d M1 fun is => gMaxI is M1 Q) (hg : Gl X "max") (hs : starEach [e] X.env = (false, eval e X.env) :: starEach [] X.env) : E X PX (.Call (.Name "max" p) [e] [] pos) env M Q :=
  e_listB (g := gMaxI) (cr_max hc) (dc_list fun S M H a xs ds Q R sh m h1 h2 ⟨ns, e1, hl, q⟩ hR => by
    subst e1; rw [h2.ints] at h1; exact ⟨a, ns, rfl, h1, hl, fun z hz hy => hR _ _ (post_int sh m (q z hz hy))⟩) hm (by decide +kernel) h hg (by decide) (by decide) hs
theorem e_minL (hc : X.calm = true) (hm : X.mg "min" = none) (h : E X PX e env M fun d M1 => wSeqL d M1 fun is => gMinI is M1 Q) (hg : Gl X "min") (hs : starEach [e] X.env = (false, eval e X.env) :: starEach [] X.env) : E X PX (.Call (.Name "min" p) [e] [] pos) env M Q :=
  e_listB (g := gMinI) (cr_min hc) (dc_list fun S M H a xs ds Q R sh m h1 h2 ⟨ns, e1, hl, q⟩ hR => by
    subst e1; rw [h2.ints] at h1; exact ⟨a, ns, rfl, h1, hl, fun z hz hy => hR _ _ (post_int sh m (q z hz hy))⟩) hm (by decide +kernel) h hg (by decide) (by decide) hs
theorem e_anyL (hc : X.calm = true) (hm : X.mg "any" = none) (h : E X PX e env M fun d M1 => wSeqL d M1 fun is => gAny is M1 Q) (hg : Gl X "any") (hs : starEach [e] X.env = (false, eval e X.env) :: starEach [] X.env) : E X PX (.Call (.Name "any" p) [e] [] pos) env M Q :=
  e_listB (g := gAny) (cr_any hc) (dc_list fun S M H a xs ds Q R sh m h1 h2 ⟨ns, e1, q⟩ hR => by
    subst e1; rw [reps_bls h2] at h1; exact ⟨a, ns, rfl, h1, hR _ _ (post_bl sh m q)⟩) hm (by decide +kernel) h hg (by decide) (by decide) hs
theorem e_allL (hc : X.calm = true) (hm : X.mg "all" = none) (h : E X PX e env M fun d M1 => wSeqL d M1 fun is => gAll' is M1 Q) (hg : Gl X "all") (hs : starEach [e] X.env = (false, eval e X.env) :: starEach [] X.env) : E X PX (.Call (.Name "all" p) [e] [] pos) env M Q :=
  e_listB (g := gAll') (cr_all hc) (dc_list fun S M H a xs ds Q R sh m h1 h2 ⟨ns, e1, q⟩ hR => by
    subst e1; rw [reps_bls h2] at h1; exact ⟨a, ns, rfl, h1, hR _ _ (post_bl sh m q)⟩) hm (by decide +kernel) h hg (by decide) (by decide) hs
theorem e_minDL (hc : X.calm = true) (hu : X.A.units + 65 < cLine) (hm : X.mg "min" = none) (h : E X PX e env M fun d M1 => wSeqL d M1 fun is => gMinD is M1 Q) (hg : Gl X "min") (hs : starEach [e] X.env = (false, eval e X.env) :: starEach [] X.env) : E X PX (.Call (.Name "min" p) [e] [] pos) env M Q :=
  e_listB (g := gMinD) (call_minLD hc hu) (dc_list fun S M H a xs ds Q R sh m h1 h2 ⟨x, ys, e1, hp, al, q⟩ hR => by
    subst e1
    refine ⟨a, xs, x.py, D.pys ys, rfl, h1, DpAll.mono sh (D.plains_dp _ 50 xs hp h2), Nat.le_trans (D.plains_lay _ 50 hp).2 (by decide), al, fun i y hy e => ?_⟩
    obtain ⟨d, hd, rd⟩ := reps_back h2 hy
    exact hR _ _ (post_same sh m rd (q d (List.mem_of_getElem? hd) ((pys_get hd).symm.trans e)))) hm (by decide +kernel) h hg (by decide) (by decide) hs
theorem e_maxDL (hc : X.calm = true) (hu : X.A.units + 65 < cLine) (hm : X.mg "max" = none) (h : E X PX e env M fun d M1 => wSeqL d M1 fun is => gMaxD is M1 Q) (hg : Gl X "max") (hs : starEach [e] X.env = (false, eval e X.env) :: starEach [] X.env) : E X PX (.Call (.Name "max" p) [e] [] pos) env M Q :=
  e_listB (g := gMaxD) (call_maxLD hc hu) (dc_list fun S M H a xs ds Q R sh m h1 h2 ⟨x, ys, e1, hp, al, q⟩ hR => by
    subst e1
    refine ⟨a, xs, x.py, D.pys ys, rfl, h1, DpAll.mono sh (D.plains_dp _ 50 xs hp h2), Nat.le_trans (D.plains_lay _ 50 hp).2 (by decide), al, fun i y hy e => ?_⟩
    obtain ⟨d, hd, rd⟩ := reps_back h2 hy
    exact hR _ _ (post_same sh m rd (q d (List.mem_of_getElem? hd) ((pys_get hd).symm.trans e)))) hm (by decide +kernel) h hg (by decide) (by decide) hs
theorem reps_rev {K : PySem.W.Frag} {S : Hp} : ∀ {ds : List D} {xs : List V}, Reps K S ds xs → Reps K S ds.reverse xs.reverse
  | [], _, h => by rw [show _ = [] from h]; rfl
  | d :: ds, _, h => by
    obtain ⟨x, r, rfl, h1, h2⟩ := h
    rw [List.reverse_cons, List.reverse_cons]
    exact (reps_rev h2).append ⟨x, [], rfl, h1, rfl⟩
/-- xs[::-1] -/
theorem e_revL {k : Nat} {p1 p2 p3 : Pos} (h : E X PX e env M fun d M1 => wSeqL d M1 fun is => Q (.lst is.reverse) M1) : E X PX (.Subscript e (.Slice none none (some (.UnaryOp .USub (.Constant (.int 1) k p1) p2)) p3) pos) env M Q :=
  ⟨fun S σ H ok wi => semE_of (pe_revL pe_sem) (h.bind ok wi fun S1 d M1 v H1 p1 ok1 wi1 r q => by
    obtain ⟨a, xs, ds, rfl, h1, h2, q⟩ := wSeqL_rd q ok1.sh ok1.mem r
    refine ⟨a, xs, rfl, h1, fun p hp => (post_lst ok1.sh ok1.mem hp (ds := ds.reverse) ?_ q).trans p1⟩
    exact reps_rev h2)⟩
/-- len(set(a list of ints)) -/
theorem e_lset {p2 pos2 : Pos} (hc : X.calm = true) (hm : X.mg "len" = none) (hm2 : X.mg "set" = none) (h : E X PX e env M fun d M1 => wSeqL d M1 fun is => isInts is fun ns => ns.length ≤ 1000 ∧ Q (.int (ddc ns : Nat)) M1) (hg : Gl X "len") (hg2 : Gl X "set") (hs : starEach [e] X.env = (false, eval e X.env) :: starEach [] X.env) :
    E X PX (.Call (.Name "len" p) [.Call (.Name "set" p2) [e] [] pos2] [] pos) env M Q :=
  ⟨fun S σ H ok wi => semE_of (pe_callB call_lenSI hg hm PySem.boot_len (pa_cons (pe_callTy (cr_setL hc) hg2 hm2 (by decide +kernel) (pa_cons pe_sem pa_nil hs) (by decide) (by decide) hs rfl) pa_nil rfl) (by decide) (by decide) rfl rfl) (h.bind ok wi fun S1 d M1 v H1 p1 ok1 wi1 r q => by
    obtain ⟨a, xs, ds, rfl, h1, h2, ns, e1, hl, q⟩ := wSeqL_rd q ok1.sh ok1.mem r
    subst e1
    rw [h2.ints] at h1
    refine ⟨a, ns, rfl, h1, Nat.lt_of_le_of_lt (show ns.length + 1 ≤ 1001 by omega) (by decide), fun q0 S0 hq0 => ⟨q0, S0, ddc ns, rfl, upd_same, ?_⟩⟩
    have hs1 : S1 q0 = none := Same.free ok1.sh hq0
    have hm1 : M1 q0 = none := ok1.mem.free hq0
    have un := ok1.refl.untracked (o := SetI X.prog X.w q0 S0 (ddc ns)) hq0 hs1 hm1
    exact ((post_int un.sh un.mem q).trans un).trans p1)⟩
/-- xs.index(x) -/
def gIdx (d : D) (is : List D) (M : Mem) (Q : QD) : Prop := D.plains is 50 = true ∧ d.plain 50 = true ∧ ∃ (j : Nat) (z : D), is[j]? = some z ∧ D.eqv z d = true ∧ (∀ (m : Nat) (z' : D), m < j → is[m]? = some z' → D.eqv z' d = false) ∧ Q (.int j) M
theorem pys_at : ∀ {ds : List D} {i : Nat} {d : PyData}, (D.pys ds)[i]? = some d → ∃ e, ds[i]? = some e ∧ e.py = d
  | [], _, _, h => by simp [D.pys] at h
  | x :: ds, 0, d, h => by
    have : x.py = d := by simpa [D.pys] using h
    exact ⟨x, rfl, this⟩
  | x :: ds, i + 1, d, h => by
    obtain ⟨e, h1, h2⟩ := pys_at (ds := ds) (i := i) (d := d) (by simpa [D.pys] using h)
    exact ⟨e, by simpa using h1, h2⟩
theorem pys_ix : ∀ {ds : List D} {i : Nat} {d : D}, ds[i]? = some d → (D.pys ds)[i]? = some d.py
  | [], _, _, h => by simp at h
  | x :: ds, 0, d, h => by simp at h; subst h; rfl
  | x :: ds, i + 1, d, h => by
    have := pys_ix (ds := ds) (i := i) (d := d) (by simpa using h)
    simpa [D.pys] using this
theorem D.plain_mono : ∀ (d : D) (n m : Nat), n ≤ m → d.plain n = true → d.plain m = true ∧ True
  | .non, _, _, _, _ => ⟨rfl, trivial⟩
  | .bl _, _, _, _, _ => ⟨rfl, trivial⟩
  | .int _, _, _, _, _ => ⟨rfl, trivial⟩
  | .str x, _, _, _, h => ⟨by simpa [D.plain] using h, trivial⟩
  | .byt _, _, _, _, h => by simp [D.plain] at h
  | .ty _, _, _, _, h => by simp [D.plain] at h
  | .ref _, _, _, _, h => by simp [D.plain] at h
  | .rol _, _, _, _, h => by simp [D.plain] at h
  | .tup ds, 0, _, _, h => by simp [D.plain] at h
  | .lst ds, 0, _, _, h => by simp [D.plain] at h
  | .tup ds, n + 1, 0, hl, _ => by omega
  | .lst ds, n + 1, 0, hl, _ => by omega
  | .tup ds, n + 1, m + 1, hl, h => ⟨by
    have : ∀ (l : List D), (∀ d ∈ l, d.plain n = true → d.plain m = true ∧ True) → D.plains l n = true → D.plains l m = true := by
      intro l hl
      induction l with
      | nil => intro _; rfl
      | cons x r ih =>
        intro h
        have h' : x.plain n = true ∧ D.plains r n = true := by simpa [D.plains] using h
        show (x.plain m && D.plains r m) = true
        rw [(hl x List.mem_cons_self h'.1).1, ih (fun d hd => hl d (List.mem_cons_of_mem _ hd)) h'.2]; rfl
    exact this ds (fun d _ hd => D.plain_mono d n m (by omega) hd) (by simpa [D.plain] using h), trivial⟩
  | .lst ds, n + 1, m + 1, hl, h => ⟨by
    have : ∀ (l : List D), (∀ d ∈ l, d.plain n = true → d.plain m = true ∧ True) → D.plains l n = true → D.plains l m = true := by
      intro l hl
      induction l with
      | nil => intro _; rfl
      | cons x r ih =>
        intro h
        have h' : x.plain n = true ∧ D.plains r n = true := by simpa [D.plains] using h
        show (x.plain m && D.plains r m) = true
        rw [(hl x List.mem_cons_self h'.1).1, ih (fun d hd => hl d (List.mem_cons_of_mem _ hd)) h'.2]; rfl
    exact this ds (fun d _ hd => D.plain_mono d n m (by omega) hd) (by simpa [D.plain] using h), trivial⟩
theorem D.shapedL {ds : List D} (h : D.plains ds 50 = true) : SeqAt.shaped (.list (D.pys ds)) = true := D.shaped (d := .lst ds) (D.plain_mono (.lst ds) 51 60 (by decide) h).1
theorem D.shaped50 {d : D} (h : d.plain 50 = true) : SeqAt.shaped d.py = true := D.shaped (D.plain_mono d 50 60 (by decide) h).1
theorem e_idx (hu : X.A.units + 65 < cLine) (h : E X PX o env M fun x M1 => wSeqL x M1 (fun _ => True) ∧ E X PX a env M1 fun d M2 => wSeqL x M2 fun is => gIdx d is M2 Q)
    (hbase : attributeBase o "index" X.env (eval o X.env) = eval o X.env)
    (hfew : ((backTo pos (starEach [a] X.env)).all (fun x => !x.1) && (backToKw pos (keywordEach [] X.env)).all (fun x => x.1.isSome)
      && decide ([a].length + ([] : List Keyword).length + (if ([] : List Keyword).isEmpty then 0 else 1) < 30)) = true)
    (hline : (apos.endLine == pos.line) = true) (hs : starEach [a] X.env = (false, eval a X.env) :: starEach [] X.env) :
    E X PX (.Call (.Attribute o "index" apos) [a] [] pos) env M Q :=
  e_bm (ty := fun d M => wSeqL d M fun _ => True) (g := fun x ds M Q => ∃ d, ds = [d] ∧ wSeqL x M fun is => gIdx d is M Q)
    PySem.F.plainAttrs_list PySem.F.slot_list_index PySem.F.type_list_index (mt_indexD hu) (by
      intro S M H d v sh m r h
      obtain ⟨a, xs, ds, rfl, h1, h2, _⟩ := wSeqL_rd h sh m r
      exact Or.inl ⟨rfl, xs, h1⟩) (by
      intro S M H x ds v vs Q R sh m r rs ⟨d, e1, hx⟩ hR
      subst e1
      obtain ⟨u, rfl, ru⟩ := reps1 rs
      obtain ⟨a, xs, is, rfl, h1, h2, hp, hd, j, z, hz, hzd, hno, q⟩ := wSeqL_rd hx sh m r
      refine ⟨a, u, d.py, D.pys is, j, z.py, rfl, rfl, .lst h1 (DpAll.mono sh (D.plains_dp _ 50 xs hp h2)), Dp.mono sh (D.plain_dp d 50 u hd ru), D.shapedL hp, D.shaped50 hd, pys_ix hz, hzd, fun m' z' hm' hz' => ?_, hR _ _ (post_int sh m q)⟩
      obtain ⟨e, h3, h4⟩ := pys_at hz'
      rw [← h4]; exact hno m' e hm' h3)
    (h.imp fun x M1 ⟨h0, ha⟩ => ⟨h0, a_cons (ha.imp fun y M2 q => a_nil ⟨y, rfl, q⟩) hs⟩) hbase hfew hline hs rfl
/-! ### ==, in upon lists in cells -/
def gEqM (neg : Bool) : D → D → Mem → QD → Prop := fun x y M Q => rsv x M fun x' => rsv y M fun y' => gEq neg x' y' M Q
theorem d2_eqM {neg : Bool} {r : R2} (hr : r = if neg = true then rNeD X.K else rEqD X.K) : D2 X.K r (gEqM neg) := by
  intro S M H x y v u Q R sh m rx ry hg hR
  obtain ⟨x', hy, dx⟩ := rsv_dp hg sh m rx
  obtain ⟨y', ⟨h1, h2, q⟩, dy⟩ := rsv_dp hy sh m ry
  subst hr
  cases neg with
  | true => exact ⟨x'.py, y'.py, dx 60 h1, dy 60 h2, D.shaped h1, D.shaped h2, hR _ _ (post_bl sh m q)⟩
  | false => exact ⟨x'.py, y'.py, dx 60 h1, dy 60 h2, D.shaped h1, D.shaped h2, hR _ _ (post_bl sh m q)⟩
def gInM (neg : Bool) : D → D → Mem → QD → Prop := fun x y M Q => match y with
  | .tup ds => x.flat = true ∧ ds.all D.flat = true ∧ Q (.bl (if neg then !inD x ds else inD x ds)) M
  | y => wSeqL y M fun ds => x.plain 50 = true ∧ D.plains ds 50 = true ∧ Q (.bl (if neg then !(ds.any fun z => D.eqv z x) else ds.any fun z => D.eqv z x)) M
theorem pys_any (x : D) : ∀ ds : List D, ((D.pys ds).any fun z => PyData.eqv z x.py) = ds.any fun z => D.eqv z x
  | [] => rfl
  | d :: ds => by show (_ || (D.pys ds).any _) = (_ || ds.any _); rw [pys_any x ds]; rfl
theorem op_inM (hu : X.A.units + 65 < cLine) : ∃ r, OpR X (compareOp .In) r ∧ D2 X.K r (gInM false) := by
  refine ⟨_, op_in_seq.or (op_inD hu), ?_⟩
  intro S M H x y v u Q R sh m rx ry hg hR
  have go : (wSeqL y M fun ds => x.plain 50 = true ∧ D.plains ds 50 = true ∧ Q (.bl (ds.any fun z => D.eqv z x)) M) → rInD X.K v u H R := fun hg => by
    obtain ⟨a, xs, ds, rfl, h1, h2, hp, hd, q⟩ := wSeqL_rd hg sh m ry
    exact ⟨x.py, D.pys ds, Dp.mono sh (D.plain_dp x 50 v hp rx), .lst h1 (DpAll.mono sh (D.plains_dp _ 50 xs hd h2)), D.shaped50 hp, D.shapedL hd, hR _ _ (post_bl sh m (by rw [pys_any]; exact q))⟩
  cases y with
  | tup ds => exact .inl (d2_in (neg := false) S M H x (.tup ds) v u Q R sh m rx ry ⟨ds, .inl rfl, hg⟩ hR)
  | _ => exact .inr (go hg)
theorem op_ninM (hu : X.A.units + 65 < cLine) : ∃ r, OpR X (compareOp .NotIn) r ∧ D2 X.K r (gInM true) := by
  refine ⟨_, op_notIn_seq.or (op_notInD hu), ?_⟩
  intro S M H x y v u Q R sh m rx ry hg hR
  have go : (wSeqL y M fun ds => x.plain 50 = true ∧ D.plains ds 50 = true ∧ Q (.bl (!(ds.any fun z => D.eqv z x))) M) → rNotInD X.K v u H R := fun hg => by
    obtain ⟨a, xs, ds, rfl, h1, h2, hp, hd, q⟩ := wSeqL_rd hg sh m ry
    exact ⟨x.py, D.pys ds, Dp.mono sh (D.plain_dp x 50 v hp rx), .lst h1 (DpAll.mono sh (D.plains_dp _ 50 xs hd h2)), D.shaped50 hp, D.shapedL hd, hR _ _ (post_bl sh m (by rw [pys_any]; exact q))⟩
  cases y with
  | tup ds => exact .inl (d2_in (neg := true) S M H x (.tup ds) v u Q R sh m rx ry ⟨ds, .inl rfl, hg⟩ hR)
  | _ => exact .inr (go hg)
/-! ### zip of two lists -/
def zip2 : List D → List D → List D
  | a :: xs, b :: ys => .tup [a, b] :: zip2 xs ys
  | _, _ => []
theorem zip2_len : ∀ xs ys : List D, (zip2 xs ys).length = min xs.length ys.length
  | [], _ => by simp [zip2]
  | _ :: _, [] => by simp [zip2]
  | x :: xs, y :: ys => by
    show (zip2 xs ys).length + 1 = _
    rw [zip2_len xs ys, List.length_cons, List.length_cons]; omega
theorem zip2_get : ∀ (xs ys : List D) (i : Nat) (h : i < (zip2 xs ys).length), ∃ x y, xs[i]? = some x ∧ ys[i]? = some y ∧ (zip2 xs ys)[i] = .tup [x, y]
  | [], _, i, h => by simp [zip2] at h
  | _ :: _, [], i, h => by simp [zip2] at h
  | x :: xs, y :: ys, 0, h => ⟨x, y, rfl, rfl, rfl⟩
  | x :: xs, y :: ys, i + 1, h => by
    obtain ⟨a, b, h1, h2, h3⟩ := zip2_get xs ys i (by simpa [zip2] using h)
    exact ⟨a, b, by simpa using h1, by simpa using h2, h3⟩
theorem deals_zip2 {K : PySem.W.Frag} {S : Hp} {a1 a2 : Addr} {xs ys : List V} {ds es : List D} (q1 : SqL K S a1 xs) (q2 : SqL K S a2 ys) (r1 : Reps K S ds xs) (r2 : Reps K S es ys) : Deals K (Itz K a1 a2) S (zip2 ds es) where
  go := fun i H hi sh => by
    obtain ⟨d, e, h1, h2, _⟩ := zip2_get ds es i hi
    obtain ⟨x, hx, _⟩ := r1.get h1
    obtain ⟨y, hy, _⟩ := r2.get h2
    exact ⟨xs, ys, x, y, Same.seq sh q1, Same.seq sh q2, hx, hy⟩
  stop := fun i H hi sh => ⟨xs, ys, Same.seq sh q1, Same.seq sh q2, by rw [r1.len, r2.len, hi, zip2_len]; omega⟩
  yld := fun i H x H' S' M hi ss sh m hy => by
    obtain ⟨T, u, v, rfl, hT, rfl, hx, hy⟩ := hy
    obtain ⟨d, e, h1, h2, h3⟩ := zip2_get ds es i hi
    obtain ⟨u', hu, ru⟩ := r1.get h1
    obtain ⟨v', hv, rv⟩ := r2.get h2
    have e1 := hx xs (Same.seq (ss.trans sh) q1)
    have e2 := hy ys (Same.seq (ss.trans sh) q2)
    rw [hu] at e1; rw [hv] at e2
    cases e1; cases e2
    rw [h3]
    have pw := Pst.new (o := .tup [u, v]) sh m hT
    exact ⟨_, pw, T, [u, v], rfl, SqT.of upd_same, Rep.mono (ss.trans pw.ss) _ _ ru |> fun z => ⟨u, [v], rfl, z, v, [], rfl, Rep.mono (ss.trans pw.ss) _ _ rv, rfl⟩⟩
theorem i_zip2 {e e2 : Expr} {tpos : Pos} {elts : List Expr} {kk : Nat} {Q' : List D → Mem → Prop} (hm : X.mg "zip" = none)
    (h : A X PX [e, e2] env M fun ds M1 => ∃ d1 d2, ds = [d1, d2] ∧ (∀ a, d1 ≠ .ref a) ∧ (∀ a, d2 ≠ .ref a) ∧ wSeqL d1 M1 fun xs => wSeqL d2 M1 fun ys => Q' (zip2 xs ys) M1) (hg : Gl X "zip")
    (hs : starEach [e, e2] X.env = (false, eval e X.env) :: starEach [e2] X.env) (hpl : (backTo pos (starEach [e2] X.env)).any (·.1) = false) :
    I X PX (.Tuple elts kk tpos) (.Call (.Name "zip" p) [e, e2] [] pos) env M Q' :=
  ⟨fun S σ H ok wi => semI_of (pi_zip hg hm pa_sem hs hpl) (h.bind ok wi fun S1 ds M1 vs H1 p1 ok1 wi1 r ⟨d1, d2, e1, n1, n2, q⟩ => by
    subst e1
    obtain ⟨v1, v2, rfl, r1, r2⟩ := reps2 r
    have key : ∀ {d : D} {v : V} {k : List D → Prop}, (∀ a, d ≠ .ref a) → Rep X.K S1 d v → wSeqL d M1 k → ∃ a xs ds, v = .ref a ∧ SqL X.K S1 a xs ∧ Reps X.K S1 ds xs ∧ k ds := fun {d v k} hn r h => by
      cases d with
      | lst ds => obtain ⟨a, xs, rfl, h1, h2⟩ := r; exact ⟨a, xs, ds, rfl, SqL.of h1, h2, h⟩
      | rol ds => obtain ⟨a, xs, rfl, h1, h2⟩ := r; exact ⟨a, xs, ds, rfl, h1, h2, h⟩
      | ref a => exact absurd rfl (hn a)
      | _ => exact h.elim
    obtain ⟨a1, xs, ds, rfl, q1, s1, q⟩ := key n1 r1 q
    obtain ⟨a2, ys, es, rfl, q2, s2, q⟩ := key n2 r2 q
    exact ⟨a1, a2, xs, ys, rfl, Same.seq ok1.sh q1, Same.seq ok1.sh q2, S1, _, M1, p1, deals_zip2 q1 q2 s1 s2, q⟩)⟩
end
end DL

/-! GN: defs that hand out (yield), by data; list(..) of what they make -/
namespace DL
open PySem L2 PySem.Spec PyProof.Rows GenW
/-! ### if in such a def -/
section
variable {X : Cx}
def tGIf (c : TT) (ta tb : TGn) : TGn := fun D ys σ H => c σ H fun b H1 => if b = true then ta D ys σ H1 else tb D ys σ H1
theorem gs_if {test : Expr} {body els : List Stmt} {pos : Pos} {tc : TT} {ta tb : TGn} (hc : PT X test tc) (ha : GSs X body ta) (hb : GSs X els tb) : GS X (.If test body els pos) (tGIf tc ta tb) := by
  refine ⟨fun A S ip R n ys s₀ c fs K J gd lv s σ H D g hn k hI ht => ?_⟩
  obtain ⟨acc, cc, r, I⟩ := hI
  have e : exec (.If test body els pos) X.env = ((standAt pos >>= fun _ => isTrue test X.env (eval test X.env)) >>= fun b => if b = true then execs body X.env else execs els X.env) := by
    rw [bind_assoc]; rfl
  rw [e]
  refine seg_bind_wrap ?_
  rw [g.over]
  refine wpAny_bind (wpAny_standAt ?_)
  refine wpAny_mono (hc.run _ s σ H _ I ht) (fun b s' hb' => ?_) fun x s' hx => k.exc n s₀ x s' hx
  obtain ⟨H1, I1, q⟩ := hb'
  cases b with
  | true =>
    rw [if_pos rfl] at q ⊢
    exact ha.run A S ip R n ys s₀ c fs K J gd lv s' σ H1 D g hn k ⟨acc, cc, r, I1⟩ q
  | false =>
    rw [if_neg Bool.false_ne_true] at q ⊢
    exact hb.run A S ip R n ys s₀ c fs K J gd lv s' σ H1 D g hn k ⟨acc, cc, r, I1⟩ q
end
/-! ### the meanings -/
def semY (X : Cx) (st : Stmt) : TGn := fun D ys σ H => ∀ (A : Around) (S : Addr) (ip : List (Addr × Obj)) (R : GenEnd) (n : Nat) (s₀ : Shared) (c : Code) (fs : List Frame) (K : Flow → Sem PySem.Fin) (J : Value → Sem PySem.Fin) (gd : Bool → Bool) (lv : List Value → List Value) (s : Shared),
  GC X S ip A c fs gd → n + ys.length = sizeLine → GK X S ip A R c fs K J D → GI X S ip ys σ H s → Seg (model X.prog X.w) A R (GY X S) n s₀ c ((exec st X.env).wrap K J gd lv) fs s
def semYs (X : Cx) (st : List Stmt) : TGn := fun D ys σ H => ∀ (A : Around) (S : Addr) (ip : List (Addr × Obj)) (R : GenEnd) (n : Nat) (s₀ : Shared) (c : Code) (fs : List Frame) (K : Flow → Sem PySem.Fin) (J : Value → Sem PySem.Fin) (gd : Bool → Bool) (lv : List Value → List Value) (s : Shared),
  GC X S ip A c fs gd → n + ys.length = sizeLine → GK X S ip A R c fs K J D → GI X S ip ys σ H s → Seg (model X.prog X.w) A R (GY X S) n s₀ c ((execs st X.env).wrap K J gd lv) fs s
section
variable {X : Cx} {st : Stmt} {sts : List Stmt}
theorem gs_sem : GS X st (semY X st) := ⟨fun A S ip R n ys s₀ c fs K J gd lv s σ H D g hn k hI ht => ht A S ip R n s₀ c fs K J gd lv s g hn k hI⟩
theorem gss_sem : GSs X sts (semYs X sts) := ⟨fun A S ip R n ys s₀ c fs K J gd lv s σ H D g hn k hI ht => ht A S ip R n s₀ c fs K J gd lv s g hn k hI⟩
theorem semY_of {t : TGn} {D : GEnds} {ys : List V} {σ : L2.St} {H : Hp} (h : GS X st t) (q : t D ys σ H) : semY X st D ys σ H := fun A S ip R n s₀ c fs K J gd lv s g hn k hI => h.run A S ip R n ys s₀ c fs K J gd lv s σ H D g hn k hI q
theorem semYs_of {t : TGn} {D : GEnds} {ys : List V} {σ : L2.St} {H : Hp} (h : GSs X sts t) (q : t D ys σ H) : semYs X sts D ys σ H := fun A S ip R n s₀ c fs K J gd lv s g hn k hI => h.run A S ip R n ys s₀ c fs K J gd lv s σ H D g hn k hI q
theorem gsp_mono {S : Addr} {ip : List (Addr × Obj)} {D D' : GEnds} {ys : List V} {f : Flow} {s : Shared} (k1 : ∀ ys σ H, D.nx ys σ H → D'.nx ys σ H) (k2 : ∀ ys v H, D.rt ys v H → D'.rt ys v H) (k3 : ∀ ys σ H, D.bk ys σ H → D'.bk ys σ H) (k4 : ∀ ys σ H, D.ct ys σ H → D'.ct ys σ H) (h : GSP X S ip D ys f s) : GSP X S ip D' ys f s := by
  cases f with
  | next => obtain ⟨σ, H, I, q⟩ := h; exact ⟨σ, H, I, k1 _ _ _ q⟩
  | brk => obtain ⟨σ, H, I, q⟩ := h; exact ⟨σ, H, I, k3 _ _ _ q⟩
  | cont => obtain ⟨σ, H, I, q⟩ := h; exact ⟨σ, H, I, k4 _ _ _ q⟩
  | ret u => obtain ⟨v, σ, H, I, r, q⟩ := h; exact ⟨v, σ, H, I, r, k2 _ _ _ q⟩
theorem semY_mono {D D' : GEnds} {ys : List V} {σ : L2.St} {H : Hp} (h : semY X st D ys σ H) (k1 : ∀ ys σ H, D.nx ys σ H → D'.nx ys σ H) (k2 : ∀ ys v H, D.rt ys v H → D'.rt ys v H) (k3 : ∀ ys σ H, D.bk ys σ H → D'.bk ys σ H) (k4 : ∀ ys σ H, D.ct ys σ H → D'.ct ys σ H) : semY X st D' ys σ H :=
  fun A S ip R n s₀ c fs K J gd lv s g hn k hI => h A S ip R n s₀ c fs K J gd lv s g hn ⟨fun n ys s₀ s f hn hs => k.ok n ys s₀ s f hn (gsp_mono k1 k2 k3 k4 hs), k.exc⟩ hI
theorem semYs_mono {D D' : GEnds} {ys : List V} {σ : L2.St} {H : Hp} (h : semYs X sts D ys σ H) (k1 : ∀ ys σ H, D.nx ys σ H → D'.nx ys σ H) (k2 : ∀ ys v H, D.rt ys v H → D'.rt ys v H) (k3 : ∀ ys σ H, D.bk ys σ H → D'.bk ys σ H) (k4 : ∀ ys σ H, D.ct ys σ H → D'.ct ys σ H) : semYs X sts D' ys σ H :=
  fun A S ip R n s₀ c fs K J gd lv s g hn k hI => h A S ip R n s₀ c fs K J gd lv s g hn ⟨fun n ys s₀ s f hn hs => k.ok n ys s₀ s f hn (gsp_mono k1 k2 k3 k4 hs), k.exc⟩ hI
end
/-! ### the judgements: what is handed out so far, and what is wanted behind -/
abbrev YN := Vars → List D → Mem → Prop
def YPost (X : Cx) (S : Hp) (M : Mem) (H : Hp) (Q : YN) : List V → L2.St → Hp → Prop := fun ys σ' H' => ∃ S' env' acc' M', Pst X.K S M H S' M' H' ∧ Ok X S' env' M' σ' H' ∧ Reps X.K S' acc' ys ∧ Q env' acc' M'
/-- what is wanted behind: only the end -/
def yEnds (X : Cx) (S : Hp) (M : Mem) (H : Hp) (Q : YN) (B C : YN) : GEnds := { nx := YPost X S M H Q, rt := fun _ _ _ => False, bk := YPost X S M H B, ct := YPost X S M H C }
structure Y (X : Cx) (PX : PXT) (st : Stmt) (env : Vars) (acc : List D) (M : Mem) (Q B C : YN) : Prop where
  run : ∀ S σ H ys, Ok X S env M σ H → Wish X PX S M H → Reps X.K S acc ys → semY X st (yEnds X S M H Q B C) ys σ H
structure Ys (X : Cx) (PX : PXT) (sts : List Stmt) (env : Vars) (acc : List D) (M : Mem) (Q B C : YN) : Prop where
  run : ∀ S σ H ys, Ok X S env M σ H → Wish X PX S M H → Reps X.K S acc ys → semYs X sts (yEnds X S M H Q B C) ys σ H
theorem YPost.trans {X : Cx} {S S1 H H1 : Hp} {M M1 : Mem} {Q : YN} {ys : List V} {σ' : L2.St} {H' : Hp} (p : Pst X.K S M H S1 M1 H1) (h : YPost X S1 M1 H1 Q ys σ' H') : YPost X S M H Q ys σ' H' :=
  let ⟨S', env', acc', M', q, o, r, z⟩ := h; ⟨S', env', acc', M', p.trans q, o, r, z⟩
section
variable {X : Cx} {PX : PXT} {st : Stmt} {sts body els : List Stmt} {env : Vars} {acc : List D} {M : Mem} {Q B C : YN} {e c : Expr} {pos yp : Pos}
theorem Ys.from {S S1 H H1 : Hp} {M1 : Mem} {σ1 : L2.St} {ys : List V} {env1 : Vars} {acc1 : List D} (h : Ys X PX sts env1 acc1 M1 Q B C) (p : Pst X.K S M H S1 M1 H1) (ok : Ok X S1 env1 M1 σ1 H1) (wi : Wish X PX S1 M1 H1) (r : Reps X.K S1 acc1 ys) : semYs X sts (yEnds X S M H Q B C) ys σ1 H1 :=
  semYs_mono (h.run S1 σ1 H1 ys ok wi r) (fun _ _ _ q => q.trans p) (fun _ _ _ q => q) (fun _ _ _ q => q.trans p) (fun _ _ _ q => q.trans p)
theorem y_nil (q : Q env acc M) : Ys X PX [] env acc M Q B C := ⟨fun S σ H ys ok wi r => semYs_of gss_nil ⟨S, env, acc, M, ok.refl, ok, r, q⟩⟩
theorem y_cons (h : Y X PX st env acc M (fun env' acc' M' => Ys X PX sts env' acc' M' Q B C) B C) : Ys X PX (st :: sts) env acc M Q B C :=
  ⟨fun S σ H ys ok wi r => semYs_of (gss_cons gs_sem gss_sem) (by
    show semY X st { yEnds X S M H Q B C with nx := fun ys' σ' H' => semYs X sts (yEnds X S M H Q B C) ys' σ' H' } ys σ H
    exact semY_mono (h.run S σ H ys ok wi r) (fun ys1 σ1 H1 ⟨S1, env1, acc1, M1, p1, ok1, r1, hs⟩ => hs.from p1 ok1 (wi.step p1) r1) (fun _ _ _ q => q) (fun _ _ _ q => q) (fun _ _ _ q => q))⟩
/-- a statement that hands out nothing -/
theorem y_plain (h : S X PX st env M ⟨fun env' M' => Q env' acc M', fun _ _ => False, fun env' M' => B env' acc M', fun env' M' => C env' acc M'⟩) : Y X PX st env acc M Q B C :=
  ⟨fun S0 σ H ys ok wi r => semY_of (gs_ps ps_sem) (by
    show semS X st ((yEnds X S0 M H Q B C).at ys) σ H
    exact semS_mono (h.run S0 σ H ok wi) (fun σ1 H1 ⟨S1, env1, M1, p1, ok1, q⟩ => ⟨S1, env1, acc, M1, p1, ok1, Reps.mono p1.ss _ _ r, q⟩) (fun v H1 ⟨_, _, _, _, _, q⟩ => q.elim) (fun σ1 H1 ⟨S1, env1, M1, p1, ok1, q⟩ => ⟨S1, env1, acc, M1, p1, ok1, Reps.mono p1.ss _ _ r, q⟩) (fun σ1 H1 ⟨S1, env1, M1, p1, ok1, q⟩ => ⟨S1, env1, acc, M1, p1, ok1, Reps.mono p1.ss _ _ r, q⟩))⟩
theorem y_yield (h : E X PX e env M fun d M1 => acc.length < 100000 ∧ Q env (acc ++ [d]) M1) (hco : X.env.scope.isCoroutine = false) (hi : interactive X.env = false) (hl : acc.length < 100000) : Y X PX (.Expr (.Yield (some e) yp) pos) env acc M Q B C :=
  ⟨fun S0 σ H ys ok wi r => semY_of (gs_yield pe_sem hco hi) ⟨by rw [r.len]; exact Nat.lt_of_lt_of_le hl (by decide), h.bind ok wi fun S1 d M1 v H1 p1 ok1 wi1 r1 q => ⟨S1, env, acc ++ [d], M1, p1, ok1, Reps.append (Reps.mono p1.ss _ _ r) ⟨v, [], rfl, r1, rfl⟩, q.2⟩⟩⟩
theorem y_if (h : T X PX c env M fun t M1 => (t = true → Ys X PX body env acc M1 Q B C) ∧ (t = false → Ys X PX els env acc M1 Q B C)) : Y X PX (.If c body els pos) env acc M Q B C :=
  ⟨fun S0 σ H ys ok wi r => semY_of (gs_if pt_sem gss_sem gss_sem) (h.bind ok wi fun S1 t M1 H1 p1 ok1 wi1 ⟨q1, q2⟩ => by
    cases t with
    | true => rw [if_pos rfl]; exact (q1 rfl).from p1 ok1 wi1 (Reps.mono p1.ss _ _ r)
    | false => rw [if_neg Bool.false_ne_true]; exact (q2 rfl).from p1 ok1 wi1 (Reps.mono p1.ss _ _ r))⟩
theorem y_while {J : Nat → YN} (m0 : Nat) (j0 : J m0 env acc M) (h : ∀ m env' acc' M', J m env' acc' M' → T X PX c env' M' fun t M1 => (t = true → Ys X PX body env' acc' M1 (fun env2 acc2 M2 => ∃ m', m' < m ∧ J m' env2 acc2 M2) Q fun env2 acc2 M2 => ∃ m', m' < m ∧ J m' env2 acc2 M2) ∧ (t = false → Q env' acc' M1)) :
    Y X PX (.While c body [] pos) env acc M Q B C :=
  ⟨fun S0 σ H ys ok wi r => semY_of (gs_while wi.own pt_sem gss_sem) (by
    refine ⟨fun m ys' σ' H' => YPost X S0 M H (J m) ys' σ' H', ⟨m0, S0, env, acc, M, ok.refl, ok, r, j0⟩, ?_⟩
    rintro m ys' σ' H' ⟨S', env', acc', M', p', ok', r', q⟩
    refine (h m env' acc' M' q).bind ok' (wi.step p') fun S1 t M1 H1 p1 ok1 wi1 ⟨q1, q2⟩ => ?_
    cases t with
    | true =>
      rw [if_pos rfl]
      refine ⟨YPost X S0 M H fun env2 acc2 M2 => ∃ m', m' < m ∧ J m' env2 acc2 M2, fun ys2 σ2 H2 ⟨S2, env2, acc2, M2, p2, ok2, r2, m', hm, j2⟩ => ⟨m', hm, S2, env2, acc2, M2, p2, ok2, r2, j2⟩, ?_⟩
      exact (q1 rfl).from (p'.trans p1) ok1 wi1 (Reps.mono p1.ss _ _ r')
    | false =>
      rw [if_neg Bool.false_ne_true]
      exact ⟨S1, env', acc', M1, p'.trans p1, ok1, Reps.mono p1.ss _ _ r', q2 rfl⟩)⟩
end
/-! ### the def, and list(..) of its call -/
/-- a promise by data: what list(..) of the call gives -/
def liftG (K : PySem.W.Frag) (sp : DSp) : SpG := fun vs H cont _ => ∃ S ds M R, Same S H ∧ MemOk K S M H ∧ Reps K S ds vs ∧ sp ds M R PX0 ∧ ∀ S' acc M' ys H', Pst K S M H S' M' H' → Reps K S' acc ys → R (.lst acc) M' → cont ys H'
structure GDef (P : Program) (w : World) (K : PySem.W.Frag) (mg : Str → Option Value) (base : Heap) (x : Str) (k : Nat) (sp : DSp) : Prop where
  ex : ∃ f fd ps, GFn P w K mg base k f fd ps (liftG K sp) ∧ mg x = some (.ref f) ∧ PySem.W.keepIn K (.ref f) = true ∧ Binds K fd ps []
section
variable {X : Cx} {PX : PXT} {e : Expr} {es : List Expr} {env : Vars} {M : Mem} {pos p pos2 p2 : Pos} {x : Str} {Q : QD}
theorem e_listG {sp : DSp} {k j : Nat} (F : GDef X.prog X.w X.K X.mg X.base x k sp) (hr : Room j X.A) (hk : k + 3 ≤ j) (hm0 : X.mg "list" = none) (h : A X PX (e :: es) env M fun ds M1 => sp ds M1 Q PX0) (hg0 : Gl X "list") (hg : Gl X x) (hdb : (x == ("__debug__" : Str)) = false)
    (he : starEach (e :: es) X.env = (false, eval e X.env) :: starEach es X.env) (hpl : (backTo pos2 (starEach es X.env)).any (·.1) = false)
    (he2 : starEach [.Call (.Name x p2) (e :: es) [] pos2] X.env = (false, eval (.Call (.Name x p2) (e :: es) [] pos2) X.env) :: starEach [] X.env) : E X PX (.Call (.Name "list" p) [.Call (.Name x p2) (e :: es) [] pos2] [] pos) env M Q :=
  ⟨fun S σ H ok wi => by
    obtain ⟨f, fd, ps, G, hm, hkp, hb⟩ := F.ex
    have hxx : Passes (CX X.prog X.w) X fun _ _ _ => False := passes_call takes_none5 fun _ _ _ _ h => h
    refine semE_of (pe_listG (E := fun _ _ _ => False) (pgen_call G (hr.mono (by omega)) hg hm hkp hb .nil pa_sem hdb he hpl) hxx (fun _ _ _ h => h.elim) (hr.mono hk) hg0 hm0 PyProof.Rows.boot_list (by decide) (by decide) he2) ?_
    refine h.bind ok wi fun S1 ds M1 vs H1 p1 ok1 wi1 r hs => ?_
    rw [List.append_nil]
    refine ⟨S1, ds, M1, Q, ok1.sh, ok1.mem, r, hs, fun S' acc M' ys H' p2 rs q p hp => ?_⟩
    exact (post_lst p2.sh p2.mem hp rs q).trans (p1.trans p2)⟩
end
/-- a generator def's names -/
theorem gfn_ok {P : Program} {w : World} {K : PySem.W.Frag} {mg : Str → Option Value} {base : Heap} {x qual : Str} {st : Stmt} {f : Addr} {fd : FuncData} {N ps : List Str} {k : Nat} {sp : DSp} (F : Fun K x qual st f fd) (Sc : GScope N ps (defScope st))
    (len : ∀ ds M R RX, sp ds M R RX → ds.length = ps.length)
    (body : ∀ (cdv : Value) (A : Around) (outer : List PySem.Env) (s : Shared) (H : Hp) (E : XK) (pn : List (Addr × Obj)) (ds : List D) (M : Mem) (R : QD), Room k (A.deeper (PyProof.Rows.envOfC qual (defScope st) s.heap.objs.size f cdv)) → sp ds M R PX0 →
      Ys (gcxOf P w K mg base N qual (defScope st) f cdv A outer s H E pn) PX0 (defBody st) (env0 N ds) [] M (fun _ acc M' => R (.lst acc) M') (fun _ _ _ => False) fun _ _ _ => False) : GFn P w K mg base (k + 1) f fd ps (liftG K sp) := by
  obtain ⟨oc, od, kV, doc, pm, an, cdv, ct, osl, rfl, lk, hcd⟩ := F.ex
  refine gfn_of lk hcd Sc (fun vs H Q E ⟨S, ds, M, R, sh, m, r, hs, hQ⟩ => r.len.trans (len _ _ _ _ hs)) fun A outer s H vs Q E pn hr ⟨S, ds, M, R, sh, m, r, hs, hQ⟩ => ?_
  refine ⟨semYs _ (defBody st), gss_sem, ?_⟩
  have hb := body cdv A outer s H E pn ds M R hr hs
  have hl : vs.length = ps.length := r.len.trans (len _ _ _ _ hs)
  have hpl : ps.length ≤ N.length := by have := congrArg List.length Sc.pre; rw [List.length_take] at this; omega
  have ok : Ok (gcxOf P w K mg base N qual (defScope st) f cdv A outer s H E pn) S (env0 N ds) M (L2.start N vs) H := by
    refine ⟨sh, m, env0_nm N ds, fun i x d h => ?_, ?_, Sc.nd⟩
    · obtain ⟨v, h1, h2⟩ := env0_sl N ds vs i x d r h
      refine ⟨v, ?_, h2⟩
      have hi : i < vs.length := (List.getElem?_eq_some_iff.mp h1).1
      unfold L2.start
      rw [List.getElem?_append_left (by simpa using hi), List.getElem?_map, h1]
      rfl
    · unfold L2.start
      show _ = N.length
      rw [List.length_append, List.length_map, List.length_replicate]
      omega
  have wi : Wish (gcxOf P w K mg base N qual (defScope st) f cdv A outer s H E pn) PX0 S M H := ⟨takes_gcx.imp fun cls d _ H' ⟨_, _, _, _, _, h⟩ => h.elim, owns_gcx⟩
  refine semYs_mono (hb.run S _ H [] ok wi rfl) (fun ys' σ' H' ⟨S', env', acc', M', p, ok', r', q⟩ => hQ S' acc' M' ys' H' p r' q) (fun _ _ _ q => q.elim) (fun _ _ _ ⟨_, _, _, _, _, _, _, q⟩ => q.elim) (fun _ _ _ ⟨_, _, _, _, _, _, _, q⟩ => q.elim)
theorem gdef_mk {P : Program} {w : World} {K : PySem.W.Frag} {mg : Str → Option Value} {base : Heap} {x : Str} {f : Addr} {fd : FuncData} {ps : List Str} {k : Nat} {sp : DSp} (h : GFn P w K mg base k f fd ps (liftG K sp)) (hm : mg x = some (.ref f)) (hk : PySem.W.keepIn K (.ref f) = true) (hb : Binds K fd ps []) :
    GDef P w K mg base x k sp := ⟨f, fd, ps, h, hm, hk, hb⟩
end DL

/-! GF: for in a def that hands out -/
namespace DL
open PySem L2 PySem.Spec PyProof.Rows GenW
section
variable {prog : Program} {w : World} {A : Around} {R : GenEnd} {Y : Protocol} {n : Nat} {s₀ : Shared} {fs : List Frame} {s : Shared} {env : PySem.Env}
abbrev noteE (env : PySem.Env) (e : Value) : Sem PySem.Fin := (do noteFrame e env; theTreesLotGoes e : Sem Unit).wrap (fun _ => .raise e) .raise id id
theorem seg_forLoop {tg : Expr} {it : Value} {body : List Stmt}
    (h : wpAny (model prog w) (A.over (.forLoop tg it body [] env) fs) (pyNext it) (fun r s1 => match r with
      | none => Seg (model prog w) A R Y n s₀ (.forLoop tg it body [] env) (.pure (.again (.block [] env))) fs s1
      | some v => wpAny (model prog w) (A.over (.forLoop tg it body [] env) fs) (letOwnedTupleGo tg it v) (fun _ s2 =>
          wpAny (model prog w) (A.over (.forLoop tg it body [] env) fs) (assign tg env v) (fun _ s3 =>
            Seg (model prog w) A R Y n s₀ (.forLoop tg it body [] env) ((execs body env).wrap (fun f => match f with
              | .next | .cont => .pure (.again (.forLoop tg it body [] env))
              | .brk => .pure (.done .next)
              | .ret v => .pure (.done (.ret v))) (noteE env) id id) fs s3)
            (fun x s' => Seg (model prog w) A R Y n s₀ (.forLoop tg it body [] env) (noteE env x) fs s') s2)
          (fun x s' => Seg (model prog w) A R Y n s₀ (.forLoop tg it body [] env) (noteE env x) fs s') s1)
      (fun x s' => Seg (model prog w) A R Y n s₀ (.forLoop tg it body [] env) (noteE env x) fs s') s) :
    Seg (model prog w) A R Y n s₀ (.forLoop tg it body [] env) ((model prog w).den (.forLoop tg it body [] env)) fs s := by
  show Seg _ A R Y n s₀ _ ((forTurn tg it body [] env).onRaise (fun x => do noteFrame x env; theTreesLotGoes x)) fs s
  unfold forTurn
  rw [Sem.onRaise_eq_wrap]
  have hn : (fun e => Sem.bind (do noteFrame e env; theTreesLotGoes e : Sem Unit) fun _ => (Sem.raise e : Sem PySem.Fin)) = noteE env := by
    funext e
    rw [Sem.bind_eq_wrap]
  refine seg_bind_wrap (wpAny_standAt ?_)
  refine seg_bind_wrap (wpAny_onRaise (wpAny_mono h (fun r s1 h1 => ?_) fun x s' hx => wpAny_standAt ?_))
  · cases r with
    | none => exact h1
    | some v =>
      refine seg_bind_wrap (wpAny_mono h1 (fun _ s2 h2 => ?_) fun x s' hx => ?_)
      · refine seg_bind_wrap (wpAny_mono h2 (fun _ s3 h3 => ?_) fun x s' hx => ?_)
        · rw [Sem.bind_eq_wrap', Sem.wrap_wrap]
          rw [Sem.wrap_congr (execs body env) _ _ (K' := fun f => match f with
              | .next | .cont => .pure (.again (.forLoop tg it body [] env))
              | .brk => .pure (.done .next)
              | .ret v => .pure (.done (.ret v))) (H' := noteE env) (fun f => by cases f <;> rfl) (fun e => by first | exact Sem.bind_eq_wrap _ _ | rfl)]
          exact h3
        · first | exact hx | (rw [← hn] at hx; exact hx)
      · first | exact hx | (rw [← hn] at hx; exact hx)
  · first | exact hx | (rw [← hn] at hx; exact hx)
end
section
variable {X : Cx} {tg : Expr}
def tGFor (wi : TI) (g : TG) (tb : TGn) : TGn := fun D ys σ H => wi σ H fun J H2 => ∃ W : Nat → Nat → List V → L2.St → Hp → Prop, (∃ m, W 0 m ys σ H2) ∧ ∀ i m ys σ H, W i m ys σ H →
  (J.stop i H ∧ D.nx ys σ H) ∨ (J.go i H ∧ ∃ N : List V → L2.St → Hp → Prop, (∀ ys' σ' H', N ys' σ' H' → ∃ m', m' < m ∧ W (i + 1) m' ys' σ' H') ∧ ∀ x H', J.yld i H x H' → g x σ H' fun σ2 H2 => tb { D with nx := N, ct := N, bk := D.nx } ys σ2 H2)
theorem gs_for {iter : Expr} {body : List Stmt} {wi : TI} {g : TG} {tb : TGn} {pos : Pos} (hp : PassesOwn (model X.prog X.w) X.A X.env X.xe) (hc : X.calm = true) (hi : PI X tg iter wi) (hg : PG X tg g) (hb : GSs X body tb)
    (hs : ∀ x, foldedSetIterable iter X.env x = pure x) : GS X (.For tg iter body [] pos) (tGFor wi g tb) := by
  refine ⟨fun A S ip R n ys s₀ c fs K J gd lv s σ H D gc hn k hI ht => ?_⟩
  obtain ⟨acc, cc, r, I⟩ := hI
  have e : exec (.For tg iter body [] pos) X.env = (standAt pos >>= fun _ => (eval iter X.env >>= fun v => (foldedSetIterable iter X.env v >>= fun x => (standAt iter.pos >>= fun _ => (holding [x] (pyIter x) >>= fun itv => runOwn (.forLoop tg itv body [] X.env) X.env))))) := by rfl
  rw [e]
  refine seg_bind_wrap ?_
  rw [gc.over]
  refine wpAny_standAt ?_
  refine seg_bind_wrap ?_
  rw [gc.over]
  refine wpAny_mono (hi.run _ s σ H _ I ht) (fun v s1 h1 => ?_) fun x s' hx => k.exc n s₀ x s' hx
  rw [hs]
  show Seg _ A R _ n s₀ c ((standAt iter.pos >>= fun _ => (holding [v] (pyIter v) >>= fun itv => runOwn (.forLoop tg itv body [] X.env) X.env)).wrap K J gd lv) fs s1
  refine seg_bind_wrap ?_
  rw [gc.over]
  refine wpAny_standAt ?_
  refine seg_bind_wrap ?_
  rw [gc.over]
  refine wpAny_holding (wpAny_mono h1 (fun itv s2 h2 => ?_) fun x s' hx => k.exc n s₀ x s' hx)
  obtain ⟨it, fp, tn, Jt, H2, e1, I2, T, st2, f2, W, ⟨m0, w0⟩, turn⟩ := h2
  subst e1
  have fpS : ∀ b ∈ fp, b ≠ S := fun b hb z => (f2 b hb).2.2.2.2.2 (S, lstObj acc cc) (List.mem_append_right _ List.mem_cons_self) z.symm
  have stat : ∀ {H' : Hp} {o : Obj}, (∀ b ∈ fp, H' b = none) → ∀ b ∈ fp, FpOk X ((S, o) :: ip) H' b := fun {H' o} hn b hb => by
    obtain ⟨_, a1, a2, a3, a4, a5⟩ := f2 b hb
    refine ⟨hn b hb, a1, a2, a3, a4, fun p hp => ?_⟩
    rcases List.mem_append.mp hp with hp | hp
    · exact a5 p (List.mem_append_left _ hp)
    rcases List.mem_cons.mp hp with rfl | hp
    · exact fun z => fpS b hb z.symm
    · exact a5 p (List.mem_append_right _ (List.mem_cons_of_mem _ hp))
  refine seg_call fun p => ?_
  have gl := fun (ip' : List (Addr × Obj)) (hip : ∀ p ∈ ip', p.1 ≠ S) (kk : Result → Sem PySem.Fin) => gc_loop (k := kk) (c' := .forLoop tg (.ref it) body [] X.env) (l := lv []) (kp := []) (p := p) (⟨gc.pn, hip, gc.apart, gc.over, gc.split, gc.guard, gc.gd⟩ : GC X S ip' A c fs gd) rfl rfl
  have loop : ∀ (m i n : Nat) (ys : List V) (s₀ s : Shared) (σ : L2.St) (H : Hp), n + ys.length = sizeLine → W i m ys σ H → GI X S ip ys σ H s → tn i s.heap → (∀ b ∈ fp, H b = none) →
      Seg (model X.prog X.w) A R (GY X S) n s₀ (.forLoop tg (.ref it) body [] X.env) ((model X.prog X.w).den (.forLoop tg (.ref it) body [] X.env))
        (.ret (fun r => ((match r with | .ok f => (.pure f : Sem Flow) | .error e => .raise e).onRaise (cameBack X.env)).wrap K J gd lv) none (gd false) (lv []) c p [] :: fs) s := by
    intro m
    induction m using Nat.strongRecOn with
    | ind m ih =>
      intro i n ys s₀ s3 σ3 H3 hn w3 hI3 st3 fr3
      have ee : ∀ (n : Nat) (s₀ : Shared) (x : Value) (s' : Shared), X.xe x s' → Seg (model X.prog X.w) A R (GY X S) n s₀ (.forLoop tg (.ref it) body [] X.env) (noteE X.env x)
          (.ret (fun r => ((match r with | .ok f => (.pure f : Sem Flow) | .error e => .raise e).onRaise (cameBack X.env)).wrap K J gd lv) none (gd false) (lv []) c p [] :: fs) s' := fun n s₀ x s' hx => by
        refine seg_wrap ?_
        rw [(gl ip gc.ip _).over]
        refine wpAny_bind (wpAny_mono (hp x s' hx) (fun _ s'' hcb => wpAny_theTreesLotGoes ?_) fun y s'' hcb => ?_)
        · exact seg_leaf (.error x) (seg_cameBack gc k hcb)
        · exact seg_leaf (.error y) (seg_cameBack gc k hcb)
      refine seg_forLoop ?_
      rw [(gl ip gc.ip _).over]
      obtain ⟨acc3, cc3, r3, I3⟩ := hI3
      rcases turn i m ys σ3 H3 w3 with ⟨stop, qn⟩ | ⟨go, N, hN, step⟩
      · refine wpAny_mono (T.done X rfl rfl rfl hc i _ s3 σ3 H3 X.xe I3 (stat fr3) st3 stop) (fun rr s4 ⟨hr, I4⟩ => ?_) fun x s' hx => ee n s₀ x s' hx
        subst hr
        refine seg_again rfl ?_
        exact seg_leaf (.ok .next) (k.ok n ys s₀ s4 .next hn ⟨σ3, H3, ⟨acc3, cc3, r3, I4⟩, qn⟩)
      · refine wpAny_mono (T.item X rfl rfl rfl hc i _ s3 σ3 H3 X.xe I3 (stat fr3) st3 go) (fun rr s4 ⟨u, hr, h4⟩ => ?_) fun x s' hx => ee n s₀ x s' hx
        subst hr
        refine wpAny_mono h4 (fun _ s5 ⟨x, H5, I5, r5, y5, st5, fr5⟩ => ?_) fun x s' hx => ee n s₀ x s' hx
        have I5' := I5.pinned (stat fr5) (T.obj _ _ st5)
        refine wpAny_mono (hg.run _ s5 σ3 H5 x u _ I5' r5 (step x H5 y5)) (fun _ s6 ⟨σ6, H6, I6, q6⟩ => ?_) fun x s' hx => ee n s₀ x s' hx
        have hip' : ∀ p ∈ ip ++ pinsAt fp s5.heap, p.1 ≠ S := fun p hp => by
          rcases List.mem_append.mp hp with hp | hp
          · exact gc.ip p hp
          · exact fpS p.1 (of_pinsAt hp).1
        have toIp : ∀ {ys' : List V} {s7 : Shared} {σ7 : L2.St} {H7 : Hp}, GI X S (ip ++ pinsAt fp s5.heap) ys' σ7 H7 s7 → GI X S ip ys' σ7 H7 s7 ∧ tn (i + 1) s7.heap ∧ ∀ b ∈ fp, H7 b = none := fun {ys' s7 σ7 H7} hG => by
          obtain ⟨acc7, cc7, r7, I7⟩ := hG
          have I7 : Inv X (((S, lstObj acc7 cc7) :: ip) ++ pinsAt fp s5.heap) σ7 H7 s7 := I7
          refine ⟨⟨acc7, cc7, r7, I7.unpinned⟩, T.keep _ _ _ st5 fun b hb o e => (I7.pin (b, o) (List.mem_append_right _ (List.mem_append_right _ (mem_pinsAt hb e)))).1, fun b hb => ?_⟩
          obtain ⟨o, e, d⟩ := T.obj _ _ st5 b hb
          exact (I7.pin (b, o) (List.mem_append_right _ (List.mem_append_right _ (mem_pinsAt hb e)))).2.1
        refine hb.run A S (ip ++ pinsAt fp s5.heap) R n ys s₀ _ _ _ _ id id s6 σ6 H6 { D with nx := N, ct := N, bk := D.nx } (gl _ hip' _) hn ⟨fun n' ys' s₀' s7 f hn' hs7 => ?_, fun n' s₀' x s7 hx => ee n' s₀' x s7 hx⟩ ⟨acc3, cc3, r3, I6⟩ q6
        cases f with
        | next =>
          obtain ⟨σ7, H7, G7, n7⟩ := hs7
          obtain ⟨G8, t8, f8⟩ := toIp G7
          obtain ⟨m', hm, w7⟩ := hN ys' σ7 H7 n7
          exact seg_again rfl (ih m' hm (i + 1) n' ys' s₀' s7 σ7 H7 hn' w7 G8 t8 f8)
        | cont =>
          obtain ⟨σ7, H7, G7, n7⟩ := hs7
          obtain ⟨G8, t8, f8⟩ := toIp G7
          obtain ⟨m', hm, w7⟩ := hN ys' σ7 H7 n7
          exact seg_again rfl (ih m' hm (i + 1) n' ys' s₀' s7 σ7 H7 hn' w7 G8 t8 f8)
        | brk =>
          obtain ⟨σ7, H7, G7, q7⟩ := hs7
          exact seg_leaf (.ok .next) (k.ok n' ys' s₀' s7 .next hn' ⟨σ7, H7, (toIp G7).1, q7⟩)
        | ret v =>
          obtain ⟨x7, σ7, H7, G7, r7, q7⟩ := hs7
          exact seg_leaf (.ok (.ret v)) (k.ok n' ys' s₀' s7 (.ret v) hn' ⟨x7, σ7, H7, (toIp G7).1, r7, q7⟩)
  exact loop m0 0 n ys s₀ s2 σ H2 hn w0 ⟨acc, cc, r, I2⟩ st2 fun b hb => (f2 b hb).1
end
section
variable {X : Cx} {PX : PXT} {tg it : Expr} {body : List Stmt} {env : Vars} {acc : List D} {M : Mem} {Q B C : YN} {pos : Pos}
theorem y_for (h : I X PX tg it env M fun items M1 => ∃ J : Nat → YN, J 0 env acc M1 ∧ (∀ (i : Nat) (hi : i < items.length) env' acc' M', J i env' acc' M' → G X PX tg items[i] env' M' fun env2 M2 => Ys X PX body env2 acc' M2 (J (i + 1)) Q (J (i + 1))) ∧ ∀ env' acc' M', J items.length env' acc' M' → Q env' acc' M')
    (hc : X.calm = true := by rfl) (hs : ∀ x, foldedSetIterable it X.env x = pure x := by intro _; rfl) : Y X PX (.For tg it body [] pos) env acc M Q B C :=
  ⟨fun S σ H ys ok wi r => semY_of (gs_for wi.own hc pi_sem pg_sem gss_sem hs) (h.bind ok wi fun S1 items M1 J H1 p1 ok1 wi1 dl ⟨Jv, j0, jt, jd⟩ => by
    refine ⟨fun i m ys' σ' H' => m = items.length - i ∧ i ≤ items.length ∧ YPost X S1 M1 H1 (Jv i) ys' σ' H', ⟨items.length, by simp, Nat.zero_le _, S1, env, acc, M1, ok1.refl, ok1, Reps.mono p1.ss _ _ r, j0⟩, ?_⟩
    rintro i m ys' σ' H' ⟨rfl, hi, S', env', acc', M', p', ok', r', q⟩
    by_cases hlt : i < items.length
    · refine .inr ⟨dl.go i H' hlt (p'.ss.trans p'.sh), YPost X S1 M1 H1 (Jv (i + 1)), fun ys2 σ2 H2 n2 => ⟨items.length - (i + 1), by omega, rfl, hlt, n2⟩, fun x H2 hy => ?_⟩
      obtain ⟨S2, py, ry⟩ := dl.yld i H' x H2 S' M' hlt p'.ss p'.sh p'.mem hy
      have ok2 := ok'.step py
      have p2 := p'.trans py
      refine (jt i hlt env' acc' M' q).bind ok2 (wi1.step p2) ry fun S3 env3 M3 σ3 H3 p3 ok3 wi3 hss => ?_
      refine semYs_mono (hss.from (p2.trans p3) ok3 wi3 (Reps.mono (py.trans p3).ss _ _ r')) (fun _ _ _ z => z) (fun _ _ _ z => z) (fun _ _ _ z => YPost.trans p1 z) (fun _ _ _ z => z)
    · have e : i = items.length := by omega
      subst e
      exact .inl ⟨dl.stop _ H' rfl (p'.ss.trans p'.sh), S', env', acc', M', p1.trans p', ok', r', jd env' acc' M' q⟩)⟩
end
end DL

/-! SE: sorted(set(a list of ints)); a call by a keyword -/
namespace DL
open PySem L2 PySem.Spec PyProof.Rows GenW
section
variable {P : Program} {w : World} {A : Around} {E : Value → Shared → Prop} {s : Shared}
/-- the empty set that set(..) begins by -/
abbrev set0 (w : World) : Obj := { cls := .type "set", dict := none, data := .set #[] 0 (.fresh 0 0 (!w.params.followText "set-order")) }
/-- set(a list of ints): a set that may be walked (turned from the rules for set(a list), set(a tuple)) -/
theorem call_set_lstI {l : Addr} {items : Array Value} (ns : List Int) {Q : Value → Shared → Prop} (hh : A.handled = none) (hl : s.heap.IsList l items) (hit : IntsAre items.toList ns) (hb : ns.length + 1 < scanBound)
    (h : ∀ (h' : Heap) (tk c : Nat), SetR w h' s.heap.objs.size (fun j => decide (j ∈ ns)) c → c ≤ ns.length → (∀ b o, s.heap.get? b = some o → h'.get? b = some o) → Q (.ref s.heap.objs.size) { s with heap := h', toks := tk }) :
    wpAny (model P w) A (call (.type "set") [.ref l]) Q E s := by
  have hisz : items.size = ns.length := by have q := IntsAre.length hit; rwa [Array.length_toList] at q
  obtain ⟨c, tl, hmro⟩ := F.called_set.mro
  have hmade := F.called_set.made
  have hsub := F.called_set.sub
  have h1 := F.called_set.notType
  have h2 := F.called_set.canCreate
  have hct := F.typeCall_set_1 (.ref l)
  have hS : (s.heap.push (set0 w)).get? s.heap.objs.size = some (set0 w) := Heap.get?_push_size _ rfl
  have hT : Shared.TypeIs { s with heap := s.heap.push (set0 w) } (.ref s.heap.objs.size) "set" := ⟨_, hS, rfl⟩
  have hli := F.called_set.init.lookup
  have hbi := F.called_set.init.bind (.ref s.heap.objs.size)
  refine wpAny_call (codeAny_of_tree ?_)
  show wpAny _ _ (callAny (.type "set") _) _ _ _
  refine wpAny_pure ⟨Code.quiet_builtin _ (by decide +kernel), codeAny_builtin F.entry_type_call ?_⟩
  rw [Around.under_plain (weight_type_call_type "set" [.ref l] []) rfl]
  repeat (any_goals (first | assumption | wp_step))
  refine codeAny_mono (code_set_led1 (.ref l) (E := E) (Q₁ := fun obj s₁ => obj = .ref s.heap.objs.size ∧ s₁ = { s with heap := s.heap.push (set0 w) }) ⟨rfl, rfl⟩) fun r s₁ hr => ?_
  cases r with
  | error e => exact hr
  | ok fl =>
    cases fl with
    | ret obj =>
      obtain ⟨rfl, rfl⟩ := hr
      repeat (any_goals (first | assumption | wp_step))
      refine codeAny_mono (codeAny_call_builtin (R := wants (fun r s₂ => r = .none ∧ ∃ h' tk c, s₂ = { s with heap := h', toks := tk } ∧ SetR w h' s.heap.objs.size (fun j => decide (j ∈ ns)) c ∧ c ≤ ns.length ∧ (∀ b o, s.heap.get? b = some o → h'.get? b = some o)) E) F.called_set.init.plain F.entry_set_init (check_set_init_1 hT ?_)) fun r₂ s₂ hr₂ => ?_
      · obtain ⟨⟨ocls, od, odata, os⟩, hol, hcl, nl, hdl⟩ := hl
        simp only at hcl hdl
        subst hcl; subst hdl
        have hol' : (s.heap.push (set0 w)).get? l = some { cls := .type "list", dict := od, data := .seq items nl, slots := os } := Heap.get?_push_of_some _ hol
        have q1 := F.sub_list_set
        have q2 := F.sub_list_frozenset
        have q3 : (Value.type "list" == Value.type "dict") = false := by decide
        have hl1 : (s.heap.push (set0 w)).IsList l items := ⟨_, hol', rfl, nl, rfl⟩
        unfold Builtin.«set.__init__» noKeywords Builtin.Frozenset.updateFrom
        generalize hPI : pyIter = PI
        wp_walk
        subst hPI
        refine wpAny_pyIter_list hl1 ?_
        refine wpAny_bind (wpAny_runValue ?_)
        have hlS : l < s.heap.objs.size := Heap.lt_size hol
        have hz : (s.heap.push (set0 w)).objs.size = s.heap.objs.size + 1 := Heap.size_push ..
        have hval : ∀ (i : Nat) (v : Value), items[i]? = some v → ∃ k t, ns[i]? = some k ∧ v = .int k t := fun i v hv => by
          have hi : i < ns.length := by rw [← hisz]; exact (Array.getElem?_eq_some_iff.mp hv).1
          obtain ⟨t, e⟩ := IntsAre.int_at hit i v (by rw [Array.getElem?_toList]; exact hv)
          exact ⟨ns[i], t, List.getElem?_eq_getElem hi, by rw [e, List.getD_eq_getElem?_getD, List.getElem?_eq_getElem hi]; rfl⟩
        have hne : l ≠ (s.heap.push (set0 w)).objs.size := by rw [hz]; exact Nat.ne_of_lt (Nat.lt_succ_of_lt hlS)
        have hSf : s.heap.objs.size ∉ [(s.heap.push (set0 w)).objs.size, l] := by
          rw [hz]; simp only [List.mem_cons, List.not_mem_nil, or_false, not_or]; exact ⟨Nat.ne_of_lt (Nat.lt_succ_self _), Nat.ne_of_gt hlS⟩
        refine set_update_ints ((Walks.list (by simp [hh]) _ l hne items).toS) s.heap.objs.size hSf ns hisz hb hval items.size 0 _ (by omega) (Nat.zero_le _) ⟨⟨_, Heap.get?_push_size _ rfl, rfl, rfl⟩, hl1.push _⟩ ⟨0, Nat.le_refl 0, setR_new_at (Heap.get?_push_of_some _ hS)⟩ fun s' c' hm hc' hS' => ?_
        obtain ⟨h', g2, d', tk', os'⟩ := s'
        obtain rfl : g2 = s.gens := hm.gens
        obtain rfl : d' = s.drawn := hm.drawn
        obtain rfl : os' = s.os := hm.os
        rw [hisz] at hc'
        show wpAny _ _ _ _ _ _
        refine wpAny_pure ?_
        show wpAny _ _ (ret Value.none) _ _ _
        refine wpAny_pure ⟨rfl, h', tk', c', rfl, hS', hc', fun b o e => hm.heap b o ?_ (Heap.get?_push_of_some _ (Heap.get?_push_of_some _ e))⟩
        have hb0 : b < s.heap.objs.size := Heap.lt_size e
        rw [hz]; simp only [List.mem_cons, List.not_mem_nil, or_false, not_or]; exact ⟨Nat.ne_of_lt hb0, Nat.ne_of_lt (Nat.lt_succ_of_lt hb0)⟩
      · cases r₂ with
        | error e => exact hr₂
        | ok fl₂ =>
          cases fl₂ with
          | ret r =>
            obtain ⟨rfl, h', tk, c', rfl, hS', hc', hk'⟩ := hr₂
            repeat (any_goals (first | assumption | wp_step))
            exact h _ _ _ hS' hc' hk'
          | _ => exact hr₂.elim
    | _ => exact hr.elim
end
section
variable {X : Cx} {PX : PXT} {e : Expr} {es : List Expr} {env : Vars} {M : Mem} {Q : QD} {pos p : Pos} {x : Str}
def rSetR (K : PySem.W.Frag) (w : World) : List V → Hp → VK → Prop := fun xs H Q => ∃ (a : Addr) (ns : List Int), xs = [.ref a] ∧ SqL K H a (ns.map V.int) ∧ ns.length + 1 < scanBound ∧ ∀ p c, c ≤ ns.length → H p = none → Q (.ref p) (upd H p (SetO w p (fun j => decide (j ∈ ns)) c))
theorem cr_setR (hc : X.calm = true) : CallR X (.type "set") (rSetR X.K X.w) := by
  rintro pins s σ H xs us Q I r ⟨a, ns, rfl, hq, hb, q⟩
  rw [Vals.ref1 r]
  obtain ⟨its, rv, p, hz⟩ := I.list hq
  refine call_set_lstI (items := its.toArray) ns (I.ok.hd hc) p.isList (by simpa using ints_of_vals rv) hb fun h' tk c hS hcn hk => ?_
  exact ⟨.ref _, upd H s.heap.objs.size (SetO X.w s.heap.objs.size _ c), I.laid (t' := tk) (fun b u e => hk b u e) (Nat.le_refl _) (setO_new hS), rfl, q _ _ hcn (I.hok.fresh (Nat.le_refl _))⟩
/-- sorted(set(a list of ints)) -/
theorem e_sset {p2 pos2 : Pos} (hc : X.calm = true) (hm : X.mg "sorted" = none) (hm2 : X.mg "set" = none) (h : E X PX e env M fun d M1 => wSeqL d M1 fun is => isInts is fun ns => ns.length < 64 ∧ ∀ ys : List Int, ys.Pairwise (· < ·) → (∀ k, k ∈ ys ↔ k ∈ ns) → Q (.lst (ys.map D.int)) M1) (hg : Gl X "sorted") (hg2 : Gl X "set") (hs : starEach [e] X.env = (false, eval e X.env) :: starEach [] X.env) :
    E X PX (.Call (.Name "sorted" p) [.Call (.Name "set" p2) [e] [] pos2] [] pos) env M Q :=
  ⟨fun S σ H ok wi => semE_of (pe_callB (cr_sortedSet hc) hg hm (by decide +kernel) (pa_cons (pe_callTy (cr_setR hc) hg2 hm2 (by decide +kernel) (pa_cons pe_sem pa_nil hs) (by decide) (by decide) hs rfl) pa_nil rfl) (by decide) (by decide) rfl rfl) (h.bind ok wi fun S1 d M1 v H1 p1 ok1 wi1 r q => by
    obtain ⟨a, xs, ds, rfl, h1, h2, ns, e1, hl, q⟩ := wSeqL_rd q ok1.sh ok1.mem r
    subst e1
    rw [h2.ints] at h1
    refine ⟨a, ns, rfl, h1, Nat.lt_of_le_of_lt (show ns.length + 1 ≤ 64 by omega) (by decide), fun q0 c hc0 hq0 => ⟨q0, _, c, rfl, upd_same, by omega, fun ys p hy hm0 hl0 hp => ?_⟩⟩
    have hs1 : S1 q0 = none := Same.free ok1.sh hq0
    have hm1 : M1 q0 = none := ok1.mem.free hq0
    have un := ok1.refl.untracked (o := SetO X.w q0 (fun j => decide (j ∈ ns)) c) hq0 hs1 hm1
    exact ((post_lst un.sh un.mem hp (reps_map_int ys) (q ys hy fun k => (hm0 k).trans decide_eq_true_iff)).trans un).trans p1)⟩
end
/-! ### f(e, .., k = v) -/
/-- a def asked by n values and one keyword -/
structure KDef (P : Program) (w : World) (K : PySem.W.Frag) (mg : Str → Option Value) (base : Heap) (x kw : Str) (n : Nat) (k : Nat) (sp : DSp) : Prop where
  ex : ∃ f fd ps, FnOk P w K mg base (L2.CX P w) k f fd ps (lift K sp) ∧ mg x = some (.ref f) ∧ PySem.W.keepIn K (.ref f) = true ∧ KBn K fd ps n [kw] (fun us ws => us ++ ws) (fun vs zs => vs ++ zs)
theorem kbinds0 {K : PySem.W.Frag} {x qual : Str} {params : Arguments} {body : List Stmt} {scope : Scope} {kws : List (Str × V)} {f : Addr} {fd : FuncData} {ps : List Str} (F : FunD K x qual params body scope [] kws f fd) (n : Nat) (ks : List Str) (hk : kws ≠ [])
    (h : ∀ (D : Addr) (doc pm : Value) (an : Option Addr) (cdv ct : Value) (us ws : List Value), us.length = n → ws.length = ks.length → bindArgs (PySem.W.fnOf x qual params body scope .none (.ref D) doc pm an cdv ct) ⟨us, ks.zip ws⟩ = pure (ps.zip (us ++ ws))) :
    KBn K fd ps n ks (fun us ws => us ++ ws) (fun vs zs => vs ++ zs) := by
  obtain ⟨oc, od, dV, kV, doc, pm, an, cdv, ct, osl, rfl, lk, hcd, hD, hK⟩ := F.ex
  rcases hD with ⟨_, rfl⟩ | ⟨e, _⟩
  · rcases hK with e | ⟨D, rfl, hq⟩
    · exact absurd e hk
    · exact ⟨fun s us ws X l1 l2 => .of_eq (h D doc pm an cdv ct us ws l1 l2), fun r1 r2 => r1.append r2⟩
  · exact absurd rfl e
section
variable {X : Cx} {PX : PXT} {e e' : Expr} {es : List Expr} {env : Vars} {M : Mem} {Q : QD} {pos p kp : Pos} {x kw : Str} {n : Nat}
theorem e_callK {sp : DSp} {k j : Nat} (F : KDef X.prog X.w X.K X.mg X.base x kw n k sp) (hr : Room j X.A) (hk : k ≤ j) (h : A X PX (e :: es) env M fun ds M1 => E X PX e' env M1 fun d M2 => ds.length = n ∧ sp (ds ++ [d]) M2 Q PX) (hg : Gl X x) (hdb : (x == ("__debug__" : Str)) = false)
    (he : starEach (e :: es) X.env = (false, eval e X.env) :: starEach es X.env) (hpl : (backTo pos (starEach (e :: es) X.env)).any (·.1) = false) : E X PX (.Call (.Name x p) (e :: es) [⟨some kw, e', kp⟩] pos) env M Q :=
  ⟨fun S σ H ok wi => by
    obtain ⟨f, fd, ps, G, hm, hkp, hb⟩ := F.ex
    refine semE_of (pe_callN G (hr.mono hk) hg hm hkp hb (pass_of (PX := PX) (S := S) (H := H) (M := M) wi) pa_sem (pk_cons pe_sem pk_nil) rfl rfl hdb he (by rw [hpl]; rfl)) ?_
    refine h.bind ok wi fun S1 ds M1 vs H1 p1 ok1 wi1 r hs => hs.bind ok1 wi1 fun S2 d M2 v H2 p2 ok2 wi2 rv ⟨hn, q⟩ => ?_
    exact ⟨by rw [r.len]; exact hn, rfl, lift_of (p1.trans p2) (Reps.append (Reps.mono p2.ss _ _ r) (Reps.cons rv Reps.nil)) q⟩⟩
end
end DL

/-! ZL: list(zip(xs, ys)) of two lists -/
namespace DL
open PySem L2 PySem.Spec PyProof.Rows GenW
section
variable {P : Program} {w : World} {A : Around} {E : Value → Shared → Prop} {s : Shared} {z TI TO i1 i2 l1 l2 S : Addr} {xs ys : Array Value}
theorem zl_no_len : typeLookup (.type "zip") "__len__" = pure none := am_miss_of_fast (by decide +kernel)
theorem zl_no_hint : typeLookup (.type "zip") "__length_hint__" = pure none := am_miss_of_fast (by decide +kernel)
/-- the zip amid its walk -/
def ZAt (z TI TO i1 i2 l1 l2 S : Addr) (xs ys : Array Value) (i : Nat) (h : Heap) : Prop :=
  PySem.IsPair h TI (.ref i1) (.ref i2) ∧ h.IsListIter i1 l1 i ∧ h.IsListIter i2 l2 i ∧ h.IsList l1 xs ∧ h.IsList l2 ys ∧ ((IsZip h z TI TO .none ∧ ∃ a b, PySem.IsPair h TO a b) ∨ ∃ T f oT, IsZipHeld h z TI TO T f ∧ h.get? T = some oT ∧ T ≠ z ∧ T ≠ i1 ∧ T ≠ i2 ∧ T ≠ S)
theorem ZAt.at {i : Nat} {h h' : Heap} (st : ZAt z TI TO i1 i2 l1 l2 S xs ys i h) (hS : S ∉ [z, TI, TO, i1, i2, l1, l2]) (hk : ∀ b o, b ≠ S → h.get? b = some o → h'.get? b = some o) : ZAt z TI TO i1 i2 l1 l2 S xs ys i h' := by
  simp only [List.mem_cons, List.not_mem_nil, or_false, not_or] at hS
  obtain ⟨dz, dTI, dTO, di1, di2, dl1, dl2⟩ := hS
  obtain ⟨hTI, h1, h2, hl1, hl2, hz⟩ := st
  refine ⟨hk _ _ (Ne.symm dTI) hTI, h1.at fun o e => hk _ o (Ne.symm di1) e, h2.at fun o e => hk _ o (Ne.symm di2) e, hl1.at fun o e => hk _ o (Ne.symm dl1) e, hl2.at fun o e => hk _ o (Ne.symm dl2) e, ?_⟩
  rcases hz with ⟨hz, a, b, hTO⟩ | ⟨T, f, oT, hz, hT, r1, r2, r3, r4⟩
  · exact .inl ⟨hk _ _ (Ne.symm dz) hz, a, b, hk _ _ (Ne.symm dTO) hTO⟩
  · exact .inr ⟨T, f, oT, hk _ _ (Ne.symm dz) hz, hk _ _ r4 hT, r1, r2, r3, r4⟩
/-- the pairs made so far -/
def Made (h : Heap) (xs ys : Array Value) (b : Nat) (Ts : List Addr) : Prop := Ts.Nodup ∧ (∀ T ∈ Ts, b ≤ T) ∧ ∀ (j : Nat) T, Ts[j]? = some T → ∃ x y, xs[j]? = some x ∧ ys[j]? = some y ∧ PySem.IsPair h T x y
theorem Made.at {h h' : Heap} {b : Nat} {Ts : List Addr} (m : Made h xs ys b Ts) (hk : ∀ T ∈ Ts, ∀ o, h.get? T = some o → h'.get? T = some o) : Made h' xs ys b Ts :=
  ⟨m.1, m.2.1, fun j T hj => let ⟨x, y, e1, e2, p⟩ := m.2.2 j T hj; ⟨x, y, e1, e2, hk T (List.mem_of_getElem? hj) _ p⟩⟩
theorem Made.lt {h : Heap} {b : Nat} {Ts : List Addr} (m : Made h xs ys b Ts) {T : Addr} (hT : T ∈ Ts) : T < h.objs.size := by
  obtain ⟨j, hj⟩ := List.getElem?_of_mem hT
  obtain ⟨x, y, _, _, p⟩ := m.2.2 j T hj
  exact Heap.lt_size p
theorem zip_fill {R : Result → Shared → Prop} {res : Value} (hh : A.handled = none) (D : ZipApart z TI TO i1 i2 l1 l2) (hS : S ∉ [z, TI, TO, i1, i2, l1, l2]) (b : Nat) (hb : ∀ c ∈ [S, z, TI, TO, i1, i2, l1, l2], c < b) (hn : min xs.size ys.size ≤ 1000) :
    ∀ (k i : Nat) (s : Shared) (acc : Array Value) (c : Nat) (Ts : List Addr), min xs.size ys.size - i = k → i ≤ min xs.size ys.size → ZAt z TI TO i1 i2 l1 l2 S xs ys i s.heap → s.heap.get? S = some { cls := .type "list", dict := none, data := .seq acc c, slots := #[] } →
      acc.toList = Ts.map Value.ref → Ts.length = i → Made s.heap xs ys b Ts → b ≤ s.heap.objs.size →
      (∀ h' acc' c' Ts', (∀ d o, d < b → d ≠ S → d ∉ [z, TO, i1, i2] → s.heap.get? d = some o → h'.get? d = some o) → h'.get? S = some { cls := .type "list", dict := none, data := .seq acc' c', slots := #[] } → acc'.toList = Ts'.map Value.ref → Ts'.length = min xs.size ys.size → Made h' xs ys b Ts' → R (.ok (.ret res)) { s with heap := h' }) →
      codeAny (model P w) A (.builtin "list.extend.loop" ⟨[.ref S, .ref z, res], []⟩) R s := by
  have hS' := hS
  simp only [List.mem_cons, List.not_mem_nil, or_false, not_or] at hS'
  obtain ⟨dz, dTI, dTO, di1, di2, dl1, dl2⟩ := hS'
  intro k
  induction k with
  | zero =>
    intro i s acc c Ts hk hi st hSo hacc hTl hm hbs hR
    have hin : i = min xs.size ys.size := by omega
    refine codeAny_builtin F.entry_extend_loop ?_
    rw [Around.under_plainId F.plain_extend_loop _]
    show wpAny _ A.in1 (pyNext (.ref z) >>= _) _ _ s
    obtain ⟨hTI, h1, h2, hl1, hl2, hz⟩ := st
    have hend : xs[i]? = none ∨ ys[i]? = none := by
      rcases Nat.le_total xs.size ys.size with h | h
      · exact .inl (Array.getElem?_eq_none (by omega))
      · exact .inr (Array.getElem?_eq_none (by omega))
    have hTn : ∀ T ∈ Ts, T ∉ [z, TO, i1, i2] := fun T hT hx => by
      have := hm.2.1 T hT
      have := hb T (by simp only [List.mem_cons, List.not_mem_nil, or_false] at hx ⊢; rcases hx with rfl | rfl | rfl | rfl <;> simp)
      exact absurd (Nat.lt_of_lt_of_le ‹T < b› ‹b ≤ T›) (Nat.lt_irrefl _)
    have fin : ∀ h', (∀ d o, d ∉ [z, TO, i1, i2] → s.heap.get? d = some o → h'.get? d = some o) → R (.ok (.ret res)) { s with heap := h' } := fun h' hk =>
      hR h' acc c Ts (fun d o _ _ hd e => hk d o hd e) (hk S _ (by simp only [List.mem_cons, List.not_mem_nil, or_false, not_or]; exact ⟨dz, dTO, di1, di2⟩) hSo) hacc (hTl.trans hin) (hm.at fun T hT o e => hk T o (hTn T hT) e)
    rcases hz with ⟨hz, a, b', hTO⟩ | ⟨T, f, oT, hz, hT, r1, r2, r3, r4⟩
    · refine wpAny_bind (wpAny_pyNext_zip_end (by simpa using hh) D hz hTI hTO h1 h2 hl1 hl2 hend fun h' hk => ?_)
      exact wpAny_pure (fin h' fun d o hd e => hk d o (fun x => hd (by simp [x])) (fun x => hd (by simp [x])) (fun x => hd (by simp [x])) (fun x => hd (by simp [x])) e)
    · refine wpAny_bind (wpAny_pyNext_zip_end_held (by simpa using hh) D hz hT hTI h1 h2 hl1 hl2 hend fun h' hk => ?_)
      exact wpAny_pure (fin h' fun d o hd e => hk d o (fun x => hd (by simp [x])) (fun x => hd (by simp [x])) (fun x => hd (by simp [x])) e)
  | succ k ih =>
    intro i s acc c Ts hk hi st hSo hacc hTl hm hbs hR
    have hix : i < xs.size := by omega
    have hiy : i < ys.size := by omega
    refine codeAny_builtin F.entry_extend_loop ?_
    rw [Around.under_plainId F.plain_extend_loop _]
    show wpAny _ A.in1 (pyNext (.ref z) >>= _) _ _ s
    have hasz : acc.size = i := by rw [← Array.length_toList, hacc, List.length_map, hTl]
    have lt : ∀ {c o}, s.heap.get? c = some o → s.heap.objs.size ≠ c := fun e => Nat.ne_of_gt (Heap.lt_size e)
    -- behind one item
    have go : ∀ h1, ZAt z TI TO i1 i2 l1 l2 S xs ys (i + 1) h1 → PySem.IsPair h1 s.heap.objs.size xs[i] ys[i] → h1.objs.size = s.heap.objs.size + 1 → (∀ d o, d ∉ [z, TO, i1, i2] → s.heap.get? d = some o → h1.get? d = some o) →
        wpAny (model P w) A.in1 (updateSeq S (·.push (.ref s.heap.objs.size)) >>= fun _ => (again (.builtin "list.extend.loop" ⟨[.ref S, .ref z, res], []⟩) : Sem PySem.Fin)) (fun fin s' => match fin with | .done f => R (.ok f) s' | .again c' => c'.quiet = true ∧ codeAny (model P w) A c' R s') (fun e s' => R (.error e) s') { s with heap := h1 } := by
      intro h1 st1 hp hsz hk1
      have hS1 := hk1 S _ (by simp only [List.mem_cons, List.not_mem_nil, or_false, not_or]; exact ⟨dz, dTO, di1, di2⟩) hSo
      have hup : ∀ d o, d ≠ S → h1.get? d = some o → (h1.update S (Obj.mapSeq (·.push (.ref s.heap.objs.size)))).get? d = some o := fun d o hd e => (Heap.get?_update_other _ _ (Ne.symm hd)).trans e
      have hSb : S < b := hb S (by simp)
      have hTn : ∀ T ∈ Ts, T ∉ [z, TO, i1, i2] ∧ T ≠ S := fun T hT => ⟨fun hx => by
        have q1 := hm.2.1 T hT
        have q2 := hb T (by simp only [List.mem_cons, List.not_mem_nil, or_false] at hx ⊢; rcases hx with rfl | rfl | rfl | rfl <;> simp)
        exact absurd (Nat.lt_of_lt_of_le q2 q1) (Nat.lt_irrefl _), fun hx => by
        have q1 := hm.2.1 T hT
        rw [hx] at q1
        exact absurd (Nat.lt_of_lt_of_le hSb q1) (Nat.lt_irrefl _)⟩
      have hnS : s.heap.objs.size ≠ S := lt hSo
      refine wpAny_bind (wpAny_updateSeq hS1 rfl (wpAny_pure ⟨plainId_quiet F.plain_extend_loop _, ?_⟩) (by rw [hasz, sizeLine_eq]; omega) (by show (acc.push _).size ≤ sizeLine + 1; rw [Array.size_push, hasz, sizeLine_eq]; omega))
      refine ih (i + 1) _ (acc.push (.ref s.heap.objs.size)) _ (Ts ++ [s.heap.objs.size]) (by omega) (by omega) (st1.at hS hup) (Heap.get?_update_self _ hS1 rfl) ?_ ?_ ⟨?_, ?_, ?_⟩ ?_ fun h' acc' c' Ts' hk' q1 q2 q3 q4 => hR h' acc' c' Ts' (fun d o hd hdS hdz e => hk' d o hd hdS hdz (hup d o hdS (hk1 d o hdz e))) q1 q2 q3 q4
      · rw [Array.toList_push, hacc, List.map_append]; rfl
      · rw [List.length_append, hTl]; rfl
      · refine List.nodup_append.mpr ⟨hm.1, by simp, fun T hT T' hT' => ?_⟩
        rw [List.mem_singleton.mp hT']
        exact Nat.ne_of_lt (hm.lt hT)
      · intro T hT
        rcases List.mem_append.mp hT with hT | hT
        · exact hm.2.1 T hT
        · rw [List.mem_singleton.mp hT]; exact hbs
      · intro j T hj
        by_cases hjt : j < Ts.length
        · rw [List.getElem?_append_left hjt] at hj
          obtain ⟨x, y, e1, e2, p⟩ := hm.2.2 j T hj
          have hT := List.mem_of_getElem? hj
          exact ⟨x, y, e1, e2, hup T _ (hTn T hT).2 (hk1 T _ (hTn T hT).1 p)⟩
        · have hj2 : j < (Ts ++ [s.heap.objs.size]).length := (List.getElem?_eq_some_iff.mp hj).1
          rw [List.length_append] at hj2
          have hj2 : j < Ts.length + 1 := hj2
          have e : j = i := by omega
          subst e
          rw [List.getElem?_append_right (by omega), hTl, Nat.sub_self] at hj
          cases hj
          exact ⟨_, _, Array.getElem?_eq_getElem hix, Array.getElem?_eq_getElem hiy, hup _ _ hnS hp⟩
      · show b ≤ (h1.update S _).objs.size
        rw [Heap.size_update, hsz]; omega
    obtain ⟨hTI, h1, h2, hl1, hl2, hz⟩ := st
    have ex := Array.getElem?_eq_getElem hix
    have ey := Array.getElem?_eq_getElem hiy
    have n1 : s.heap.objs.size ≠ i1 := let ⟨_, e, _⟩ := h1; lt e
    have n2 : s.heap.objs.size ≠ i2 := let ⟨_, e, _⟩ := h2; lt e
    rcases hz with ⟨hz, a, b', hTO⟩ | ⟨T, f, oT, hz, hT, r1, r2, r3, r4⟩
    · refine wpAny_bind (wpAny_pyNext_zip_item D hz hTI hTO h1 h2 hl1 hl2 ex ey fun h' a1 a2 a3 a4 a5 a6 hk => ?_)
      exact go h' ⟨hk _ _ D.TIz D.TITO D.TIi1 D.TIi2 hTI, a3, a4, hl1.at fun o e => hk _ o D.l1z D.l1TO D.l1i1 D.l1i2 e, hl2.at fun o e => hk _ o D.l2z D.l2TO D.l2i1 D.l2i2 e,
        .inr ⟨s.heap.objs.size, false, _, a1, a5, lt hz, n1, n2, lt hSo⟩⟩ a5 a6 fun d o hd e => hk d o (fun x => hd (by simp [x])) (fun x => hd (by simp [x])) (fun x => hd (by simp [x])) (fun x => hd (by simp [x])) e
    · refine wpAny_bind (wpAny_pyNext_zip_item_held D hz hT hTI h1 h2 hl1 hl2 ex ey fun h' a1 a3 a4 a5 a6 hk => ?_)
      exact go h' ⟨hk _ _ D.TIz D.TIi1 D.TIi2 hTI, a3, a4, hl1.at fun o e => hk _ o D.l1z D.l1i1 D.l1i2 e, hl2.at fun o e => hk _ o D.l2z D.l2i1 D.l2i2 e,
        .inr ⟨T, true, oT, a1, hk _ _ r1 r2 r3 hT, r1, r2, r3, r4⟩⟩ a5 a6 fun d o hd e => hk d o (fun x => hd (by simp [x])) (fun x => hd (by simp [x])) (fun x => hd (by simp [x])) e
/-- list(z) -/
theorem call_list_zip {Q : Value → Shared → Prop} {a0 b0 : Value} (hh : A.handled = none) (D : ZipApart z TI TO i1 i2 l1 l2) (hz : IsZip s.heap z TI TO .none) (hTI : PySem.IsPair s.heap TI (.ref i1) (.ref i2)) (hTO : PySem.IsPair s.heap TO a0 b0)
    (h1 : s.heap.IsListIter i1 l1 0) (h2 : s.heap.IsListIter i2 l2 0) (hl1 : s.heap.IsList l1 xs) (hl2 : s.heap.IsList l2 ys) (hn : min xs.size ys.size ≤ 1000)
    (hQ : ∀ h' acc c Ts, (∀ d o, d ∉ [z, TO, i1, i2] → s.heap.get? d = some o → h'.get? d = some o) → h'.get? s.heap.objs.size = some { cls := .type "list", dict := none, data := .seq acc c, slots := #[] } → acc.toList = Ts.map Value.ref → Ts.length = min xs.size ys.size → Made h' xs ys (s.heap.objs.size + 1) Ts →
      Q (.ref s.heap.objs.size) { s with heap := h' }) : wpAny (model P w) A (call (.type "list") [.ref z]) Q E s := by
  have lz : z < s.heap.objs.size := Heap.lt_size hz
  have lTI : TI < s.heap.objs.size := Heap.lt_size hTI
  have lTO : TO < s.heap.objs.size := Heap.lt_size hTO
  have li1 : i1 < s.heap.objs.size := let ⟨_, e, _⟩ := h1; Heap.lt_size e
  have li2 : i2 < s.heap.objs.size := let ⟨_, e, _⟩ := h2; Heap.lt_size e
  have ll1 : l1 < s.heap.objs.size := let ⟨_, e, _⟩ := hl1; Heap.lt_size e
  have ll2 : l2 < s.heap.objs.size := let ⟨_, e, _⟩ := hl2; Heap.lt_size e
  have hSn : s.heap.objs.size ∉ [z, TI, TO, i1, i2, l1, l2] := by
    simp only [List.mem_cons, List.not_mem_nil, or_false, not_or]
    exact ⟨Nat.ne_of_gt lz, Nat.ne_of_gt lTI, Nat.ne_of_gt lTO, Nat.ne_of_gt li1, Nat.ne_of_gt li2, Nat.ne_of_gt ll1, Nat.ne_of_gt ll2⟩
  have hb : ∀ c ∈ [s.heap.objs.size, z, TI, TO, i1, i2, l1, l2], c < s.heap.objs.size + 1 := fun c hc => by
    simp only [List.mem_cons, List.not_mem_nil, or_false] at hc
    rcases hc with rfl | rfl | rfl | rfl | rfl | rfl | rfl | rfl
    · exact Nat.lt_succ_self _
    all_goals exact Nat.lt_succ_of_lt (by assumption)
  have st0 : ZAt z TI TO i1 i2 l1 l2 s.heap.objs.size xs ys 0 s.heap := ⟨hTI, h1, h2, hl1, hl2, .inl ⟨hz, _, _, hTO⟩⟩
  refine callType_codes (Q₁ := fun obj s₁ => obj = .ref s.heap.objs.size ∧ s₁ = { s with heap := s.heap.push { cls := .type "list", data := .seq #[] } }) F.called_list (F.typeCall_list_1 _) F.entry_list_init
    (code_list_new _ ⟨rfl, rfl⟩) fun obj s₁ hs₁ => ?_
  obtain ⟨rfl, rfl⟩ := hs₁
  have hS : (s.heap.push { cls := .type "list", data := .seq #[] }).get? s.heap.objs.size = some { cls := .type "list", data := .seq #[] } := Heap.get?_push_size _ rfl
  refine ⟨⟨_, hS, rfl⟩, F.args_list_init_2 _ _, ?_⟩
  show wpAny _ A.in1.in1 (do let old ← Builtin.List.listItems (.ref s.heap.objs.size); Builtin.List.listUpdate (.ref s.heap.objs.size) (fun _ => #[]); letGo old.toList.reverse; Builtin.List.listExtendWith (.ref s.heap.objs.size) (.ref z) .none) _ _ _
  refine wpAny_bind ?_
  unfold Builtin.List.listItems
  refine wpAny_bind (wpAny_seqItems hS rfl (wpAny_pure ?_))
  show wpAny _ A.in1.in1 (updateSeq s.heap.objs.size (fun _ => #[]) >>= fun _ => letGo (#[] : Array Value).toList.reverse >>= fun _ => Builtin.List.listExtendWith (.ref s.heap.objs.size) (.ref z) .none) _ _ _
  refine wpAny_bind (wpAny_updateSeq hS rfl ?_)
  have hS2 := Heap.get?_update_self (Obj.mapSeq (fun _ => (#[] : Array Value))) hS rfl
  refine wpAny_bind (wpAny_letGo ?_)
  unfold Builtin.List.listExtendWith
  have up : ∀ (h : Heap) (f : Obj → Obj), (∀ b o, b ≠ s.heap.objs.size → s.heap.get? b = some o → h.get? b = some o) → ∀ b o, b ≠ s.heap.objs.size → s.heap.get? b = some o → (h.update s.heap.objs.size f).get? b = some o := fun h f q b o hb e =>
    (Heap.get?_update_other _ _ (Ne.symm hb)).trans (q b o hb e)
  have k1 : ∀ b o, b ≠ s.heap.objs.size → s.heap.get? b = some o → (s.heap.push { cls := .type "list", data := .seq #[] }).get? b = some o := fun b o _ e => Heap.get?_push_of_some _ e
  have k2 := up _ (Obj.mapSeq (fun _ => (#[] : Array Value))) k1
  have hzS : z ≠ s.heap.objs.size := Nat.ne_of_lt lz
  have hT : ∀ {h : Heap} {tk : Nat}, (∀ b o, b ≠ s.heap.objs.size → s.heap.get? b = some o → h.get? b = some o) → Shared.TypeIs { s with heap := h } (.ref z) "zip" := fun {h tk} q => ⟨_, q _ _ hzS hz, rfl⟩
  refine wpAny_bind (wpAny_typeOf (hT (tk := 0) k2) ?_)
  have e1 : Builtin.List.listSameRef (.ref s.heap.objs.size) (.ref z) = false := by simp [Builtin.List.listSameRef, Ne.symm hzS]
  have e2 : (Value.type "zip" == Value.type "list") = false := by decide
  have e3 : (Value.type "zip" == Value.type "tuple") = false := by decide
  simp only [e1, e2, e3, Bool.or_false, Bool.false_eq_true, if_false]
  refine wpAny_bind (wpAny_pyIter_zip (s := { s with heap := _ }) (k2 _ _ hzS hz) ?_)
  refine wpAny_bind (wpAny_holding ?_)
  unfold Builtin.List.listLengthHint
  refine wpAny_bind (wpAny_specialOf (hT (tk := 0) k2) zl_no_len ?_)
  show wpAny _ A.in1.in1 (specialOf (Value.ref z) (Str.ofString "__length_hint__") >>= _) _ _ _
  refine wpAny_bind (wpAny_specialOf (hT (tk := 0) k2) zl_no_hint ?_)
  refine wpAny_pure ?_
  show wpAny _ A.in1.in1 (rule "list.extend.makes-room" >>= fun _ => Builtin.List.listTouch (.ref s.heap.objs.size) >>= fun _ =>
    again (.builtin "list.extend.loop" ⟨[.ref s.heap.objs.size, .ref z, .none], []⟩)) _ _ _
  refine wpAny_bind (wpAny_rule ?_)
  refine wpAny_bind ?_
  show wpAny _ A.in1.in1 (updateSeq s.heap.objs.size (·.push .none) >>= fun _ => updateSeq s.heap.objs.size (·.pop)) _ _ _
  refine wpAny_bind (wpAny_updateSeq hS2 rfl ?_)
  have hS3 := Heap.get?_update_self (Obj.mapSeq (·.push Value.none)) hS2 rfl
  refine wpAny_updateSeq (hz := by seq_fits) hS3 rfl ?_
  have hS4 := Heap.get?_update_self (Obj.mapSeq (·.pop)) hS3 rfl
  have k4 := up _ (Obj.mapSeq (·.pop)) (up _ (Obj.mapSeq (·.push Value.none)) k2)
  refine wpAny_pure ⟨plainId_quiet F.plain_extend_loop _, ?_⟩
  refine zip_fill (s := { s with heap := _ }) (A := A.in1) (by simpa using hh) D hSn (s.heap.objs.size + 1) hb hn (min xs.size ys.size) 0 #[] _ [] rfl (Nat.zero_le _) (st0.at hSn k4) hS4 rfl rfl ⟨List.nodup_nil, (fun T hT => by cases hT), fun j T hj => by simp at hj⟩ ?_ fun h' acc' c' Ts' hk q1 q2 q3 q4 => ⟨rfl, hQ h' acc' c' Ts' (fun d o hd e => ?_) q1 q2 q3 q4⟩
  · exact Heap.lt_size hS4
  · have hd1 := Heap.lt_size e
    exact hk d o (Nat.lt_succ_of_lt hd1) (Nat.ne_of_lt hd1) hd (k4 d o (Nat.ne_of_lt hd1) e)
end
/-! ### the pairs laid -/
def layT : Hp → List Addr → List (V × V) → Hp
  | H, T :: Ts, p :: ps => layT (upd H T (.tup [p.1, p.2])) Ts ps
  | H, _, _ => H
theorem layT_ne : ∀ {Ts : List Addr} {ps : List (V × V)} {H : Hp} {b : Addr}, b ∉ Ts → layT H Ts ps b = H b
  | [], _, _, _, _ => by unfold layT; rfl
  | _ :: _, [], _, _, _ => by unfold layT; rfl
  | T :: Ts, p :: ps, H, b, h => by
    unfold layT
    rw [layT_ne (fun z => h (List.mem_cons_of_mem _ z)), upd_ne (fun z => h (by rw [z]; exact List.mem_cons_self))]
theorem layT_at : ∀ {Ts : List Addr} {ps : List (V × V)} {H : Hp} {j : Nat} {T : Addr} {p : V × V}, Ts.Nodup → Ts[j]? = some T → ps[j]? = some p → layT H Ts ps T = some (.tup [p.1, p.2])
  | [], _, _, j, _, _, _, h, _ => by simp at h
  | _ :: _, [], _, j, _, _, _, _, h => by simp at h
  | T :: Ts, p :: ps, H, 0, T', p', hn, h, h2 => by
    simp at h h2
    subst h h2
    unfold layT
    rw [layT_ne (List.nodup_cons.mp hn).1, upd_same]
  | T :: Ts, p :: ps, H, j + 1, T', p', hn, h, h2 => by
    unfold layT
    exact layT_at (List.nodup_cons.mp hn).2 (by simpa using h) (by simpa using h2)
theorem un_more {fs ex : List Addr} {H H1 : Hp} {h h' : Heap} {a : Addr} {o : HO} (u : Un fs ex H H1 h h') (hp : h.objs.size ≤ a) (hn : H1 a = none) : Un fs ex H (upd H1 a o) h h' where
  keep := u.keep
  slot := u.slot
  free := fun b ob q n hx => by rw [upd_ne (Nat.ne_of_lt (Nat.lt_of_lt_of_le (Heap.lt_size q) hp))]; exact u.free b ob q n hx
  there := u.there
  tups := fun b xs q => by have := u.tups b xs q; rw [upd_ne (ne_of_none this hn)]; exact this
  frzs := fun b ob x q => by have := u.frzs b ob x q; rw [upd_ne (ne_of_none this hn)]; exact this
  tbls := fun b ps q => by
    obtain ⟨m, h2⟩ := u.tbls b ps q
    exact ⟨m, by rw [upd_ne (ne_of_none h2 hn)]; exact h2⟩
theorem lay_all {P : Program} {w : World} {fs ex : List Addr} {H : Hp} {h h' : Heap} : ∀ (Ts : List Addr) (ps : List (V × V)) (H1 : Hp), Un fs ex H H1 h h' → HOk P w H1 h' → Ts.Nodup → (∀ T ∈ Ts, h.objs.size ≤ T ∧ H1 T = none) →
    (∀ (j : Nat) T p, Ts[j]? = some T → ps[j]? = some p → ∃ x y, RelV p.1 x ∧ RelV p.2 y ∧ PySem.IsPair h' T x y) → Un fs ex H (layT H1 Ts ps) h h' ∧ HOk P w (layT H1 Ts ps) h'
  | [], _, H1, u, k, _, _, _ => by unfold layT; exact ⟨u, k⟩
  | _ :: _, [], H1, u, k, _, _, _ => by unfold layT; exact ⟨u, k⟩
  | T :: Ts, p :: ps, H1, u, k, hn, hf, hp => by
    unfold layT
    obtain ⟨f1, f2⟩ := hf T List.mem_cons_self
    obtain ⟨n1, n2⟩ := List.nodup_cons.mp hn
    obtain ⟨x, y, r1, r2, q⟩ := hp 0 T p rfl rfl
    refine lay_all Ts ps _ (un_more u f1 f2) (k.laidN (fun _ _ e => e) f2 ⟨by show 2 ≤ sizeLine; decide, [x, y], .cons r1 (.cons r2 .nil), ⟨_, q, rfl, _, rfl⟩⟩) n2 (fun T' hT' => ?_) fun j T' p' e1 e2 => hp (j + 1) T' p' (by simpa using e1) (by simpa using e2)
    obtain ⟨g1, g2⟩ := hf T' (List.mem_cons_of_mem _ hT')
    exact ⟨g1, by rw [upd_ne (fun z => n1 (by rw [← z]; exact hT'))]; exact g2⟩
section
variable {X : Cx} {e e2 : Expr} {ta : TA} {p p2 pos pos2 : Pos}
def tLZip (K : PySem.W.Frag) (ta : TA) : TE := fun σ H Q => ta σ H fun vs H1 => ∃ (a b : Addr) (xs ys : List V), vs = [.ref a, .ref b] ∧ SqL K H1 a xs ∧ SqL K H1 b ys ∧ min xs.length ys.length ≤ 1000 ∧
  ∀ (Ts : List Addr) (p : Addr), Ts.Nodup → (∀ T ∈ Ts, H1 T = none ∧ T ≠ p) → H1 p = none → Ts.length = min xs.length ys.length → Q (.ref p) (upd (layT H1 Ts (xs.zip ys)) p (.lst (Ts.map V.ref)))
theorem vals_refs : ∀ Ts : List Addr, Vals (Ts.map V.ref) (Ts.map Value.ref)
  | [] => .nil
  | T :: Ts => .cons rfl (vals_refs Ts)
/-- list(zip(e, e2)) of two lists -/
theorem pe_lzip (hg : Gl X "list") (hm : X.mg "list" = none) (hg2 : Gl X "zip") (hm2 : X.mg "zip" = none) (hc : X.calm = true) (ha : PA X [e, e2] ta)
    (hs : starEach [e, e2] X.env = (false, eval e X.env) :: starEach [e2] X.env := by rfl) (hpl : (backTo pos2 (starEach [e2] X.env)).any (·.1) = false := by rfl) :
    PE X (.Call (.Name "list" p) [.Call (.Name "zip" p2) [e, e2] [] pos2] [] pos) (tLZip X.K ta) := by
  refine ⟨fun pins s σ H Q I h => ?_⟩
  refine wpAny_Call_Name_kw (ld_blt I hg hm PyProof.Rows.boot_list ?_)
  refine PyProof.Rows.callWith_type1 ?_ rfl rfl
  show wpAny _ _ (spliced ((false, eval (.Call (.Name "zip" p2) [e, e2] [] pos2) X.env) :: backTo pos (starEach [] X.env))) _ _ s
  refine Calls.spliced_cons (wpAny_Call_Name_kw (ld_blt I hg2 hm2 PyProof.Rows.boot_zip (PyProof.Rows.callWith_type1 (thn (ha.run pos2 pins s σ H _ I h) fun us s1 ⟨vs, H1, I1, r1, q1⟩ => ?_) hs hpl)))
  obtain ⟨a, b, xs, ys, rfl, hqx, hqy, hn, q⟩ := q1
  obtain ⟨u, v, rfl, r, r'⟩ := Vals.two r1
  obtain rfl : u = Value.ref a := r
  obtain rfl : v = Value.ref b := r'
  obtain ⟨its, rv, pa, _⟩ := I1.list hqx
  obtain ⟨its2, rv2, pb, _⟩ := I1.list hqy
  have la : a < s1.heap.objs.size := pa.lt
  have lb : b < s1.heap.objs.size := pb.lt
  refine call_zip_2 pa.isList pb.isList fun h' hz hTI hTO h1 h2 hsz hk => Calls.spliced_nil ?_
  have n1 : its.toArray.size = xs.length := by rw [List.size_toArray, ← rv.length]
  have n2 : its2.toArray.size = ys.length := by rw [List.size_toArray, ← rv2.length]
  have ap := PySem.W.ktu_apart s1.heap.objs.size a b la lb
  refine call_list_zip (s := { s1 with heap := h' }) (I.ok.hd hc) ap hz hTI hTO h1 h2 (pa.isList.at fun o e => hk _ o e) (pb.isList.at fun o e => hk _ o e) (by rw [n1, n2]; exact hn) fun h'' acc c Ts k2 hS hacc hTl hm => ?_
  have hsz : h'.objs.size = s1.heap.objs.size + 5 := hsz
  have le0 : s1.heap.objs.size ≤ h'.objs.size := by rw [hsz]; exact Nat.le_add_right _ _
  have keep : ∀ d o, s1.heap.get? d = some o → h''.get? d = some o := fun d o e0 => k2 d o (by
    have hd := Heap.lt_size e0
    simp only [List.mem_cons, List.not_mem_nil, or_false, not_or]
    exact ⟨Nat.ne_of_lt (Nat.lt_of_lt_of_le hd (Nat.le_add_right _ _)), Nat.ne_of_lt (Nat.lt_of_lt_of_le hd (Nat.le_add_right _ _)), Nat.ne_of_lt hd, Nat.ne_of_lt (Nat.lt_of_lt_of_le hd (Nat.le_add_right _ _))⟩) (hk d o e0)
  have hT : ∀ T ∈ Ts, s1.heap.objs.size ≤ T ∧ H1 T = none := fun T hT => by
    have : s1.heap.objs.size ≤ T := Nat.le_trans (Nat.le_trans le0 (Nat.le_succ _)) (hm.2.1 T hT)
    exact ⟨this, I1.hok.fresh this⟩
  have hTS : ∀ T ∈ Ts, T ≠ h'.objs.size := fun T hT => Nat.ne_of_gt (hm.2.1 T hT)
  have hSn : H1 h'.objs.size = none := I1.hok.fresh le0
  have hSnT : h'.objs.size ∉ Ts := fun z => hTS _ z rfl
  rw [n1, n2] at hTl
  obtain ⟨un, ho⟩ := lay_all (P := X.prog) (w := X.w) (fs := frs X.stack) (ex := []) Ts (xs.zip ys) H1 (Un.kept keep) (I1.hok.kept keep) hm.1 hT fun j T p e1 e3 => by
    obtain ⟨x, y, ex, ey, q⟩ := hm.2.2 j T e1
    have e3 := List.getElem?_zip_eq_some.mp e3
    obtain ⟨u1, g1, g2⟩ := rv.get e3.1
    obtain ⟨u2, g3, g4⟩ := rv2.get e3.2
    have ex : its[j]? = some x := by simpa using ex
    have ey : its2[j]? = some y := by simpa using ey
    rw [g1] at ex; cases ex
    rw [g3] at ey; cases ey
    exact ⟨_, _, g2, g4, q⟩
  have hSl : layT H1 Ts (xs.zip ys) h'.objs.size = none := by rw [layT_ne hSnT]; exact hSn
  have J : Inv X pins σ (upd (layT H1 Ts (xs.zip ys)) h'.objs.size (.lst (Ts.map V.ref))) { s1 with heap := h'', gens := s1.gens, drawn := s1.drawn, toks := s1.toks } :=
    I1.call (ch := []) (un_more un le0 hSl) (ho.laidN (fun _ _ e => e) hSl ⟨by rw [List.length_map, hTl, sizeLine_eq]; omega, Ts.map Value.ref, c, vals_refs Ts, by rw [← hacc]; exact hS⟩) I1.bare (fun _ z => nomatch z)
  exact ⟨.ref h'.objs.size, _, J, rfl, q Ts _ hm.1 (fun T hT0 => ⟨(hT T hT0).2, hTS T hT0⟩) hSn hTl⟩
end
/-! ### by data -/
theorem pst_lay {K : PySem.W.Frag} {M : Mem} : ∀ (Ts : List Addr) (ps : List (V × V)) (S H : Hp), Same S H → MemOk K S M H → Ts.Nodup → (∀ T ∈ Ts, H T = none) → Pst K S M H (layT S Ts ps) M (layT H Ts ps)
  | [], _, S, H, sh, m, _, _ => by unfold layT; exact Pst.refl sh m
  | _ :: _, [], S, H, sh, m, _, _ => by unfold layT; exact Pst.refl sh m
  | T :: Ts, p :: ps, S, H, sh, m, hn, hf => by
    obtain ⟨n1, n2⟩ := List.nodup_cons.mp hn
    have q := Pst.new (o := .tup [p.1, p.2]) sh m (hf T List.mem_cons_self)
    unfold layT
    exact q.trans (pst_lay Ts ps _ _ q.sh q.mem n2 fun T' hT' => by
      rw [upd_ne (fun z => n1 (by rw [← z]; exact hT'))]; exact hf T' (List.mem_cons_of_mem _ hT'))
theorem reps_lay {K : PySem.W.Frag} {S : Hp} : ∀ (Ts : List Addr) (ds es : List D) (xs ys : List V), Reps K S ds xs → Reps K S es ys → Ts.length = min xs.length ys.length → (∀ (j : Nat) T p, Ts[j]? = some T → (xs.zip ys)[j]? = some p → S T = some (.tup [p.1, p.2])) → Reps K S (zip2 ds es) (Ts.map V.ref)
  | Ts, [], es, xs, ys, r1, r2, hl, _ => by
    rw [show xs = [] from r1] at hl
    simp at hl
    subst hl
    unfold zip2; exact rfl
  | Ts, d :: ds, [], xs, ys, r1, r2, hl, _ => by
    rw [show ys = [] from r2] at hl
    simp at hl
    subst hl
    unfold zip2; exact rfl
  | [], d :: ds, e :: es, xs, ys, r1, r2, hl, _ => by
    obtain ⟨x, xr, rfl, _, _⟩ := r1
    obtain ⟨y, yr, rfl, _, _⟩ := r2
    simp only [List.length_cons, List.length_nil] at hl
    omega
  | T :: Ts, d :: ds, e :: es, xs, ys, r1, r2, hl, hT => by
    obtain ⟨x, xr, rfl, rx, rxs⟩ := r1
    obtain ⟨y, yr, rfl, ry, rys⟩ := r2
    unfold zip2
    refine ⟨_, _, rfl, ⟨T, [x, y], rfl, .inl (.inl (hT 0 T (x, y) rfl rfl)), ⟨x, _, rfl, rx, ⟨y, _, rfl, ry, rfl⟩⟩⟩, ?_⟩
    exact reps_lay Ts ds es xr yr rxs rys (by simp only [List.length_cons] at hl; omega) fun j T' p e1 e2 => hT (j + 1) T' p (by simpa using e1) (by simpa using e2)
section
variable {X : Cx} {PX : PXT} {e e2 : Expr} {env : Vars} {M : Mem} {Q : QD} {pos p p2 pos2 : Pos}
/-- list(zip(e, e2)) -/
theorem e_lzip (hc : X.calm = true) (hm : X.mg "list" = none) (hm2 : X.mg "zip" = none) (h : A X PX [e, e2] env M fun ds M1 => ∃ d1 d2, ds = [d1, d2] ∧ wSeqL d1 M1 fun xs => wSeqL d2 M1 fun ys => xs.length ≤ 1000 ∧ Q (.lst (zip2 xs ys)) M1) (hg : Gl X "list") (hg2 : Gl X "zip")
    (hs : starEach [e, e2] X.env = (false, eval e X.env) :: starEach [e2] X.env) (hpl : (backTo pos2 (starEach [e2] X.env)).any (·.1) = false) : E X PX (.Call (.Name "list" p) [.Call (.Name "zip" p2) [e, e2] [] pos2] [] pos) env M Q :=
  ⟨fun S σ H ok wi => semE_of (pe_lzip hg hm hg2 hm2 hc pa_sem hs hpl) (h.bind ok wi fun S1 ds M1 vs H1 p1 ok1 wi1 r ⟨d1, d2, e1, q⟩ => by
    subst e1
    obtain ⟨v1, r0, rfl, ra, v2, r1, rfl, rb, rfl⟩ := r
    obtain ⟨a, xs, ds, rfl, h1, h2, q⟩ := wSeqL_rd q ok1.sh ok1.mem ra
    obtain ⟨b, ys, es, rfl, h3, h4, hl, q⟩ := wSeqL_rd q ok1.sh ok1.mem rb
    refine ⟨a, b, xs, ys, rfl, h1, h3, Nat.le_trans (Nat.min_le_left ..) (by rw [h2.len]; exact hl), fun Ts p hn hT hp hTl => ?_⟩
    have pl := pst_lay Ts (xs.zip ys) S1 H1 ok1.sh ok1.mem hn fun T h => (hT T h).1
    have hpT : p ∉ Ts := fun z => (hT p z).2 rfl
    have hpl2 : layT H1 Ts (xs.zip ys) p = none := by rw [layT_ne hpT]; exact hp
    refine (post_lst pl.sh pl.mem hpl2 (ds := zip2 ds es) ?_ q).trans (p1.trans pl)
    exact reps_lay Ts ds es xs ys (Reps.mono pl.ss _ _ h2) (Reps.mono pl.ss _ _ h4) hTl fun j T p e1 e2 => layT_at hn e1 e2)⟩
end
end DL

/-! LC2: comprehensions with two fors, by data -/
namespace DL
open PySem L2 PySem.Spec PyProof.Rows
section
variable {X : Cx} {PX : PXT} {tg it tg1 it1 elt : Expr} {env : Vars} {M : Mem} {pos : Pos} {scope : Scope} {own : List (Str × Nat)} {own1 : List (Str × Nat)} {envb : Vars}
def iAll (X : Cx) (scope : Scope) (tg it : Expr) : TI := fun σ H R => ∀ (s : Shared) (H0 : Hp) (C : Addr) (cl : List (Str × Addr)) (fp : List Addr), semI (X.blk s H0 scope (compEnvC scope cl C X.env) fp) tg it σ H R
theorem pi_all : ∀ (s : Shared) (H : Hp) (C : Addr) (cl : List (Str × Addr)) (fp : List Addr), PI (X.blk s H scope (compEnvC scope cl C X.env) fp) tg it (iAll X scope tg it) := fun s H C cl fp => ⟨fun pins s' σ H' R I h => h s H C cl fp pins s' I⟩
/-- the inner loop: K speaks of its turn, the items made so far, the memory -/
def LcD1 (X : Cx) (scope : Scope) (own1 : List (Str × Nat)) (tg1 elt : Expr) (env2 : Vars) (its : List D) (K : Nat → List D → Mem → Prop) : Prop :=
  ∀ (j : Nat) (hj : j < its.length) (acc : List D) (M' : Mem), env2.map (·.1) = X.N → K j acc M' → ∃ envb1, Drops env2 (own1.map (·.1)) envb1 ∧
    ∀ (s : Shared) (H : Hp) (C : Addr) (cl : List (Str × Addr)) (fp : List Addr), Gw (X.blk s H scope (compEnvC scope cl C X.env) fp) own1 tg1 its[j] envb1 M' fun env3 M2 =>
      ∀ (s : Shared) (H : Hp) (C : Addr) (cl : List (Str × Addr)) (fp : List Addr), E (X.blk s H scope (compEnvC scope cl C X.env) fp) PX0 elt env3 M2 fun d M4 => acc.length < 100000 ∧ K (j + 1) (acc ++ [d]) M4
def LcD2 (X : Cx) (scope : Scope) (own own1 : List (Str × Nat)) (tg tg1 it1 elt : Expr) (envb : Vars) (items : List D) (J : Nat → List D → Mem → Prop) : Prop :=
  ∀ (i : Nat) (hi : i < items.length) (acc : List D) (M' : Mem), J i acc M' →
    ∀ (s : Shared) (H : Hp) (C : Addr) (cl : List (Str × Addr)) (fp : List Addr), Gw (X.blk s H scope (compEnvC scope cl C X.env) fp) own tg items[i] envb M' fun env2 M2 =>
      ∀ (s : Shared) (H : Hp) (C : Addr) (cl : List (Str × Addr)) (fp : List Addr), I (X.blk s H scope (compEnvC scope cl C X.env) fp) PX0 tg1 it1 env2 M2 fun its M3 =>
        ∃ K : Nat → List D → Mem → Prop, K 0 acc M3 ∧ LcD1 X scope own1 tg1 elt env2 its K ∧ ∀ acc' M', K its.length acc' M' → J (i + 1) acc' M'
theorem wipe_wipe {σ σ2 : L2.St} {vs : List Nat} (hw : wipe σ2 vs = wipe (wipe σ vs) vs) : wipe σ2 vs = wipe σ vs := by
  rw [hw]
  apply List.ext_getElem?
  intro j
  rw [wipe_get, wipe_get]
  by_cases hj : j ∈ vs
  · rw [if_pos hj, if_pos hj]
    cases σ[j]? <;> rfl
  · rw [if_neg hj]
theorem lc2_sem {S H : Hp} {σ : L2.St} {R : VK} {QF : List D → Mem → Prop} (ok : Ok X S env M σ H) (wi : Wish X PX S M H) (hown : ∀ p ∈ own, X.N[p.2]? = some p.1) (hown1 : ∀ p ∈ own1, X.N[p.2]? = some p.1) (hd : Drops env (own.map (·.1)) envb)
    (h : I X PX tg it env M fun items M1 => ∃ J : Nat → List D → Mem → Prop, J 0 [] M1 ∧ LcD2 X scope own own1 tg tg1 it1 elt envb items J ∧ ∀ acc M', J items.length acc M' → QF acc M')
    (k : ∀ Dl acc vs S' M' H', Pst X.K S M H S' M' H' → H Dl = none → H' Dl = some (.lst vs) → S' Dl = none → M' Dl = none → Reps X.K S' acc vs → QF acc M' → R (.ref Dl) H') :
    tLc2 (semI X tg it) (gAll X scope tg) tYes (iAll X scope tg1 it1) (gAll X scope tg1) tYes (eAll X scope elt) (own.map (·.2)) (own1.map (·.2)) σ H R := by
  refine h.bind ok wi fun S1 items M1 J H1 p1 ok1 wi1 dl ⟨Jv, j0, jt, jd⟩ => fun Dl hD => ?_
  have hDS : S1 Dl = none := Same.free ok1.sh hD
  have hDM : M1 Dl = none := ok1.mem.free hD
  refine ⟨fun i m H' => m = items.length - i ∧ i ≤ items.length ∧ ∃ S' M' acc vs, Pst X.K S1 M1 H1 S' M' H' ∧ H' Dl = some (.lst vs) ∧ S' Dl = none ∧ M' Dl = none ∧ Reps X.K S' acc vs ∧ Jv i acc M',
    ⟨items.length, by simp, Nat.zero_le _, S1, M1, [], [], ok1.refl.untracked hD hDS hDM, upd_same, hDS, hDM, rfl, j0⟩, ?_⟩
  rintro i m H' ⟨rfl, hi, S', M', acc, vs, p', hDl, hS', hM', rs, q⟩
  have okb : Ok X S' env M' σ H' := ok1.step p'
  by_cases hlt : i < items.length
  · refine .inr ⟨dl.go i H' hlt (p'.ss.trans p'.sh), fun H2 => i + 1 ≤ items.length ∧ ∃ S' M' acc vs, Pst X.K S1 M1 H1 S' M' H2 ∧ H2 Dl = some (.lst vs) ∧ S' Dl = none ∧ M' Dl = none ∧ Reps X.K S' acc vs ∧ Jv (i + 1) acc M',
      fun H2 n2 => ⟨items.length - (i + 1), by omega, rfl, n2.1, n2.2⟩, fun x H2 hy => ?_⟩
    obtain ⟨S2, py, ry⟩ := dl.yld i H' x H2 S' M' hlt p'.ss p'.sh p'.mem hy
    have okd : Ok X S2 envb M' (wipe σ (own.map (·.2))) H2 := (okb.step py).drop hown hd
    intro s0 H0 C cl fp
    have p2 := p'.trans py
    have liv2 : H2 Dl ≠ none := py.liv Dl (by rw [hDl]; intro z; cases z)
    have d2 : S2 Dl = none := (py.snone hS' (by rw [hDl]; intro z; cases z) hM').1
    have e2 : H2 Dl = some (.lst vs) := py.keep Dl _ hDl hM'
    refine semG_mono ((jt i hlt acc M' q s0 H0 C cl fp).run S2 _ H2 x (blk_ok okd) ry) fun σ2 H3 ⟨hw, S3, env3, M3, p3, ok3, hin⟩ => ⟨wipe_wipe hw, ?_⟩
    unfold tYes
    dsimp only
    rw [if_pos rfl]
    have e3 : H3 Dl = some (.lst vs) := p3.keep Dl _ e2 hM'
    obtain ⟨d3, m3⟩ := p3.snone d2 liv2 hM'
    have ok3' : Ok X S3 env3 M3 σ2 H3 := blk_un ok3
    intro s1 H01 C1 cl1 fp1
    refine (hin s1 H01 C1 cl1 fp1).bind (blk_ok ok3') wish_blk fun S4 its M4 J1 H4 p4 ok4 wi4 dl4 ⟨Kv, k0, kt, kd⟩ => ?_
    have e4 : H4 Dl = some (.lst vs) := p4.keep Dl _ e3 m3
    obtain ⟨d4, m4⟩ := p4.snone d3 (by rw [e3]; intro z; cases z) m3
    have ok4' : Ok X S4 env3 M4 σ2 H4 := blk_un ok4
    have p14 := (p2.trans p3).trans p4
    refine ⟨fun j n H5 => n = its.length - j ∧ j ≤ its.length ∧ ∃ S5 M5 acc vs, Pst X.K S1 M1 H1 S5 M5 H5 ∧ Same S4 S5 ∧ H5 Dl = some (.lst vs) ∧ S5 Dl = none ∧ M5 Dl = none ∧ Reps X.K S5 acc vs ∧ Kv j acc M5,
      ⟨its.length, by simp, Nat.zero_le _, S4, M4, acc, vs, p14, Same.refl S4, e4, d4, m4, Reps.mono ((py.ss.trans p3.ss).trans p4.ss) _ _ rs, k0⟩, ?_⟩
    rintro j n H5 ⟨rfl, hj, S5, M5, acc5, vs5, p5, s45, e5, d5, m5, rs5, q5⟩
    have ok5 : Ok X S5 env3 M5 σ2 H5 := ⟨p5.sh, p5.mem, ok4'.nm, fun i x d e => let ⟨v, h1, h2⟩ := ok4'.sl i x d e; ⟨v, h1, Rep.mono s45 _ _ h2⟩, ok4'.len, ok4'.nd⟩
    by_cases hjt : j < its.length
    · refine .inr ⟨dl4.go j H5 hjt (s45.trans p5.sh), fun H6 => j + 1 ≤ its.length ∧ ∃ S5 M5 acc vs, Pst X.K S1 M1 H1 S5 M5 H6 ∧ Same S4 S5 ∧ H6 Dl = some (.lst vs) ∧ S5 Dl = none ∧ M5 Dl = none ∧ Reps X.K S5 acc vs ∧ Kv (j + 1) acc M5,
        fun H6 n2 => ⟨its.length - (j + 1), by omega, rfl, n2.1, n2.2⟩, fun x1 H6 hy1 => ?_⟩
      obtain ⟨S6, py1, ry1⟩ := dl4.yld j H5 x1 H6 S5 M5 hjt s45 p5.sh p5.mem hy1
      obtain ⟨envb1, hd1, kt1⟩ := kt j hjt acc5 M5 ok5.nm q5
      have okd1 : Ok X S6 envb1 M5 (wipe σ2 (own1.map (·.2))) H6 := (ok5.step py1).drop hown1 hd1
      have liv6 : H6 Dl ≠ none := py1.liv Dl (by rw [e5]; intro z; cases z)
      have d6 : S6 Dl = none := (py1.snone d5 (by rw [e5]; intro z; cases z) m5).1
      have e6 : H6 Dl = some (.lst vs5) := py1.keep Dl _ e5 m5
      intro s2 H02 C2 cl2 fp2
      refine semG_mono ((kt1 s2 H02 C2 cl2 fp2).run S6 _ H6 x1 (blk_ok okd1) ry1) fun σ3 H7 ⟨hw1, S7, env7, M7, p7, ok7, hel⟩ => ⟨wipe_wipe hw1, ?_⟩
      rw [if_pos rfl]
      have e7 : H7 Dl = some (.lst vs5) := p7.keep Dl _ e6 m5
      obtain ⟨d7, m7⟩ := p7.snone d6 liv6 m5
      intro s3 H03 C3 cl3 fp3
      refine semE_mono ((hel s3 H03 C3 cl3 fp3).run S7 σ3 H7 (blk_ok (blk_un ok7)) wish_blk) fun y H8 ⟨S8, d, M8, p8, ry8, hal, q8⟩ => ?_
      have e8 : H8 Dl = some (.lst vs5) := p8.keep Dl _ e7 m7
      obtain ⟨d8, m8⟩ := p8.snone d7 (by rw [e7]; intro z; cases z) m7
      have hlv : vs5.length = acc5.length := rs5.len
      have pp : Pst X.K S1 M1 H1 S8 M8 (upd H8 Dl (.lst (vs5 ++ [y]))) := (((p5.trans py1).trans p7).trans p8).untracked hD d8 m8
      exact ⟨vs5, e8, Nat.lt_of_lt_of_le (show vs5.length < 200000 by omega) (by decide), hjt, S8, M8, acc5 ++ [d], vs5 ++ [y], pp, ((s45.trans py1.ss).trans p7.ss).trans p8.ss, upd_same, d8, m8, Reps.append (Reps.mono ((py1.ss.trans p7.ss).trans p8.ss) _ _ rs5) ⟨y, [], rfl, ry8, rfl⟩, q8⟩
    · have e : j = its.length := by omega
      subst e
      exact   .inl ⟨dl4.stop _ H5 rfl (s45.trans p5.sh), hlt, S5, M5, acc5, vs5, p5, e5, d5, m5, rs5, kd acc5 M5 q5⟩
  · have e : i = items.length := by omega
    subst e
    exact .inl ⟨dl.stop _ H' rfl (p'.ss.trans p'.sh), k Dl acc vs S' M' H' (p1.trans p') (p1.was hD) hDl hS' hM' rs (jd acc M' q)⟩
theorem e_lc2 {Q : QD} (okB : BlkOk X.N X.env.scope scope own) (hown1 : ∀ p ∈ own1, p ∈ own) (hd : Drops env (own.map (·.1)) envb)
    (h : I X PX tg it env M fun items M1 => ∃ J : Nat → List D → Mem → Prop, J 0 [] M1 ∧ LcD2 X scope own own1 tg tg1 it1 elt envb items J ∧ ∀ acc M', J items.length acc M' → ∀ p, M' p = none → Q (.ref p) (updM M' p (.lst acc)))
    (hc : X.calm = true) (hs : ∀ x, foldedSetIterable it X.env x = pure x) (hs1 : ∀ env x, foldedSetIterable it1 env x = pure x) : E X PX (.ListComp elt [⟨tg, it, [], 0⟩, ⟨tg1, it1, [], 0⟩] scope pos) env M Q :=
  ⟨fun S σ H ok wi => semE_of (pe_lc2 (vs1 := own1.map (·.2)) hc ok.nd pi_sem okB (fun i hi => by
      obtain ⟨q, h1, rfl⟩ := List.mem_map.mp hi
      exact List.mem_map.mpr ⟨q, hown1 q h1, rfl⟩) pg_all (fun _ _ _ _ _ => pts_nil) pi_all pg_all (fun _ _ _ _ _ => pts_nil) pe_all hs hs1) (lc2_sem ok wi okB.ix (fun q hq => okB.ix q (hown1 q hq)) hd h fun Dl acc vs S' M' H' p hD hDl hS hM rs q =>
    ⟨S', .ref Dl, _, p.adoptM (c := .lst acc) hD ⟨vs, hDl, rs⟩ hS, rfl, q Dl hM⟩)⟩
end
end DL

/-! EX: lambdas handed over at once, what is told of an exception, raise, isinstance of a caught error, count -/
namespace DL
open PySem L2 LamX PyProof.Rows
theorem updM_self {M : Mem} {a : Addr} {c : Cell} (h : M a = some c) : updM M a c = M := by
  funext b; unfold updM
  split
  · next e => rw [e, h]
  · rfl
theorem upd_swap {H : Hp} {a b : Addr} {o u : HO} (h : a ≠ b) : upd (upd H a o) b u = upd (upd H b u) a o := by
  funext x
  by_cases e : x = b
  · subst e; rw [upd_same, upd_ne (Ne.symm h), upd_same]
  · rw [upd_ne e]
    by_cases e2 : x = a
    · subst e2; rw [upd_same, upd_same]
    · rw [upd_ne e2, upd_ne e2, upd_ne e]
section
variable {X : Cx} {pins : List (Addr × Obj)} {σ : L2.St} {H : Hp} {s : Shared}
/-- a lambda is made; what the heap gains is told in full -/
theorem lam_makeP {c P : Addr} {params : Arguments} {body : Expr} {scope : Scope} {pos : Pos} {E : Value → Shared → Prop} {Q : Value → Shared → Prop} {ps : Array Value} {q : Str} (I : Inv X pins σ H s) (TB : TabB X.base X.mg c P) (hcode : X.env.code = .ref c)
    (hq : X.env.qual ++ "<lambda>" = q) (hP : H P = some (.tbl ps)) (ht : TriplesOk ps.toList) (ha : ∀ (p' : Pos) (cv : Value), codeAmong p' ps.toList = some cv → ∃ c, cv = .ref c ∧ H c = some (CodeO c q)) (hdef : defaultsOf params X.env = ([], [])) (hfree : ∀ y ∈ scope.names, y.2 = .free → ∃ c, X.env.cells.lookup y.1 = some c)
    (h : ∀ (f c' : Addr) (pm ctv : Value) (ps' : Array Value) (H1 : Hp) (s' : Shared), Inv X pins σ H1 s' →
      ((H1 = H ∧ codeAmong pos ps.toList = some (.ref c')) ∨ (H c' = none ∧ P ≠ c' ∧ H1 = upd (upd H P (.tbl ps')) c' (CodeO c' q) ∧ TriplesOk ps'.toList ∧ ∀ (p' : Pos) (cv : Value), codeAmong p' ps'.toList = some cv → codeAmong p' ps.toList = some cv ∨ cv = .ref c')) →
      s'.heap.get? f = some (PySem.W.kla_obj "<lambda>" q params body scope (cloFrom X.env.cells scope.names []) pm c' ctv) → H1 f = none → f ∉ frs X.stack → H1 c' = some (CodeO c' q) → Q (.ref f) s') :
    wpAny (model X.prog X.w) X.A (eval (.Lambda params body scope pos) X.env) Q E s := by
  subst hq
  refine PySem.W.kla_eval hdef ?_
  have bP : s.heap.BuiltinsAt X.mg P := TB.bm.keeps I.bk
  have hP' : s.heap.get? P = some { cls := .none, data := .fields ps } := I.hok P _ hP
  have nofr : ∀ f, s.heap.objs.size ≤ f → f ∉ frs X.stack := fun f hf z => by
    rcases List.mem_cons.mp (I.stkSub _ z) with e | e
    · have h1 := I.lt
      rw [← e] at h1
      exact Nat.lt_irrefl _ (Nat.lt_of_lt_of_le h1 hf)
    · exact I.nofs hf e
  cases hc : codeAmong pos ps.toList with
  | none =>
    refine PySem.W.kla_makeFunction (mg := X.mg) (c := c) (P := P) (ps := ps) (closure_ok hfree) I.ok.glob (I.mod.glob.keeps I.bk) hcode (TB.code.keeps I.bk) hP' ht hc TB.gP bP fun c' ctv h' tk hx hge hlt hrec htb => ?_
    obtain ⟨c2, oc, vs, t, e2, hoc, hd, hv⟩ := hrec
    cases e2
    have hsz : s.heap.objs.size ≤ h'.objs.size := Nat.le_trans hge (Nat.le_of_lt hlt)
    have nC : H c' = none := I.hok.fresh hge
    have I1 := inv_table (t' := tk) (more := #[rawInt pos.line, rawInt pos.col, .ref c']) (h' := h'.push (PySem.W.kla_obj "<lambda>" (X.env.qual ++ "<lambda>") params body scope (cloFrom X.env.cells scope.names []) ((X.mg "__name__").getD .none) c' ctv)) I hP
      (fun b o hb e => Heap.get?_push_of_some _ (hx b o hb e)) (Heap.get?_push_of_some _ htb) hge ⟨oc, vs, t, Heap.get?_push_of_some _ hoc, hd, hv⟩
    have eL : (ps ++ #[rawInt pos.line, rawInt pos.col, .ref c']).toList = ps.toList ++ [rawInt pos.line, rawInt pos.col, .ref c'] := by simp
    refine h h'.objs.size c' ((X.mg "__name__").getD .none) ctv (ps ++ #[rawInt pos.line, rawInt pos.col, .ref c']) _ _ I1 (.inr ⟨nC, ne_of_none hP nC, rfl, by rw [eL]; exact PySem.TriplesOk_snoc _ _ _ _ ht, fun p' cv hcv => ?_⟩) (Heap.get?_push_size _ rfl) ?_ (nofr _ hsz) upd_same
    · rw [eL] at hcv
      exact among_app _ ht hcv
    · have n1 : h'.objs.size ≠ c' := Nat.ne_of_gt hlt
      have n2 : h'.objs.size ≠ P := Nat.ne_of_gt (Nat.lt_of_lt_of_le (Heap.lt_size hP') hsz)
      rw [upd_ne n1, upd_ne n2]
      exact I.hok.fresh hsz
  | some cv =>
    obtain ⟨c', e, hco⟩ := ha pos cv hc
    subst e
    refine PySem.W.kla_makeFunctionHit (mg := X.mg) (c := c) (P := P) (ps := ps) (closure_ok hfree) I.ok.glob (I.mod.glob.keeps I.bk) hcode (TB.code.keeps I.bk) hP' ht hc bP fun ctv h' tk hx hsz => ?_
    have I1 : Inv X pins σ H { s with heap := h'.push (PySem.W.kla_obj "<lambda>" (X.env.qual ++ "<lambda>") params body scope (cloFrom X.env.cells scope.names []) ((X.mg "__name__").getD .none) c' ctv), toks := tk } := I.kept fun b o e => Heap.get?_push_of_some _ (hx b o e)
    exact h h'.objs.size c' ((X.mg "__name__").getD .none) ctv ps H _ I1 (.inl ⟨rfl, hc⟩) (Heap.get?_push_size _ rfl) (I.hok.fresh hsz) (nofr _ hsz) hco
end
/-- .. seen from the data -/
theorem lam_pst {K : PySem.W.Frag} {S : Hp} {M : Mem} {H H1 : Hp} {P c' : Addr} {q : Str} {ps ps' : Array Value} {pos : Pos} (sh : Same S H) (m : MemOk K S M H) (hM : M P = some (.tbl q)) (ha : ∀ (p' : Pos) (cv : Value), codeAmong p' ps.toList = some cv → ∃ c, cv = .ref c ∧ S c = some (CodeO c q))
    (h : (H1 = H ∧ codeAmong pos ps.toList = some (.ref c')) ∨ (H c' = none ∧ P ≠ c' ∧ H1 = upd (upd H P (.tbl ps')) c' (CodeO c' q) ∧ TriplesOk ps'.toList ∧ ∀ (p' : Pos) (cv : Value), codeAmong p' ps'.toList = some cv → codeAmong p' ps.toList = some cv ∨ cv = .ref c')) :
    ∃ S1, Pst K S M H S1 M H1 := by
  rcases h with ⟨e, hc⟩ | ⟨hc, ne, e, ht, hat⟩
  · subst e
    exact ⟨S, Pst.refl sh m⟩
  · subst e
    have p1 := Pst.new (o := CodeO c' q) sh m hc
    have p2 : Pst K (upd S c' (CodeO c' q)) M (upd H c' (CodeO c' q)) (upd S c' (CodeO c' q)) (updM M P (.tbl q)) (upd (upd H c' (CodeO c' q)) P (.tbl ps')) :=
      Pst.write p1.sh p1.mem (by rw [hM]; intro z; cases z) ⟨ps', upd_same, ht, fun p' cv z => by
        rcases hat p' cv z with z | z
        · obtain ⟨c, e1, e2⟩ := ha p' cv z
          exact ⟨c, e1, p1.ss _ _ e2⟩
        · exact ⟨c', z, upd_same⟩⟩
    rw [updM_self hM, upd_swap (Ne.symm ne)] at p2
    exact ⟨_, p1.trans p2⟩
/-- what the def that tells makes of an exception -/
def EXd (K : PySem.W.Frag) (tr : Value → Option D) (cls : Value) (d : Option Addr) (H' : Hp) (Q : VK) : Prop :=
  d = none ∧ ∃ S' M' r, Same S' H' ∧ MemOk K S' M' H' ∧ tr cls = some r ∧ ∀ v H'', Post K S' M' H' (fun e m => e = r ∧ m = M') v H'' → Q v H''
def TTd (K : PySem.W.Frag) (tr : Value → Option D) : (XK → Hp → VK → Prop) → Hp → VK → Prop := fun tl H Q => tl (fun cls d H' => EXd K tr cls d H' Q) H Q
/-- what is known of the def that tells, for one that hands it a lambda -/
structure Teller (X : Cx) (x : Str) (k : Nat) (tr : Value → Option D) (q : Str) : Prop where
  ex : ∃ (g : Addr) (pg : Arguments) (bg : List Stmt) (sg : Scope) (dV kV doc pm cdv ct oc : Value) (an od : Option Addr) (osl : Array (Option Value)) (Ng : List Str) (a : Str),
    X.mg x = some (.ref g) ∧ PySem.W.keepIn X.K (.ref g) = true ∧ X.K.lookup g = some ⟨oc, od, .func (PySem.W.fnOf x x pg bg sg dV kV doc pm an cdv ct), osl⟩ ∧ PySem.W.codeIn X.K cdv x = true ∧
    L2.Binds X.K (PySem.W.fnOf x x pg bg sg dV kV doc pm an cdv ct) [a] [] ∧ FnScope Ng [a] sg ∧ Ng[0]? = some a ∧ Vis sg a ∧ (a == ("__debug__" : Str)) = false ∧ (a == ("__classdict__" : Str)) = false ∧ (Room (k + 2) X.A → GivesTo X Ng x sg g cdv bg a q (TTd X.K tr))
/-- x(lambda: body) -/
theorem e_told {X : Cx} {PX : PXT} {env : Vars} {M : Mem} {Q : QD} {tr : Value → Option D} {x : Str} {c P : Addr} {k : Nat} {q : Str} {params : Arguments} {body : Expr} {scope : Scope} {p lpos pos : Pos} (T : Teller X x k tr q) (hg : Gl X x) (hdb : (x == ("__debug__" : Str)) = false)
    (TB : TabB X.base X.mg c P) (hcode : X.env.code = .ref c) (hq : X.env.qual ++ "<lambda>" = q) (hM : M P = some (.tbl q)) (hr : Room (k + 2) X.A) (L : LamS X.env.scope scope) (hdef : defaultsOf params X.env = ([], []))
    (hbind : ∀ (q : Str) (cl : List (Str × Addr)) (pm cv ctv : Value), bindArgs (PySem.W.kla_fn "<lambda>" q params body scope cl pm cv ctv) ⟨[], []⟩ = pure [])
    (hbody : ∀ (A : Around) (outer : List PySem.Env) (s : Shared) (H : Hp) (Ex : XK) (f c' : Addr), Room k (A.deeper (lamEnv X scope s.heap.objs.size f c')) → E (lamCx X A outer s H Ex scope f c') (fun cls fs M' => ∃ r, tr cls = some r ∧ fs = [] ∧ Q r M') body env M Q) :
    E X PX (.Call (.Name x p) [.Lambda params body scope lpos] [] pos) env M Q := by
  refine ⟨fun S σ H ok wi pins s I => ?_⟩
  obtain ⟨g, pg, bg, sg, dV, kV, doc, pm, cdv, ct, oc, an, od, osl, Ng, a, hm, hk, lk, hcg, hb, Sg, hNg, hva, hd, hcd, hG⟩ := T.ex
  obtain ⟨sP, ps, hP, ht, ha⟩ := ok.mem P _ hM
  refine wpAny_Call_Name_kw (ld_glob I hg hm ?_ hdb)
  refine PySem.W.callWith_K (h₀ := X.base) I.ok.mod.kin hk ?_ (by rfl) (by rfl)
  show wpAny _ _ (spliced ((false, eval (.Lambda params body scope lpos) X.env) :: backTo pos (starEach [] X.env))) _ _ s
  refine Calls.spliced_cons (lam_makeP I TB hcode hq hP ht (fun p' cv z => let ⟨c, e1, e2⟩ := ha p' cv z; ⟨c, e1, ok.sh _ _ e2⟩) hdef (L.has I.ok) fun f c' pm' ctv ps' H1 s' I1 hor hf hfn hfr hco => ?_)
  refine Calls.spliced_nil ⟨I1.kIn, ?_⟩
  obtain ⟨S1, p1⟩ := lam_pst (ps := ps) ok.sh ok.mem hM ha hor
  have ok1 := ok.step p1
  have rc : codeAny (model X.prog X.w) X.A (.call (.ref g) ⟨[.ref f], []⟩) (CR C8.CX0 X.stack X.prog X.w H1 s' (Post X.K S M H Q) C8.E0) s' := by
    refine run_ofS (N := Ng) (ps := [a]) (us := [.ref f]) (vs := [.ref f]) lk hcg Sg hr I1.env0 (hb s' [.ref f] I1.kIn rfl) (.cons rfl .nil) rfl fun hr' => ?_
    obtain ⟨t', ht', hq'⟩ := hG hr f c' s' H1 (Post X.K S M H Q)
      (fun Ex H' Q' => (fun (Ex : XK) σ' H' (Q' : VK) => σ' = σ ∧ H' = H1 ∧ (∀ v h, Post X.K S1 M H1 Q v h → Q' v h) ∧ ∀ cls d h, XPost X.K S1 M H1 (fun cls fs M' => ∃ r, tr cls = some r ∧ fs = [] ∧ Q r M') cls d h → Ex cls d h) Ex σ H' Q')
      (fun W pn xe Ex p1 p2 tk hW => by
        subst hq
        refine pe_act (E := Ex) (i := 0) (tb := (fun (Ex : XK) σ' H' (Q' : VK) => σ' = σ ∧ H' = H1 ∧ (∀ v h, Post X.K S1 M H1 Q v h → Q' v h) ∧ ∀ cls d h, XPost X.K S1 M H1 (fun cls fs M' => ∃ r, tr cls = some r ∧ fs = [] ∧ Q r M') cls d h → Ex cls d h) Ex) I1 L hf hfn hfr (hbind _ _ _ _ _) tk hW hr' (fun A outer s H hr2 => ?_) hNg hva hd hcd
        refine ⟨fun pins s'' σ' HZ Q' J h' => ?_⟩
        obtain ⟨e1, e2, h1, h2⟩ := h'
        subst e1 e2
        refine semE_mono ((hbody A outer s H Ex f c' hr2).run S1 σ' HZ ⟨ok1.sh, ok1.mem, ok1.nm, ok1.sl, ok1.len, ok1.nd⟩ ⟨(takes_of rfl rfl rfl rfl).imp fun cls d _ H' z => h2 cls d H' z, passes_of rfl⟩) (fun v H' z => h1 v H' z) pins s'' J)
      hco ⟨rfl, rfl, fun v h z => Post.trans p1 z, fun cls d h z => by
        obtain ⟨S', M', fs, p2, xr, r, e1, e2, q2⟩ := z
        subst e2
        refine ⟨?_, S', M', r, p2.sh, p2.mem, e1, ?_⟩
        · rcases xr with ⟨z, _⟩ | ⟨_, _, _, z, _⟩
          · exact z
          · exact absurd rfl z
        · rintro v H'' ⟨S'', d', M'', p3, r3, e3, e4⟩
          subst e3 e4
          exact ⟨S'', d', M'', (p1.trans p2).trans p3, r3, q2⟩⟩
    exact ⟨t', ht'.nox, hq'⟩
  refine wpAny_call (codeAny_mono rc fun r s2 hq => ?_)
  cases r with
  | error e => exact (show False from hq).elim
  | ok fl =>
    cases fl with
    | ret u => exact I1.after hq
    | next => exact False.elim hq
    | brk => exact False.elim hq
    | cont => exact False.elim hq
end DL

/-! TD: the def that tells; isinstance of a caught error; count; raise -/
namespace DL
open PySem L2 LamX PyProof.Rows
section
variable {X : Cx} {PX : PXT} {e a o : Expr} {env : Vars} {M : Mem} {pos p apos p1 p2 : Pos} {Q : QD}
/-! ### xs.count(x) -/
def rCntD (K : PySem.W.Frag) : V → List V → Hp → VK → Prop := fun x xs H Q => ∃ (a : Addr) (y : V) (d : PyData) (ds : List PyData), x = V.ref a ∧ xs = [y] ∧ Dp K H (V.ref a) (.list ds) ∧ Dp K H y d ∧
  SeqAt.shaped (.list ds) = true ∧ SeqAt.shaped d = true ∧ PyData.plainAll ds = true ∧ d.plain = true ∧ Q (.int ((ds.countP fun z => PyData.eqv z d : Nat) : Int)) H
theorem mt_countD (hu : X.A.units + 65 < cLine) : MtR X "list.count" (rCntD X.K) := by
  intro pins s σ H x xs v us Q I rx rxs h
  obtain ⟨a, y, d, ds, rfl, rfl, hl, hy, sl, sd, pl, pd, q⟩ := h
  cases rx
  cases rxs with
  | cons ry rt =>
    rename_i uy ut
    cases rt
    obtain ⟨bs, r1⟩ := Dp.reads I d y uy hy ry
    have hroom : X.A.units + 1 + min (PyData.depthAll ds) d.depth < cLine := room_in_shaped sd hu
    cases hl with
    | lst hs ha =>
      obtain ⟨its, rv, ⟨o, n, ho, hc, hdn, hdt⟩, hlen⟩ := I.list hs
      obtain ⟨as, h4⟩ := Dp.readsAll I ds _ its ha rv
      exact PySem.SeqAt.count_list_data (vs := its.toArray) ⟨o, ho, hc, n, hdt⟩ (show ReadsAll s.heap its.toArray.toList ds as from h4) r1 pl pd hroom ⟨.int _, H, I.tok _, ⟨_, rfl⟩, q⟩
def gCnt (d : D) (is : List D) (M : Mem) (Q : QD) : Prop := D.plains is 50 = true ∧ d.plain 50 = true ∧ PyData.plainAll (D.pys is) = true ∧ d.py.plain = true ∧ Q (.int (((D.pys is).countP fun z => PyData.eqv z d.py : Nat) : Int)) M
theorem e_cnt (hu : X.A.units + 65 < cLine) (h : E X PX o env M fun x M1 => wSeqL x M1 (fun _ => True) ∧ E X PX a env M1 fun d M2 => wSeqL x M2 fun is => gCnt d is M2 Q)
    (hbase : attributeBase o "count" X.env (eval o X.env) = eval o X.env := by rfl)
    (hfew : ((backTo pos (starEach [a] X.env)).all (fun x => !x.1) && (backToKw pos (keywordEach [] X.env)).all (fun x => x.1.isSome)
      && decide ([a].length + ([] : List Keyword).length + (if ([] : List Keyword).isEmpty then 0 else 1) < 30)) = true := by rfl)
    (hline : (apos.endLine == pos.line) = true := by rfl) (hs : starEach [a] X.env = (false, eval a X.env) :: starEach [] X.env := by rfl) :
    E X PX (.Call (.Attribute o "count" apos) [a] [] pos) env M Q :=
  e_bm (ty := fun d M => wSeqL d M fun _ => True) (g := fun x ds M Q => ∃ d, ds = [d] ∧ wSeqL x M fun is => gCnt d is M Q)
    PySem.F.plainAttrs_list PySem.F.slot_list_count PySem.F.type_list_count (mt_countD hu) (by
      intro S M H d v sh m r h
      obtain ⟨a, xs, ds, rfl, h1, h2, _⟩ := wSeqL_rd h sh m r
      exact Or.inl ⟨rfl, xs, h1⟩) (by
      intro S M H x ds v vs Q R sh m r rs ⟨d, e1, hx⟩ hR
      subst e1
      obtain ⟨u, rfl, ru⟩ := reps1 rs
      obtain ⟨a, xs, is, rfl, h1, h2, hp, hd, hp2, hd2, q⟩ := wSeqL_rd hx sh m r
      exact ⟨a, u, d.py, D.pys is, rfl, rfl, .lst h1 (DpAll.mono sh (D.plains_dp _ 50 xs hp h2)), Dp.mono sh (D.plain_dp d 50 u hd ru), D.shapedL hp, D.shaped50 hd, hp2, hd2, hR _ _ (post_int sh m q)⟩)
    (h.imp fun x M1 ⟨h0, ha⟩ => ⟨h0, a_cons (ha.imp fun y M2 q => a_nil ⟨y, rfl, q⟩) hs⟩) hbase hfew hline hs rfl
/-! ### isinstance(e, C) of a caught error -/
theorem e_isE {ae Dc : Addr} {n cn : Str} {d2 : D} {cv : Value} {b : Bool} (hc : CallR X (.builtin "isinstance") (rIsE X.K Dc ae)) (hm : X.mg "isinstance" = none) (hx : At env n (.ref ae))
    (h2 : ∀ Q' : QD, Q' d2 M → E X PX (.Name cn p2) env M Q') (hr : ∀ S v, Rep X.K S d2 v → ∀ u, RelV v u → u = cv) (hk : PySem.W.kitOne X.K (.ref Dc) cv = some b) (q : Q (.bl b) M)
    (hg : Gl X "isinstance" := by rfl) (hv : Vis X.env.scope n := by first | exact Or.inl rfl | exact Or.inr (Or.inl rfl) | exact Or.inr (Or.inr rfl)) (hd : (n == ("__debug__" : Str)) = false := by decide) (hcd : (n == ("__classdict__" : Str)) = false := by decide) :
    E X PX (.Call (.Name "isinstance" p) [.Name n p1, .Name cn p2] [] pos) env M Q :=
  e_blt (r := rIsE X.K Dc ae) (g := fun ds M' Q => M' = M ∧ ds = [.ref ae, d2] ∧ Q (.bl b) M') hc (by
    intro S M' H xs vs Q R sh m rs ⟨em, e1, q⟩ hR
    subst e1
    obtain ⟨v, v', rfl, r1, r2⟩ := reps2 rs
    rw [show v = V.ref ae from r1]
    exact ⟨v', cv, b, rfl, hr S v' r2, hk, hR _ _ (post_bl sh m q)⟩) hm PyProof.Rows.boot_isinstance
    (a_cons (e_name hx (a_cons (h2 _ (a_nil ⟨rfl, rfl, q⟩)) rfl) hv hd hcd) rfl) hg (by decide) (by decide) rfl rfl
theorem e_isEC {ae Dc C : Addr} {n cn : Str} {b : Bool} (hc : CallR X (.builtin "isinstance") (rIsE X.K Dc ae)) (hm : X.mg "isinstance" = none) (hx : At env n (.ref ae)) (hC : X.mg cn = some (.ref C)) (hk : PySem.W.kitOne X.K (.ref Dc) (.ref C) = some b) (q : Q (.bl b) M)
    (hg : Gl X "isinstance" := by rfl) (hgc : Gl X cn := by rfl) (hdc : (cn == ("__debug__" : Str)) = false := by decide) (hv : Vis X.env.scope n := by first | exact Or.inl rfl | exact Or.inr (Or.inl rfl) | exact Or.inr (Or.inr rfl)) (hd : (n == ("__debug__" : Str)) = false := by decide) (hcd : (n == ("__classdict__" : Str)) = false := by decide) :
    E X PX (.Call (.Name "isinstance" p) [.Name n p1, .Name cn p2] [] pos) env M Q :=
  e_isE (d2 := .ref C) (cv := .ref C) hc hm hx (fun Q' q' => e_glob (v := .ref C) (d := .ref C) ⟨_, hC, rfl⟩ (fun S => rfl) q' hgc hdc) (fun S v r u ru => by rw [show v = V.ref C from r] at ru; exact ru) hk q hg hv hd hcd
theorem e_isET {ae Dc : Addr} {n cn : Str} {T : String} {b : Bool} (hc : CallR X (.builtin "isinstance") (rIsE X.K Dc ae)) (hm : X.mg "isinstance" = none) (hx : At env n (.ref ae)) (hC : X.mg cn = none) (hT : bootBuiltins cn = some (.type T)) (hk : PySem.W.kitOne X.K (.ref Dc) (.type T) = some b) (q : Q (.bl b) M)
    (hg : Gl X "isinstance" := by rfl) (hgc : Gl X cn := by rfl) (hnn : cn ≠ "__name__" := by decide) (hdc : (cn == ("__debug__" : Str)) = false := by decide) (hv : Vis X.env.scope n := by first | exact Or.inl rfl | exact Or.inr (Or.inl rfl) | exact Or.inr (Or.inr rfl)) (hd : (n == ("__debug__" : Str)) = false := by decide) (hcd : (n == ("__classdict__" : Str)) = false := by decide) :
    E X PX (.Call (.Name "isinstance" p) [.Name n p1, .Name cn p2] [] pos) env M Q :=
  e_isE (d2 := .ty T) (cv := .type T) hc hm hx (fun Q' q' => ⟨fun S σ H ok wi => semE_of (pe_bltn (v := .ty T) hgc hC hT rfl hnn hdc) (post_same (d := .ty T) ok.sh ok.mem rfl q')⟩) (fun S v r u ru => by rw [show v = V.ty T from r] at ru; exact ru) hk q hg hv hd hcd
end
/-! ### raise -/
abbrev bmVE : List Value := [.type "ValueError", .type "Exception", .type "BaseException", .type "object"]
/-- a class whose errors may be raised with a text -/
structure RCl (K : PySem.W.Frag) (mg : Str → Option Value) (x : Str) (C : Addr) : Prop where
  g : mg x = some (.ref C)
  q : PySem.W.excIn K C bmVE "ValueError.__new__" = true
  k : PySem.W.keepIn K (.ref C) = true
  b : PySem.W.subIn K (.ref C) (.type "BaseException") = some true
  t : PySem.W.typeIn K (.ref C) = some (.type "type")
theorem s_raise {X : Cx} {PX : PXT} {env : Vars} {M : Mem} {P : Pk} {x m : Str} {C : Addr} {j : Nat} {p p2 pos pos' : Pos} (R : RCl X.K X.mg x C) (hc : X.calm = true) (q : PX (.ref C) [] M) (hg : Gl X x) (hdb : (x == ("__debug__" : Str)) = false) :
    S X PX (.Raise (some (.Call (.Name x p) [.Constant (.str m) j p2] [] pos)) none pos') env M P :=
  ⟨fun S σ H ok wi => semS_of (ps_raise hc wi.tk (pmk_own PySem.F.excBase_ValueError R.q R.g R.k (raises_own R.b R.t) hg hdb)) ⟨S, M, [], ok.refl, .inl ⟨rfl, rfl⟩, q⟩⟩
/-! ### the def that tells -/
def envAt : List Str → Nat → D → Vars
  | [], _, _ => []
  | x :: r, 0, d => (x, some d) :: r.map fun y => (y, none)
  | x :: r, i + 1, d => (x, none) :: envAt r i d
theorem envAt_nm : ∀ (N : List Str) (i : Nat) (d : D), (envAt N i d).map (·.1) = N
  | [], _, _ => rfl
  | x :: r, 0, d => by show x :: (r.map fun y => ((y, none) : Str × Option D)).map (·.1) = x :: r; rw [List.map_map]; congr 1; exact List.map_id r
  | x :: r, i + 1, d => by show x :: (envAt r i d).map (·.1) = x :: r; rw [envAt_nm r i d]
theorem envAt_sl : ∀ (N : List Str) (i : Nat) (d : D) (j : Nat) (x : Str) (d' : D), (envAt N i d)[j]? = some (x, some d') → j = i ∧ d' = d
  | [], _, _, _, _, _, h => by simp [envAt] at h
  | y :: r, 0, d, 0, x, d', h => by
    have h : some (y, some d) = some (x, some d') := by simpa [envAt] using h
    cases h; exact ⟨rfl, rfl⟩
  | y :: r, 0, d, j + 1, x, d', h => by
    have h : (r.map fun y => ((y, none) : Str × Option D))[j]? = some (x, some d') := by simpa [envAt] using h
    rw [List.getElem?_map] at h
    cases e : r[j]? with
    | none => rw [e] at h; cases h
    | some z => rw [e] at h; cases h
  | y :: r, i + 1, d, 0, x, d', h => by
    have h : some (y, none) = some (x, some d') := by simpa [envAt] using h
    cases h
  | y :: r, i + 1, d, j + 1, x, d', h => by
    have h : (envAt r i d)[j]? = some (x, some d') := by simpa [envAt] using h
    obtain ⟨e1, e2⟩ := envAt_sl r i d j x d' h
    exact ⟨by rw [e1], e2⟩
/-- the context of the clause's suite -/
abbrev suiteX (X : Cx) (Ng : List Str) (x : Str) (sg : Scope) (g : Addr) (cdg : Value) (s : Shared) (H : Hp) (a : Addr) (oe : Obj) (pn : List (Addr × Obj)) : Cx :=
  ((cxOf C8.CX0 X.prog X.w X.K X.mg X.base Ng x sg g cdg X.A X.stack s H C8.E0).nox).suite a ((a, oe) :: pn)
/-- the clause's suite tells of the classes that tr knows -/
def SuiteOk (X : Cx) (Ng : List Str) (x : Str) (sg : Scope) (g : Addr) (cdg : Value) (ie : Nat) (tr : Value → Option D) (sts : List Stmt) : Prop :=
  ∀ (s : Shared) (H : Hp) (a : Addr) (oe : Obj) (pn : List (Addr × Obj)) (Dc : Addr) (r : D) (M : Mem), tr (.ref Dc) = some r → CallR (suiteX X Ng x sg g cdg s H a oe pn) (.builtin "isinstance") (rIsE X.K Dc a) →
    SS (suiteX X Ng x sg g cdg s H a oe pn) PX0 sts (envAt Ng ie (.ref a)) M ⟨fun _ _ => False, fun d m => d = r ∧ m = M, fun _ _ => False, fun _ _ => False⟩
/-! ### the classes that are told apart -/
def nm12 : List Str := ["InvalidFaces", "OpenDisplay", "InvalidTrain", "InvalidMoment", "UnknownWheel", "UnknownPin", "InvalidNumber", "DifferentTrains", "TooLong", "TooManyCandidates", "Contradiction", "InvalidSpeed"]
def KAll (K : PySem.W.Frag) (Dc : Addr) (j : Nat) : Nat → List Addr → Prop
  | _, [] => True
  | i, A :: r => PySem.W.kitOne K (.ref Dc) (.ref A) = some (decide (i = j)) ∧ KAll K Dc j (i + 1) r
theorem KAll.at {K : PySem.W.Frag} {Dc : Addr} {j : Nat} : ∀ {l : List Addr} {i0 i : Nat} {A : Addr}, KAll K Dc j i0 l → l[i]? = some A → PySem.W.kitOne K (.ref Dc) (.ref A) = some (decide (i0 + i = j))
  | [], _, _, _, _, e => by simp at e
  | B :: r, i0, 0, A, h, e => by simp at e; subst e; exact h.1
  | B :: r, i0, i + 1, A, h, e => by
    have := KAll.at (i := i) h.2 (by simpa using e)
    rw [this, Nat.add_assoc, Nat.add_comm 1 i]
/-- a class of the twelve, without fields of its own -/
structure Knows (K : PySem.W.Frag) (CS : Addr) (As : List Addr) (Dc : Addr) (j : Nat) : Prop where
  lo : 3 ≤ j
  hi : j < 12
  k : KAll K Dc j 0 As
  v : PySem.W.kitOne K (.ref Dc) (.type "ValueError") = some true
  e : ExcC K Dc
  x : PySem.W.exmOne K (.ref Dc) (.ref CS) = some true
/-- what is told of a class -/
def trOf (l : List (Addr × Nat)) : Value → Option D
  | .ref C => (l.lookup C).map fun j => .tup [.str "error", .str (nm12.getD j "")]
  | _ => none
theorem mem_lkp : ∀ {l : List (Addr × Nat)} {C : Addr} {j : Nat}, l.lookup C = some j → (C, j) ∈ l
  | [], _, _, e => by cases e
  | (B, i) :: r, C, j, e => by
    rw [List.lookup_cons] at e
    by_cases h : C = B
    · subst h
      rw [show (C == C) = true from beq_self_eq_true C] at e
      cases e
      exact List.mem_cons_self
    · rw [show (C == B) = false from beq_eq_false_iff_ne.mpr h] at e
      exact List.mem_cons_of_mem _ (mem_lkp e)
theorem trOf_e {l : List (Addr × Nat)} {cls : Value} {r : D} (h : trOf l cls = some r) : ∃ C j, cls = .ref C ∧ (C, j) ∈ l ∧ r = .tup [.str "error", .str (nm12.getD j "")] := by
  unfold trOf at h
  split at h
  · rename_i C
    cases e : l.lookup C with
    | none => rw [e] at h; cases h
    | some j =>
      rw [e] at h
      exact ⟨C, j, rfl, mem_lkp e, (Option.some.inj h).symm⟩
  · cases h
def hot12 (j : Nat) : List D := [.bl (decide (0 = j)), .bl (decide (1 = j)), .bl (decide (2 = j)), .bl (decide (3 = j)), .bl (decide (4 = j)), .bl (decide (5 = j)), .bl (decide (6 = j)), .bl (decide (7 = j)), .bl (decide (8 = j)), .bl (decide (9 = j)), .bl (decide (10 = j)), .bl (decide (11 = j))]
theorem hot_cnt {j : Nat} {M : Mem} {Q : QD} (hi : j < 12) (q : Q (.int 1) M) : gCnt (.bl true) (hot12 j) M Q := by
  have h : ∀ j, j < 12 → D.plains (hot12 j) 50 = true ∧ PyData.plainAll (D.pys (hot12 j)) = true ∧ (D.pys (hot12 j)).countP (fun z => PyData.eqv z (D.bl true).py) = 1 := by decide
  obtain ⟨h1, h2, h3⟩ := h j hi
  refine ⟨h1, rfl, h2, rfl, ?_⟩
  rw [h3]; exact q
theorem hot_idx {j : Nat} {M : Mem} {Q : QD} (hi : j < 12) (q : Q (.int (j : Nat)) M) : gIdx (.bl true) (hot12 j) M Q := by
  have h : ∀ j, j < 12 → D.plains (hot12 j) 50 = true ∧ (hot12 j)[j]? = some (.bl true) := by
    intro j hj
    match j, hj with
    | 0, _ | 1, _ | 2, _ | 3, _ | 4, _ | 5, _ | 6, _ | 7, _ | 8, _ | 9, _ | 10, _ | 11, _ => exact ⟨rfl, rfl⟩
  have h2 : ∀ j, j < 12 → ∀ m, m < j → (hot12 j)[m]? = some (.bl false) := by
    intro j hj m hm
    match j, hj, m, hm with
    | j, hj, m, hm =>
      have e : ∀ (i : Nat) (n : Nat), i < n → (D.bl (decide (i = n))) = .bl false := fun i n h => by rw [decide_eq_false (by omega)]
      have z : m < 12 := by omega
      unfold hot12
      match m, z with
      | 0, _ => exact congrArg some (e _ _ hm)
      | 1, _ => exact congrArg some (e _ _ hm)
      | 2, _ => exact congrArg some (e _ _ hm)
      | 3, _ => exact congrArg some (e _ _ hm)
      | 4, _ => exact congrArg some (e _ _ hm)
      | 5, _ => exact congrArg some (e _ _ hm)
      | 6, _ => exact congrArg some (e _ _ hm)
      | 7, _ => exact congrArg some (e _ _ hm)
      | 8, _ => exact congrArg some (e _ _ hm)
      | 9, _ => exact congrArg some (e _ _ hm)
      | 10, _ => exact congrArg some (e _ _ hm)
      | 11, _ => exact congrArg some (e _ _ hm)
  obtain ⟨h1, h3⟩ := h j hi
  exact ⟨h1, rfl, j, .bl true, h3, rfl, fun m z hm hz => by rw [h2 j hi m hm] at hz; cases hz; rfl, q⟩
end DL

/-! W1: the code as small terms by slots, and its weakest precondition by data -/
namespace DL
open PySem L2
open PySem.W (alike dataLt)

abbrev Vs := List (Option D)
mutual
inductive Tg | nm (i : Nat) | tp (ts : Tgs)
inductive Tgs | nil | cons (t : Tg) (ts : Tgs)
end
inductive BO | add | sub | mul | div | mod | pow | addM | mulM | modN
  deriving DecidableEq
inductive CO | lt | le | gt | ge | eq | ne | in_ | nin
  deriving DecidableEq
/-- built-in calls of one argument -/
inductive B1 | len | abs | int | tuple | list | listM | sortI | sum | maxI | minI | any | all | minD | maxD
  deriving DecidableEq
inductive TyN | int | bool | tuple | list | str
  deriving DecidableEq
mutual
inductive IE
  | v (i : Nat) | n (i : Int) | b (b : Bool) | non | s (x : Str) | gl (k : Nat)
  | op (o : BO) (a b : IE) | cmp (o : CO) (a b : IE) | chn (o o' : CO) (a b c : IE) | isN (a : IE) | notN (a : IE)
  | neg (a : IE) | not (a : IE) | and (es : IEs) | or (es : IEs) | ite (c a b : IE)
  | tup (es : IEs) | lst (es : IEs) | lstM (es : IEs)
  | ix (a b : IE) | dg (a b : IE) | dnew | slc (a : IE) (lo hi : IO)
  | call (k : Nat) (es : IEs) | bi (o : B1) (a : IE) | min2 (a b : IE) | rev (a : IE) | idx (a x : IE) | lset (a : IE) | isi (a : IE) (t : TyN)
  | fld (a : IE) (f : Str) | meth (a : IE) (k : Nat) (es : IEs) | make (k : Nat) (es : IEs) | app (a x : IE)
  | lc (m : Bool) (own : List Nat) (t : Tg) (it : IT) (ifs : IO) (elt : IE)
  | told (e : IE) | frz (a : IE) | gen (k : Nat) (es : IEs) | sset (a : IE) | kw (k : Nat) (es : IEs) (e : IE) | lzip (a b : IE) | lc2 (own own1 : List Nat) (t : Tg) (it : IT) (t1 : Tg) (it1 : IT) (elt : IE)
inductive IEs | nil | cons (e : IE) (es : IEs)
inductive IO | no | so (e : IE)
inductive IT | seq (e : IE) | rng1 (a : IE) | rng2 (a b : IE) | enum (e : IE) | zip2 (a b : IE) | zip3 (a b c : IE)
end
mutual
inductive IG | t (t : Tg) | sub (a b : IE) | dsub (a b : IE) | fld (a : IE) (f : Str) | fld2 (a : IE) (f g : Str)
end
mutual
inductive IS
  | asg (g : IG) (e : IE) | par (a b : Nat) (x y : IE) | par3 (a b c : Nat) (x y z : IE) | aug (i : Nat) (o : BO) (e : IE)
  | ex (e : IE) | ret (e : IE) | retN | pass | brk | cont
  | ifS (c : IE) (t e : ISs) | ifJ (c : IE) (t e : ISs) | for_ (t : Tg) (it : IT) (body : ISs) | whl (c : IE) (body : ISs) | frz (i : Nat) | dead | yld (e : IE) | rse (k : Nat)
inductive ISs | nil | cons (s : IS) (ss : ISs)
end

/-! ### values -/
def wSome (o : Option D) (k : D → Prop) : Prop := match o with | some d => k d | none => False
def wIf (c : Bool) (A B : Prop) : Prop := match c with | true => A | false => B
abbrev tst (Q : Bool → Mem → Prop) : QD := fun d M => match d with | .bl c => Q c M | _ => False
theorem wSome_i {o : Option D} {k : D → Prop} {d : D} (h : o = some d) (q : k d) : wSome o k := by subst h; exact q
theorem wSome_e {o : Option D} {k : D → Prop} (h : wSome o k) : ∃ d, o = some d ∧ k d := by
  cases o with
  | none => exact h.elim
  | some d => exact ⟨d, rfl, h⟩
theorem wIf_t {c : Bool} {A B : Prop} (h : c = true) (a : A) : wIf c A B := by subst h; exact a
theorem wIf_f {c : Bool} {A B : Prop} (h : c = false) (a : B) : wIf c A B := by subst h; exact a
theorem wIf_i {c : Bool} {A B : Prop} (a : c = true → A) (b : c = false → B) : wIf c A B := by
  cases c with
  | true => exact a rfl
  | false => exact b rfl
theorem wIf_d {p : Prop} [Decidable p] {A B : Prop} (a : p → A) (b : ¬ p → B) : wIf (decide p) A B := wIf_i (fun h => a (of_decide_eq_true h)) fun h => b (of_decide_eq_false h)
theorem wIf_dt {p : Prop} [Decidable p] {A B : Prop} (h : p) (a : A) : wIf (decide p) A B := wIf_t (decide_eq_true h) a
theorem wIf_df {p : Prop} [Decidable p] {A B : Prop} (h : ¬ p) (a : B) : wIf (decide p) A B := wIf_f (decide_eq_false h) a
theorem wIf_e {c : Bool} {A B : Prop} (h : wIf c A B) : (c = true → A) ∧ (c = false → B) := by
  cases c with
  | true => exact ⟨fun _ => h, fun z => nomatch z⟩
  | false => exact ⟨(fun z => nomatch z), fun _ => h⟩
theorem tst_e {Q : Bool → Mem → Prop} {d : D} {M : Mem} (h : tst Q d M) : ∃ c, d = .bl c ∧ Q c M := by
  cases d <;> first | exact ⟨_, rfl, h⟩ | exact h.elim

def wOp : BO → D → D → Mem → QD → Prop
  | .add, x, y, M, Q => match x, y with
    | .int i, .int j => Q (.int (i + j)) M
    | .tup ds, .tup es => ds.length + es.length ≤ 100000 ∧ Q (.tup (ds ++ es)) M
    | .lst ds, .lst es => ds.length + es.length ≤ 100000 ∧ Q (.lst (ds ++ es)) M
    | _, _ => False
  | .sub, x, y, M, Q => match x, y with
    | .int i, .int j => Q (.int (i - j)) M
    | _, _ => False
  | .mul, x, y, M, Q => match x, y with
    | .int i, .int j => (CMul i j ∨ CMulW i j) ∧ Q (.int (i * j)) M
    | .tup ds, .int k => ds ≠ [] ∧ 1 ≤ k ∧ k ≤ 1000 ∧ ds.length ≤ 1000 ∧ Q (.tup (List.replicate k.toNat ds).flatten) M
    | .lst ds, .int k => k ≤ 100000 ∧ -100000 ≤ k ∧ ds.length * k.toNat ≤ 100000 ∧ Q (.lst (List.replicate k.toNat ds).flatten) M
    | _, _ => False
  | .div, x, y, M, Q => match x, y with
    | .int i, .int j => (CDiv i j ∨ CDivW i j) ∧ Q (.int (i / j)) M
    | _, _ => False
  | .mod, x, y, M, Q => match x, y with
    | .int i, .int j => 0 < j ∧ Q (.int (i % j)) M
    | _, _ => False
  | .pow, x, y, M, Q => match x, y with
    | .int i, .int j => CPow i j ∧ Q (.int (i ^ j.toNat)) M
    | _, _ => False
  | .addM, x, y, M, Q => match x, y with
    | .lst ds, .lst es => ds.length + es.length ≤ 100000 ∧ ∀ p, M p = none → Q (.ref p) (updM M p (.lst (ds ++ es)))
    | _, _ => False
  | .mulM, x, y, M, Q => match x, y with
    | .lst ds, .int k => k ≤ 100000 ∧ -100000 ≤ k ∧ ds.length * k.toNat ≤ 100000 ∧ ∀ p, M p = none → Q (.ref p) (updM M p (.lst (List.replicate k.toNat ds).flatten))
    | _, _ => False
  | .modN, x, y, M, Q => match x, y with
    | .int i, .int j => j ≠ 0 ∧ Q (.int (i.fmod j)) M
    | _, _ => False
def cmpI : CO → Int → Int → Bool
  | .lt, i, j => decide (i < j)
  | .le, i, j => decide (i ≤ j)
  | .gt, i, j => decide (j < i)
  | .ge, i, j => decide (j ≤ i)
  | .eq, i, j => decide (i = j)
  | .ne, i, j => decide (i ≠ j)
  | _, _, _ => false
def wCmp : CO → D → D → Mem → QD → Prop
  | .lt, x, y, M, Q => match x, y with | .int i, .int j => Q (.bl (decide (i < j))) M | x, y => gOrd (fun d e => dataLt d e) x y M Q
  | .le, x, y, M, Q => match x, y with | .int i, .int j => Q (.bl (decide (i ≤ j))) M | _, _ => False
  | .gt, x, y, M, Q => match x, y with | .int i, .int j => Q (.bl (decide (j < i))) M | x, y => gOrd (fun d e => dataLt e d) x y M Q
  | .ge, x, y, M, Q => match x, y with | .int i, .int j => Q (.bl (decide (j ≤ i))) M | _, _ => False
  | .eq, x, y, M, Q => match x, y with | .int i, .int j => Q (.bl (decide (i = j))) M | x, y => gEqM false x y M Q
  | .ne, x, y, M, Q => match x, y with | .int i, .int j => Q (.bl (decide (i ≠ j))) M | x, y => gEqM true x y M Q
  | .in_, x, y, M, Q => gInM false x y M Q
  | .nin, x, y, M, Q => gInM true x y M Q
/-- the items of a sequence -/
def wSeq (d : D) (M : Mem) (k : List D → Prop) : Prop := match d with
  | .tup ds => k ds
  | .lst ds => k ds
  | .rol ds => k ds
  | .ref a => ∃ ds, M a = some (.lst ds) ∧ k ds
  | _ => False
theorem wSeq_e {d : D} {M : Mem} {k : List D → Prop} (h : wSeq d M k) : ∃ ds, SeqD M d ds ∧ k ds := by
  cases d with
  | tup ds => exact ⟨ds, .tup ds, h⟩
  | lst ds => exact ⟨ds, .lst ds, h⟩
  | rol ds => exact ⟨ds, .rol ds, h⟩
  | ref a => obtain ⟨ds, hm, q⟩ := h; exact ⟨ds, .cell hm, q⟩
  | _ => exact h.elim
def wB1 : B1 → D → Mem → QD → Prop
  | .len, d, M, Q => match d with
    | .tup ds => Q (.int ds.length) M
    | .lst ds => Q (.int ds.length) M
    | .rol ds => Q (.int ds.length) M
    | .str z => z.length ≤ sizeLine ∧ Q (.int z.length) M
    | .ref a => ∃ ds, M a = some (.lst ds) ∧ Q (.int ds.length) M
    | _ => False
  | .abs, d, M, Q => match d with | .int i => Q (.int (i.natAbs : Int)) M | _ => False
  | .int, d, M, Q => match d with | .int i => Q (.int i) M | .bl k => Q (.int (if k then 1 else 0)) M | _ => False
  | .tuple, d, M, Q => match d with
    | .tup ds => Q (.tup ds) M
    | .lst ds => Q (.tup ds) M
    | .ref a => ∃ ds, M a = some (.lst ds) ∧ Q (.tup ds) M
    | _ => False
  | .list, d, M, Q => wSeq d M fun ds => Q (.lst ds) M
  | .listM, d, M, Q => wSeq d M fun ds => ∀ p, M p = none → Q (.ref p) (updM M p (.lst ds))
  | .sortI, d, M, Q => ∃ q kvs ks, d = .ref q ∧ M q = some (.dK kvs) ∧ kvs.map (·.1) = ks.map Sum.inl ∧ ks.length < 64 ∧ ∀ ys : List Int, ys.Perm ks → ys.Pairwise (· ≤ ·) → Q (.lst (ys.map D.int)) M
  | .sum, d, M, Q => wSeqL d M fun is => gSum is M Q
  | .maxI, d, M, Q => wSeqL d M fun is => gMaxI is M Q
  | .minI, d, M, Q => wSeqL d M fun is => gMinI is M Q
  | .any, d, M, Q => wSeqL d M fun is => gAny is M Q
  | .all, d, M, Q => wSeqL d M fun is => gAll' is M Q
  | .minD, d, M, Q => wSeqL d M fun is => gMinD is M Q
  | .maxD, d, M, Q => wSeqL d M fun is => gMaxD is M Q
def wMin2 (x y : D) (M : Mem) (Q : QD) : Prop := x.plain 60 = true ∧ y.plain 60 = true ∧ (∀ u ∈ [x.py, y.py], ∀ v ∈ [x.py, y.py], alike u v = true) ∧ (∀ u ∈ [x.py, y.py], u ≠ .none) ∧ Q (if dataLt y.py x.py then y else x) M
def TyN.is : TyN → D → Option Bool
  | .int, .int _ => some true | .int, .bl _ => some true | .int, .non => some false | .int, .str _ => some false | .int, .tup _ => some false | .int, .lst _ => some false
  | .bool, .int _ => some false | .bool, .bl _ => some true | .bool, .non => some false | .bool, .str _ => some false | .bool, .tup _ => some false | .bool, .lst _ => some false
  | .tuple, .int _ => some false | .tuple, .bl _ => some false | .tuple, .non => some false | .tuple, .str _ => some false | .tuple, .tup _ => some true | .tuple, .lst _ => some false
  | .list, .int _ => some false | .list, .bl _ => some false | .list, .non => some false | .list, .str _ => some false | .list, .tup _ => some false | .list, .lst _ => some true
  | .str, .int _ => some false | .str, .bl _ => some false | .str, .non => some false | .str, .str _ => some true | .str, .tup _ => some false | .str, .lst _ => some false
  | _, _ => none
def wIx (x y : D) (M : Mem) (Q : QD) : Prop := match y with
  | .int i => match x with
    | .tup ds => wSome (atI ds i) fun d => Q d M
    | .lst ds => wSome (atI ds i) fun d => Q d M
    | .rol ds => wSome (atI ds i) fun d => Q d M
    | .ref a => ∃ ds, M a = some (.lst ds) ∧ wSome (atI ds i) fun d => Q d M
    | _ => False
  | _ => False
/-- d[k] of a dict -/
def wDg (x y : D) (M : Mem) (Q : QD) : Prop := match x with
  | .ref a => ∃ kvs k, M a = some (.dK kvs) ∧ y = kD k ∧ wSome (lookD kvs k) fun d => Q d M
  | _ => False
def wDput (o i d : D) (M : Mem) (Q : Mem → Prop) : Prop := match o with
  | .ref a => ∃ kvs k, M a = some (.dK kvs) ∧ i = kD k ∧ kvs.length < 100000 ∧ Q (updM M a (.dK (putD kvs k d)))
  | _ => False
def wCut (x : D) (l u : Option Int) (M : Mem) (Q : QD) : Prop := match x with
  | .tup ds => Q (.tup (cut ds l u)) M
  | .lst ds => Q (.lst (cut ds l u)) M
  | .rol ds => Q (.lst (cut ds l u)) M
  | .ref a => ∃ ds, M a = some (.lst ds) ∧ Q (.lst (cut ds l u)) M
  | _ => False
def wPut (o i d : D) (M : Mem) (Q : Mem → Prop) : Prop := match o with
  | .ref p => match i with
    | .int k => ∃ ds j, M p = some (.lst ds) ∧ ixN ds.length k = some j ∧ Q (updM M p (.lst (ds.set j d)))
    | _ => False
  | _ => False
def wFrz (d : D) (M : Mem) (Q : QD) : Prop := match d with
  | .ref a => ∃ ds, M a = some (.lst ds) ∧ Q (.lst ds) (delM M a)
  | d => Q d M

/-! ### names -/
def lk (env : Vs) (i : Nat) : Option D := match env[i]? with | some (some d) => some d | _ => none
mutual
def wTg : Tg → D → Vs → (Vs → Prop) → Prop
  | .nm i, d, env, Q => Q (env.set i (some d))
  | .tp ts, d, env, Q => match d with
    | .tup ds => wTgs ts ds env Q
    | _ => False
def wTgs : Tgs → List D → Vs → (Vs → Prop) → Prop
  | .nil, ds, env, Q => match ds with | [] => Q env | _ => False
  | .cons t ts, ds, env, Q => match ds with | [] => False | d :: ds => wTg t d env fun env => wTgs ts ds env Q
end
def wipeV (env : Vs) : List Nat → Vs
  | [] => env
  | i :: is => (wipeV env is).set i none

structure Gm where
  gl : List Int := []
  df : List DSp := []
  ms : List (Addr × Str × DSp) := []
  cs : List (Addr × DSp) := []
  fd : Addr → Str → Prop := fun _ _ => False
  gn : List DSp := []
  kw : List DSp := []
  tb : Option (Addr × Str) := none
  tr : Value → Option D := fun _ => none
  rs : List Addr := []
def wApp (x : D) (M : Mem) (k : Addr → Prop) : Prop := match x with | .ref a => (∃ ds, M a = some (.lst ds)) ∧ k a | _ => False
def wRef (x : D) (k : Addr → Prop) : Prop := match x with | .ref a => k a | _ => False
def wInt (x : D) (k : Int → Prop) : Prop := match x with | .int a => k a | _ => False
theorem wRef_e {x : D} {k : Addr → Prop} (h : wRef x k) : ∃ a, x = .ref a ∧ k a := by
  cases x <;> first | exact ⟨_, rfl, h⟩ | exact h.elim
theorem wInt_e {x : D} {k : Int → Prop} (h : wInt x k) : ∃ a, x = .int a ∧ k a := by
  cases x <;> first | exact ⟨_, rfl, h⟩ | exact h.elim
mutual
def wE (Γ : Gm) : IE → Vs → Mem → PXT → QD → Prop
  | .v i, env, M, _, Q => wSome (lk env i) fun d => Q d M
  | .n i, _, M, _, Q => Q (.int i) M
  | .b i, _, M, _, Q => Q (.bl i) M
  | .non, _, M, _, Q => Q .non M
  | .s x, _, M, _, Q => Q (.str x) M
  | .gl k, _, M, _, Q => match Γ.gl[k]? with | some i => Q (.int i) M | none => False
  | .op o a b, env, M, PX, Q => wE Γ a env M PX fun x M1 => wE Γ b env M1 PX fun y M2 => wOp o x y M2 Q
  | .cmp o a b, env, M, PX, Q => wE Γ a env M PX fun x M1 => wE Γ b env M1 PX fun y M2 => wCmp o x y M2 Q
  | .chn o o' a b c, env, M, PX, Q => wE Γ a env M PX fun x M1 => wE Γ b env M1 PX fun y M2 => wInt x fun i => wInt y fun j =>
      wIf (cmpI o i j) (wE Γ c env M2 PX fun z M3 => wInt z fun k => Q (.bl (cmpI o' j k)) M3) (Q (.bl false) M2)
  | .isN a, env, M, PX, Q => wE Γ a env M PX fun x M1 => Q (.bl x.isNon) M1
  | .notN a, env, M, PX, Q => wE Γ a env M PX fun x M1 => Q (.bl (!x.isNon)) M1
  | .neg a, env, M, PX, Q => wE Γ a env M PX fun x M1 => wInt x fun i => Q (.int (-i)) M1
  | .not a, env, M, PX, Q => wE Γ a env M PX (tst fun c M1 => Q (.bl (!c)) M1)
  | .and es, env, M, PX, Q => wAnd Γ es env M PX Q
  | .or es, env, M, PX, Q => wOr Γ es env M PX Q
  | .ite c a b, env, M, PX, Q => ∃ Q' : QD, wE Γ c env M PX (tst fun t M1 => wIf t (wE Γ a env M1 PX Q') (wE Γ b env M1 PX Q')) ∧ ∀ d M, Q' d M → Q d M
  | .tup es, env, M, PX, Q => wEs Γ es env M PX fun ds M1 => Q (.tup ds) M1
  | .lst es, env, M, PX, Q => wEs Γ es env M PX fun ds M1 => Q (.lst ds) M1
  | .lstM es, env, M, PX, Q => wEs Γ es env M PX fun ds M1 => ∀ p, M1 p = none → Q (.ref p) (updM M1 p (.lst ds))
  | .ix a b, env, M, PX, Q => wE Γ a env M PX fun x M1 => wE Γ b env M1 PX fun y M2 => wIx x y M2 Q
  | .dg a b, env, M, PX, Q => wE Γ a env M PX fun x M1 => wE Γ b env M1 PX fun y M2 => wDg x y M2 Q
  | .dnew, _, M, _, Q => ∀ p, M p = none → Q (.ref p) (updM M p (.dK []))
  | .slc a lo hi, env, M, PX, Q => wE Γ a env M PX fun x M1 => wO Γ lo env M1 PX fun l M2 => wO Γ hi env M2 PX fun u M3 => wCut x l u M3 Q
  | .call k es, env, M, PX, Q => wEs Γ es env M PX fun ds M1 => match Γ.df[k]? with | some sp => sp ds M1 Q PX | none => False
  | .bi o a, env, M, PX, Q => wE Γ a env M PX fun x M1 => wB1 o x M1 Q
  | .min2 a b, env, M, PX, Q => wE Γ a env M PX fun x M1 => wE Γ b env M1 PX fun y M2 => wMin2 x y M2 Q
  | .rev a, env, M, PX, Q => wE Γ a env M PX fun x M1 => wSeqL x M1 fun is => Q (.lst is.reverse) M1
  | .idx a x, env, M, PX, Q => wE Γ a env M PX fun o M1 => wSeqL o M1 (fun _ => True) ∧ wE Γ x env M1 PX fun d M2 => wSeqL o M2 fun is => gIdx d is M2 Q
  | .lset a, env, M, PX, Q => wE Γ a env M PX fun x M1 => wSeqL x M1 fun is => isInts is fun ns => ns.length ≤ 1000 ∧ Q (.int (ddc ns : Nat)) M1
  | .isi a t, env, M, PX, Q => wE Γ a env M PX fun x M1 => match t.is x with | some b => Q (.bl b) M1 | none => False
  | .fld a f, env, M, PX, Q => wE Γ a env M PX fun x M1 => wRef x fun p => ∃ C fs d, M1 p = some (.ins C fs) ∧ Γ.fd C f ∧ FAt fs f d ∧ Q d M1
  | .meth a k es, env, M, PX, Q => wE Γ a env M PX fun x M1 => wRef x fun p => match Γ.ms[k]? with
      | some (C, m, sp) => ∃ fs, M1 p = some (.ins C fs) ∧ FNo fs m ∧ wEs Γ es env M1 PX fun ds M2 => sp (.ref p :: ds) M2 Q PX
      | none => False
  | .make k es, env, M, PX, Q => wEs Γ es env M PX fun ds M1 => match Γ.cs[k]? with
      | some (C, sp) => ∀ a, M1 a = none → sp (.ref a :: ds) (updM M1 a (.ins C [])) (fun d M2 => d = .non ∧ Q (.ref a) M2) PX
      | none => False
  | .app a x, env, M, PX, Q => wE Γ a env M PX fun o M1 => wApp o M1 fun p => wE Γ x env M1 PX fun y M2 => ∃ ds, M2 p = some (.lst ds) ∧ ds.length < 100000 ∧ Q .non (updM M2 p (.lst (ds ++ [y])))
  | .lc m own t it ifs elt, env, M, PX, Q => wI Γ it env M PX fun items M1 => items.length ≤ 100000 ∧ ∃ J : Nat → List D → Mem → Prop, J 0 [] M1 ∧
      (∀ (i : Nat) (hi : i < items.length) (acc : List D) (M' : Mem), J i acc M' → acc.length ≤ i → wTg t items[i] (wipeV env own) fun env2 =>
        wIfs Γ ifs env2 M' fun t M3 => wIf t (wE Γ elt env2 M3 PX0 fun d M4 => J (i + 1) (acc ++ [d]) M4) (J (i + 1) acc M3)) ∧
      ∀ acc M', J items.length acc M' → acc.length ≤ items.length → if m = true then ∀ p, M' p = none → Q (.ref p) (updM M' p (.lst acc)) else Q (.lst acc) M'
  | .frz a, env, M, PX, Q => wE Γ a env M PX fun x M1 => wFrz x M1 Q
  | .told a, env, M, PX, Q => (∃ P q, Γ.tb = some (P, q) ∧ M P = some (.tbl q)) ∧ wE Γ a env M (fun cls fs M' => ∃ r, Γ.tr cls = some r ∧ fs = [] ∧ Q r M') Q
  | .gen k es, env, M, PX, Q => wEs Γ es env M PX fun ds M1 => match Γ.gn[k]? with | some sp => sp ds M1 Q PX0 | none => False
  | .sset a, env, M, PX, Q => wE Γ a env M PX fun x M1 => wSeqL x M1 fun is => isInts is fun ns => ns.length < 64 ∧ ∀ ys : List Int, ys.Pairwise (· < ·) → (∀ k, k ∈ ys ↔ k ∈ ns) → Q (.lst (ys.map D.int)) M1
  | .lc2 own own1 t it t1 it1 elt, env, M, PX, Q => wI Γ it env M PX fun items M1 => ∃ J : Nat → List D → Mem → Prop, J 0 [] M1 ∧
      (∀ (i : Nat) (hi : i < items.length) (acc : List D) (M' : Mem), J i acc M' → wTg t items[i] (wipeV env own) fun env2 =>
        wI Γ it1 env2 M' PX0 fun its M3 => ∃ K : Nat → List D → Mem → Prop, K 0 acc M3 ∧
          (∀ (j : Nat) (hj : j < its.length) (acc : List D) (M' : Mem), K j acc M' → wTg t1 its[j] (wipeV env2 own1) fun env3 => wE Γ elt env3 M' PX0 fun d M4 => acc.length < 100000 ∧ K (j + 1) (acc ++ [d]) M4) ∧
          ∀ acc' M', K its.length acc' M' → J (i + 1) acc' M') ∧
      ∀ acc M', J items.length acc M' → ∀ p, M' p = none → Q (.ref p) (updM M' p (.lst acc))
  | .lzip a b, env, M, PX, Q => wE Γ a env M PX fun x M1 => wE Γ b env M1 PX fun y M2 => wSeqL x M2 fun xs => wSeqL y M2 fun ys => xs.length ≤ 1000 ∧ Q (.lst (DL.zip2 xs ys)) M2
  | .kw k es e, env, M, PX, Q => wEs Γ es env M PX fun ds M1 => wE Γ e env M1 PX fun d M2 => match Γ.kw[k]? with | some sp => sp (ds ++ [d]) M2 Q PX | none => False
def wEs (Γ : Gm) : IEs → Vs → Mem → PXT → (List D → Mem → Prop) → Prop
  | .nil, _, M, _, Q => Q [] M
  | .cons e es, env, M, PX, Q => wE Γ e env M PX fun d M1 => wEs Γ es env M1 PX fun ds M2 => Q (d :: ds) M2
def wAnd (Γ : Gm) : IEs → Vs → Mem → PXT → QD → Prop
  | .nil, _, _, _, _ => False
  | .cons e .nil, env, M, PX, Q => wE Γ e env M PX Q
  | .cons e (.cons e' es), env, M, PX, Q => wE Γ e env M PX (tst fun c M1 => wIf c (wAnd Γ (.cons e' es) env M1 PX Q) (Q (.bl false) M1))
def wOr (Γ : Gm) : IEs → Vs → Mem → PXT → QD → Prop
  | .nil, _, _, _, _ => False
  | .cons e .nil, env, M, PX, Q => wE Γ e env M PX Q
  | .cons e (.cons e' es), env, M, PX, Q => wE Γ e env M PX (tst fun c M1 => wIf c (Q (.bl true) M1) (wOr Γ (.cons e' es) env M1 PX Q))
def wO (Γ : Gm) : IO → Vs → Mem → PXT → (Option Int → Mem → Prop) → Prop
  | .no, _, M, _, Q => Q none M
  | .so e, env, M, PX, Q => wE Γ e env M PX fun d M1 => wInt d fun i => Q (some i) M1
def wIfs (Γ : Gm) : IO → Vs → Mem → (Bool → Mem → Prop) → Prop
  | .no, _, M, Q => Q true M
  | .so e, env, M, Q => wE Γ e env M PX0 (tst Q)
def wI (Γ : Gm) : IT → Vs → Mem → PXT → (List D → Mem → Prop) → Prop
  | .seq e, env, M, PX, Q => wE Γ e env M PX fun d M1 => match d with
    | .tup ds => Q ds M1
    | .lst ds => Q ds M1
    | .rol ds => Q ds M1
    | .ref a => ∃ ds, M1 a = some (.lst ds) ∧ Q ds (delM M1 a)
    | _ => False
  | .rng1 a, env, M, PX, Q => wE Γ a env M PX fun d M1 => wInt d fun j => small j ∧ Q (rngD 0 j.toNat 1) M1
  | .rng2 a b, env, M, PX, Q => wE Γ a env M PX fun d M1 => wInt d fun i => small i ∧ wE Γ b env M1 PX fun d2 M2 => wInt d2 fun j => small j ∧ Q (rngD i (j - i).toNat 1) M2
  | .enum e, env, M, PX, Q => wE Γ e env M PX fun d M1 => match d with
    | .tup ds => Q (ds.mapIdx fun i d => D.tup [.int (i : Nat), d]) M1
    | .lst ds => Q (ds.mapIdx fun i d => D.tup [.int (i : Nat), d]) M1
    | .rol ds => Q (ds.mapIdx fun i d => D.tup [.int (i : Nat), d]) M1
    | _ => False
  | .zip2 a b, env, M, PX, Q => wE Γ a env M PX fun d1 M1 => wE Γ b env M1 PX fun d2 M2 => (∀ a, d1 ≠ .ref a) ∧ (∀ a, d2 ≠ .ref a) ∧ wSeqL d1 M2 fun xs => wSeqL d2 M2 fun ys => Q (DL.zip2 xs ys) M2
  | .zip3 a b c, env, M, PX, Q => wE Γ a env M PX fun d1 M1 => wE Γ b env M1 PX fun d2 M2 => wE Γ c env M2 PX fun d3 M3 => ∃ xs ys zs, SeqD M3 d1 xs ∧ (∀ a, d1 ≠ .ref a) ∧ SeqD M3 d2 ys ∧ (∀ a, d2 ≠ .ref a) ∧ SeqD M3 d3 zs ∧ (∀ a, d3 ≠ .ref a) ∧ Q (zip3 xs ys zs) M3
end
abbrev KV := Vs → Mem → Prop
def wG (Γ : Gm) : IG → D → Vs → Mem → PXT → (Vs → Mem → Prop) → Prop
  | .t t, d, env, M, _, Q => wTg t d env fun env' => Q env' M
  | .sub a b, d, env, M, PX, Q => wE Γ a env M PX fun o M1 => wE Γ b env M1 PX fun i M2 => wPut o i d M2 fun M3 => Q env M3
  | .dsub a b, d, env, M, PX, Q => wE Γ a env M PX fun o M1 => wE Γ b env M1 PX fun i M2 => wDput o i d M2 fun M3 => Q env M3
  | .fld a f, d, env, M, PX, Q => wE Γ a env M PX fun o M1 => wRef o fun p => ∃ C fs fs', M1 p = some (.ins C fs) ∧ Γ.fd C f ∧ fs.length < 900 ∧ FPut fs f d fs' ∧ Q env (updM M1 p (.ins C fs'))
  | .fld2 a f g, d, env, M, PX, Q => match d with
    | .tup [x, y] => wE Γ a env M PX fun o M1 => wRef o fun p => ∃ C fs fs', M1 p = some (.ins C fs) ∧ Γ.fd C f ∧ fs.length < 900 ∧ FPut fs f x fs' ∧
        wE Γ a env (updM M1 p (.ins C fs')) PX fun o M1 => wRef o fun p => ∃ C fs fs', M1 p = some (.ins C fs) ∧ Γ.fd C g ∧ fs.length < 900 ∧ FPut fs g y fs' ∧ Q env (updM M1 p (.ins C fs'))
    | _ => False
def wAug : BO → D → D → (D → Prop) → Prop
  | .add, x, y, k => match x, y with | .int i, .int j => k (.int (i + j)) | _, _ => False
  | .sub, x, y, k => match x, y with | .int i, .int j => k (.int (i - j)) | _, _ => False
  | .mul, x, y, k => match x, y with | .int i, .int j => CMulW i j ∧ k (.int (i * j)) | _, _ => False
  | _, _, _, _ => False
mutual
def wS (Γ : Gm) (PX : PXT) (R : QD) : IS → Vs → Mem → KV → KV → KV → Prop
  | .asg g e, env, M, nx, _, _ => wE Γ e env M PX fun d M1 => wG Γ g d env M1 PX nx
  | .par a b x y, env, M, nx, _, _ => wE Γ x env M PX fun d M1 => wE Γ y env M1 PX fun e M2 => nx ((env.set a (some d)).set b (some e)) M2
  | .par3 a b c x y z, env, M, nx, _, _ => wE Γ x env M PX fun d M1 => wE Γ y env M1 PX fun e M2 => wE Γ z env M2 PX fun f M3 => nx (((env.set a (some d)).set b (some e)).set c (some f)) M3
  | .aug i o e, env, M, nx, _, _ => wSome (lk env i) fun d => wE Γ e env M PX fun y M1 => wAug o d y fun z => nx (env.set i (some z)) M1
  | .dead, _, _, _, _, _ => False
  | .yld _, _, _, _, _, _ => False
  | .rse k, _, M, _, _, _ => match Γ.rs[k]? with | some C => PX (.ref C) [] M | none => False
  | .ex e, env, M, nx, _, _ => wE Γ e env M PX fun _ M1 => nx env M1
  | .ret e, env, M, _, _, _ => wE Γ e env M PX R
  | .retN, _, M, _, _, _ => R .non M
  | .pass, env, M, nx, _, _ => nx env M
  | .brk, env, M, _, bk, _ => bk env M
  | .cont, env, M, _, _, ct => ct env M
  | .ifS c t e, env, M, nx, bk, ct => wE Γ c env M PX (tst fun b M1 => wIf b (wSS Γ PX R t env M1 nx bk ct) (wSS Γ PX R e env M1 nx bk ct))
  | .ifJ c t e, env, M, nx, bk, ct => ∃ N : KV, wE Γ c env M PX (tst fun b M1 => wIf b (wSS Γ PX R t env M1 N bk ct) (wSS Γ PX R e env M1 N bk ct)) ∧ ∀ env' M', N env' M' → nx env' M'
  | .for_ t it body, env, M, nx, _, _ => wI Γ it env M PX fun items M1 => ∃ J : Nat → KV, J 0 env M1 ∧
      (∀ (i : Nat) (hi : i < items.length) env' M', J i env' M' → wTg t items[i] env' fun env2 => wSS Γ PX R body env2 M' (J (i + 1)) nx (J (i + 1))) ∧ ∀ env' M', J items.length env' M' → nx env' M'
  | .whl c body, env, M, nx, _, _ => ∃ (J : Nat → KV) (m0 : Nat), J m0 env M ∧ ∀ m env' M', J m env' M' → wE Γ c env' M' PX (tst fun t M1 =>
      wIf t (wSS Γ PX R body env' M1 (fun env2 M2 => ∃ m', m' < m ∧ J m' env2 M2) nx (fun env2 M2 => ∃ m', m' < m ∧ J m' env2 M2)) (nx env' M1))
  | .frz i, env, M, nx, _, _ => wSome (lk env i) fun d => wRef d fun a => ∃ ds, M a = some (.lst ds) ∧ nx (env.set i (some (.lst ds))) (delM M a)
def wSS (Γ : Gm) (PX : PXT) (R : QD) : ISs → Vs → Mem → KV → KV → KV → Prop
  | .nil, env, M, nx, _, _ => nx env M
  | .cons s ss, env, M, nx, bk, ct => wS Γ PX R s env M (fun env' M' => wSS Γ PX R ss env' M' nx bk ct) bk ct
end
/-! ### defs that hand out -/
abbrev KY := Vs → List D → Mem → Prop
mutual
def wY (Γ : Gm) : IS → Vs → List D → Mem → KY → Prop
  | .yld e, env, acc, M, nx => acc.length < 100000 ∧ wE Γ e env M PX0 fun d M1 => nx env (acc ++ [d]) M1
  | .ifS c t e, env, acc, M, nx => wE Γ c env M PX0 (tst fun b M1 => wIf b (wYs Γ t env acc M1 nx) (wYs Γ e env acc M1 nx))
  | .whl c body, env, acc, M, nx => ∃ (J : Nat → KY) (m0 : Nat), J m0 env acc M ∧ ∀ m env' acc' M', J m env' acc' M' → wE Γ c env' M' PX0 (tst fun t M1 =>
      wIf t (wYs Γ body env' acc' M1 (fun env2 acc2 M2 => ∃ m', m' < m ∧ J m' env2 acc2 M2)) (nx env' acc' M1))
  | .for_ t it body, env, acc, M, nx => wI Γ it env M PX0 fun items M1 => ∃ J : Nat → KY, J 0 env acc M1 ∧
      (∀ (i : Nat) (hi : i < items.length) env' acc' M', J i env' acc' M' → wTg t items[i] env' fun env2 => wYs Γ body env2 acc' M' (J (i + 1))) ∧ ∀ env' acc' M', J items.length env' acc' M' → nx env' acc' M'
  | s, env, acc, M, nx => wS Γ PX0 (fun _ _ => False) s env M (fun env' M' => nx env' acc M') (fun _ _ => False) (fun _ _ => False)
def wYs (Γ : Gm) : ISs → Vs → List D → Mem → KY → Prop
  | .nil, env, acc, M, nx => nx env acc M
  | .cons s ss, env, acc, M, nx => wY Γ s env acc M (fun env' acc' M' => wYs Γ ss env' acc' M' nx)
end
/-- behind a def's last statement; where break and continue lead there -/
def kEnd (R : QD) : KV := fun _ M' => R .non M'
def kNo : KV := fun _ _ => False
end DL

/-! W2: that a small term is the code's -/
namespace DL
open PySem L2

/-- names known -/
structure Gs' where
  gl : List Str := []
  df : List Str := []
  ms : List Str := []
  cs : List Str := []
  bi : List Str := []
  gn : List Str := []
  kw : List (Str × Str × Nat) := []
  told : Option Str := none
  rs : List Str := []
def visB (sc : Scope) (x : Str) : Bool := match sc.names.lookup x with | some .local => true | some .cell => true | some .free => true | _ => false
def allF : Str → Bool := fun _ => true
def cellF (scope : Scope) : Str → Bool := fun x => !(x == ("" : Str)) && scope.names.lookup x == some .cell
def noF : Str → Bool := fun _ => false
/-- no parameter -/
def noArgs (p : Arguments) : Bool := p.posonlyargs.isEmpty && p.args.isEmpty && p.vararg.isNone && p.kwonlyargs.isEmpty && p.kw_defaults.isEmpty && p.kwarg.isNone && p.defaults.isEmpty
theorem noArgs_e {p : Arguments} (h : noArgs p = true) : p = ⟨[], [], none, [], [], none, []⟩ := by
  obtain ⟨a, b, c, d, e, f, g⟩ := p
  unfold noArgs at h
  simp only [Bool.and_eq_true, List.isEmpty_iff, Option.isNone_iff_eq_none] at h
  obtain ⟨⟨⟨⟨⟨⟨h1, h2⟩, h3⟩, h4⟩, h5⟩, h6⟩, h7⟩ := h
  subst h1 h2 h3 h4 h5 h6 h7
  rfl
def locB (fa : Str → Bool) (sc : Scope) (x : Str) : Bool := match sc.names.lookup x with | some .local => true | some .cell => fa x | _ => false
def glB (sc : Scope) (x : Str) : Bool := (match sc.names.lookup x with | some .globalImplicit => true | _ => false) && !(x == ("__debug__" : Str))
theorem vis_of {sc : Scope} {x : Str} (h : visB sc x = true) : Vis sc x := by
  unfold visB at h
  split at h
  · exact .inl ‹_›
  · exact .inr (.inl ‹_›)
  · exact .inr (.inr ‹_›)
  · cases h
theorem loc_of {fa : Str → Bool} {sc : Scope} {x : Str} (h : locB fa sc x = true) : Loc sc x := by
  unfold locB at h
  split at h
  · exact .inl ‹_›
  · exact .inr ‹_›
  · cases h
def nmI (G : Gs') (sc : Scope) (x : Str) (n : Str) : Bool := decide (x = n) && glB sc n && decide (n ∈ G.bi)
def TyN.nm : TyN → Str | .int => "int" | .bool => "bool" | .tuple => "tuple" | .list => "list" | .str => "str"
def TyN.ty : TyN → String | .int => "int" | .bool => "bool" | .tuple => "tuple" | .list => "list" | .str => "str"
def B1.nm : B1 → Str | .len => "len" | .abs => "abs" | .int => "int" | .tuple => "tuple" | .list => "list" | .listM => "list" | .sortI => "sorted" | .sum => "sum" | .maxI => "max" | .minI => "min" | .any => "any" | .all => "all" | .minD => "min" | .maxD => "max"
def BO.op : BO → Operator | .add => .Add | .sub => .Sub | .mul => .Mult | .div => .FloorDiv | .mod => .Mod | .pow => .Pow | .addM => .Add | .mulM => .Mult | .modN => .Mod
def CO.op : CO → CmpOp | .lt => .Lt | .le => .LtE | .gt => .Gt | .ge => .GtE | .eq => .Eq | .ne => .NotEq | .in_ => .In | .nin => .NotIn
def CO.ord : CO → Bool | .lt => true | .le => true | .gt => true | .ge => true | _ => false
def nSet : Expr → Bool | .Set .. => false | _ => true
mutual
def chkTg (N : List Str) (fa : Str → Bool) (sc : Scope) : Tg → Expr → Bool
  | .nm i, e => match e with | .Name x _ => decide (N[i]? = some x) && locB fa sc x | _ => false
  | .tp ts, e => match e with | .Tuple es _ _ => chkTgs N fa sc ts es | _ => false
def chkTgs (N : List Str) (fa : Str → Bool) (sc : Scope) : Tgs → List Expr → Bool
  | .nil, es => match es with | [] => true | _ => false
  | .cons t ts, es => match es with | [] => false | e :: es => chkTg N fa sc t e && chkTgs N fa sc ts es
end
mutual
def Tg.inB (own : List Nat) : Tg → Bool
  | .nm i => decide (i ∈ own)
  | .tp ts => Tgs.inB own ts
def Tgs.inB (own : List Nat) : Tgs → Bool
  | .nil => true
  | .cons t ts => Tg.inB own t && Tgs.inB own ts
end
def ownOf (N : List Str) (own : List Nat) : List (Str × Nat) := own.map fun i => (N.getD i "", i)
mutual
/-- may stand as a test -/
def IE.tOk : IE → Bool
  | .frz _ => false
  | .ite _ _ _ => false
  | .and es => es.tOk
  | .or es => es.tOk
  | .not a => a.tOk
  | _ => true
def IEs.tOk : IEs → Bool
  | .nil => true
  | .cons a as => a.tOk && as.tOk
end
mutual
def chkE (G : Gs') (N : List Str) (fa : Str → Bool) (sc : Scope) : IE → Expr → Bool
  | .v i, e => match e with | .Name x _ => decide (N[i]? = some x) && visB sc x && !(x == ("__debug__" : Str)) && !(x == ("__classdict__" : Str)) | _ => false
  | .n i, e => match e with | .Constant (.int j) _ _ => decide (i = j) | _ => false
  | .b i, e => match e with | .Constant (.bool j) _ _ => decide (i = j) | _ => false
  | .non, e => match e with | .Constant .none _ _ => true | _ => false
  | .s i, e => match e with | .Constant (.str j) _ _ => decide (i = j) | _ => false
  | .gl k, e => match e with | .Name x _ => decide (G.gl[k]? = some x) && glB sc x | _ => false
  | .op o a b, e => match e with | .BinOp x o' y _ => decide (o' = o.op) && chkE G N fa sc a x && chkE G N fa sc b y | _ => false
  | .cmp o a b, e => match e with | .Compare x [o'] [y] _ => decide (o' = o.op) && chkE G N fa sc a x && chkE G N fa sc b y && nSet y | _ => false
  | .chn o o' a b c, e => match e with | .Compare x [p, p'] [y, z] _ => decide (p = o.op) && decide (p' = o'.op) && o.ord && o'.ord && chkE G N fa sc a x && chkE G N fa sc b y && chkE G N fa sc c z | _ => false
  | .isN a, e => match e with | .Compare x [.Is] [.Constant .none _ _] _ => chkE G N fa sc a x | _ => false
  | .notN a, e => match e with | .Compare x [.IsNot] [.Constant .none _ _] _ => chkE G N fa sc a x | _ => false
  | .neg a, e => match e with | .UnaryOp .USub x _ => chkE G N fa sc a x | _ => false
  | .not a, e => match e with | .UnaryOp .Not x _ => a.tOk && chkE G N fa sc a x | _ => false
  | .and es, e => match e with | .BoolOp .And xs _ => es.tOk && chkEs G N fa sc es xs | _ => false
  | .or es, e => match e with | .BoolOp .Or xs _ => es.tOk && chkEs G N fa sc es xs | _ => false
  | .ite c a b, e => match e with | .IfExp z x y _ => c.tOk && chkE G N fa sc c z && chkE G N fa sc a x && chkE G N fa sc b y | _ => false
  | .tup es, e => match e with | .Tuple xs _ _ => chkEs G N fa sc es xs && decide (xs.length ≤ 1000) | _ => false
  | .lst es, e => match e with | .List xs _ => chkEs G N fa sc es xs && decide (xs.length ≤ 1000) | _ => false
  | .lstM es, e => match e with | .List xs _ => chkEs G N fa sc es xs && decide (xs.length ≤ 1000) | _ => false
  | .ix a b, e => match e with | .Subscript x y _ => chkE G N fa sc a x && chkE G N fa sc b y | _ => false
  | .dg a b, e => match e with | .Subscript x y _ => chkE G N fa sc a x && chkE G N fa sc b y | _ => false
  | .dnew, e => match e with | .Dict [] [] _ => true | _ => false
  | .slc a lo hi, e => match e with | .Subscript x (.Slice l h none _) _ => chkE G N fa sc a x && chkO G N fa sc lo l && chkO G N fa sc hi h | _ => false
  | .call k es, e => match e with | .Call (.Name x _) xs [] _ => decide (G.df[k]? = some x) && glB sc x && chkEs G N fa sc es xs | _ => false
  | .bi o a, e => match e with | .Call (.Name x _) [y] [] _ => nmI G sc x o.nm && chkE G N fa sc a y | _ => false
  | .min2 a b, e => match e with | .Call (.Name x _) [y, z] [] _ => nmI G sc x "min" && chkE G N fa sc a y && chkE G N fa sc b z | _ => false
  | .rev a, e => match e with | .Subscript x (.Slice none none (some (.UnaryOp .USub (.Constant (.int 1) _ _) _)) _) _ => chkE G N fa sc a x | _ => false
  | .idx a z, e => match e with | .Call (.Attribute x m p1) [y] [] p2 => decide (m = "index") && chkE G N fa sc a x && chkE G N fa sc z y && (p1.endLine == p2.line) && (match x with | .Call (.Name _ _) [] [] _ => false | _ => true) | _ => false
  | .lset a, e => match e with | .Call (.Name x _) [.Call (.Name y _) [z] [] _] [] _ => nmI G sc x "len" && nmI G sc y "set" && chkE G N fa sc a z | _ => false
  | .isi a t, e => match e with | .Call (.Name x _) [y, .Name z _] [] _ => nmI G sc x "isinstance" && nmI G sc z t.nm && chkE G N fa sc a y | _ => false
  | .fld a f, e => match e with | .Attribute x g _ => decide (f = g) && chkE G N fa sc a x && (match x with | .Call (.Name _ _) [] [] _ => false | _ => true) | _ => false
  | .meth a k es, e => match e with | .Call (.Attribute x m p1) xs [] p2 => decide (G.ms[k]? = some m) && chkE G N fa sc a x && chkEs G N fa sc es xs && (match x with | .Call (.Name _ _) [] [] _ => false | _ => true) && decide (xs.length < 30) && (p1.endLine == p2.line) | _ => false
  | .make k es, e => match e with | .Call (.Name x _) (y :: xs) [] _ => decide (G.cs[k]? = some x) && glB sc x && chkEs G N fa sc es (y :: xs) | _ => false
  | .app a z, e => match e with | .Call (.Attribute x m p1) [y] [] p2 => decide (m = "append") && chkE G N fa sc a x && chkE G N fa sc z y && (p1.endLine == p2.line) && (match x with | .Call (.Name _ _) [] [] _ => false | _ => true) | _ => false
  | .lc m own t it ifs elt, e => match e with
    | .ListComp x [⟨tg, i, fs, as⟩] scope _ => decide (as = 0) && blkC N sc scope (ownOf N own) && Tg.inB own t && chkTg N (cellF scope) (relS scope sc) t tg && chkI G N fa sc it tg i && chkIfs G N (cellF scope) (relS scope sc) ifs fs && chkE G N (cellF scope) (relS scope sc) elt x
    | _ => false
  | .frz a, e => chkE G N fa sc a e
  | .told a, e => match e with | .Call (.Name x _) [.Lambda params body scope _] [] _ => fa "" && decide (G.told = some x) && glB sc x && LamX.lamSB sc scope && noArgs params && chkE G N noF scope a body | _ => false
  | .gen k es, e => match e with | .Call (.Name l _) [.Call (.Name x _) (y :: xs) [] _] [] _ => nmI G sc l "list" && decide (G.gn[k]? = some x) && glB sc x && chkEs G N fa sc es (y :: xs) | _ => false
  | .sset a, e => match e with | .Call (.Name x _) [.Call (.Name y _) [z] [] _] [] _ => nmI G sc x "sorted" && nmI G sc y "set" && chkE G N fa sc a z | _ => false
  | .lc2 own own1 t it t1 it1 elt, e => match e with
    | .ListComp x [⟨tg, i, [], as⟩, ⟨tg1, i1, [], as1⟩] scope _ => decide (as = 0) && decide (as1 = 0) && blkC N sc scope (ownOf N own) && own1.all (fun i => decide (i ∈ own)) && Tg.inB own t && Tg.inB own1 t1 && chkTg N (cellF scope) (relS scope sc) t tg && chkTg N (cellF scope) (relS scope sc) t1 tg1 && chkI G N fa sc it tg i && chkI G N (cellF scope) (relS scope sc) it1 tg1 i1 && chkE G N (cellF scope) (relS scope sc) elt x
    | _ => false
  | .lzip a b, e => match e with | .Call (.Name x _) [.Call (.Name y _) [z, u] [] _] [] _ => nmI G sc x "list" && nmI G sc y "zip" && chkE G N fa sc a z && chkE G N fa sc b u | _ => false
  | .kw k es a, e => match e with | .Call (.Name x _) (y :: xs) [⟨some nm, z, _⟩] _ => decide (G.kw[k]? = some (x, nm, xs.length + 1)) && glB sc x && chkEs G N fa sc es (y :: xs) && chkE G N fa sc a z | _ => false
def chkEs (G : Gs') (N : List Str) (fa : Str → Bool) (sc : Scope) : IEs → List Expr → Bool
  | .nil, es => match es with | [] => true | _ => false
  | .cons a as, es => match es with | [] => false | e :: es => chkE G N fa sc a e && chkEs G N fa sc as es
def chkO (G : Gs') (N : List Str) (fa : Str → Bool) (sc : Scope) : IO → Option Expr → Bool
  | .no, e => match e with | none => true | some _ => false
  | .so a, e => match e with | none => false | some e => chkE G N fa sc a e
def chkIfs (G : Gs') (N : List Str) (fa : Str → Bool) (sc : Scope) : IO → List Expr → Bool
  | .no, e => match e with | [] => true | _ => false
  | .so a, e => match e with | [e] => a.tOk && chkE G N fa sc a e | _ => false
def chkI (G : Gs') (N : List Str) (fa : Str → Bool) (sc : Scope) : IT → Expr → Expr → Bool
  | .seq a, _, e => chkE G N fa sc a e
  | .rng1 a, _, e => match e with | .Call (.Name x _) [y] [] _ => nmI G sc x "range" && chkE G N fa sc a y | _ => false
  | .rng2 a b, _, e => match e with | .Call (.Name x _) [y, z] [] _ => nmI G sc x "range" && chkE G N fa sc a y && chkE G N fa sc b z | _ => false
  | .enum a, tg, e => match tg, e with | .Tuple _ _ _, .Call (.Name x _) [y] [] _ => nmI G sc x "enumerate" && chkE G N fa sc a y | _, _ => false
  | .zip2 a b, tg, e => match tg, e with | .Tuple _ _ _, .Call (.Name x _) [y, z] [] _ => nmI G sc x "zip" && chkE G N fa sc a y && chkE G N fa sc b z | _, _ => false
  | .zip3 a b c, tg, e => match tg, e with | .Tuple _ _ _, .Call (.Name x _) [y, z, u] [] _ => nmI G sc x "zip" && chkE G N fa sc a y && chkE G N fa sc b z && chkE G N fa sc c u | _, _ => false
end

/-! ### what the code's shape gives -/
def nSt : Expr → Bool | .Starred .. => false | .Slice .. => false | .Set .. => false | _ => true
theorem star_c {e : Expr} {es : List Expr} {env : Env} (h : nSt e = true) : starEach (e :: es) env = (false, eval e env) :: starEach es env := by
  cases e <;> first | rfl | cases h
theorem asg_c {e : Expr} {es : List Expr} {env : Env} (h : nSt e = true) : assignEach (e :: es) env = (false, assign e env) :: assignEach es env := by
  cases e <;> first | rfl | cases h
theorem pix_c {e : Expr} (h : nSt e = true) : PlainIx e := by
  intro o i
  cases e <;> first | rfl | cases h
theorem nosl_c {e : Expr} (h : nSt e = true) : NoSl e := by
  intro o i
  cases e <;> first | rfl | cases h
theorem fold_c {e : Expr} {env : Env} (h : nSt e = true) : ∀ x, foldedSetIterable e env x = pure x := by
  intro x
  cases e <;> first | rfl | cases h
theorem nset_c {e : Expr} {op : CmpOp} (h : nSet e = true) : behindInMarks op e = false := by
  cases e <;> first | rfl | cases h
theorem nst_tg {N : List Str} {fa : Str → Bool} {sc : Scope} {t : Tg} {e : Expr} (h : chkTg N fa sc t e = true) : nSt e = true := by
  cases t <;> (unfold chkTg at h; split at h <;> first | rfl | cases h)
theorem nst_e {G : Gs'} {N : List Str} {fa : Str → Bool} {sc : Scope} : ∀ {a : IE} {e : Expr}, chkE G N fa sc a e = true → nSt e = true
  | .frz a, e, h => by unfold chkE at h; exact nst_e h
  | .v _, e, h | .n _, e, h | .b _, e, h | .non, e, h | .s _, e, h | .gl _, e, h | .op _ _ _, e, h | .cmp _ _ _, e, h | .chn _ _ _ _ _, e, h | .isN _, e, h | .notN _, e, h | .neg _, e, h | .not _, e, h | .and _, e, h | .or _, e, h | .ite _ _ _, e, h
  | .told _, e, h | .tup _, e, h | .lst _, e, h | .lstM _, e, h | .ix _ _, e, h | .dg _ _, e, h | .dnew, e, h | .slc _ _ _, e, h | .call _ _, e, h | .bi _ _, e, h | .min2 _ _, e, h | .rev _, e, h | .idx _ _, e, h | .lset _, e, h | .isi _ _, e, h | .fld _ _, e, h | .meth _ _ _, e, h | .make _ _, e, h | .app _ _, e, h | .lc _ _ _ _ _ _, e, h | .gen _ _, e, h | .sset _, e, h | .kw _ _ _, e, h | .lzip _ _, e, h | .lc2 _ _ _ _ _ _ _, e, h => by
    unfold chkE at h; split at h <;> first | rfl | cases h
theorem plain_star {es : List Expr} {env : Env} {pos : Pos} (h : ∀ e ∈ es, nSt e = true) : (backTo pos (starEach es env)).any (·.1) = false := by
  induction es with
  | nil => rfl
  | cons e es ih =>
    rw [star_c (h e List.mem_cons_self)]
    exact ih fun x hx => h x (List.mem_cons_of_mem _ hx)
theorem all_star {es : List Expr} {env : Env} {pos : Pos} (h : ∀ e ∈ es, nSt e = true) : (backTo pos (starEach es env)).all (fun x => !x.1) = true := by
  induction es with
  | nil => rfl
  | cons e es ih =>
    rw [star_c (h e List.mem_cons_self)]
    exact ih fun x hx => h x (List.mem_cons_of_mem _ hx)
theorem nst_es {G : Gs'} {N : List Str} {fa : Str → Bool} {sc : Scope} : ∀ {a : IEs} {es : List Expr}, chkEs G N fa sc a es = true → ∀ e ∈ es, nSt e = true
  | .nil, [], _ => fun e he => nomatch he
  | .nil, _ :: _, h => nomatch h
  | .cons _ _, [], h => nomatch h
  | .cons a as, e :: es, h => by
    unfold chkEs at h
    rw [Bool.and_eq_true] at h
    intro x hx
    rcases List.mem_cons.mp hx with rfl | hx
    · exact nst_e h.1
    · exact nst_es h.2 x hx
theorem chk_len {G : Gs'} {N : List Str} {fa : Str → Bool} {sc : Scope} : ∀ {a : IEs} {es : List Expr}, chkEs G N fa sc a es = true → (a = .nil ↔ es = [])
  | .nil, [], _ => ⟨fun _ => rfl, fun _ => rfl⟩
  | .nil, _ :: _, h => nomatch h
  | .cons _ _, [], h => nomatch h
  | .cons a as, e :: es, h => ⟨(fun z => nomatch z), (fun z => nomatch z)⟩
theorem attr_c {e : Expr} {f : Str} {env : Env} (h : (match e with | .Call (.Name _ _) [] [] _ => false | _ => true) = true) : attributeBase e f env (eval e env) = eval e env := by
  unfold attributeBase
  split
  · simp at h
  · rfl
theorem nst_i {G : Gs'} {N : List Str} {fa : Str → Bool} {sc : Scope} {a : IT} {tg e : Expr} (h : chkI G N fa sc a tg e = true) : nSt e = true := by
  cases a <;> unfold chkI at h
  · exact nst_e h
  all_goals (split at h <;> first | rfl | cases h)
/-- whose test is by its value -/
def nTst : Expr → Bool | .UnaryOp .Not .. => false | .BoolOp .. => false | .IfExp .. => false | .Compare .. => false | _ => true
theorem ist_c {e : Expr} {env : Env} (h : nTst e = true) : ∀ whole, isTrue e env whole = (do let v ← whole; standAt e.pos; holding [v] (truthy v)) := by
  intro whole
  cases e with
  | UnaryOp o x p => cases o <;> first | rfl | cases h
  | _ => first | rfl | cases h
def IE.plainT : IE → Bool | .not _ => false | .and _ => false | .or _ => false | .ite _ _ _ => false | .cmp _ _ _ => false | .chn _ _ _ _ _ => false | .isN _ => false | .notN _ => false | .frz _ => false | _ => true
theorem ntst_e {G : Gs'} {N : List Str} {fa : Str → Bool} {sc : Scope} {a : IE} {e : Expr} (hp : a.plainT = true) (h : chkE G N fa sc a e = true) : nTst e = true := by
  cases a <;> first | (cases hp; done) | (unfold chkE at h; split at h <;> first | rfl | cases h)
end DL

/-! W3: combined rules by data -/
namespace DL
open PySem L2
open PySem.W (alike dataLt)
section
variable {X : Cx} {PX : PXT} {e a b c o tg it : Expr} {es : List Expr} {env : Vars} {M : Mem} {Q : QD} {pos p apos : Pos} {x m : Str}
theorem D2.or {K : PySem.W.Frag} {r1 r2 : R2} {g1 g2 g : D → D → Mem → QD → Prop} (h1 : D2 K r1 g1) (h2 : D2 K r2 g2) (h : ∀ x y M Q, g x y M Q → g1 x y M Q ∨ g2 x y M Q) : D2 K (fun x y H Q => r1 x y H Q ∨ r2 x y H Q) g := by
  intro S M H x y v u Q R sh m rx ry hg hR
  rcases h x y M Q hg with z | z
  · exact .inl (h1 S M H x y v u Q R sh m rx ry z hR)
  · exact .inr (h2 S M H x y v u Q R sh m rx ry z hR)
def gCatT : D → D → Mem → QD → Prop := fun x y M Q => ∃ ds es, x = .tup ds ∧ y = .tup es ∧ ds.length + es.length ≤ 100000 ∧ Q (.tup (ds ++ es)) M
def gCatL : D → D → Mem → QD → Prop := fun x y M Q => ∃ ds es, x = .lst ds ∧ y = .lst es ∧ ds.length + es.length ≤ 100000 ∧ Q (.lst (ds ++ es)) M
/-- a two-place operation's reading by data, from the rule of its expression -/
theorem op_wOp (o : BO) : ∃ r : R2, OpR X (binaryOp o.op) r ∧ D2 X.K r (wOp o) := by
  cases o with
  | add =>
    refine ⟨_, (op_add.or op_catA).or op_cat, ?_⟩
    intro S M H x y v u Q R sh m rx ry hg hR
    cases x <;> cases y <;> first | exact hg.elim | skip
    · exact .inl (.inl ⟨_, _, rx, ry, hR _ _ (post_int sh m hg)⟩)
    · obtain ⟨hl, q⟩ := hg
      rename_i ds es
      obtain ⟨a, xs, rfl, h1, h2⟩ := rx
      obtain ⟨b, ys, rfl, h3, h4⟩ := ry
      refine .inl (.inr ⟨a, b, xs, ys, rfl, rfl, Same.tup sh h1, Same.tup sh h3, Nat.le_trans (by rw [h2.len, h4.len]; exact hl) (by decide), fun e => ?_, fun _ e => ?_, fun _ _ p hp => hR _ _ (post_tup sh m hp (h2.append h4) q)⟩)
      · have : ds = [] := List.eq_nil_of_length_eq_zero (by rw [← h2.len, e]; rfl)
        subst this
        exact hR _ _ (post_same (d := .tup es) sh m ⟨b, ys, rfl, h3, h4⟩ q)
      · have : es = [] := List.eq_nil_of_length_eq_zero (by rw [← h4.len, e]; rfl)
        subst this
        rw [List.append_nil] at q
        exact hR _ _ (post_same (d := .tup ds) sh m ⟨a, xs, rfl, h1, h2⟩ q)
    · obtain ⟨hl, q⟩ := hg
      obtain ⟨a, xs, rfl, h1, h2⟩ := rx
      obtain ⟨b, ys, rfl, h3, h4⟩ := ry
      exact .inr ⟨a, b, xs, ys, rfl, rfl, sh _ _ h1, sh _ _ h3, Nat.le_trans (by rw [h2.len, h4.len]; exact hl) (by decide), fun p hp => hR _ _ (post_lst sh m hp (h2.append h4) q)⟩
  | sub =>
    refine ⟨_, op_sub, ?_⟩
    intro S M H x y v u Q R sh m rx ry hg hR
    cases x <;> cases y <;> first | exact hg.elim | skip
    exact ⟨_, _, rx, ry, hR _ _ (post_int sh m hg)⟩
  | mul =>
    refine ⟨_, ((opr_or op_mul op_mulW).or op_rep).or (op_repT.or op_rep1), ?_⟩
    intro S M H x y v u Q R sh m rx ry hg hR
    cases x <;> cases y <;> first | exact hg.elim | skip
    · exact .inl (.inl ⟨_, _, rx, ry, hg.1, hR _ _ (post_int sh m hg.2)⟩)
    · obtain ⟨hne, h1, h1000, hl, q⟩ := hg
      rename_i ds k
      obtain ⟨a, xs, rfl, hq, h2⟩ := rx
      by_cases hk : k = 1
      · subst hk
        refine .inr (.inr ⟨a, xs, rfl, ry, Same.tup sh hq, ?_⟩)
        refine hR _ _ (post_same (d := .tup (List.replicate (1 : Int).toNat ds).flatten) sh m ⟨a, xs, rfl, hq, ?_⟩ q)
        show Reps X.K S (ds ++ []) xs
        rw [List.append_nil]; exact h2
      · exact .inr (.inl ⟨a, k, xs, rfl, ry, Same.tup sh hq, fun e => hne (List.eq_nil_of_length_eq_zero (by rw [← h2.len, e]; rfl)), by omega, h1000, by rw [h2.len]; exact hl, fun p hp => hR _ _ (post_tup sh m hp (reps_rep h2 _) q)⟩)
    · obtain ⟨hk, hk0, hl, q⟩ := hg
      obtain ⟨a, xs, rfl, h1, h2⟩ := rx
      exact .inl (.inr ⟨a, _, xs, rfl, ry, sh _ _ h1, by omega, by omega, Nat.le_trans (by rw [h2.len]; exact hl) (by decide), fun p hp => hR _ _ (post_lst sh m hp (reps_rep h2 _) q)⟩)
  | addM =>
    refine ⟨_, op_cat, ?_⟩
    intro S M H x y v u Q R sh m rx ry hg hR
    cases x <;> cases y <;> first | exact hg.elim | skip
    obtain ⟨hl, q⟩ := hg
    obtain ⟨a, xs, rfl, h1, h2⟩ := rx
    obtain ⟨b, ys, rfl, h3, h4⟩ := ry
    exact ⟨a, b, xs, ys, rfl, rfl, sh _ _ h1, sh _ _ h3, Nat.le_trans (by rw [h2.len, h4.len]; exact hl) (by decide), fun p hp => hR _ _ (post_cell sh m hp (h2.append h4) (q p (m.free hp)))⟩
  | mulM =>
    refine ⟨_, op_rep, ?_⟩
    intro S M H x y v u Q R sh m rx ry hg hR
    cases x <;> cases y <;> first | exact hg.elim | skip
    obtain ⟨hk, hk0, hl, q⟩ := hg
    obtain ⟨a, xs, rfl, h1, h2⟩ := rx
    exact ⟨a, _, xs, rfl, ry, sh _ _ h1, by omega, by omega, Nat.le_trans (by rw [h2.len]; exact hl) (by decide), fun p hp => hR _ _ (post_cell sh m hp (reps_rep h2 _) (q p (m.free hp)))⟩
  | div =>
    refine ⟨_, opr_or op_fdiv op_fdivW, ?_⟩
    intro S M H x y v u Q R sh m rx ry hg hR
    cases x <;> cases y <;> first | exact hg.elim | skip
    exact ⟨_, _, rx, ry, hg.1, hR _ _ (post_int sh m hg.2)⟩
  | mod =>
    refine ⟨_, op_mod, ?_⟩
    intro S M H x y v u Q R sh m rx ry hg hR
    cases x <;> cases y <;> first | exact hg.elim | skip
    exact ⟨_, _, rx, ry, hg.1, hR _ _ (post_int sh m hg.2)⟩
  | modN =>
    refine ⟨_, op_modN, ?_⟩
    intro S M H x y v u Q R sh m rx ry hg hR
    cases x <;> cases y <;> first | exact hg.elim | skip
    exact ⟨_, _, rx, ry, hg.1, hR _ _ (post_int sh m hg.2)⟩
  | pow =>
    refine ⟨_, op_pow, ?_⟩
    intro S M H x y v u Q R sh m rx ry hg hR
    cases x <;> cases y <;> first | exact hg.elim | skip
    exact ⟨_, _, rx, ry, hg.1, hR _ _ (post_int sh m hg.2)⟩
theorem wCmp_eq {x y : D} {M : Mem} {Q : QD} (h : wCmp .eq x y M Q) : gI0 (fun i j => .bl (decide (i = j))) x y M Q ∨ gEqM false x y M Q := by
  cases x <;> cases y <;> first | exact .inl ⟨_, _, rfl, rfl, h⟩ | exact .inr h
theorem wCmp_ne {x y : D} {M : Mem} {Q : QD} (h : wCmp .ne x y M Q) : gI0 (fun i j => .bl (decide (i ≠ j))) x y M Q ∨ gEqM true x y M Q := by
  cases x <;> cases y <;> first | exact .inl ⟨_, _, rfl, rfl, h⟩ | exact .inr h
theorem wCmp_lt {x y : D} {M : Mem} {Q : QD} (h : wCmp .lt x y M Q) : gI0 (fun i j => .bl (decide (i < j))) x y M Q ∨ gOrd (fun d e => dataLt d e) x y M Q := by
  cases x <;> cases y <;> first | exact .inl ⟨_, _, rfl, rfl, h⟩ | exact .inr h
theorem wCmp_gt {x y : D} {M : Mem} {Q : QD} (h : wCmp .gt x y M Q) : gI0 (fun i j => .bl (decide (j < i))) x y M Q ∨ gOrd (fun d e => dataLt e d) x y M Q := by
  cases x <;> cases y <;> first | exact .inl ⟨_, _, rfl, rfl, h⟩ | exact .inr h
theorem op_wCmp (hu : X.A.units + 65 < cLine) (o : CO) : ∃ r : R2, OpR X (compareOp o.op) r ∧ D2 X.K r (wCmp o) := by
  cases o with
  | lt => exact ⟨_, op_lt.or (op_ltD (by omega)), D2.or d2_bool0 d2_ord fun _ _ _ _ => wCmp_lt⟩
  | gt => exact ⟨_, op_gt.or (op_gtD (by omega)), D2.or d2_bool0 d2_ord fun _ _ _ _ => wCmp_gt⟩
  | le =>
    refine ⟨_, op_le, ?_⟩
    intro S M H x y v u Q R sh m rx ry hg hR
    cases x <;> cases y <;> first | exact hg.elim | skip
    exact ⟨_, _, rx, ry, hR _ _ (post_bl sh m hg)⟩
  | ge =>
    refine ⟨_, op_ge, ?_⟩
    intro S M H x y v u Q R sh m rx ry hg hR
    cases x <;> cases y <;> first | exact hg.elim | skip
    exact ⟨_, _, rx, ry, hR _ _ (post_bl sh m hg)⟩
  | eq => exact ⟨_, op_eq.or (op_eqD (by omega)), D2.or d2_eqI (d2_eqM (neg := false) rfl) fun _ _ _ _ => wCmp_eq⟩
  | ne => exact ⟨_, op_ne.or (op_neD (by omega)), D2.or d2_neI (d2_eqM (neg := true) rfl) fun _ _ _ _ => wCmp_ne⟩
  | in_ => exact op_inM hu
  | nin => exact op_ninM hu
theorem e_wOp (o : BO) (h : E X PX a env M fun x M1 => E X PX b env M1 fun y M2 => wOp o x y M2 Q) : E X PX (.BinOp a o.op b pos) env M Q := by
  obtain ⟨r, h1, h2⟩ := op_wOp (X := X) o
  exact e_op h1 h2 h
theorem e_wCmp (hu : X.A.units + 65 < cLine) (o : CO) (h : E X PX a env M fun x M1 => E X PX b env M1 fun y M2 => wCmp o x y M2 Q) (hb : nSet b = true) : E X PX (.Compare a [o.op] [b] pos) env M Q := by
  obtain ⟨r, h1, h2⟩ := op_wCmp hu o
  exact e_cmp h1 h2 h (nset_c hb)
theorem t_wCmp {Q : Bool → Mem → Prop} (hu : X.A.units + 65 < cLine) (o : CO) (h : E X PX a env M fun x M1 => E X PX b env M1 fun y M2 => wCmp o x y M2 fun d M3 => ∃ k, d = .bl k ∧ Q k M3) (hb : nSet b = true) : T X PX (.Compare a [o.op] [b] pos) env M Q := by
  obtain ⟨r, h1, h2⟩ := op_wCmp hu o
  exact t_cmp h1 h2 h (nset_c hb)
theorem op_cmpI {o : CO} (h : o.ord = true) : OpR X (compareOp o.op) (rI0 fun i j => .bl (cmpI o i j)) := by
  cases o <;> first | exact op_lt | exact op_le | exact op_gt | exact op_ge | cases h
theorem wOp_mono {o : BO} {x y : D} {M : Mem} {Q Q' : QD} (h : wOp o x y M Q) (k : ∀ d M, Q d M → Q' d M) : wOp o x y M Q' := by
  cases o <;> cases x <;> cases y <;> first
    | exact h.elim
    | exact k _ _ h
    | exact ⟨h.1, k _ _ h.2⟩
    | exact ⟨h.1, fun p hp => k _ _ (h.2 p hp)⟩
    | exact ⟨h.1, h.2.1, h.2.2.1, fun p hp => k _ _ (h.2.2.2 p hp)⟩
    | exact ⟨h.1, h.2.1, h.2.2.1, k _ _ h.2.2.2⟩
    | exact ⟨h.1, h.2.1, h.2.2.1, h.2.2.2.1, k _ _ h.2.2.2.2⟩
theorem gOrd_mono {f : PyData → PyData → Bool} {x y : D} {M : Mem} {Q Q' : QD} (h : gOrd f x y M Q) (k : ∀ d M, Q d M → Q' d M) : gOrd f x y M Q' := ⟨h.1, h.2.1, h.2.2.1, h.2.2.2.1, k _ _ h.2.2.2.2⟩
theorem gEq_mono {f : Bool} {x y : D} {M : Mem} {Q Q' : QD} (h : gEq f x y M Q) (k : ∀ d M, Q d M → Q' d M) : gEq f x y M Q' := ⟨h.1, h.2.1, k _ _ h.2.2⟩
theorem rsv_mono {x : D} {M : Mem} {k k' : D → Prop} (h : rsv x M k) (hk : ∀ d, k d → k' d) : rsv x M k' := by
  cases x with
  | ref a => obtain ⟨ds, h1, h2⟩ := h; exact ⟨ds, h1, hk _ h2⟩
  | _ => exact hk _ h
theorem wSeqL_mono {x : D} {M : Mem} {k k' : List D → Prop} (h : wSeqL x M k) (hk : ∀ d, k d → k' d) : wSeqL x M k' := by
  cases x with
  | ref a => obtain ⟨ds, h1, h2⟩ := h; exact ⟨ds, h1, hk _ h2⟩
  | lst ds => exact hk _ h
  | rol ds => exact hk _ h
  | _ => exact h.elim
theorem gEqM_mono {f : Bool} {x y : D} {M : Mem} {Q Q' : QD} (h : gEqM f x y M Q) (k : ∀ d M, Q d M → Q' d M) : gEqM f x y M Q' := rsv_mono h fun _ h => rsv_mono h fun _ h => gEq_mono h k
theorem gInM_mono {f : Bool} {x y : D} {M : Mem} {Q Q' : QD} (h : gInM f x y M Q) (k : ∀ d M, Q d M → Q' d M) : gInM f x y M Q' := by
  cases y with
  | tup ds => exact ⟨h.1, h.2.1, k _ _ h.2.2⟩
  | lst ds => exact ⟨h.1, h.2.1, k _ _ h.2.2⟩
  | rol ds => exact ⟨h.1, h.2.1, k _ _ h.2.2⟩
  | ref a =>
    obtain ⟨ds, hm, h⟩ := h
    exact ⟨ds, hm, h.1, h.2.1, k _ _ h.2.2⟩
  | _ => exact h.elim
theorem gIn_mono {f : Bool} {x y : D} {M : Mem} {Q Q' : QD} (h : gIn f x y M Q) (k : ∀ d M, Q d M → Q' d M) : gIn f x y M Q' := by
  obtain ⟨ds, h1, h2, h3, h4⟩ := h
  exact ⟨ds, h1, h2, h3, k _ _ h4⟩
theorem wCmp_mono {o : CO} {x y : D} {M : Mem} {Q Q' : QD} (h : wCmp o x y M Q) (k : ∀ d M, Q d M → Q' d M) : wCmp o x y M Q' := by
  cases o with
  | in_ => exact gInM_mono (f := false) h k
  | nin => exact gInM_mono (f := true) h k
  | lt => cases x <;> cases y <;> first | exact k _ _ h | exact gOrd_mono (f := fun d e => dataLt d e) h k
  | gt => cases x <;> cases y <;> first | exact k _ _ h | exact gOrd_mono (f := fun d e => dataLt e d) h k
  | eq => cases x <;> cases y <;> first | exact k _ _ h | exact gEqM_mono (f := false) h k
  | ne => cases x <;> cases y <;> first | exact k _ _ h | exact gEqM_mono (f := true) h k
  | _ => cases x <;> cases y <;> first | exact h.elim | exact k _ _ h
/-! ### calls of built-ins -/
theorem starE {l : List Expr} (h : ∀ e ∈ l, nSt e = true) (hne : l = e :: es) : starEach (e :: es) X.env = (false, eval e X.env) :: starEach es X.env := star_c (h e (by rw [hne]; exact List.mem_cons_self))
theorem e_wLen (hm : X.mg "len" = none) (h : E X PX e env M fun d M1 => wB1 .len d M1 Q) (hg : Gl X "len") (hn : nSt e = true) : E X PX (.Call (.Name "len" p) [e] [] pos) env M Q :=
  e_len hm (h.imp fun d M1 q => by
    cases d with
    | tup ds => exact ⟨_, .tup ds, q⟩
    | lst ds => exact ⟨_, .lst ds, q⟩
    | rol ds => exact ⟨_, .rol ds, q⟩
    | str z => exact ⟨_, .str z q.1, q.2⟩
    | ref a => obtain ⟨ds, h1, h2⟩ := q; exact ⟨_, .cell h1, h2⟩
    | _ => exact q.elim) hg (star_c hn) rfl
theorem e_wAbs (hm : X.mg "abs" = none) (h : E X PX e env M fun d M1 => wB1 .abs d M1 Q) (hg : Gl X "abs") (hn : nSt e = true) : E X PX (.Call (.Name "abs" p) [e] [] pos) env M Q :=
  e_abs hm (h.imp fun d M1 q => by
    cases d <;> first | exact ⟨_, rfl, q⟩ | exact q.elim) hg (star_c hn) rfl
theorem e_wInt (hm : X.mg "int" = none) (h : E X PX e env M fun d M1 => wB1 .int d M1 Q) (hg : Gl X "int") (hn : nSt e = true) : E X PX (.Call (.Name "int" p) [e] [] pos) env M Q :=
  e_intI hm (h.imp fun d M1 q => by
    cases d <;> first | exact .inl ⟨_, rfl, q⟩ | exact .inr ⟨_, rfl, q⟩ | exact q.elim) hg (star_c hn) rfl
theorem e_wTuple (hm : X.mg "tuple" = none) (h : E X PX e env M fun d M1 => wB1 .tuple d M1 Q) (hg : Gl X "tuple") (hn : nSt e = true) : E X PX (.Call (.Name "tuple" p) [e] [] pos) env M Q :=
  e_tuple hm (h.imp fun d M1 q => by
    cases d with
    | tup ds => exact .inl ⟨_, .inr rfl, q⟩
    | lst ds => exact .inl ⟨_, .inl rfl, q⟩
    | ref a => obtain ⟨ds, h1, h2⟩ := q; exact .inr ⟨_, ds, rfl, h1, h2⟩
    | _ => exact q.elim) hg (star_c hn) rfl
theorem e_wB1 (hc : X.calm = true) (hu : X.A.units + 65 < cLine) {o : B1} (hm : X.mg o.nm = none) (h : E X PX e env M fun d M1 => wB1 o d M1 Q) (hg : Gl X o.nm) (hn : nSt e = true) : E X PX (.Call (.Name o.nm p) [e] [] pos) env M Q := by
  cases o with
  | len => exact e_wLen hm h hg hn
  | abs => exact e_wAbs hm h hg hn
  | int => exact e_wInt hm h hg hn
  | tuple => exact e_wTuple hm h hg hn
  | list => exact e_listOf hm (h.imp fun d M1 q => wSeq_e q) hg (star_c hn) rfl
  | listM => exact e_listM hm (h.imp fun d M1 q => wSeq_e q) hg (star_c hn) rfl
  | sortI => exact e_sortDI hc hm h hg (star_c hn) rfl
  | sum => exact e_sumL hc hm h hg (star_c hn)
  | maxI => exact e_maxL hc hm h hg (star_c hn)
  | minI => exact e_minL hc hm h hg (star_c hn)
  | any => exact e_anyL hc hm h hg (star_c hn)
  | all => exact e_allL hc hm h hg (star_c hn)
  | minD => exact e_minDL hc hu hm h hg (star_c hn)
  | maxD => exact e_maxDL hc hu hm h hg (star_c hn)
theorem tyN_is {t : TyN} {d : D} {b : Bool} (h : t.is d = some b) : ∃ tn, d.tyn = some tn ∧ kitB tn t.ty = some b := by
  cases t <;> cases d <;> first | (cases h; done) | (cases h; exact ⟨_, rfl, by decide +kernel⟩)
theorem e_wIsi {t : TyN} {p2 : Pos} (hm : X.mg "isinstance" = none) (hmn : X.mg t.nm = none) (h : E X PX a env M fun x M1 => match t.is x with | some b => Q (.bl b) M1 | none => False) (hg : Gl X "isinstance") (hgn : Gl X t.nm) (hn : nSt a = true) :
    E X PX (.Call (.Name "isinstance" p) [a, .Name t.nm p2] [] pos) env M Q := by
  have h' : E X PX a env M fun d M1 => ∃ tn b, d.tyn = some tn ∧ kitB tn t.ty = some b ∧ Q (.bl b) M1 := h.imp fun d M1 q => by
    cases e : t.is d with
    | none => rw [e] at q; exact q.elim
    | some b =>
      rw [e] at q
      obtain ⟨tn, h1, h2⟩ := tyN_is e
      exact ⟨tn, b, h1, h2, q⟩
  cases t <;> exact e_isi hm hmn (by decide +kernel) h' hg hgn (by decide) (by decide) (star_c hn) rfl rfl
/-! ### subscripts -/
theorem e_wIx (h : E X PX a env M fun x M1 => E X PX b env M1 fun y M2 => wIx x y M2 Q) (hs : PlainIx b) : E X PX (.Subscript a b pos) env M Q :=
  e_sub' (h.imp fun x M1 hb => hb.imp fun y M2 q => by
    cases y with
    | int i =>
      cases x with
      | tup ds => obtain ⟨d, h1, h2⟩ := wSome_e q; exact ⟨i, d, rfl, h2, .inl ⟨ds, rfl, h1⟩⟩
      | lst ds => obtain ⟨d, h1, h2⟩ := wSome_e q; exact ⟨i, d, rfl, h2, .inr (.inl ⟨ds, .inl rfl, h1⟩)⟩
      | rol ds => obtain ⟨d, h1, h2⟩ := wSome_e q; exact ⟨i, d, rfl, h2, .inr (.inl ⟨ds, .inr rfl, h1⟩)⟩
      | ref a =>
        obtain ⟨ds, hm, q⟩ := q
        obtain ⟨d, h1, h2⟩ := wSome_e q; exact ⟨i, d, rfl, h2, .inr (.inr ⟨a, ds, rfl, hm, h1⟩)⟩
      | _ => exact q.elim
    | _ => exact q.elim) hs
theorem e_wDg (hu : X.A.units + 1 < cLine) (h : E X PX a env M fun x M1 => E X PX b env M1 fun y M2 => wDg x y M2 Q) (hs : NoSl b) : E X PX (.Subscript a b pos) env M Q :=
  e_dget hu (h.imp fun x M1 hb => hb.imp fun y M2 q => by
    cases x with
    | ref a =>
      obtain ⟨kvs, k, h1, h2, h3⟩ := q
      obtain ⟨d, h4, h5⟩ := wSome_e h3
      exact ⟨a, kvs, k, d, rfl, h2, h1, h4, h5⟩
    | _ => exact q.elim) hs
theorem e_wSl {lo hi : Option Expr} (h : E X PX e env M fun x M1 => O X PX lo env M1 fun l M2 => O X PX hi env M2 fun u M3 => wCut x l u M3 Q) : E X PX (.Subscript e (.Slice lo hi none p) pos) env M Q :=
  e_sl (g := fun x l u M Q => wCut x l u M Q) (sl_tupA.or sl_list) (by
    intro S M H x v l u Q R sh m rx q hR
    cases x with
    | tup ds =>
      obtain ⟨a, xs, rfl, h1, h2⟩ := rx
      refine .inl ⟨a, xs, rfl, Same.tup sh h1, fun hw => ?_, fun _ p hp => hR _ _ (post_tup sh m hp (reps_cut h2 l u) q)⟩
      have q : Q (.tup (cut ds l u)) M := q
      rw [h2.len] at hw
      rw [cut_whole hw] at q
      exact hR _ _ (post_same (d := .tup ds) sh m ⟨a, xs, rfl, h1, h2⟩ q)
    | lst ds => obtain ⟨a, xs, rfl, h1, h2⟩ := rx; exact .inr ⟨a, xs, rfl, SqL.of (sh _ _ h1), fun p hp => hR _ _ (post_lst sh m hp (reps_cut h2 l u) q)⟩
    | rol ds => obtain ⟨a, xs, rfl, h1, h2⟩ := rx; exact .inr ⟨a, xs, rfl, Same.seq sh h1, fun p hp => hR _ _ (post_lst sh m hp (reps_cut h2 l u) q)⟩
    | ref a =>
      obtain ⟨ds, hm, q⟩ := q
      obtain ⟨_, xs, h1, h2⟩ := m _ _ hm
      exact .inr ⟨a, xs, rx, SqL.of h1, fun p hp => hR _ _ (post_lst sh m hp (reps_cut h2 l u) q)⟩
    | _ => exact q.elim) h
theorem e_wFrz (h : E X PX e env M fun x M1 => wFrz x M1 Q) : E X PX e env M Q :=
  E.freeze (h.imp fun x M1 q => by
    cases x with
    | ref a => obtain ⟨ds, h1, h2⟩ := q; exact .inr ⟨a, ds, rfl, h1, h2⟩
    | _ => exact .inl q)
/-! ### calls of a method -/
theorem few_c {env : Env} (h : ∀ e ∈ es, nSt e = true) (hl : es.length < 30) : methodCallForm (es.length + ([] : List Keyword).length) (backTo pos (starEach es env)) (backToKw pos (keywordEach [] env)) = true := by
  unfold methodCallForm
  rw [all_star h]
  show (true && decide (es.length + 0 + 0 < 30)) = true
  rw [decide_eq_true (by omega)]; rfl
theorem meth_c {env : Env} (h : ∀ e ∈ es, nSt e = true) (hl : es.length < 30) (hline : (apos.endLine == pos.line) = true) (hb : attributeBase o m env (eval o env) = eval o env) :
    eval (.Call (.Attribute o m apos) es [] pos) env = (do
      let ov ← eval o env
      standAt apos.atName
      let (f, first) ← holding [ov] (getMethod ov m (do return (← importBound o env).getD true))
      callWith pos f first (backTo pos (starEach es env)) (backToKw pos (keywordEach [] env))) := by
  show (do
    let ov ← attributeBase o m env (eval o env)
    standAt apos.atName
    methodCall o m apos pos env ov (es.length + ([] : List Keyword).length) (backTo pos (starEach es env)) (backToKw pos (keywordEach [] env))) = _
  rw [hb]
  unfold methodCall calleeOf methodCallPos
  rw [few_c h hl, hline]
  rfl
end
end DL

/-! W4: expressions by small terms -/
namespace DL
open PySem L2
open PySem.W (alike dataLt)
/-- where a small term runs -/
structure Rt (Gn : Gs') (Γ : Gm) (j : Nat) (N : List Str) (fa : Str → Bool) (sc : Scope) (X : Cx) : Prop where
  sc : X.env.scope = sc
  nm : X.N = N
  told : fa "" = true → ∀ x, Gn.told = some x → Room (j + 2) X.A ∧ ∃ (P : Addr) (q : Str) (c : Addr), Γ.tb = some (P, q) ∧ Teller X x j Γ.tr q ∧ LamX.TabB X.base X.mg c P ∧ X.env.code = .ref c ∧ X.env.qual ++ "<lambda>" = q
  fa : ∀ x, fa x = true → X.fn x = true
  calm : X.calm = true
  room : Room j X.A
  bi : ∀ x ∈ Gn.bi, X.mg x = none
  gl : ∀ (k : Nat) x, Gn.gl[k]? = some x → ∃ i, Γ.gl[k]? = some i ∧ ∃ u, X.mg x = some u ∧ RelV (.int i) u
  df : ∀ (k : Nat) x, Gn.df[k]? = some x → ∃ sp, Γ.df[k]? = some sp ∧ ∃ l, l ≤ j ∧ Def X.prog X.w X.K X.mg X.base x l sp
  ms : ∀ (k : Nat) m, Gn.ms[k]? = some m → ∃ C sp, Γ.ms[k]? = some (C, m, sp) ∧ Cls X.K C ∧ ∃ l, l ≤ j ∧ MDef X.prog X.w X.K X.mg X.base C m l sp
  cs : ∀ (k : Nat) x, Gn.cs[k]? = some x → ∃ C sp, Γ.cs[k]? = some (C, sp) ∧ ∃ l, l + 1 ≤ j ∧ CDef X.prog X.w X.K X.mg X.base x C l sp
  fd : ∀ C f, Γ.fd C f → Cls X.K C ∧ NoAttr X.K C f
  gn : ∀ (k : Nat) x, Gn.gn[k]? = some x → ∃ sp, Γ.gn[k]? = some sp ∧ ∃ l, l + 3 ≤ j ∧ GDef X.prog X.w X.K X.mg X.base x l sp
  kw : ∀ (k : Nat) q, Gn.kw[k]? = some q → ∃ sp, Γ.kw[k]? = some sp ∧ ∃ l, l ≤ j ∧ KDef X.prog X.w X.K X.mg X.base q.1 q.2.1 q.2.2 l sp
  rs : ∀ (k : Nat) x, Gn.rs[k]? = some x → ∃ C, Γ.rs[k]? = some C ∧ RCl X.K X.mg x C
theorem Rt.blk {Gn : Gs'} {Γ : Gm} {j : Nat} {N : List Str} {fa : Str → Bool} {sc : Scope} {X : Cx} (R : Rt Gn Γ j N fa sc X) (s : Shared) (H : Hp) (scope : Scope) (C : Addr) (cl : List (Str × Addr)) (fp : List Addr) :
    Rt Gn Γ j N (cellF scope) (relS scope sc) (X.blk s H scope (compEnvC scope cl C X.env) fp) :=
  ⟨by rw [← R.sc]; rfl, R.nm, (fun z => by simp [cellF] at z), (fun x h => (Bool.and_eq_true _ _ ▸ h : _ ∧ _).2), R.calm, R.room, R.bi, R.gl, R.df, R.ms, R.cs, R.fd, R.gn, R.kw, R.rs⟩
theorem Rt.lam {Gn : Gs'} {Γ : Gm} {j : Nat} {N : List Str} {fa : Str → Bool} {sc : Scope} {X : Cx} (R : Rt Gn Γ j N fa sc X) {A : Around} {outer : List PySem.Env} {s : Shared} {H : Hp} {Ex : XK} {scope : Scope} {f c' : Addr} (hr : Room j (A.deeper (LamX.lamEnv X scope s.heap.objs.size f c'))) :
    Rt Gn Γ j N noF scope (LamX.lamCx X A outer s H Ex scope f c') :=
  ⟨rfl, R.nm, (fun z => nomatch z), (fun x h => nomatch h), rfl, hr, R.bi, R.gl, R.df, R.ms, R.cs, R.fd, R.gn, R.kw, R.rs⟩
section
variable {Gn : Gs'} {Γ : Gm} {j : Nat} {N : List Str} {fa : Str → Bool} {sc : Scope} {X : Cx} {PX : PXT} {M : Mem} {env : Vs}
theorem Rt.hu (R : Rt Gn Γ j N fa sc X) : X.A.units + 64 < cLine := hu64 R.room
theorem Rt.hu5 (R : Rt Gn Γ j N fa sc X) : X.A.units + 65 < cLine := by have := R.room.un; omega
theorem Rt.hu1 (R : Rt Gn Γ j N fa sc X) : X.A.units + 1 < cLine := DL.hu1 R.room
theorem Rt.glb (R : Rt Gn Γ j N fa sc X) {x : Str} (h : glB sc x = true) : Gl X x ∧ (x == ("__debug__" : Str)) = false := by
  unfold glB at h
  rw [Bool.and_eq_true, Bool.not_eq_true'] at h
  refine ⟨?_, h.2⟩
  have h1 := h.1
  show X.env.scope.names.lookup x = some .globalImplicit
  rw [R.sc]
  split at h1
  · assumption
  · cases h1
theorem Rt.nmi (R : Rt Gn Γ j N fa sc X) {x n : Str} (h : nmI Gn sc x n = true) : x = n ∧ Gl X n ∧ X.mg n = none := by
  unfold nmI at h
  simp only [Bool.and_eq_true, decide_eq_true_eq] at h
  exact ⟨h.1.1, (R.glb h.1.2).1, R.bi _ h.2⟩
theorem zip_len {N : List Str} {env : Vs} (h : (N.zip env).map (·.1) = N) : N.length ≤ env.length := by
  have := congrArg List.length h
  rw [List.length_map, List.length_zip] at this
  omega
theorem at_zip : ∀ {N : List Str} {env : Vs} {i : Nat} {x : Str} {d : D}, N[i]? = some x → env[i]? = some (some d) → At (N.zip env) x d
  | [], _, i, _, _, h, _ => by simp at h
  | _ :: _, [], i, _, _, _, h => by simp at h
  | n :: N, o :: env, 0, x, d, h, h2 => by
    simp at h h2; subst h h2
    exact .here
  | n :: N, o :: env, i + 1, x, d, h, h2 => .there (at_zip (i := i) (by simpa using h) (by simpa using h2))
theorem put_zip : ∀ {N : List Str} {env : Vs} {i : Nat} {x : Str} (d : D), N[i]? = some x → i < env.length → Put (N.zip env) x d (N.zip (env.set i (some d)))
  | [], _, i, _, _, h, _ => by simp at h
  | _ :: _, [], i, _, _, _, h => by simp at h
  | n :: N, o :: env, 0, x, d, h, h2 => by
    simp at h; subst h
    exact .here
  | n :: N, o :: env, i + 1, x, d, h, h2 => .there (put_zip (i := i) d (by simpa using h) (by simpa using h2))
theorem drop_zip : ∀ {N : List Str} {env : Vs} {i : Nat} {x : Str}, N[i]? = some x → i < env.length → Drop (N.zip env) x (N.zip (env.set i none))
  | [], _, i, _, h, _ => by simp at h
  | _ :: _, [], i, _, _, h => by simp at h
  | n :: N, o :: env, 0, x, h, h2 => by
    simp at h; subst h
    exact .here
  | n :: N, o :: env, i + 1, x, h, h2 => .there (drop_zip (i := i) (by simpa using h) (by simpa using h2))
theorem lk_e {env : Vs} {i : Nat} {d : D} (h : lk env i = some d) : env[i]? = some (some d) := by
  unfold lk at h
  split at h
  · cases h; assumption
  · cases h
theorem wipeV_len : ∀ (env : Vs) (own : List Nat), (wipeV env own).length = env.length
  | env, [] => rfl
  | env, i :: is => by unfold wipeV; rw [List.length_set, wipeV_len env is]
theorem drops_zip {N : List Str} {env : Vs} (hl : N.length ≤ env.length) : ∀ {own : List Nat}, (∀ p ∈ ownOf N own, N[p.2]? = some p.1) → Drops (N.zip env) ((ownOf N own).map (·.1)) (N.zip (wipeV env own))
  | [], _ => .nil
  | i :: is, h => by
    have h0 := h (N.getD i "", i) (by unfold ownOf; exact List.mem_cons_self)
    have hi : i < N.length := (List.getElem?_eq_some_iff.mp h0).1
    exact .cons (drops_zip hl fun p hp => h p (by unfold ownOf at hp ⊢; exact List.mem_cons_of_mem _ hp)) (drop_zip h0 (by rw [wipeV_len]; omega))
/-! ### targets -/
theorem Ok.ln {S : Hp} {σ : St} {H : Hp} (R : Rt Gn Γ j N fa sc X) (ok : Ok X S (N.zip env) M σ H) : N.length ≤ env.length := zip_len (by rw [ok.nm, R.nm])
theorem fn_of (R : Rt Gn Γ j N fa sc X) {x : Str} (h : locB fa sc x = true) : X.fn x = true ∨ X.env.scope.names.lookup x = some .local := by
  rw [R.sc]
  unfold locB at h
  split at h
  · exact .inr ‹_›
  · exact .inl (R.fa x h)
  · cases h
theorem nst_tgs : ∀ {t : Tgs} {es : List Expr}, chkTgs N fa sc t es = true → ∀ e ∈ es, nSt e = true
  | .nil, [], _ => fun e he => nomatch he
  | .nil, _ :: _, h => nomatch h
  | .cons _ _, [], h => nomatch h
  | .cons a as, e :: es, h => by
    unfold chkTgs at h
    rw [Bool.and_eq_true] at h
    intro x hx
    rcases List.mem_cons.mp hx with rfl | hx
    · exact nst_tg h.1
    · exact nst_tgs h.2 x hx
theorem asg_len {es : List Expr} {env : PySem.Env} (h : ∀ e ∈ es, nSt e = true) : (assignEach es env).length = es.length := by
  induction es with
  | nil => rfl
  | cons e es ih => rw [asg_c (h e List.mem_cons_self), List.length_cons, List.length_cons, ih fun x hx => h x (List.mem_cons_of_mem _ hx)]
theorem asg_idx {es : List Expr} {env : PySem.Env} (h : ∀ e ∈ es, nSt e = true) : (assignEach es env).findIdx? (·.1) = none := by
  induction es with
  | nil => rfl
  | cons e es ih =>
    rw [asg_c (h e List.mem_cons_self), List.findIdx?_cons, ih fun x hx => h x (List.mem_cons_of_mem _ hx)]
    rfl
mutual
theorem snd_tgs_len : ∀ (t : Tgs) {es : List Expr} {ds : List D} {env : Vs} {Q : Vs → Prop}, chkTgs N fa sc t es = true → wTgs t ds env Q → es.length = ds.length
  | .nil, es, ds, env, Q, hc, h => by
    cases es with
    | cons e es => cases hc
    | nil =>
      cases ds with
      | nil => rfl
      | cons d ds => exact h.elim
  | .cons t ts, es, ds, env, Q, hc, h => by
    cases es with
    | nil => cases hc
    | cons e es =>
      unfold chkTgs at hc
      rw [Bool.and_eq_true] at hc
      cases ds with
      | nil => exact h.elim
      | cons d ds =>
        have := snd_tgs_lenT t hc.1 h
        obtain ⟨env1, h1⟩ := this
        rw [List.length_cons, List.length_cons, snd_tgs_len ts hc.2 h1]
theorem snd_tgs_lenT : ∀ (t : Tg) {e : Expr} {d : D} {env : Vs} {Q : Vs → Prop}, chkTg N fa sc t e = true → wTg t d env Q → ∃ env', Q env'
  | .nm i, e, d, env, Q, hc, h => ⟨_, h⟩
  | .tp ts, e, d, env, Q, hc, h => by
    unfold chkTg at hc
    split at hc
    · cases d with
      | tup ds => exact snd_tgs_lenS ts hc h
      | _ => exact h.elim
    · cases hc
theorem snd_tgs_lenS : ∀ (t : Tgs) {es : List Expr} {ds : List D} {env : Vs} {Q : Vs → Prop}, chkTgs N fa sc t es = true → wTgs t ds env Q → ∃ env', Q env'
  | .nil, es, ds, env, Q, hc, h => by
    cases ds with
    | nil => exact ⟨_, h⟩
    | cons d ds => exact h.elim
  | .cons t ts, es, ds, env, Q, hc, h => by
    cases es with
    | nil => cases hc
    | cons e es =>
      unfold chkTgs at hc
      rw [Bool.and_eq_true] at hc
      cases ds with
      | nil => exact h.elim
      | cons d ds =>
        obtain ⟨env1, h1⟩ := snd_tgs_lenT t hc.1 h
        exact snd_tgs_lenS ts hc.2 h1
end
mutual
theorem snd_tg (R : Rt Gn Γ j N fa sc X) : ∀ (t : Tg) {e : Expr} {d : D} {env : Vs} {Q : Vs → Prop} {Q' : Vars → Mem → Prop}, chkTg N fa sc t e = true → wTg t d env Q → (∀ env', Q env' → Q' (N.zip env') M) → G X PX e d (N.zip env) M Q'
  | .nm i, e, d, env, Q, Q', hc, h, hk => by
    unfold chkTg at hc
    split at hc
    · simp only [Bool.and_eq_true, decide_eq_true_eq] at hc
      refine ⟨fun S σ H v ok wi r => (g_name (put_zip d hc.1 ?_) (hk _ h) (by rw [R.sc]; exact loc_of hc.2) (fn_of R hc.2)).run S σ H v ok wi r⟩
      have h1 : i < N.length := (List.getElem?_eq_some_iff.mp hc.1).1
      have h2 := Ok.ln R ok
      omega
    · cases hc
  | .tp ts, e, d, env, Q, Q', hc, h, hk => by
    unfold chkTg at hc
    split at hc
    · rename_i es _ _
      cases d with
      | tup ds =>
        have hh : wTgs ts ds env Q := h
        have hl := snd_tgs_len ts hc hh
        exact g_tup (n := ds.length) ⟨ds, rfl, rfl, snd_tgs R ts hc hh hk⟩ R.calm (by rw [asg_len (nst_tgs hc)]; exact hl) (asg_idx (nst_tgs hc))
      | _ => exact h.elim
    · cases hc
theorem snd_tgs (R : Rt Gn Γ j N fa sc X) : ∀ (t : Tgs) {es : List Expr} {ds : List D} {env : Vs} {Q : Vs → Prop} {Q' : Vars → Mem → Prop}, chkTgs N fa sc t es = true → wTgs t ds env Q → (∀ env', Q env' → Q' (N.zip env') M) → Gs X PX es ds (N.zip env) M Q'
  | .nil, es, ds, env, Q, Q', hc, h, hk => by
    cases es with
    | cons e es => cases hc
    | nil =>
      cases ds with
      | nil => exact gs_nil (hk _ h)
      | cons d ds => exact h.elim
  | .cons t ts, es, ds, env, Q, Q', hc, h, hk => by
    cases es with
    | nil => cases hc
    | cons e es =>
      unfold chkTgs at hc
      rw [Bool.and_eq_true] at hc
      cases ds with
      | nil => exact h.elim
      | cons d ds => exact gs_cons (snd_tg (Q' := fun env1 M1 => Gs X PX es ds env1 M1 Q') R t hc.1 h fun env1 h1 => snd_tgs R ts hc.2 h1 hk) (by rw [asg_c (nst_tg hc.1)]; rfl)
end
/-- a comprehension's targets -/
theorem gw_imp {vs : List (Str × Nat)} {tg : Expr} {d : D} {env : Vars} {Q Q' : Vars → Mem → Prop} (h : Gw X vs tg d env M Q) (k : ∀ e m, Q e m → Q' e m) : Gw X vs tg d env M Q' :=
  ⟨fun S σ H v ok r => semG_mono (h.run S σ H v ok r) fun σ' H' ⟨e, S', env', M', p, o, q⟩ => ⟨e, S', env', M', p, o, k _ _ q⟩⟩
mutual
theorem snd_tw (R : Rt Gn Γ j N fa sc X) {own : List Nat} (ho : ∀ p ∈ ownOf N own, N[p.2]? = some p.1) : ∀ (t : Tg) {e : Expr} {d : D} {env : Vs} {Q : Vs → Prop} {Q' : Vars → Mem → Prop}, t.inB own = true → chkTg N fa sc t e = true → wTg t d env Q → (∀ env', Q env' → Q' (N.zip env') M) → Gw X (ownOf N own) e d (N.zip env) M Q'
  | .nm i, e, d, env, Q, Q', hi, hc, h, hk => by
    unfold chkTg at hc
    split at hc
    · rename_i x _
      simp only [Bool.and_eq_true, decide_eq_true_eq] at hc
      unfold Tg.inB at hi
      have hi := of_decide_eq_true hi
      have hx : (x, i) ∈ ownOf N own := by
        unfold ownOf
        refine List.mem_map.mpr ⟨i, hi, ?_⟩
        rw [List.getD_eq_getElem?_getD, hc.1]; rfl
      refine ⟨fun S σ H v ok r => (gw_name (put_zip d hc.1 ?_) (hk _ h) ⟨i, hx, by rw [R.nm]; exact hc.1⟩ (by rw [R.sc]; exact loc_of hc.2) (fn_of R hc.2)).run S σ H v ok r⟩
      have h1 : i < N.length := (List.getElem?_eq_some_iff.mp hc.1).1
      have h2 := Ok.ln R ok
      omega
    · cases hc
  | .tp ts, e, d, env, Q, Q', hi, hc, h, hk => by
    unfold chkTg at hc
    split at hc
    · rename_i es _ _
      cases d with
      | tup ds =>
        have hh : wTgs ts ds env Q := h
        have hl := snd_tgs_len ts hc hh
        exact gw_tup (n := ds.length) ⟨ds, rfl, rfl, snd_tws R ho ts (by unfold Tg.inB at hi; exact hi) hc hh hk⟩ R.calm (by rw [asg_len (nst_tgs hc)]; exact hl) (asg_idx (nst_tgs hc))
      | _ => exact h.elim
    · cases hc
theorem snd_tws (R : Rt Gn Γ j N fa sc X) {own : List Nat} (ho : ∀ p ∈ ownOf N own, N[p.2]? = some p.1) : ∀ (t : Tgs) {es : List Expr} {ds : List D} {env : Vs} {Q : Vs → Prop} {Q' : Vars → Mem → Prop}, t.inB own = true → chkTgs N fa sc t es = true → wTgs t ds env Q → (∀ env', Q env' → Q' (N.zip env') M) → Gws X (ownOf N own) es ds (N.zip env) M Q'
  | .nil, es, ds, env, Q, Q', hi, hc, h, hk => by
    cases es with
    | cons e es => cases hc
    | nil =>
      cases ds with
      | nil => exact gws_nil (hk _ h)
      | cons d ds => exact h.elim
  | .cons t ts, es, ds, env, Q, Q', hi, hc, h, hk => by
    cases es with
    | nil => cases hc
    | cons e es =>
      unfold chkTgs at hc
      unfold Tgs.inB at hi
      rw [Bool.and_eq_true] at hc hi
      cases ds with
      | nil => exact h.elim
      | cons d ds => exact gws_cons (snd_tw (Q' := fun env1 M1 => Gws X (ownOf N own) es ds env1 M1 Q') R ho t hi.1 hc.1 h fun env1 h1 => snd_tws R ho ts hi.2 hc.2 h1 hk) (by rw [asg_c (nst_tg hc.1)]; rfl)
end
end
end DL

/-! W5: that an expression does what its small term says -/
namespace DL
open PySem L2
open PySem.W (alike dataLt)
/-- a tuple or a list walked -/
def iSeq (K : PySem.W.Frag) (te : TE) : TI := fun σ H R => te σ H fun x H1 => ∃ a, x = .ref a ∧ (((∃ xs, SqT K H1 a xs) ∧ R (Itt K a) H1) ∨ ((∃ xs, SqL K H1 a xs) ∧ R (Itl K a) H1))
theorem pi_seq {X : Cx} {tg l : Expr} {tl : TE} (hl : PE X l tl) : PI X tg l (iSeq X.K tl) := by
  refine ⟨fun pins s σ H R I h => ?_⟩
  refine thn (hl.run pins s σ H _ I h) fun v s1 ⟨x, H1, I1, r1, q1⟩ => ?_
  obtain ⟨a, e, q1⟩ := q1
  subst e
  cases r1
  rcases q1 with ⟨⟨xs, hq⟩, q⟩ | ⟨⟨xs, hq⟩, q⟩
  · obtain ⟨its, rv, p, hz⟩ := I1.tuple hq
    refine wpAny_pyIter_tuple (show s1.heap.IsTuple a its.toArray from p) ?_
    refine ⟨s1.heap.objs.size, [s1.heap.objs.size], _, _, H1, rfl, I1.kept (t' := s1.toks) fun b o e => Heap.get?_push_of_some _ e, turn_tuple a _, ⟨_, Heap.get?_push_size _ rfl, rfl, rfl⟩, fun b hb => ?_, q⟩
    have e : b = s1.heap.objs.size := by simpa using hb
    subst e
    exact I1.fpOk (Nat.le_refl _) (I1.hok.fresh (Nat.le_refl _))
  · obtain ⟨its, rv, p, hz⟩ := I1.list hq
    refine wpAny_pyIter_list p.isList ?_
    refine ⟨s1.heap.objs.size, [s1.heap.objs.size], _, _, H1, rfl, I1.kept (t' := s1.toks) fun b o e => Heap.get?_push_of_some _ e, turn_list a _, ⟨_, Heap.get?_push_size _ rfl, rfl, rfl⟩, fun b hb => ?_, q⟩
    have e : b = s1.heap.objs.size := by simpa using hb
    subst e
    exact I1.fpOk (Nat.le_refl _) (I1.hok.fresh (Nat.le_refl _))
section
variable {X : Cx} {PX : PXT} {env : Vars} {M : Mem} {Q : QD} {pos p apos : Pos} {x : Str} {o : Expr} {m : Str} {pl : Sem Bool}
theorem e_call0 {sp : DSp} {k j : Nat} (F : Def X.prog X.w X.K X.mg X.base x k sp) (hr : Room j X.A) (hk : k ≤ j) (h : sp [] M Q PX) (hg : Gl X x) (hdb : (x == ("__debug__" : Str)) = false) : E X PX (.Call (.Name x p) [] [] pos) env M Q :=
  ⟨fun S σ H ok wi => by
    obtain ⟨f, fd, ps, ⟨sp3, dd, dvs, us, G, hb, hv, hd, hsp⟩, hm, hkp⟩ := F.ex
    refine semE_of (pe_call0 G (hr.mono hk) hg hm hkp hb hv (pass_of (PX := PX) (S := S) (H := H) (M := M) wi) hdb) ?_
    exact lift_of (ds := dd) ok.refl (hd S) (hsp [] M _ _ h)⟩
theorem A.imp {es : List Expr} {Q Q' : List D → Mem → Prop} (h : A X PX es env M Q) (k : ∀ d M, Q d M → Q' d M) : A X PX es env M Q' := ⟨fun S σ H ok wi => semA_mono (h.run S σ H ok wi) fun vs H' ⟨S', ds, M', p, r, q⟩ => ⟨S', ds, M', p, r, k _ _ q⟩⟩
theorem T.imp {e : Expr} {Q Q' : Bool → Mem → Prop} (h : T X PX e env M Q) (k : ∀ d M, Q d M → Q' d M) : T X PX e env M Q' := ⟨fun S σ H ok wi => semT_mono (h.run S σ H ok wi) fun b H' ⟨S', M', p, q⟩ => ⟨S', M', p, k _ _ q⟩⟩
theorem TS'.imp {es : List Expr} {Q Q' : Bool → Mem → Prop} (h : TS' X PX es env M Q) (k : ∀ d M, Q d M → Q' d M) : TS' X PX es env M Q' := ⟨fun S σ H ok wi => semPT_mono (h.run S σ H ok wi) fun b H' ⟨S', M', p, q⟩ => ⟨S', M', p, k _ _ q⟩⟩
theorem I.imp {tg it : Expr} {Q Q' : List D → Mem → Prop} (h : I X PX tg it env M Q) (k : ∀ d M, Q d M → Q' d M) : I X PX tg it env M Q' := ⟨fun S σ H ok wi => semI_mono (h.run S σ H ok wi) fun J H' ⟨S', items, M', p, dl, q⟩ => ⟨S', items, M', p, dl, k _ _ q⟩⟩
theorem O.imp {e : Option Expr} {Q Q' : Option Int → Mem → Prop} (h : O X PX e env M Q) (k : ∀ d M, Q d M → Q' d M) : O X PX e env M Q' := ⟨fun S σ H ok wi => h.bind ok wi fun S' i M' H' p ok' wi' q => ⟨S', M', p, k _ _ q⟩⟩
/-- an iterable from its value -/
theorem i_wSeq {tg it : Expr} {Q' : List D → Mem → Prop} (h : E X PX it env M fun d M1 => match d with
    | .tup ds => Q' ds M1
    | .lst ds => Q' ds M1
    | .rol ds => Q' ds M1
    | .ref a => ∃ ds, M1 a = some (.lst ds) ∧ Q' ds (delM M1 a)
    | _ => False) : I X PX tg it env M Q' := by
  have h2 : E X PX it env M fun d M1 => ∃ ds, (d = .tup ds ∨ d = .lst ds ∨ d = .rol ds) ∧ Q' ds M1 := E.freeze (h.imp fun d M1 q => by
    cases d with
    | tup ds => exact .inl ⟨ds, .inl rfl, q⟩
    | lst ds => exact .inl ⟨ds, .inr (.inl rfl), q⟩
    | rol ds => exact .inl ⟨ds, .inr (.inr rfl), q⟩
    | ref a => obtain ⟨ds, h1, h2⟩ := q; exact .inr ⟨a, ds, rfl, h1, ds, .inr (.inl rfl), h2⟩
    | _ => exact q.elim)
  refine ⟨fun S σ H ok wi => semI_of (pi_seq pe_sem) (h2.bind ok wi fun S1 d M1 v H1 p1 ok1 wi1 r ⟨ds, e, q⟩ => ?_)⟩
  rcases e with rfl | rfl | rfl
  · obtain ⟨a, xs, rfl, hq, rs⟩ := r
    exact ⟨a, rfl, .inl ⟨⟨xs, Same.tup ok1.sh hq⟩, S1, ds, M1, p1, deals_tup hq rs, q⟩⟩
  · obtain ⟨a, xs, rfl, hq, rs⟩ := r
    exact ⟨a, rfl, .inr ⟨⟨xs, Same.seq ok1.sh (SqL.of hq)⟩, S1, ds, M1, p1, deals_list (SqL.of hq) rs, q⟩⟩
  · obtain ⟨a, xs, rfl, hq, rs⟩ := r
    exact ⟨a, rfl, .inr ⟨⟨xs, Same.seq ok1.sh hq⟩, S1, ds, M1, p1, deals_list hq rs, q⟩⟩
theorem e_wFld {Γ : Gm} {e : Expr} {f : Str} (hfd : ∀ C f, Γ.fd C f → Cls X.K C ∧ NoAttr X.K C f) (hb : attributeBase e f X.env (eval e X.env) = eval e X.env)
    (h : E X PX e env M fun x M1 => wRef x fun p => ∃ C fs d, M1 p = some (.ins C fs) ∧ Γ.fd C f ∧ FAt fs f d ∧ Q d M1) : E X PX (.Attribute e f pos) env M Q :=
  ⟨fun S σ H ok wi => semE_of (pe_fld pe_sem hb) (h.bind ok wi fun S1 x M1 v H1 p1 ok1 wi1 r q => by
    obtain ⟨a, e1, C, fs, d, hm, hg, hf, q'⟩ := wRef_e q
    clear q
    subst e1
    obtain ⟨_, dx, gs, h1, h2⟩ := ok1.mem _ _ hm
    obtain ⟨u, h3, h4⟩ := hf.rd h2
    exact ⟨a, C, dx, gs, u, r, h1, (hfd C f hg).1, (hfd C f hg).2, h3, (post_same ok1.sh ok1.mem h4 q').trans p1⟩)⟩
theorem small_tst {Q : Bool → Mem → Prop} {e : Expr} (h : E X PX e env M (tst Q)) (he : nTst e = true) : T X PX e env M Q := t_val (h.imp fun _ _ q => tst_e q) (ist_c he)
end
section
variable {Gn : Gs'} {Γ : Gm} {j : Nat} {N : List Str}
theorem call_wE {fa : Str → Bool} {sc : Scope} {X : Cx} {PX : PXT} {M : Mem} {env : Vs} {Q : QD} {k : Nat} {x : Str} {p pos : Pos} {xs : List Expr} (R : Rt Gn Γ j N fa sc X) (h1 : Gn.df[k]? = some x) (h2 : glB sc x = true) (hn : ∀ e ∈ xs, nSt e = true)
    (h : A X PX xs (N.zip env) M fun ds M1 => match Γ.df[k]? with | some sp => sp ds M1 Q PX | none => False) (h0 : xs = [] → match Γ.df[k]? with | some sp => sp [] M Q PX | none => False) : E X PX (.Call (.Name x p) xs [] pos) (N.zip env) M Q := by
  obtain ⟨hg, hd⟩ := R.glb h2
  obtain ⟨sp, hk, l, hl, D⟩ := R.df k x h1
  rw [hk] at h h0
  cases xs with
  | nil => exact e_call0 D R.room hl (h0 rfl) hg hd
  | cons e es => exact e_call D R.room hl h hg hd (star_c (hn _ List.mem_cons_self)) (plain_star fun e he => hn e (List.mem_cons_of_mem _ he))
theorem meth_wE {fa : Str → Bool} {sc : Scope} {X : Cx} {PX : PXT} {M : Mem} {env : Vs} {Q : QD} {k : Nat} {o : Expr} {m : Str} {p pos : Pos} {xs : List Expr} (R : Rt Gn Γ j N fa sc X) (h1 : Gn.ms[k]? = some m) (hn : ∀ e ∈ xs, nSt e = true) (hb : attributeBase o m X.env (eval o X.env) = eval o X.env) (hl : xs.length < 30) (hline : (p.endLine == pos.line) = true)
    (h : ∀ C sp, Γ.ms[k]? = some (C, m, sp) → E X PX o (N.zip env) M fun x M1 => wRef x fun a => ∃ fs, M1 a = some (.ins C fs) ∧ FNo fs m ∧ A X PX xs (N.zip env) M1 (fun ds M2 => sp (.ref a :: ds) M2 Q PX) ∧ (xs = [] → sp [.ref a] M1 Q PX)) : E X PX (.Call (.Attribute o m p) xs [] pos) (N.zip env) M Q := by
  obtain ⟨C, sp, hk, cl, l, hl', D⟩ := R.ms k m h1
  have h := h C sp hk
  cases xs with
  | nil =>
    exact e_meth0D (pl := do return (← importBound o X.env).getD true) D cl R.room hl' (h.imp fun x M1 q => by
      obtain ⟨a, e1, fs, h1, h2, h3, h4⟩ := wRef_e q
      exact ⟨a, fs, e1, h1, h2, h4 rfl⟩) (meth_c hn hl hline hb)
  | cons e es =>
    exact e_methD (pl := do return (← importBound o X.env).getD true) D cl R.room hl' (h.imp fun x M1 q => by
      obtain ⟨a, e1, fs, h1, h2, h3, h4⟩ := wRef_e q
      exact ⟨a, fs, e1, h1, h2, h3⟩) (star_c (hn _ List.mem_cons_self)) (plain_star fun e he => hn e (List.mem_cons_of_mem _ he)) (meth_c hn hl hline hb)
mutual
theorem snd_e : ∀ (a : IE) {fa : Str → Bool} {sc : Scope} {X : Cx} {PX : PXT} {e : Expr} {env : Vs} {M : Mem} {Q : QD}, Rt Gn Γ j N fa sc X → chkE Gn N fa sc a e = true → wE Γ a env M PX Q → E X PX e (N.zip env) M Q
  | .v i, fa, sc, X, PX, e, env, M, Q, R, hc, h => by
    unfold chkE at hc
    split at hc
    · simp only [Bool.and_eq_true, decide_eq_true_eq, Bool.not_eq_true'] at hc
      obtain ⟨d, h1, h2⟩ := wSome_e h
      exact e_name (at_zip hc.1.1.1 (lk_e h1)) h2 (by rw [R.sc]; exact vis_of hc.1.1.2) hc.1.2 hc.2
    · cases hc
  | .n i, fa, sc, X, PX, e, env, M, Q, R, hc, h => by
    unfold chkE at hc
    split at hc
    · cases of_decide_eq_true hc; exact e_int h
    · cases hc
  | .b i, fa, sc, X, PX, e, env, M, Q, R, hc, h => by
    unfold chkE at hc
    split at hc
    · cases of_decide_eq_true hc; exact e_bl h
    · cases hc
  | .non, fa, sc, X, PX, e, env, M, Q, R, hc, h => by
    unfold chkE at hc
    split at hc
    · exact e_non h
    · cases hc
  | .s i, fa, sc, X, PX, e, env, M, Q, R, hc, h => by
    unfold chkE at hc
    split at hc
    · cases of_decide_eq_true hc; exact e_str h
    · cases hc
  | .gl k, fa, sc, X, PX, e, env, M, Q, R, hc, h => by
    unfold chkE at hc
    split at hc
    · simp only [Bool.and_eq_true, decide_eq_true_eq] at hc
      obtain ⟨i, h1, h2⟩ := R.gl k _ hc.1
      obtain ⟨hg, hd⟩ := R.glb hc.2
      unfold wE at h
      rw [h1] at h
      exact e_globI h2 h hg hd
    · cases hc
  | .op o a b, fa, sc, X, PX, e, env, M, Q, R, hc, h => by
    unfold chkE at hc
    split at hc
    · simp only [Bool.and_eq_true, decide_eq_true_eq] at hc
      obtain ⟨⟨h1, h2⟩, h3⟩ := hc
      subst h1
      exact e_wOp o ((snd_e a R h2 h).imp fun x M1 q => snd_e b R h3 q)
    · cases hc
  | .cmp o a b, fa, sc, X, PX, e, env, M, Q, R, hc, h => by
    unfold chkE at hc
    split at hc
    · simp only [Bool.and_eq_true, decide_eq_true_eq] at hc
      obtain ⟨⟨⟨h1, h2⟩, h3⟩, h4⟩ := hc
      subst h1
      exact e_wCmp R.hu5 o ((snd_e a R h2 h).imp fun x M1 q => snd_e b R h3 q) h4
    · cases hc
  | .chn o o' a b c, fa, sc, X, PX, e, env, M, Q, R, hc, h => by
    unfold chkE at hc
    split at hc
    · simp only [Bool.and_eq_true, decide_eq_true_eq] at hc
      obtain ⟨⟨⟨⟨⟨⟨h1, h1'⟩, ho⟩, ho'⟩, h2⟩, h3⟩, h4⟩ := hc
      subst h1 h1'
      refine e_chain (op_cmpI ho) (op_cmpI ho') ((snd_e a R h2 h).imp fun x M1 q => (snd_e b R h3 q).imp fun y M2 q => ?_) (by cases o' <;> first | exact nomark _ | cases ho')
      obtain ⟨i, z1, q⟩ := wInt_e q
      obtain ⟨k, z2, q⟩ := wInt_e q
      obtain ⟨q1, q2⟩ := wIf_e q
      exact ⟨i, k, z1, z2, fun z => (snd_e c R h4 (q1 z)).imp fun z M3 q => wInt_e q, q2⟩
    · cases hc
  | .isN a, fa, sc, X, PX, e, env, M, Q, R, hc, h => by
    unfold chkE at hc
    split at hc
    · exact e_isN (snd_e a R hc h)
    · cases hc
  | .notN a, fa, sc, X, PX, e, env, M, Q, R, hc, h => by
    unfold chkE at hc
    split at hc
    · exact e_notN (snd_e a R hc h)
    · cases hc
  | .neg a, fa, sc, X, PX, e, env, M, Q, R, hc, h => by
    unfold chkE at hc
    split at hc
    · exact e_neg ((snd_e a R hc h).imp fun x M1 q => wInt_e q)
    · cases hc
  | .not a, fa, sc, X, PX, e, env, M, Q, R, hc, h => by
    unfold chkE at hc
    split at hc
    · rw [Bool.and_eq_true] at hc
      exact e_not ((snd_e a R hc.2 h).imp fun x M1 q => tst_e q)
    · cases hc
  | .and es, fa, sc, X, PX, e, env, M, Q, R, hc, h => by
    unfold chkE at hc
    split at hc
    · rw [Bool.and_eq_true] at hc
      exact snd_and es R hc.2 h
    · cases hc
  | .or es, fa, sc, X, PX, e, env, M, Q, R, hc, h => by
    unfold chkE at hc
    split at hc
    · rw [Bool.and_eq_true] at hc
      exact snd_or es R hc.2 h
    · cases hc
  | .ite c a b, fa, sc, X, PX, e, env, M, Q, R, hc, h => by
    unfold chkE at hc
    split at hc
    · simp only [Bool.and_eq_true] at hc
      obtain ⟨Q', h1, h2⟩ := h
      refine (e_if ((snd_t c R hc.1.1.1 hc.1.1.2 h1).imp fun t M1 q => ?_)).imp h2
      obtain ⟨q1, q2⟩ := wIf_e q
      exact ⟨fun z => snd_e a R hc.1.2 (q1 z), fun z => snd_e b R hc.2 (q2 z)⟩
    · cases hc
  | .tup es, fa, sc, X, PX, e, env, M, Q, R, hc, h => by
    unfold chkE at hc
    split at hc
    · simp only [Bool.and_eq_true, decide_eq_true_eq] at hc
      exact e_tup ((snd_es es R hc.1 h).imp fun ds M1 ⟨hl, q⟩ => ⟨by rw [hl]; exact hc.2, q⟩)
    · cases hc
  | .lst es, fa, sc, X, PX, e, env, M, Q, R, hc, h => by
    unfold chkE at hc
    split at hc
    · simp only [Bool.and_eq_true, decide_eq_true_eq] at hc
      exact e_lst ((snd_es es R hc.1 h).imp fun ds M1 ⟨hl, q⟩ => ⟨by rw [hl]; exact hc.2, q⟩)
    · cases hc
  | .lstM es, fa, sc, X, PX, e, env, M, Q, R, hc, h => by
    unfold chkE at hc
    split at hc
    · simp only [Bool.and_eq_true, decide_eq_true_eq] at hc
      exact e_lstM ((snd_es es R hc.1 h).imp fun ds M1 ⟨hl, q⟩ => ⟨by rw [hl]; exact hc.2, q⟩)
    · cases hc
  | .ix a b, fa, sc, X, PX, e, env, M, Q, R, hc, h => by
    unfold chkE at hc
    split at hc
    · rw [Bool.and_eq_true] at hc
      exact e_wIx ((snd_e a R hc.1 h).imp fun x M1 q => snd_e b R hc.2 q) (pix_c (nst_e hc.2))
    · cases hc
  | .dg a b, fa, sc, X, PX, e, env, M, Q, R, hc, h => by
    unfold chkE at hc
    split at hc
    · rw [Bool.and_eq_true] at hc
      exact e_wDg R.hu1 ((snd_e a R hc.1 h).imp fun x M1 q => snd_e b R hc.2 q) (nosl_c (nst_e hc.2))
    · cases hc
  | .dnew, fa, sc, X, PX, e, env, M, Q, R, hc, h => by
    unfold chkE at hc
    split at hc
    · exact e_dnew h
    · cases hc
  | .slc a lo hi, fa, sc, X, PX, e, env, M, Q, R, hc, h => by
    unfold chkE at hc
    split at hc
    · simp only [Bool.and_eq_true] at hc
      exact e_wSl ((snd_e a R hc.1.1 h).imp fun x M1 q => (snd_o lo R hc.1.2 q).imp fun l M2 q => (snd_o hi R hc.2 q))
    · cases hc
  | .call k es, fa, sc, X, PX, e, env, M, Q, R, hc, h => by
    unfold chkE at hc
    split at hc
    · simp only [Bool.and_eq_true, decide_eq_true_eq] at hc
      refine call_wE R hc.1.1 hc.1.2 (nst_es hc.2) ((snd_es es R hc.2 h).imp fun _ _ q => q.2) fun z => ?_
      have z := (chk_len hc.2).mpr z
      subst z
      exact h
    · cases hc
  | .gen k es, fa, sc, X, PX, e, env, M, Q, R, hc, h => by
    unfold chkE at hc
    split at hc
    · simp only [Bool.and_eq_true, decide_eq_true_eq] at hc
      obtain ⟨⟨⟨h1, h2⟩, h3⟩, h4⟩ := hc
      obtain ⟨e1, g1, g2⟩ := R.nmi h1
      subst e1
      obtain ⟨sp, g3, l, hl, F⟩ := R.gn k _ h2
      have hn := nst_es h4
      obtain ⟨hg, hd⟩ := R.glb h3
      refine e_listG F R.room hl g2 ((snd_es es R h4 h).imp fun ds M1 q => ?_) g1 hg hd (star_c (hn _ List.mem_cons_self)) (plain_star fun e he => hn e (List.mem_cons_of_mem _ he)) rfl
      have q := q.2
      rw [g3] at q
      exact q
    · cases hc
  | .sset a, fa, sc, X, PX, e, env, M, Q, R, hc, h => by
    unfold chkE at hc
    split at hc
    · simp only [Bool.and_eq_true] at hc
      obtain ⟨e1, h2, h3⟩ := R.nmi hc.1.1
      obtain ⟨e4, h5, h6⟩ := R.nmi hc.1.2
      subst e1 e4
      exact e_sset R.calm h3 h6 (snd_e a R hc.2 h) h2 h5 (star_c (nst_e hc.2))
    · cases hc
  | .lc2 own own1 t it t1 it1 elt, fa, sc, X, PX, e, env, M, Q, R, hc, h => by
    unfold chkE at hc
    split at hc
    · simp only [Bool.and_eq_true, decide_eq_true_eq, List.all_eq_true] at hc
      obtain ⟨⟨⟨⟨⟨⟨⟨⟨⟨⟨h0, h0'⟩, h1⟩, hsub⟩, h2⟩, h2'⟩, h3⟩, h3'⟩, h4⟩, h4'⟩, h6⟩ := hc
      subst h0 h0'
      have okB := blkOk_by h1
      rw [← R.nm, ← R.sc] at okB
      have hown : ∀ p ∈ ownOf N own, N[p.2]? = some p.1 := fun p hp => by have := okB.ix p (by rw [R.nm]; exact hp); rw [R.nm] at this; exact this
      have ho1 : ∀ p ∈ ownOf N own1, p ∈ ownOf N own := fun p hp => by
        unfold ownOf at hp ⊢
        obtain ⟨i, hi, rfl⟩ := List.mem_map.mp hp
        exact List.mem_map.mpr ⟨i, hsub i hi, rfl⟩
      have hit : nSt _ = true := nst_i h4
      have hit1 : nSt _ = true := nst_i h4'
      refine ⟨fun S σ H ok wi => (e_lc2 (by rw [R.nm] at okB ⊢; exact okB) ho1 (drops_zip (Ok.ln R ok) hown) ((snd_i it R h4 h).imp fun items M1 ⟨J, j0, jt, jd⟩ => ⟨J, j0, fun i hi acc M' hJ s H0 C cl fp => ?_, jd⟩) R.calm (fold_c hit) (fun env => fold_c hit1)).run S σ H ok wi⟩
      refine snd_tw (R.blk s H0 _ C cl fp) hown t h2 h3 (jt i hi acc M' hJ) fun env2 q s H0 C cl fp => ?_
      refine (snd_i it1 (R.blk s H0 _ C cl fp) h4' q).imp fun its M3 ⟨K, k0, kt, kd⟩ => ⟨K, k0, fun j hj acc M5 hnm hK => ?_, kd⟩
      have hl2 : N.length ≤ env2.length := zip_len (by rw [hnm]; exact R.nm)
      have hown1 : ∀ p ∈ ownOf N own1, N[p.2]? = some p.1 := fun p hp => hown p (ho1 p hp)
      refine ⟨_, drops_zip hl2 hown1, fun s H0 C cl fp => ?_⟩
      refine snd_tw (R.blk s H0 _ C cl fp) hown1 t1 h2' h3' (kt j hj acc M5 hK) fun env3 q s H0 C cl fp => ?_
      exact snd_e elt (R.blk s H0 _ C cl fp) h6 q
    · cases hc
  | .told a, fa, sc, X, PX, e, env, M, Q, R, hc, h => by
    unfold chkE at hc
    split at hc
    · simp only [Bool.and_eq_true, decide_eq_true_eq] at hc
      obtain ⟨⟨⟨⟨⟨h0, h1⟩, h2⟩, h3⟩, h4⟩, h5⟩ := hc
      obtain ⟨hr, P, q, c, e1, T, TB, hcode, hq⟩ := R.told h0 _ h1
      obtain ⟨⟨P', q', e2, hM⟩, h⟩ := h
      rw [e1] at e2
      cases e2
      obtain ⟨hg, hd⟩ := R.glb h2
      have ep := noArgs_e h4
      subst ep
      exact e_told T hg hd TB hcode hq hM hr (by rw [R.sc]; exact LamX.lamS_by h3) rfl (fun _ _ _ _ _ => rfl) fun A outer s H Ex f c' hr2 => snd_e a (R.lam hr2) h5 h
    · cases hc
  | .lzip a b, fa, sc, X, PX, e, env, M, Q, R, hc, h => by
    unfold chkE at hc
    split at hc
    · simp only [Bool.and_eq_true] at hc
      obtain ⟨e1, h2, h3⟩ := R.nmi hc.1.1.1
      obtain ⟨e4, h5, h6⟩ := R.nmi hc.1.1.2
      subst e1 e4
      exact e_lzip R.calm h3 h6 (a_cons ((snd_e a R hc.1.2 h).imp fun x M1 q => a_cons ((snd_e b R hc.2 q).imp fun y M2 q => a_nil ⟨x, y, rfl, q⟩) (star_c (nst_e hc.2))) (star_c (nst_e hc.1.2))) h2 h5 (star_c (nst_e hc.1.2)) (plain_star fun e he => by
        rcases List.mem_singleton.mp he with rfl; exact nst_e hc.2)
    · cases hc
  | .kw k es a, fa, sc, X, PX, e, env, M, Q, R, hc, h => by
    unfold chkE at hc
    split at hc
    · simp only [Bool.and_eq_true, decide_eq_true_eq] at hc
      obtain ⟨⟨⟨h2, h3⟩, h4⟩, h5⟩ := hc
      obtain ⟨sp, g3, l, hl, F⟩ := R.kw k _ h2
      have hn := nst_es h4
      obtain ⟨hg, hd⟩ := R.glb h3
      refine e_callK F R.room hl ((snd_es es R h4 h).imp fun ds M1 q => (snd_e a R h5 q.2).imp fun d M2 q2 => ⟨q.1, ?_⟩) hg hd (star_c (hn _ List.mem_cons_self)) (plain_star hn)
      rw [g3] at q2
      exact q2
    · cases hc
  | .bi o a, fa, sc, X, PX, e, env, M, Q, R, hc, h => by
    unfold chkE at hc
    split at hc
    · rw [Bool.and_eq_true] at hc
      obtain ⟨e1, h2, h3⟩ := R.nmi hc.1
      subst e1
      exact e_wB1 R.calm R.hu5 h3 (snd_e a R hc.2 h) h2 (nst_e hc.2)
    · cases hc
  | .min2 a b, fa, sc, X, PX, e, env, M, Q, R, hc, h => by
    unfold chkE at hc
    split at hc
    · simp only [Bool.and_eq_true] at hc
      obtain ⟨e1, h2, h3⟩ := R.nmi hc.1.1
      subst e1
      exact e_min2D h3 R.hu (a_cons ((snd_e a R hc.1.2 h).imp fun x M1 q => a_cons ((snd_e b R hc.2 q).imp fun y M2 q => a_nil ⟨x, y, rfl, q⟩) (star_c (nst_e hc.2))) (star_c (nst_e hc.1.2))) R.calm h2 (star_c (nst_e hc.1.2)) (plain_star fun e he => by
        rcases List.mem_singleton.mp he with rfl; exact nst_e hc.2)
    · cases hc
  | .rev a, fa, sc, X, PX, e, env, M, Q, R, hc, h => by
    unfold chkE at hc
    split at hc
    · exact e_revL (snd_e a R hc h)
    · cases hc
  | .idx a z, fa, sc, X, PX, e, env, M, Q, R, hc, h => by
    unfold chkE at hc
    split at hc
    · simp only [Bool.and_eq_true, decide_eq_true_eq] at hc
      obtain ⟨⟨⟨⟨h1, h2⟩, h3⟩, h4⟩, h5⟩ := hc
      subst h1
      refine e_idx R.hu5 ((snd_e a R h2 h).imp fun x M1 q => ⟨q.1, snd_e z R h3 q.2⟩) (attr_c h5) ?_ h4 (star_c (nst_e h3))
      rw [all_star (fun e he => by rcases List.mem_singleton.mp he with rfl; exact nst_e h3)]; rfl
    · cases hc
  | .lset a, fa, sc, X, PX, e, env, M, Q, R, hc, h => by
    unfold chkE at hc
    split at hc
    · simp only [Bool.and_eq_true] at hc
      obtain ⟨e1, h2, h3⟩ := R.nmi hc.1.1
      obtain ⟨e4, h5, h6⟩ := R.nmi hc.1.2
      subst e1 e4
      exact e_lset R.calm h3 h6 (snd_e a R hc.2 h) h2 h5 (star_c (nst_e hc.2))
    · cases hc
  | .isi a t, fa, sc, X, PX, e, env, M, Q, R, hc, h => by
    unfold chkE at hc
    split at hc
    · simp only [Bool.and_eq_true] at hc
      obtain ⟨e1, h2, h3⟩ := R.nmi hc.1.1
      obtain ⟨e4, h5, h6⟩ := R.nmi hc.1.2
      subst e1 e4
      exact e_wIsi h3 h6 (snd_e a R hc.2 h) h2 h5 (nst_e hc.2)
    · cases hc
  | .fld a f, fa, sc, X, PX, e, env, M, Q, R, hc, h => by
    unfold chkE at hc
    split at hc
    · simp only [Bool.and_eq_true, decide_eq_true_eq] at hc
      obtain ⟨⟨h1, h2⟩, h3⟩ := hc
      subst h1
      exact e_wFld R.fd (attr_c h3) (snd_e a R h2 h)
    · cases hc
  | .meth a k es, fa, sc, X, PX, e, env, M, Q, R, hc, h => by
    unfold chkE at hc
    split at hc
    · simp only [Bool.and_eq_true, decide_eq_true_eq] at hc
      obtain ⟨⟨⟨⟨⟨h1, h2⟩, h3⟩, h4⟩, h5⟩, h6⟩ := hc
      refine meth_wE R h1 (nst_es h3) (attr_c h4) h5 h6 fun C sp hk => (snd_e a R h2 h).imp fun x M1 q => ?_
      obtain ⟨p, e1, q⟩ := wRef_e q
      subst e1
      rw [hk] at q
      obtain ⟨fs, q1, q2, q3⟩ := q
      refine ⟨fs, q1, q2, (snd_es es R h3 q3).imp fun _ _ q => q.2, fun z => ?_⟩
      have z := (chk_len h3).mpr z
      subst z
      exact q3
    · cases hc
  | .make k es, fa, sc, X, PX, e, env, M, Q, R, hc, h => by
    unfold chkE at hc
    split at hc
    · simp only [Bool.and_eq_true, decide_eq_true_eq] at hc
      obtain ⟨C, sp, hk, l, hl, D⟩ := R.cs k _ hc.1.1
      obtain ⟨hg, hd⟩ := R.glb hc.1.2
      have hn := nst_es hc.2
      refine e_makeD D R.room hl ((snd_es es R hc.2 h).imp fun ds M1 ⟨_, q⟩ => ?_) hg hd (star_c (hn _ List.mem_cons_self)) (plain_star fun e he => hn e (List.mem_cons_of_mem _ he))
      rw [hk] at q
      exact q
    · cases hc
  | .app a z, fa, sc, X, PX, e, env, M, Q, R, hc, h => by
    unfold chkE at hc
    split at hc
    · simp only [Bool.and_eq_true, decide_eq_true_eq] at hc
      obtain ⟨⟨⟨⟨h1, h2⟩, h3⟩, h4⟩, h5⟩ := hc
      subst h1
      refine e_append ((snd_e a R h2 h).imp fun x M1 q => ?_) (attr_c h5) ?_ h4 (star_c (nst_e h3)) rfl
      · cases x with
        | ref p =>
          obtain ⟨⟨ds0, h0⟩, q⟩ := q
          exact ⟨p, ds0, rfl, h0, snd_e z R h3 q⟩
        | _ => exact q.elim
      · rw [all_star (fun e he => by rcases List.mem_singleton.mp he with rfl; exact nst_e h3)]; rfl
    · cases hc
  | .lc m own t it ifs elt, fa, sc, X, PX, e, env, M, Q, R, hc, h => by
    unfold chkE at hc
    split at hc
    · simp only [Bool.and_eq_true, decide_eq_true_eq] at hc
      obtain ⟨⟨⟨⟨⟨⟨h0, h1⟩, h2⟩, h3⟩, h4⟩, h5⟩, h6⟩ := hc
      subst h0
      have okB := blkOk_by h1
      rw [← R.nm, ← R.sc] at okB
      have L : LcI X PX (ownOf N own) _ _ _ _ _ (N.zip env) (N.zip (wipeV env own)) M fun acc M' => if m = true then ∀ p, M' p = none → Q (.ref p) (updM M' p (.lst acc)) else Q (.lst acc) M' := (snd_i it R h4 h).imp fun items M1 ⟨hl, J, j0, jt, jd⟩ => by
        refine ⟨hl, J, j0, fun i hi acc M' hJ ha s H C cl fp => ?_, jd⟩
        refine snd_tw (R.blk s H _ C cl fp) (fun p hp => by have := okB.ix p (by rw [R.nm]; exact hp); rw [R.nm] at this; exact this) t h2 h3 (jt i hi acc M' hJ ha) fun env2 q s H C cl fp => ?_
        refine (snd_ifs ifs (R.blk s H _ C cl fp) h5 q).imp fun t M3 q => ?_
        obtain ⟨q1, q2⟩ := wIf_e q
        exact ⟨fun z s H C cl fp => snd_e elt (R.blk s H _ C cl fp) h6 (q1 z), q2⟩
      have hit : nSt _ = true := nst_i h4
      cases m with
      | true => exact ⟨fun S σ H ok wi => (e_lcM (by rw [R.nm] at okB ⊢; exact okB) (drops_zip (Ok.ln R ok) (fun p hp => by have := okB.ix p (by rw [R.nm]; exact hp); rw [R.nm] at this; exact this)) L R.calm (fold_c hit)).run S σ H ok wi⟩
      | false => exact ⟨fun S σ H ok wi => (e_lc (by rw [R.nm] at okB ⊢; exact okB) (drops_zip (Ok.ln R ok) (fun p hp => by have := okB.ix p (by rw [R.nm]; exact hp); rw [R.nm] at this; exact this)) L R.calm (fold_c hit)).run S σ H ok wi⟩
    · cases hc
  | .frz a, fa, sc, X, PX, e, env, M, Q, R, hc, h => by
    unfold chkE at hc
    exact e_wFrz (snd_e a R hc h)
theorem snd_es : ∀ (a : IEs) {fa : Str → Bool} {sc : Scope} {X : Cx} {PX : PXT} {es : List Expr} {env : Vs} {M : Mem} {Q : List D → Mem → Prop}, Rt Gn Γ j N fa sc X → chkEs Gn N fa sc a es = true → wEs Γ a env M PX Q → A X PX es (N.zip env) M fun ds M1 => ds.length = es.length ∧ Q ds M1
  | .nil, fa, sc, X, PX, es, env, M, Q, R, hc, h => by
    cases es with
    | nil => exact a_nil ⟨rfl, h⟩
    | cons e es => cases hc
  | .cons a as, fa, sc, X, PX, es, env, M, Q, R, hc, h => by
    cases es with
    | nil => cases hc
    | cons e es =>
      unfold chkEs at hc
      rw [Bool.and_eq_true] at hc
      exact a_cons ((snd_e a R hc.1 h).imp fun d M1 q => (snd_es as R hc.2 q).imp fun ds M2 ⟨hl, q⟩ => ⟨by rw [List.length_cons, List.length_cons, hl], q⟩) (star_c (nst_e hc.1))
theorem snd_o : ∀ (a : IO) {fa : Str → Bool} {sc : Scope} {X : Cx} {PX : PXT} {e : Option Expr} {env : Vs} {M : Mem} {Q : Option Int → Mem → Prop}, Rt Gn Γ j N fa sc X → chkO Gn N fa sc a e = true → wO Γ a env M PX Q → O X PX e (N.zip env) M Q
  | .no, fa, sc, X, PX, e, env, M, Q, R, hc, h => by
    cases e with
    | none => exact o_none h
    | some e => cases hc
  | .so a, fa, sc, X, PX, e, env, M, Q, R, hc, h => by
    cases e with
    | none => cases hc
    | some e => exact o_some ((snd_e a R hc h).imp fun d M1 q => wInt_e q)
theorem snd_ifs : ∀ (a : IO) {fa : Str → Bool} {sc : Scope} {X : Cx} {es : List Expr} {env : Vs} {M : Mem} {Q : Bool → Mem → Prop}, Rt Gn Γ j N fa sc X → chkIfs Gn N fa sc a es = true → wIfs Γ a env M Q → TS' X PX0 es (N.zip env) M Q
  | .no, fa, sc, X, es, env, M, Q, R, hc, h => by
    unfold chkIfs at hc
    split at hc
    · exact ts_nil h
    · cases hc
  | .so a, fa, sc, X, es, env, M, Q, R, hc, h => by
    unfold chkIfs at hc
    split at hc
    · rw [Bool.and_eq_true] at hc
      exact ts_one (snd_t a R hc.1 hc.2 h)
    · cases hc
theorem snd_t : ∀ (a : IE) {fa : Str → Bool} {sc : Scope} {X : Cx} {PX : PXT} {e : Expr} {env : Vs} {M : Mem} {Q : Bool → Mem → Prop}, Rt Gn Γ j N fa sc X → a.tOk = true → chkE Gn N fa sc a e = true → wE Γ a env M PX (tst Q) → T X PX e (N.zip env) M Q
  | .cmp o a b, fa, sc, X, PX, e, env, M, Q, R, ht, hc, h => by
    unfold chkE at hc
    split at hc
    · simp only [Bool.and_eq_true, decide_eq_true_eq] at hc
      obtain ⟨⟨⟨h1, h2⟩, h3⟩, h4⟩ := hc
      subst h1
      exact t_wCmp R.hu5 o ((snd_e a R h2 h).imp fun x M1 q => (snd_e b R h3 q).imp fun y M2 q => wCmp_mono q fun d M q => tst_e q) h4
    · cases hc
  | .chn o o' a b c, fa, sc, X, PX, e, env, M, Q, R, ht, hc, h => by
    unfold chkE at hc
    split at hc
    · simp only [Bool.and_eq_true, decide_eq_true_eq] at hc
      obtain ⟨⟨⟨⟨⟨⟨h1, h1'⟩, ho⟩, ho'⟩, h2⟩, h3⟩, h4⟩ := hc
      subst h1 h1'
      refine t_chain (op_cmpI ho) (op_cmpI ho') ((snd_e a R h2 h).imp fun x M1 q => (snd_e b R h3 q).imp fun y M2 q => ?_) (by cases o' <;> first | exact nomark _ | cases ho')
      obtain ⟨i, z1, q⟩ := wInt_e q
      obtain ⟨k, z2, q⟩ := wInt_e q
      obtain ⟨q1, q2⟩ := wIf_e q
      exact ⟨i, k, z1, z2, fun z => (snd_e c R h4 (q1 z)).imp fun z M3 q => wInt_e q, q2⟩
    · cases hc
  | .isN a, fa, sc, X, PX, e, env, M, Q, R, ht, hc, h => by
    unfold chkE at hc
    split at hc
    · exact t_isN (snd_e a R hc h)
    · cases hc
  | .notN a, fa, sc, X, PX, e, env, M, Q, R, ht, hc, h => by
    unfold chkE at hc
    split at hc
    · exact t_notN (snd_e a R hc h)
    · cases hc
  | .not a, fa, sc, X, PX, e, env, M, Q, R, ht, hc, h => by
    unfold chkE at hc
    split at hc
    · rw [Bool.and_eq_true] at hc
      exact t_not (snd_t a R hc.1 hc.2 h)
    · cases hc
  | .and es, fa, sc, X, PX, e, env, M, Q, R, ht, hc, h => by
    unfold chkE at hc
    split at hc
    · rw [Bool.and_eq_true] at hc
      exact t_w (snd_andW es R hc.1 hc.2 h)
    · cases hc
  | .or es, fa, sc, X, PX, e, env, M, Q, R, ht, hc, h => by
    unfold chkE at hc
    split at hc
    · rw [Bool.and_eq_true] at hc
      exact t_w (snd_orW es R hc.1 hc.2 h)
    · cases hc
  | .ite _ _ _, fa, sc, X, PX, e, env, M, Q, R, ht, hc, h => nomatch ht
  | .frz _, fa, sc, X, PX, e, env, M, Q, R, ht, hc, h => nomatch ht
  | .v i, fa, sc, X, PX, e, env, M, Q, R, ht, hc, h => small_tst (snd_e (.v i) R hc h) (ntst_e rfl hc)
  | .n i, fa, sc, X, PX, e, env, M, Q, R, ht, hc, h => small_tst (snd_e (.n i) R hc h) (ntst_e rfl hc)
  | .b i, fa, sc, X, PX, e, env, M, Q, R, ht, hc, h => small_tst (snd_e (.b i) R hc h) (ntst_e rfl hc)
  | .non, fa, sc, X, PX, e, env, M, Q, R, ht, hc, h => small_tst (snd_e .non R hc h) (ntst_e rfl hc)
  | .s i, fa, sc, X, PX, e, env, M, Q, R, ht, hc, h => small_tst (snd_e (.s i) R hc h) (ntst_e rfl hc)
  | .gl i, fa, sc, X, PX, e, env, M, Q, R, ht, hc, h => small_tst (snd_e (.gl i) R hc h) (ntst_e rfl hc)
  | .op o a b, fa, sc, X, PX, e, env, M, Q, R, ht, hc, h => small_tst (snd_e (.op o a b) R hc h) (ntst_e rfl hc)
  | .neg a, fa, sc, X, PX, e, env, M, Q, R, ht, hc, h => small_tst (snd_e (.neg a) R hc h) (ntst_e rfl hc)
  | .tup a, fa, sc, X, PX, e, env, M, Q, R, ht, hc, h => small_tst (snd_e (.tup a) R hc h) (ntst_e rfl hc)
  | .lst a, fa, sc, X, PX, e, env, M, Q, R, ht, hc, h => small_tst (snd_e (.lst a) R hc h) (ntst_e rfl hc)
  | .lstM a, fa, sc, X, PX, e, env, M, Q, R, ht, hc, h => small_tst (snd_e (.lstM a) R hc h) (ntst_e rfl hc)
  | .ix a b, fa, sc, X, PX, e, env, M, Q, R, ht, hc, h => small_tst (snd_e (.ix a b) R hc h) (ntst_e rfl hc)
  | .dg a b, fa, sc, X, PX, e, env, M, Q, R, ht, hc, h => small_tst (snd_e (.dg a b) R hc h) (ntst_e rfl hc)
  | .dnew, fa, sc, X, PX, e, env, M, Q, R, ht, hc, h => small_tst (snd_e .dnew R hc h) (ntst_e rfl hc)
  | .slc a b c, fa, sc, X, PX, e, env, M, Q, R, ht, hc, h => small_tst (snd_e (.slc a b c) R hc h) (ntst_e rfl hc)
  | .call a b, fa, sc, X, PX, e, env, M, Q, R, ht, hc, h => small_tst (snd_e (.call a b) R hc h) (ntst_e rfl hc)
  | .gen a b, fa, sc, X, PX, e, env, M, Q, R, ht, hc, h => small_tst (snd_e (.gen a b) R hc h) (ntst_e rfl hc)
  | .sset a, fa, sc, X, PX, e, env, M, Q, R, ht, hc, h => small_tst (snd_e (.sset a) R hc h) (ntst_e rfl hc)
  | .lc2 a b c d f g i, fa, sc, X, PX, e, env, M, Q, R, ht, hc, h => small_tst (snd_e (.lc2 a b c d f g i) R hc h) (ntst_e rfl hc)
  | .told a, fa, sc, X, PX, e, env, M, Q, R, ht, hc, h => small_tst (snd_e (.told a) R hc h) (ntst_e rfl hc)
  | .lzip a b, fa, sc, X, PX, e, env, M, Q, R, ht, hc, h => small_tst (snd_e (.lzip a b) R hc h) (ntst_e rfl hc)
  | .kw a b c, fa, sc, X, PX, e, env, M, Q, R, ht, hc, h => small_tst (snd_e (.kw a b c) R hc h) (ntst_e rfl hc)
  | .bi a b, fa, sc, X, PX, e, env, M, Q, R, ht, hc, h => small_tst (snd_e (.bi a b) R hc h) (ntst_e rfl hc)
  | .min2 a b, fa, sc, X, PX, e, env, M, Q, R, ht, hc, h => small_tst (snd_e (.min2 a b) R hc h) (ntst_e rfl hc)
  | .rev a, fa, sc, X, PX, e, env, M, Q, R, ht, hc, h => small_tst (snd_e (.rev a) R hc h) (ntst_e rfl hc)
  | .idx a b, fa, sc, X, PX, e, env, M, Q, R, ht, hc, h => small_tst (snd_e (.idx a b) R hc h) (ntst_e rfl hc)
  | .lset a, fa, sc, X, PX, e, env, M, Q, R, ht, hc, h => small_tst (snd_e (.lset a) R hc h) (ntst_e rfl hc)
  | .isi a b, fa, sc, X, PX, e, env, M, Q, R, ht, hc, h => small_tst (snd_e (.isi a b) R hc h) (ntst_e rfl hc)
  | .fld a b, fa, sc, X, PX, e, env, M, Q, R, ht, hc, h => small_tst (snd_e (.fld a b) R hc h) (ntst_e rfl hc)
  | .meth a b c, fa, sc, X, PX, e, env, M, Q, R, ht, hc, h => small_tst (snd_e (.meth a b c) R hc h) (ntst_e rfl hc)
  | .make a b, fa, sc, X, PX, e, env, M, Q, R, ht, hc, h => small_tst (snd_e (.make a b) R hc h) (ntst_e rfl hc)
  | .app a b, fa, sc, X, PX, e, env, M, Q, R, ht, hc, h => small_tst (snd_e (.app a b) R hc h) (ntst_e rfl hc)
  | .lc a b c d f g, fa, sc, X, PX, e, env, M, Q, R, ht, hc, h => small_tst (snd_e (.lc a b c d f g) R hc h) (ntst_e rfl hc)
theorem snd_and : ∀ (a : IEs) {fa : Str → Bool} {sc : Scope} {X : Cx} {PX : PXT} {es : List Expr} {pos : Pos} {env : Vs} {M : Mem} {Q : QD}, Rt Gn Γ j N fa sc X → chkEs Gn N fa sc a es = true → wAnd Γ a env M PX Q → E X PX (.BoolOp .And es pos) (N.zip env) M Q
  | .nil, fa, sc, X, PX, es, pos, env, M, Q, R, hc, h => h.elim
  | .cons a .nil, fa, sc, X, PX, es, pos, env, M, Q, R, hc, h => by
    match es, hc with
    | [e], hc =>
      unfold chkEs at hc
      rw [Bool.and_eq_true] at hc
      exact e_one (snd_e a R hc.1 h)
    | [], hc => cases hc
    | _ :: _ :: _, hc => unfold chkEs at hc; rw [Bool.and_eq_true] at hc; cases hc.2
  | .cons a (.cons b as), fa, sc, X, PX, es, pos, env, M, Q, R, hc, h => by
    match es, hc with
    | e :: e' :: es, hc =>
      unfold chkEs at hc
      rw [Bool.and_eq_true] at hc
      refine e_and ((snd_e a R hc.1 h).imp fun x M1 q => ?_)
      obtain ⟨c, e1, q⟩ := tst_e q
      obtain ⟨q1, q2⟩ := wIf_e q
      exact ⟨c, e1, fun z => snd_and (.cons b as) R hc.2 (q1 z), q2⟩
    | [], hc => cases hc
    | [_], hc => unfold chkEs at hc; rw [Bool.and_eq_true] at hc; cases hc.2
theorem snd_or : ∀ (a : IEs) {fa : Str → Bool} {sc : Scope} {X : Cx} {PX : PXT} {es : List Expr} {pos : Pos} {env : Vs} {M : Mem} {Q : QD}, Rt Gn Γ j N fa sc X → chkEs Gn N fa sc a es = true → wOr Γ a env M PX Q → E X PX (.BoolOp .Or es pos) (N.zip env) M Q
  | .nil, fa, sc, X, PX, es, pos, env, M, Q, R, hc, h => h.elim
  | .cons a .nil, fa, sc, X, PX, es, pos, env, M, Q, R, hc, h => by
    match es, hc with
    | [e], hc =>
      unfold chkEs at hc
      rw [Bool.and_eq_true] at hc
      exact e_one (snd_e a R hc.1 h)
    | [], hc => cases hc
    | _ :: _ :: _, hc => unfold chkEs at hc; rw [Bool.and_eq_true] at hc; cases hc.2
  | .cons a (.cons b as), fa, sc, X, PX, es, pos, env, M, Q, R, hc, h => by
    match es, hc with
    | e :: e' :: es, hc =>
      unfold chkEs at hc
      rw [Bool.and_eq_true] at hc
      refine e_or ((snd_e a R hc.1 h).imp fun x M1 q => ?_)
      obtain ⟨c, e1, q⟩ := tst_e q
      obtain ⟨q1, q2⟩ := wIf_e q
      exact ⟨c, e1, fun z => snd_or (.cons b as) R hc.2 (q2 z), q1⟩
    | [], hc => cases hc
    | [_], hc => unfold chkEs at hc; rw [Bool.and_eq_true] at hc; cases hc.2
theorem snd_andW : ∀ (a : IEs) {fa : Str → Bool} {sc : Scope} {X : Cx} {PX : PXT} {es : List Expr} {pos : Pos} {env : Vs} {M : Mem} {Q : Bool → Mem → Prop}, Rt Gn Γ j N fa sc X → a.tOk = true → chkEs Gn N fa sc a es = true → wAnd Γ a env M PX (tst Q) → W X PX (.BoolOp .And es pos) (N.zip env) M Q
  | .nil, fa, sc, X, PX, es, pos, env, M, Q, R, ht, hc, h => h.elim
  | .cons a .nil, fa, sc, X, PX, es, pos, env, M, Q, R, ht, hc, h => by
    match es, hc with
    | [e], hc =>
      unfold chkEs at hc
      unfold IEs.tOk at ht
      rw [Bool.and_eq_true] at hc ht
      exact w_and1 (snd_t a R ht.1 hc.1 h)
    | [], hc => cases hc
    | _ :: _ :: _, hc => unfold chkEs at hc; rw [Bool.and_eq_true] at hc; cases hc.2
  | .cons a (.cons b as), fa, sc, X, PX, es, pos, env, M, Q, R, ht, hc, h => by
    match es, hc with
    | e :: e' :: es, hc =>
      unfold chkEs at hc
      unfold IEs.tOk at ht
      rw [Bool.and_eq_true] at hc ht
      refine w_and ((snd_t a R ht.1 hc.1 h).imp fun c M1 q => ?_)
      obtain ⟨q1, q2⟩ := wIf_e q
      exact ⟨fun z => snd_andW (.cons b as) R ht.2 hc.2 (q1 z), q2⟩
    | [], hc => cases hc
    | [_], hc => unfold chkEs at hc; rw [Bool.and_eq_true] at hc; cases hc.2
theorem snd_orW : ∀ (a : IEs) {fa : Str → Bool} {sc : Scope} {X : Cx} {PX : PXT} {es : List Expr} {pos : Pos} {env : Vs} {M : Mem} {Q : Bool → Mem → Prop}, Rt Gn Γ j N fa sc X → a.tOk = true → chkEs Gn N fa sc a es = true → wOr Γ a env M PX (tst Q) → W X PX (.BoolOp .Or es pos) (N.zip env) M Q
  | .nil, fa, sc, X, PX, es, pos, env, M, Q, R, ht, hc, h => h.elim
  | .cons a .nil, fa, sc, X, PX, es, pos, env, M, Q, R, ht, hc, h => by
    match es, hc with
    | [e], hc =>
      unfold chkEs at hc
      unfold IEs.tOk at ht
      rw [Bool.and_eq_true] at hc ht
      exact w_or1 (snd_t a R ht.1 hc.1 h)
    | [], hc => cases hc
    | _ :: _ :: _, hc => unfold chkEs at hc; rw [Bool.and_eq_true] at hc; cases hc.2
  | .cons a (.cons b as), fa, sc, X, PX, es, pos, env, M, Q, R, ht, hc, h => by
    match es, hc with
    | e :: e' :: es, hc =>
      unfold chkEs at hc
      unfold IEs.tOk at ht
      rw [Bool.and_eq_true] at hc ht
      refine w_or ((snd_t a R ht.1 hc.1 h).imp fun c M1 q => ?_)
      obtain ⟨q1, q2⟩ := wIf_e q
      exact ⟨fun z => snd_orW (.cons b as) R ht.2 hc.2 (q2 z), q1⟩
    | [], hc => cases hc
    | [_], hc => unfold chkEs at hc; rw [Bool.and_eq_true] at hc; cases hc.2
theorem snd_i : ∀ (a : IT) {fa : Str → Bool} {sc : Scope} {X : Cx} {PX : PXT} {tg e : Expr} {env : Vs} {M : Mem} {Q : List D → Mem → Prop}, Rt Gn Γ j N fa sc X → chkI Gn N fa sc a tg e = true → wI Γ a env M PX Q → I X PX tg e (N.zip env) M Q
  | .seq a, fa, sc, X, PX, tg, e, env, M, Q, R, hc, h => i_wSeq (snd_e a R hc h)
  | .rng1 a, fa, sc, X, PX, tg, e, env, M, Q, R, hc, h => by
    unfold chkI at hc
    split at hc
    · rw [Bool.and_eq_true] at hc
      obtain ⟨e1, h2, h3⟩ := R.nmi hc.1
      subst e1
      exact i_range1 h3 ((snd_e a R hc.2 h).imp fun d M1 q => wInt_e q) h2 (star_c (nst_e hc.2)) (star_c (nst_e hc.2))
    · cases hc
  | .rng2 a b, fa, sc, X, PX, tg, e, env, M, Q, R, hc, h => by
    unfold chkI at hc
    split at hc
    · simp only [Bool.and_eq_true] at hc
      obtain ⟨e1, h2, h3⟩ := R.nmi hc.1.1
      subst e1
      refine i_range2 h3 ((snd_e a R hc.1.2 h).imp fun d M1 q => ?_) h2 (star_c (nst_e hc.1.2)) (star_c (nst_e hc.2)) (by rw [star_c (nst_e hc.1.2), star_c (nst_e hc.2)]; rfl) (star_c (nst_e hc.2))
      obtain ⟨i, e1, hs, q⟩ := wInt_e q
      exact ⟨i, e1, hs, (snd_e b R hc.2 q).imp fun d M1 q => wInt_e q⟩
    · cases hc
  | .enum a, fa, sc, X, PX, tg, e, env, M, Q, R, hc, h => by
    unfold chkI at hc
    split at hc
    · rw [Bool.and_eq_true] at hc
      obtain ⟨e1, h2, h3⟩ := R.nmi hc.1
      subst e1
      refine i_enum h3 ((snd_e a R hc.2 h).imp fun d M1 q => ?_) h2 (star_c (nst_e hc.2)) (star_c (nst_e hc.2))
      cases d with
      | tup ds => exact ⟨ds, .tup _, (fun _ z => nomatch z), q⟩
      | lst ds => exact ⟨ds, .lst _, (fun _ z => nomatch z), q⟩
      | rol ds => exact ⟨ds, .rol _, (fun _ z => nomatch z), q⟩
      | _ => exact q.elim
    · cases hc
  | .zip2 a b, fa, sc, X, PX, tg, e, env, M, Q, R, hc, h => by
    unfold chkI at hc
    split at hc
    · simp only [Bool.and_eq_true] at hc
      obtain ⟨e1, h2, h3⟩ := R.nmi hc.1.1
      subst e1
      exact i_zip2 h3 (a_cons ((snd_e a R hc.1.2 h).imp fun x M1 q => a_cons ((snd_e b R hc.2 q).imp fun y M2 q => a_nil ⟨x, y, rfl, q⟩) (star_c (nst_e hc.2))) (star_c (nst_e hc.1.2))) h2 (star_c (nst_e hc.1.2)) (plain_star fun e he => by
        rcases List.mem_singleton.mp he with rfl
        exact nst_e hc.2)
    · cases hc
  | .zip3 a b c, fa, sc, X, PX, tg, e, env, M, Q, R, hc, h => by
    unfold chkI at hc
    split at hc
    · simp only [Bool.and_eq_true] at hc
      obtain ⟨e1, h2, h3⟩ := R.nmi hc.1.1.1
      subst e1
      refine i_zip3 h3 (a_cons ((snd_e a R hc.1.1.2 h).imp fun x M1 q => a_cons ((snd_e b R hc.1.2 q).imp fun y M2 q => a_cons ((snd_e c R hc.2 q).imp fun z M3 q => a_nil ?_) (star_c (nst_e hc.2))) (star_c (nst_e hc.1.2))) (star_c (nst_e hc.1.1.2))) h2 (star_c (nst_e hc.1.1.2)) (plain_star fun e he => by
        rcases List.mem_cons.mp he with rfl | he
        · exact nst_e hc.1.2
        rcases List.mem_singleton.mp he with rfl
        exact nst_e hc.2)
      obtain ⟨xs, ys, zs, q⟩ := q
      exact ⟨x, y, z, xs, ys, zs, rfl, q⟩
    · cases hc
end
end
end DL

/-! W6: that statements do what their small terms say -/
namespace DL
open PySem L2
/-- no comprehension -/
def nComp : Expr → Bool | .ListComp .. => false | .SetComp .. => false | .DictComp .. => false | _ => true
def nName : Expr → Bool | .Name .. => false | _ => true
theorem sole_c {tg e : Expr} {l : Nat} {env : PySem.Env} (h : nComp e = true) : swapsWithSole [tg] e l env = pure false := by
  cases e <;> first | rfl | cases h
theorem sole_c2 {tg e : Expr} {l : Nat} {env : PySem.Env} (h : nName tg = true) : swapsWithSole [tg] e l env = pure false := by
  cases e <;> first | rfl | (cases tg <;> first | rfl | cases h)
theorem swn_c {e : Expr} {l : Nat} {env : PySem.Env} (h : nComp e = true) : swapsWith e none l env = pure false := by
  cases e <;> first | rfl | cases h
theorem sws_c {tg e : Expr} {l : Nat} {env : PySem.Env} (h : nName tg = true) : swapsWith e (some tg) l env = pure false := by
  cases e <;> first | rfl | (cases tg <;> first | rfl | cases h)
/-- name = [..]: the name and the comprehension's list change places -/
def swB (sc scope : Scope) (y : Str) (py pos : Pos) : Bool :=
  (match sc.kind with | .function => true | _ => false) && (match sc.names.lookup y with | some .local => true | _ => false) && py.line == pos.line && !(scope.names.any fun (n, k) => n == y && (k == .local || k == .cell))
theorem swB_t {sc scope : Scope} {y : Str} {py pos spos : Pos} {elt : Expr} {gs : List Comprehension} {env : PySem.Env} (hs : env.scope = sc) (h : swB sc scope y py pos = true) : env.scope.names.lookup y = some .local ∧ swapsWith (.ListComp elt gs scope pos) (some (.Name y py)) spos.line env = pure true := by
  unfold swB at h
  simp only [Bool.and_eq_true, Bool.not_eq_true'] at h
  obtain ⟨⟨⟨h1, h2⟩, h3⟩, h4⟩ := h
  subst hs
  have hk : env.scope.kind = .function := by
    split at h1
    · assumption
    · cases h1
  have hl : env.scope.names.lookup y = some .local := by
    split at h2
    · assumption
    · cases h2
  exact ⟨hl, sw_true hk hl h3 h4⟩
theorem swB_f {sc scope : Scope} {y : Str} {py pos : Pos} {l : Nat} {elt : Expr} {gs : List Comprehension} {env : PySem.Env} (hs : env.scope = sc) (hk : sc.kind = .function) (h : swB sc scope y py pos = false) : swapsWithSole [.Name y py] (.ListComp elt gs scope pos) l env = pure false := by
  subst hs
  unfold swB at h
  rw [hk] at h
  have hb : env.blockKind = .function := by unfold Env.blockKind; rw [hk]; rfl
  show swapsWith (.ListComp elt gs scope pos) (some (.Name y py)) l env = _
  unfold swapsWith
  show (pure (env.blockKind == .function && env.kindOf y == some .local && py.line == pos.line && !(scope.names.any fun (n, k) => n == y && (k == .local || k == .cell))) : Sem Bool) = pure false
  rw [hb]
  congr 1
  rw [← h]
  unfold Env.kindOf
  cases env.scope.names.lookup y with
  | none => rfl
  | some k => cases k <;> rfl
/-- not a local name on that line -/
def nLoc (sc : Scope) (line : Nat) : Expr → Bool
  | .Name id pos => !((match sc.names.lookup id with | some .local => true | _ => false) && pos.line == line)
  | _ => true
/-- no stores from the right -/
def nswB (sc : Scope) (tg e : Expr) : Bool := match tg with
  | .Tuple ts _ _ => match e with
    | .Tuple vs _ _ => !(ts.length == 2 || ts.length == 3) || vs.length != ts.length || vs.all (foldedForSure 8) || ts.any (nLoc sc ((ts.head?.map (·.pos.line)).getD 0))
    | _ => true
  | .List .. => false
  | _ => true
theorem fm_lt {α β : Type} {f : α → Option β} : ∀ {l : List α}, (∃ x ∈ l, f x = none) → (l.filterMap f).length < l.length
  | [], h => by obtain ⟨x, hx, _⟩ := h; cases hx
  | y :: l, h => by
    obtain ⟨x, hx, e⟩ := h
    rcases List.mem_cons.mp hx with rfl | hx
    · rw [List.filterMap_cons_none e]
      exact Nat.lt_succ_of_le (List.length_filterMap_le f l)
    · have ih := fm_lt ⟨x, hx, e⟩
      cases hy : f y with
      | none => rw [List.filterMap_cons_none hy]; exact Nat.lt_succ_of_lt ih
      | some b => rw [List.filterMap_cons_some hy]; exact Nat.succ_lt_succ ih
theorem nsw_c {sc : Scope} {tg e : Expr} {env : PySem.Env} (hs : env.scope = sc) (hk : sc.kind = .function) (h : nswB sc tg e = true) : swappedStores [tg] e env = pure none := by
  have hb : env.blockKind = .function := by unfold Env.blockKind; rw [hs, hk]; rfl
  unfold nswB at h
  cases tg with
  | Tuple ts k p =>
    cases e with
    | Tuple vs k2 p2 =>
      simp only [Bool.or_eq_true] at h
      unfold swappedStores
      by_cases hc : (!(ts.length == 2 || ts.length == 3) || vs.length != ts.length || env.blockKind != .function) = true
      · simp only [hc]; rfl
      · have hc' : (!(ts.length == 2 || ts.length == 3) || vs.length != ts.length || env.blockKind != .function) = false := by simpa using hc
        rcases h with ((h | h) | h) | h
        · exact absurd (by simp only [Bool.or_eq_true]; exact .inl (.inl h)) hc
        · exact absurd (by simp only [Bool.or_eq_true]; exact .inl (.inr h)) hc
        · simp only [hc', h]
          show (if _ then (pure none : Sem (Option (List Str))) else if _ then pure none else if True then pure none else _) = _
          split
          · rfl
          · split
            · rfl
            · rw [if_pos trivial]
        · simp only [hc']
          have hf : ∀ g : Expr → Option Str, (∀ x, nLoc sc ((ts.head?.map (·.pos.line)).getD 0) x = true → g x = none) → ((ts.filterMap g).length != ts.length) = true := fun g hg => by
            obtain ⟨x, hx, hn⟩ := List.any_eq_true.mp h
            have := fm_lt (f := g) ⟨x, hx, hg x hn⟩
            simp only [bne_iff_ne, ne_eq]
            omega
          rw [hf _ (fun x hx => by
            cases x with
            | Name id pos =>
              have hx : (!((match sc.names.lookup id with | some .local => true | _ => false) && pos.line == ((ts.head?.map (·.pos.line)).getD 0))) = true := hx
              show (if (env.kindOf id == some .local && pos.line == ((ts.head?.map (·.pos.line)).getD 0)) = true then some id else none) = none
              rw [if_neg]
              intro z
              rw [Bool.and_eq_true] at z
              have e : sc.names.lookup id = some .local := by
                have := z.1
                unfold Env.kindOf at this
                rw [hs] at this
                exact eq_of_beq this
              rw [e, z.2] at hx
              cases hx
            | _ => rfl)]
          split
          · rfl
          · split
            · rfl
            · split
              · rfl
              · rename_i h9
                exact absurd (by simp) h9
    | _ => rfl
  | List => cases h
  | _ => rfl
end DL

/-! W7: statements by small terms -/
namespace DL
open PySem L2
def fnK (sc : Scope) : Bool := match sc.kind with | .function => true | _ => false
theorem fnK_of {sc : Scope} (h : fnK sc = true) : sc.kind = .function := by
  unfold fnK at h
  split at h
  · assumption
  · cases h
def lclB (sc : Scope) (x : Str) : Bool := match sc.names.lookup x with | some .local => true | _ => false
theorem lcl_of {sc : Scope} {x : Str} (h : lclB sc x = true) : sc.names.lookup x = some .local := by
  unfold lclB at h
  split at h
  · assumption
  · cases h
def IS.isFrz : IS → Bool | .frz _ => true | _ => false
mutual
def chkS (G : Gs') (N : List Str) (sc : Scope) : IS → Stmt → Bool
  | .asg g a, st => match st with
    | .Assign [tg] e _ => chkE G N allF sc a e && match g with
      | .t t => chkTg N allF sc t tg && nswB sc tg e && match a with
        | .lc .. => true
        | _ => nComp e || nName tg
      | .sub x y => match tg with | .Subscript u w _ => chkE G N allF sc x u && chkE G N allF sc y w | _ => false
      | .dsub x y => match tg with | .Subscript u w _ => chkE G N allF sc x u && chkE G N allF sc y w | _ => false
      | .fld x f => match tg with | .Attribute u f' _ => decide (f = f') && chkE G N allF sc x u | _ => false
      | .fld2 x f g => match tg with | .Tuple [.Attribute u f' _, .Attribute v g' _] _ _ => decide (f = f') && decide (g = g') && chkE G N allF sc x u && chkE G N allF sc x v && nswB sc tg e | _ => false
    | _ => false
  | .par a b x y, st => match st with
    | .Assign [.Tuple [.Name s p1, .Name t p2] _ _] (.Tuple [u, w] _ _) _ => decide (N[a]? = some s) && decide (N[b]? = some t) && decide (s ≠ t) && lclB sc s && lclB sc t && (p2.line == p1.line) && chkE G N allF sc x u && chkE G N allF sc y w && !([u, w].all (foldedForSure 8)) && !([u, w].all (constantsAlone 8))
    | _ => false
  | .par3 a b c x y z, st => match st with
    | .Assign [.Tuple [.Name s p1, .Name t p2, .Name r p3] _ _] (.Tuple [u, w, q] _ _) _ => decide (N[a]? = some s) && decide (N[b]? = some t) && decide (N[c]? = some r) && decide (s ≠ t) && decide (s ≠ r) && decide (t ≠ r) && lclB sc s && lclB sc t && lclB sc r && (p2.line == p1.line) && (p3.line == p1.line) && chkE G N allF sc x u && chkE G N allF sc y w && chkE G N allF sc z q && !([u, w, q].all (foldedForSure 8)) && !([u, w, q].all (constantsAlone 8))
    | _ => false
  | .aug i o a, st => match st with
    | .AugAssign (.Name x _) o' e _ => decide (N[i]? = some x) && decide (o' = o.op) && locB allF sc x && chkE G N allF sc a e && visB sc x
    | _ => false
  | .ex a, st => match st with | .Expr e _ => chkE G N allF sc a e && nComp e | _ => false
  | .ret a, st => match st with | .Return (some e) _ => chkE G N allF sc a e | _ => false
  | .retN, st => match st with | .Return none _ => true | _ => false
  | .pass, st => match st with | .Pass _ => true | _ => false
  | .brk, st => match st with | .Break _ => true | _ => false
  | .cont, st => match st with | .Continue _ => true | _ => false
  | .ifS c t e, st => match st with | .If x ts es _ => c.tOk && chkE G N allF sc c x && chkSS G N sc t ts && chkSS G N sc e es | _ => false
  | .ifJ c t e, st => match st with | .If x ts es _ => c.tOk && chkE G N allF sc c x && chkSS G N sc t ts && chkSS G N sc e es | _ => false
  | .for_ t it b, st => match st with | .For tg e ts [] _ => chkTg N allF sc t tg && chkI G N allF sc it tg e && chkSS G N sc b ts | _ => false
  | .whl c b, st => match st with | .While x ts [] _ => c.tOk && chkE G N allF sc c x && chkSS G N sc b ts | _ => false
  | .frz _, _ => false
  | .yld _, _ => false
  | .dead, _ => true
  | .rse k, st => match st with | .Raise (some (.Call (.Name x _) [.Constant (.str _) _ _] [] _)) none _ => decide (G.rs[k]? = some x) && glB sc x | _ => false
def chkSS (G : Gs') (N : List Str) (sc : Scope) : ISs → List Stmt → Bool
  | .nil, l => match l with | [] => true | _ => false
  | .cons s ss, l => (s.isFrz && chkSS G N sc ss l) || match l with | [] => false | x :: xs => chkS G N sc s x && chkSS G N sc ss xs
end
/-- what is wished behind, by names -/
def upK (N : List Str) (nx : KV) (R : QD) (bk ct : KV) : Pk := ⟨fun e M => ∃ env, e = N.zip env ∧ nx env M, R, fun e M => ∃ env, e = N.zip env ∧ bk env M, fun e M => ∃ env, e = N.zip env ∧ ct env M⟩
section
variable {X : Cx} {PX : PXT} {env : Vars} {M : Mem} {P P' : Pk} {st : Stmt} {sts : List Stmt}
theorem NPost.imp {S H H' : Hp} {σ' : St} {Q Q' : Vars → Mem → Prop} (h : NPost X S M H Q σ' H') (k : ∀ e M, Q e M → Q' e M) : NPost X S M H Q' σ' H' :=
  let ⟨S', env', M', p, o, q⟩ := h; ⟨S', env', M', p, o, k _ _ q⟩
theorem S_imp (h : S X PX st env M P) (k1 : ∀ e M, P.nx e M → P'.nx e M) (k2 : ∀ e M, P.rt e M → P'.rt e M) (k3 : ∀ e M, P.bk e M → P'.bk e M) (k4 : ∀ e M, P.ct e M → P'.ct e M) : S X PX st env M P' :=
  ⟨fun S0 σ H ok wi => semS_mono (h.run S0 σ H ok wi) (fun _ _ q => NPost.imp q k1) (fun _ _ q => Post.imp q k2) (fun _ _ q => NPost.imp q k3) (fun _ _ q => NPost.imp q k4)⟩
theorem SS_imp (h : SS X PX sts env M P) (k1 : ∀ e M, P.nx e M → P'.nx e M) (k2 : ∀ e M, P.rt e M → P'.rt e M) (k3 : ∀ e M, P.bk e M → P'.bk e M) (k4 : ∀ e M, P.ct e M → P'.ct e M) : SS X PX sts env M P' :=
  ⟨fun S0 σ H ok wi => semSS_mono (h.run S0 σ H ok wi) (fun _ _ q => NPost.imp q k1) (fun _ _ q => Post.imp q k2) (fun _ _ q => NPost.imp q k3) (fun _ _ q => NPost.imp q k4)⟩
/-- a list in a cell is frozen, and the name that holds it -/
theorem SS.frz {env' : Vars} {i : Nat} {y : Str} {a : Addr} {ds : List D} (hi : env[i]? = some (y, some (.ref a))) (he : env' = env.set i (y, some (.lst ds))) (hm : M a = some (.lst ds)) (h : SS X PX sts env' (delM M a) P) : SS X PX sts env M P :=
  ⟨fun S0 σ H ok wi => by
    obtain ⟨xs, hx, pf, rf⟩ := Pst.freeze ok.sh ok.mem hm
    have ok1 := ok.step pf
    have hl : i < env.length := (List.getElem?_eq_some_iff.mp hi).1
    have ok2 : Ok X (upd S0 a (.lst xs)) env' (delM M a) σ H := by
      refine ⟨ok1.sh, ok1.mem, ?_, fun j x d e => ?_, ok1.len, ok1.nd⟩
      · rw [he, List.map_set, ok1.nm]
        apply List.ext_getElem?
        intro j
        by_cases hj : j = i
        · subst hj
          have e1 : X.N[j]? = some y := by rw [← ok1.nm, List.getElem?_map, hi]; rfl
          rw [List.getElem?_set_self (by rw [← ok1.nm, List.length_map]; exact hl), e1]
        · rw [List.getElem?_set_ne (Ne.symm hj)]
      · rw [he] at e
        by_cases hj : j = i
        · subst hj
          rw [List.getElem?_set_self hl] at e
          cases e
          obtain ⟨v, h1, h2⟩ := ok1.sl _ _ _ hi
          rw [show v = V.ref a from h2] at h1
          exact ⟨_, h1, rf⟩
        · rw [List.getElem?_set_ne (Ne.symm hj)] at e
          exact ok1.sl _ _ _ e
    exact h.from pf ok2 (wi.step pf)⟩
theorem SS_frz0 {env' : Vars} {a : Addr} {ds : List D} (hm : M a = some (.lst ds)) (he : env' = env) (h : SS X PX sts env' (delM M a) P) : SS X PX sts env M P := by
  subst he
  exact ⟨fun S0 σ H ok wi => by
    obtain ⟨xs, hx, pf, rf⟩ := Pst.freeze ok.sh ok.mem hm
    exact h.from pf (ok.step pf) (wi.step pf)⟩
theorem asub_c {a b : Expr} {pos : Pos} {env : PySem.Env} (h : nSt b = true) : ∀ v, assign (.Subscript a b pos) env v = (do
      let ov ← holding [v] (eval a env)
      let iv ← holding [v, ov] (eval b env)
      standAt pos
      holding [v, ov, iv] (setItem ov iv v)
      release [v, ov, iv] []) := by
  intro v
  cases b <;> first | rfl | cases h
theorem fld_S {Γ : Gm} {e o : Expr} {f : Str} {p' pos : Pos} (hfd : ∀ C f, Γ.fd C f → Cls X.K C ∧ NoAttr X.K C f)
    (h : E X PX e env M fun d M1 => E X PX o env M1 fun x M2 => ∃ a C fs fs', x = .ref a ∧ M2 a = some (.ins C fs) ∧ Γ.fd C f ∧ fs.length < 900 ∧ FPut fs f d fs' ∧ P.nx env (updM M2 a (.ins C fs'))) : S X PX (.Assign [.Attribute o f p'] e pos) env M P :=
  ⟨fun S σ H ok wi => semS_of (ps_fld pe_sem pe_sem (sws_c rfl)) (h.bind ok wi fun S1 d M1 v H1 p1 ok1 wi1 r ho => ho.bind ok1 wi1 fun S2 x M2 u H2 p2 ok2 wi2 rx ⟨a, C, fs, fs', e1, hm, hg, hl, hf, q⟩ => by
    subst e1
    obtain ⟨_, dx, gs, h1, h2⟩ := ok2.mem _ _ hm
    have pw := Pst.write (o := .ins C dx (putF f v gs)) (c := .ins C fs') ok2.sh ok2.mem (by rw [hm]; intro z; cases z) ⟨dx, _, upd_same, hf.rd h2 (Rep.mono p2.ss _ _ r)⟩
    exact ⟨a, C, dx, gs, rx, h1, (hfd C f hg).1, (hfd C f hg).2, by rw [h2.len]; omega, _, env, _, (p1.trans p2).trans pw, ok2.step pw, q⟩)⟩
/-- o.f among the targets -/
def gFldV (K : PySem.W.Frag) (to : TE) (f : Str) : TG := fun v σ H Q => to σ H fun x H1 => ∃ a C dx fs, x = .ref a ∧ H1 a = some (.ins C dx fs) ∧ Cls K C ∧ NoAttr K C f ∧ fs.length < 1000 ∧ Q σ (upd H1 a (.ins C dx (putF f v fs)))
theorem pg_fldV {o : Expr} {f : Str} {pos : Pos} {to : TE} (ho : PE X o to) : PG X (.Attribute o f pos) (gFldV X.K to f) := by
  refine ⟨fun pins s σ H v u Q I r h => ?_⟩
  have ha : assign (.Attribute o f pos) X.env u = (do
      let ov ← holding [u] (eval o X.env)
      standAt pos.atName
      holding [u, ov] (setAttr ov f u)
      release [u, ov] []) := by rfl
  rw [ha]
  refine wpAny_bind (wpAny_holding (thn (ho.run pins s σ H _ I h) fun ov s1 ⟨x, H1, I1, r1, a, C, dx, fs, ex, ea, c, n, l, q⟩ => ?_))
  subst ex
  obtain rfl : ov = Value.ref a := r1
  refine wpAny_bind (wpAny_standAt (wpAny_bind (wpAny_holding (setattr_ok I1 ea c n l r fun s3 I3 => ?_))))
  exact wpAny_release ⟨σ, _, I3, q⟩
theorem g_fldV {Γ : Gm} {o : Expr} {f : Str} {pos : Pos} {d : D} {Q : Vars → Mem → Prop} (hfd : ∀ C f, Γ.fd C f → Cls X.K C ∧ NoAttr X.K C f)
    (h : E X PX o env M fun x M1 => ∃ a C fs fs', x = .ref a ∧ M1 a = some (.ins C fs) ∧ Γ.fd C f ∧ fs.length < 900 ∧ FPut fs f d fs' ∧ Q env (updM M1 a (.ins C fs'))) : G X PX (.Attribute o f pos) d env M Q :=
  ⟨fun S σ H v ok wi r => semG_of (pg_fldV pe_sem) (h.bind ok wi fun S2 x M2 u H2 p2 ok2 wi2 rx ⟨a, C, fs, fs', e1, hm, hg, hl, hf, q⟩ => by
    subst e1
    obtain ⟨_, dx, gs, h1, h2⟩ := ok2.mem _ _ hm
    have pw := Pst.write (o := .ins C dx (putF f v gs)) (c := .ins C fs') ok2.sh ok2.mem (by rw [hm]; intro z; cases z) ⟨dx, _, upd_same, hf.rd h2 (Rep.mono p2.ss _ _ r)⟩
    exact ⟨a, C, dx, gs, rx, h1, (hfd C f hg).1, (hfd C f hg).2, by rw [h2.len]; omega, _, env, _, p2.trans pw, ok2.step pw, q⟩)⟩
/-- name = [..], to be changed later -/
theorem s_lcM {elt it tg : Expr} {ifs : List Expr} {scope : Scope} {own : List (Str × Nat)} {envb : Vars} {pos : Pos} {y : Str} {py spos : Pos} (okB : BlkOk X.N X.env.scope scope own) (hd : Drops env (own.map (·.1)) envb) {ey : Vars} (h0 : Put env y .non ey) (h : LcI X PX own tg it elt ifs scope env envb M fun acc M' => ∀ p, M' p = none → ∃ env', Put env y (.ref p) env' ∧ P.nx env' (updM M' p (.lst acc)))
    (hsw : swapsWith (.ListComp elt [⟨tg, it, ifs, 0⟩] scope pos) (some (.Name y py)) spos.line X.env = pure true)
    (hyl : X.env.scope.names.lookup y = some .local) (hc : X.calm = true) (hs : ∀ x, foldedSetIterable it X.env x = pure x) : S X PX (.Assign [.Name y py] (.ListComp elt [⟨tg, it, ifs, 0⟩] scope pos) spos) env M P :=
  ⟨fun S σ H ok wi => by
    obtain ⟨i, hi⟩ := ok.ix h0
    refine semS_of (ps_setLc hc ok.nd hi hyl hsw pi_sem okB pg_all pts_all pe_all hs) (lc_sem ok wi okB.ix hd h fun Dl acc vs S' M' H' p hD hDl hS hM rs q => ?_)
    obtain ⟨env', hp, q⟩ := q Dl hM
    have p' := p.adoptM (c := .lst acc) hD ⟨vs, hDl, rs⟩ hS
    obtain ⟨i', hN, ok'⟩ := (ok.step p').put hp (show Rep X.K S' (.ref Dl) (.ref Dl) from rfl)
    have e := nodup_ix ok.nd hi hN
    subst e
    exact ⟨_, env', _, p', ok', q⟩⟩
theorem s_par3 {x y z : Str} {px py pz pt pos : Pos} {kt k2 : Nat} {pt2 : Pos} {a b c : Expr} {ex ey ez : Vars} (h0x : Put env x .non ex) (h0y : Put env y .non ey) (h0z : Put env z .non ez) (hne : ¬ x = y) (hne2 : ¬ x = z) (hne3 : ¬ y = z)
    (h : A X PX [a, b, c] env M fun ds M1 => ∃ d1 d2 d3 env1 env2 env3, ds = [d1, d2, d3] ∧ Put env x d1 env1 ∧ Put env1 y d2 env2 ∧ Put env2 z d3 env3 ∧ P.nx env3 M1)
    (hx : X.env.scope.names.lookup x = some .local) (hy : X.env.scope.names.lookup y = some .local) (hz : X.env.scope.names.lookup z = some .local) (hc : X.calm = true)
    (hw : swappedStores [.Tuple [.Name x px, .Name y py, .Name z pz] kt pt] (.Tuple [a, b, c] k2 pt2) X.env = pure (some [x, y, z])) :
    S X PX (.Assign [.Tuple [.Name x px, .Name y py, .Name z pz] kt pt] (.Tuple [a, b, c] k2 pt2) pos) env M P :=
  ⟨fun S σ H ok wi => by
    obtain ⟨i, hi⟩ := ok.ix h0x
    obtain ⟨j, hj⟩ := ok.ix h0y
    obtain ⟨l, hl⟩ := ok.ix h0z
    have hij : i ≠ j := fun z => hne (by rw [z, hj] at hi; exact (Option.some.inj hi).symm)
    have hil : i ≠ l := fun z => hne2 (by rw [z, hl] at hi; exact (Option.some.inj hi).symm)
    have hjl : j ≠ l := fun z => hne3 (by rw [z, hl] at hj; exact (Option.some.inj hj).symm)
    refine semS_of (ps_par3 hc ok.nd hi hj hl hij hil hjl hx hy hz pa_sem hw rfl) (h.bind ok wi fun S1 ds M1 vs H1 p1 ok1 wi1 rs ⟨d1, d2, d3, env1, env2, env3, e1, h1, h2, h3, q⟩ => ?_)
    subst e1
    obtain ⟨v, r, rfl, r1, w, r', e2, r2, u, r'', e3, r3, e4⟩ := rs
    have e4 : r'' = [] := e4
    subst e4 e3 e2
    obtain ⟨i1, hN1, o1⟩ := ok1.put h1 r1
    obtain ⟨j1, hN2, o2⟩ := o1.put h2 r2
    obtain ⟨l1, hN3, o3⟩ := o2.put h3 r3
    have q1 := nodup_ix ok.nd hi hN1
    have q2 := nodup_ix ok.nd hj hN2
    have q3 := nodup_ix ok.nd hl hN3
    subst q1 q2 q3
    exact ⟨v, w, u, rfl, S1, env3, M1, p1, o3, q⟩⟩
end
theorem par_c {sc : Scope} {env : PySem.Env} {s t : Str} {p1 p2 pt pt2 : Pos} {k k2 : Nat} {u w : Expr} (hs : env.scope = sc) (hk : sc.kind = .function) (h1 : sc.names.lookup s = some .local) (h2 : sc.names.lookup t = some .local) (hne : s ≠ t) (hl : (p2.line == p1.line) = true) (hu : nSt u = true) (hw : nSt w = true)
    (hf : ([u, w].all (foldedForSure 8)) = false) (hc : ([u, w].all (constantsAlone 8)) = false) : swappedStores [.Tuple [.Name s p1, .Name t p2] k pt] (.Tuple [u, w] k2 pt2) env = pure (some [s, t]) := by
  have hb : env.blockKind = .function := by unfold Env.blockKind; rw [hs, hk]; rfl
  have k1 : env.kindOf s = some .local := by unfold Env.kindOf; rw [hs]; exact h1
  have k2' : env.kindOf t = some .local := by unfold Env.kindOf; rw [hs]; exact h2
  have e1 : ([u, w].any fun | .Starred .. => true | _ => false) = false := by
    cases u <;> first | (cases hu; done) | (cases w <;> first | rfl | cases hw)
  have hl' : p2.line = p1.line := by simpa using hl
  have hne'' : (t == s) = false := by simpa using Ne.symm hne
  have e2 : ([s, t].eraseDups).length = 2 := by simp [List.eraseDups_cons, hne'']
  have e3 : ([Expr.Name s p1, Expr.Name t p2].filterMap fun | .Name id pos => if (env.kindOf id == some .local && pos.line == p1.line) = true then some id else none | _ => none) = [s, t] := by
    simp [List.filterMap_cons, k1, k2', hl']
  unfold swappedStores
  simp only [hb]
  show (if ([u, w].any fun | .Starred .. => true | _ => false) = true then _ else
    if (([Expr.Name s p1, Expr.Name t p2].filterMap fun | .Name id pos => if (env.kindOf id == some .local && pos.line == p1.line) = true then some id else none | _ => none).length != 2 || ([Expr.Name s p1, Expr.Name t p2].filterMap fun | .Name id pos => if (env.kindOf id == some .local && pos.line == p1.line) = true then some id else none | _ => none).eraseDups.length != ([Expr.Name s p1, Expr.Name t p2].filterMap fun | .Name id pos => if (env.kindOf id == some .local && pos.line == p1.line) = true then some id else none | _ => none).length) = true then _
    else if ([u, w].all (foldedForSure 8)) = true then _ else if ([u, w].all (constantsAlone 8)) = true then _ else (pure (some ([Expr.Name s p1, Expr.Name t p2].filterMap fun | .Name id pos => if (env.kindOf id == some .local && pos.line == p1.line) = true then some id else none | _ => none)) : Sem _)) = _
  rw [e3, e1, e2, hf, hc]
  rfl
theorem par3_c {sc : Scope} {env : PySem.Env} {s t r : Str} {p1 p2 p3 pt pt2 : Pos} {k k2 : Nat} {u w q : Expr} (hs : env.scope = sc) (hk : sc.kind = .function) (h1 : sc.names.lookup s = some .local) (h2 : sc.names.lookup t = some .local) (h3 : sc.names.lookup r = some .local) (hne : s ≠ t) (hne2 : s ≠ r) (hne3 : t ≠ r) (hl : (p2.line == p1.line) = true) (hl2 : (p3.line == p1.line) = true) (hu : nSt u = true) (hw : nSt w = true) (hq : nSt q = true)
    (hf : ([u, w, q].all (foldedForSure 8)) = false) (hc : ([u, w, q].all (constantsAlone 8)) = false) : swappedStores [.Tuple [.Name s p1, .Name t p2, .Name r p3] k pt] (.Tuple [u, w, q] k2 pt2) env = pure (some [s, t, r]) := by
  have hb : env.blockKind = .function := by unfold Env.blockKind; rw [hs, hk]; rfl
  have k1 : env.kindOf s = some .local := by unfold Env.kindOf; rw [hs]; exact h1
  have k3' : env.kindOf r = some .local := by unfold Env.kindOf; rw [hs]; exact h3
  have k2' : env.kindOf t = some .local := by unfold Env.kindOf; rw [hs]; exact h2
  have e1 : ([u, w, q].any fun | .Starred .. => true | _ => false) = false := by
    cases u <;> first | (cases hu; done) | (cases w <;> first | (cases hw; done) | (cases q <;> first | rfl | cases hq))
  have hl2' : p3.line = p1.line := by simpa using hl2
  have hl' : p2.line = p1.line := by simpa using hl
  have e2 : ([s, t, r].eraseDups).length = 3 := by simp [List.eraseDups_cons, Ne.symm hne, Ne.symm hne2, Ne.symm hne3]
  have e3 : ([Expr.Name s p1, Expr.Name t p2, Expr.Name r p3].filterMap fun | .Name id pos => if (env.kindOf id == some .local && pos.line == p1.line) = true then some id else none | _ => none) = [s, t, r] := by
    simp [List.filterMap_cons, k1, k2', k3', hl', hl2']
  unfold swappedStores
  simp only [hb]
  show (if ([u, w, q].any fun | .Starred .. => true | _ => false) = true then _ else
    if (([Expr.Name s p1, Expr.Name t p2, Expr.Name r p3].filterMap fun | .Name id pos => if (env.kindOf id == some .local && pos.line == p1.line) = true then some id else none | _ => none).length != 3 || ([Expr.Name s p1, Expr.Name t p2, Expr.Name r p3].filterMap fun | .Name id pos => if (env.kindOf id == some .local && pos.line == p1.line) = true then some id else none | _ => none).eraseDups.length != ([Expr.Name s p1, Expr.Name t p2, Expr.Name r p3].filterMap fun | .Name id pos => if (env.kindOf id == some .local && pos.line == p1.line) = true then some id else none | _ => none).length) = true then _
    else if ([u, w, q].all (foldedForSure 8)) = true then _ else if ([u, w, q].all (constantsAlone 8)) = true then _ else (pure (some ([Expr.Name s p1, Expr.Name t p2, Expr.Name r p3].filterMap fun | .Name id pos => if (env.kindOf id == some .local && pos.line == p1.line) = true then some id else none | _ => none)) : Sem _)) = _
  rw [e3, e1, e2, hf, hc]
  rfl
section
variable {Gn : Gs'} {Γ : Gm} {j : Nat} {N : List Str}
theorem put_ok {fa : Str → Bool} {sc : Scope} {X : Cx} {S : Hp} {σ : St} {H : Hp} {env : Vs} {M : Mem} {i : Nat} {x : Str} (R : Rt Gn Γ j N fa sc X) (ok : Ok X S (N.zip env) M σ H) (h : N[i]? = some x) (d : D) : Put (N.zip env) x d (N.zip (env.set i (some d))) := by
  refine put_zip d h ?_
  have h1 : i < N.length := (List.getElem?_eq_some_iff.mp h).1
  have h2 := Ok.ln R ok
  omega
theorem put_len {fa : Str → Bool} {sc : Scope} {X : Cx} {S : Hp} {σ : St} {H : Hp} {env : Vs} {M : Mem} {i : Nat} {x : Str} (R : Rt Gn Γ j N fa sc X) (hl : N.length ≤ env.length) (h : N[i]? = some x) (d : D) : Put (N.zip env) x d (N.zip (env.set i (some d))) := by
  refine put_zip d h ?_
  have h1 : i < N.length := (List.getElem?_eq_some_iff.mp h).1
  omega
theorem two_A {X : Cx} {PX : PXT} {sc : Scope} {env : Vs} {M : Mem} {u w : Expr} {x y : IE} {Q : D → D → Mem → Prop} (R : Rt Gn Γ j N allF sc X) (h1 : chkE Gn N allF sc x u = true) (h2 : chkE Gn N allF sc y w = true)
    (h : wE Γ x env M PX fun d M1 => wE Γ y env M1 PX fun e M2 => Q d e M2) : A X PX [u, w] (N.zip env) M fun ds M1 => ∃ d e, ds = [d, e] ∧ Q d e M1 :=
  a_cons ((snd_e x R h1 h).imp fun d M1 q => a_cons ((snd_e y R h2 q).imp fun e M2 q => a_nil ⟨d, e, rfl, q⟩) (star_c (nst_e h2))) (star_c (nst_e h1))
theorem three_A {X : Cx} {PX : PXT} {sc : Scope} {env : Vs} {M : Mem} {u w v : Expr} {x y z : IE} {Q : D → D → D → Mem → Prop} (R : Rt Gn Γ j N allF sc X) (h1 : chkE Gn N allF sc x u = true) (h2 : chkE Gn N allF sc y w = true) (h3 : chkE Gn N allF sc z v = true)
    (h : wE Γ x env M PX fun d M1 => wE Γ y env M1 PX fun e M2 => wE Γ z env M2 PX fun f M3 => Q d e f M3) : A X PX [u, w, v] (N.zip env) M fun ds M1 => ∃ d e f, ds = [d, e, f] ∧ Q d e f M1 :=
  a_cons ((snd_e x R h1 h).imp fun d M1 q => a_cons ((snd_e y R h2 q).imp fun e M2 q => a_cons ((snd_e z R h3 q).imp fun f M3 q => a_nil ⟨d, e, f, rfl, q⟩) (star_c (nst_e h3))) (star_c (nst_e h2))) (star_c (nst_e h1))
/-- name = [..] -/
theorem snd_asgLc {X : Cx} {PX : PXT} {sc : Scope} {env : Vs} {M : Mem} {nx bk ct : KV} {Rv : QD} {m : Bool} {own : List Nat} {t' : Tg} {it : IT} {ifs : IO} {elt : IE} {i : Nat} {y : Str} {py spos : Pos} {e : Expr} (R : Rt Gn Γ j N allF sc X) (hk : sc.kind = .function)
    (hN : N[i]? = some y) (hl : locB allF sc y = true) (hc : chkE Gn N allF sc (.lc m own t' it ifs elt) e = true) (h : wE Γ (.lc m own t' it ifs elt) env M PX fun d M1 => nx (env.set i (some d)) M1) : S X PX (.Assign [.Name y py] e spos) (N.zip env) M (upK N nx Rv bk ct) := by
  have hc0 := hc
  unfold chkE at hc
  split at hc
  · rename_i elt' tg' it' fs as scope pos
    by_cases hs : swB sc scope y py pos = true
    · obtain ⟨hyl, hsw⟩ := swB_t (spos := spos) (elt := elt') (gs := [⟨tg', it', fs, as⟩]) R.sc hs
      simp only [Bool.and_eq_true, decide_eq_true_eq] at hc
      obtain ⟨⟨⟨⟨⟨⟨h0, h1⟩, h2⟩, h3⟩, h4⟩, h5⟩, h6⟩ := hc
      subst h0
      have okB := blkOk_by h1
      rw [← R.nm, ← R.sc] at okB
      have hix : ∀ p ∈ ownOf N own, N[p.2]? = some p.1 := fun p hp => by have := okB.ix p (by rw [R.nm]; exact hp); rw [R.nm] at this; exact this
      have L : LcI X PX (ownOf N own) tg' it' elt' fs scope (N.zip env) (N.zip (wipeV env own)) M fun acc M' => if m = true then ∀ p, M' p = none → nx (env.set i (some (.ref p))) (updM M' p (.lst acc)) else nx (env.set i (some (.lst acc))) M' := (snd_i it R h4 h).imp fun items M1 ⟨hl, J, j0, jt, jd⟩ => by
        refine ⟨hl, J, j0, fun i hi acc M' hJ ha s H C cl fp => ?_, jd⟩
        refine snd_tw (R.blk s H _ C cl fp) hix t' h2 h3 (jt i hi acc M' hJ ha) fun env2 q s H C cl fp => ?_
        refine (snd_ifs ifs (R.blk s H _ C cl fp) h5 q).imp fun t M3 q => ?_
        obtain ⟨q1, q2⟩ := wIf_e q
        exact ⟨fun z s H C cl fp => snd_e elt (R.blk s H _ C cl fp) h6 (q1 z), q2⟩
      have hit : nSt it' = true := nst_i h4
      cases m with
      | true =>
        refine ⟨fun S σ H ok wi => (s_lcM (P := upK N nx Rv bk ct) (by rw [R.nm] at okB ⊢; exact okB) (drops_zip (Ok.ln R ok) hix) (put_ok R ok hN .non) (L.imp fun items M1 ⟨hl, J, j0, jt, jd⟩ => ⟨hl, J, j0, jt, fun acc M' a b p hp => ⟨_, put_ok R ok hN (.ref p), env.set i (some (.ref p)), rfl, jd acc M' a b p hp⟩⟩) hsw hyl R.calm (fold_c hit)).run S σ H ok wi⟩
      | false =>
        refine ⟨fun S σ H ok wi => (s_lc (P := upK N nx Rv bk ct) (by rw [R.nm] at okB ⊢; exact okB) (drops_zip (Ok.ln R ok) hix) (put_ok R ok hN .non) (L.imp fun items M1 ⟨hl, J, j0, jt, jd⟩ => ⟨hl, J, j0, jt, fun acc M' a b => ⟨_, put_ok R ok hN (.lst acc), env.set i (some (.lst acc)), rfl, jd acc M' a b⟩⟩) hsw hyl R.calm (fold_c hit)).run S σ H ok wi⟩
    · have hs : swB sc scope y py pos = false := by simpa using hs
      refine s_asg ((snd_e _ R hc0 h).imp fun d M1 q => snd_tg (Q := fun env' => nx env' M1) R (.nm i) (e := .Name y py) ?_ q fun env' q => ⟨env', rfl, q⟩) (swB_f R.sc hk hs) rfl rfl
      unfold chkTg
      simp only [Bool.and_eq_true, decide_eq_true_eq]
      exact ⟨hN, hl⟩
  · cases hc
theorem aug_S {X : Cx} {PX : PXT} {env : Vars} {M : Mem} {P : Pk} {x : Str} {o : BO} {p pos : Pos} {d : D} {e : Expr} (ha : At env x d) (h : E X PX e env M fun y M1 => wAug o d y fun z => ∃ env', Put env x z env' ∧ P.nx env' M1)
    (hx : Loc X.env.scope x) (hf : X.fn x = true ∨ X.env.scope.names.lookup x = some .local) : S X PX (.AugAssign (.Name x p) o.op e pos) env M P := by
  cases o with
  | add =>
    refine s_aug (ti := ipI fun i j => i + j) (g := fun x y M Q => wAug .add x y fun z => Q z M) ip_add ?_ ha (h.imp fun y M1 q => q) hx hf
    intro S M H x y v u Q R sh m rx ry hg hR
    cases x <;> cases y <;> first | exact hg.elim | exact ⟨_, _, rx, ry, hR _ _ (post_int sh m hg)⟩
  | sub =>
    refine s_aug (ti := ipI fun i j => i - j) (g := fun x y M Q => wAug .sub x y fun z => Q z M) ip_sub ?_ ha (h.imp fun y M1 q => q) hx hf
    intro S M H x y v u Q R sh m rx ry hg hR
    cases x <;> cases y <;> first | exact hg.elim | exact ⟨_, _, rx, ry, hR _ _ (post_int sh m hg)⟩
  | mul =>
    refine s_aug (g := fun x y M Q => wAug .mul x y fun z => Q z M) ip_mulW ?_ ha (h.imp fun y M1 q => q) hx hf
    intro S M H x y v u Q R sh m rx ry hg hR
    cases x <;> cases y <;> first | exact hg.elim | exact ⟨_, _, rx, ry, hg.1, hR _ _ (post_int sh m hg.2)⟩
  | _ => 
    refine s_aug (ti := fun _ _ _ _ => False) (g := fun x y M Q => False) (fun _ _ _ _ _ _ _ _ _ _ _ _ z => z.elim) ?_ ha (h.imp fun y M1 q => q) hx hf
    intro S M H x y v u Q R sh m rx ry hg hR
    exact hg
theorem wAug_mono {o : BO} {x y : D} {k k' : D → Prop} (h : wAug o x y k) (hk : ∀ z, k z → k' z) : wAug o x y k' := by
  cases o <;> first | exact h.elim | (cases x <;> cases y <;> first | exact h.elim | exact hk _ h | exact ⟨h.1, hk _ h.2⟩)
mutual
theorem snd_s {X : Cx} {sc : Scope} (R : Rt Gn Γ j N allF sc X) (hk : sc.kind = .function) : ∀ (s : IS) {PX : PXT} {st : Stmt} {env : Vs} {M : Mem} {nx bk ct : KV} {Rv : QD}, chkS Gn N sc s st = true → wS Γ PX Rv s env M nx bk ct → S X PX st (N.zip env) M (upK N nx Rv bk ct)
  | .asg g a, PX, st, env, M, nx, bk, ct, Rv, hc, h => by
    unfold chkS at hc
    split at hc
    · rename_i tg e pos
      rw [Bool.and_eq_true] at hc
      obtain ⟨hc1, hc2⟩ := hc
      cases g with
      | t t =>
        simp only [Bool.and_eq_true] at hc2
        obtain ⟨⟨h1, h2⟩, h3⟩ := hc2
        have plain : (nComp e || nName tg) = true → S X PX (.Assign [tg] e pos) (N.zip env) M (upK N nx Rv bk ct) := fun h3 => by
          refine s_asg ((snd_e a R hc1 h).imp fun d M1 q => snd_tg (Q := fun env' => nx env' M1) R t h1 q fun env' q => ⟨env', rfl, q⟩) ?_ (nsw_c R.sc hk h2) (by rw [asg_c (nst_tg h1)]; rfl)
          rw [Bool.or_eq_true] at h3
          rcases h3 with h3 | h3
          · exact sole_c h3
          · exact sole_c2 h3
        cases a with
        | lc m own t' it ifs elt =>
          cases t with
          | nm i =>
            unfold chkTg at h1
            split at h1
            · simp only [Bool.and_eq_true, decide_eq_true_eq] at h1
              exact snd_asgLc R hk h1.1 h1.2 hc1 h
            · cases h1
          | tp ts =>
            refine plain ?_
            unfold chkTg at h1
            split at h1
            · show (nComp e || true) = true
              rw [Bool.or_true]
            · cases h1
        | _ => exact plain h3
      | sub x y =>
        simp only at hc2
        split at hc2
        · rw [Bool.and_eq_true] at hc2
          refine s_asg ((snd_e a R hc1 h).imp fun d M1 q => g_sub ((snd_e x R hc2.1 q).imp fun o M2 q => (snd_e y R hc2.2 q).imp fun i M3 q => ?_) (asub_c (nst_e hc2.2))) (sole_c2 rfl) rfl rfl
          cases o with
          | ref p =>
            cases i with
            | int k =>
              obtain ⟨ds, j, q1, q2, q3⟩ := q
              exact ⟨p, ds, k, j, rfl, rfl, q1, q2, env, rfl, q3⟩
            | _ => exact q.elim
          | _ => exact q.elim
        · cases hc2
      | dsub x y =>
        simp only at hc2
        split at hc2
        · rw [Bool.and_eq_true] at hc2
          refine s_dput R.hu1 ((snd_e a R hc1 h).imp fun d M1 q => (snd_e x R hc2.1 q).imp fun o M2 q => (snd_e y R hc2.2 q).imp fun i M3 q => ?_) (sws_c rfl)
          cases o with
          | ref p =>
            obtain ⟨kvs, k, q1, q2, q3, q4⟩ := q
            exact ⟨p, kvs, k, rfl, q2, q1, q3, env, rfl, q4⟩
          | _ => exact q.elim
        · cases hc2
      | fld x f =>
        simp only at hc2
        split at hc2
        · simp only [Bool.and_eq_true, decide_eq_true_eq] at hc2
          obtain ⟨hf, h2⟩ := hc2
          subst hf
          exact fld_S R.fd ((snd_e a R hc1 h).imp fun d M1 q => (snd_e x R h2 q).imp fun o M2 q => by
            cases o with
            | ref p =>
              obtain ⟨C, fs, fs', q1, q2, q3, q4, q5⟩ := q
              exact ⟨p, C, fs, fs', rfl, q1, q2, q3, q4, env, rfl, q5⟩
            | _ => exact q.elim)
        · cases hc2
      | fld2 x f g =>
        simp only at hc2
        split at hc2
        · simp only [Bool.and_eq_true, decide_eq_true_eq] at hc2
          obtain ⟨⟨⟨⟨hf, hg⟩, h2⟩, h3⟩, h4⟩ := hc2
          subst hf hg
          refine s_asg ((snd_e a R hc1 h).imp fun d M1 q => ?_) (sole_c2 rfl) (nsw_c R.sc hk h4) rfl
          cases d with
          | tup ds =>
            match ds, q with
            | [du, dv], q =>
              refine g_tup ⟨[du, dv], rfl, rfl, ?_⟩ R.calm
              refine gs_cons (g_fldV R.fd ((snd_e x R h2 q).imp fun o M2 q => ?_))
              cases o with
              | ref p =>
                obtain ⟨C, fs, fs', q1, q2, q3, q4, q5⟩ := q
                refine ⟨p, C, fs, fs', rfl, q1, q2, q3, q4, ?_⟩
                refine gs_cons (g_fldV R.fd ((snd_e x R h3 q5).imp fun o M3 q => ?_))
                cases o with
                | ref p2 =>
                  obtain ⟨C2, fs2, fs2', r1, r2, r3, r4, r5⟩ := q
                  exact ⟨p2, C2, fs2, fs2', rfl, r1, r2, r3, r4, gs_nil ⟨env, rfl, r5⟩⟩
                | _ => exact q.elim
              | _ => exact q.elim
            | [], q => exact q.elim
            | [_], q => exact q.elim
            | _ :: _ :: _ :: _, q => exact q.elim
          | _ => exact q.elim
        · cases hc2
    · cases hc
  | .par a b x y, PX, st, env, M, nx, bk, ct, Rv, hc, h => by
    unfold chkS at hc
    split at hc
    · simp only [Bool.and_eq_true, decide_eq_true_eq, Bool.not_eq_true'] at hc
      obtain ⟨⟨⟨⟨⟨⟨⟨⟨⟨h1, h2⟩, h3⟩, h4⟩, h5⟩, h6⟩, h7⟩, h8⟩, h9⟩, h10⟩ := hc
      have l1 := lcl_of h4
      have l2 := lcl_of h5
      rw [← R.sc] at l1 l2
      refine ⟨fun S σ H ok wi => (s_par (P := upK N nx Rv bk ct) (put_ok R ok h1 .non) (put_ok R ok h2 .non) h3 ((two_A R h7 h8 h).imp fun ds M1 ⟨d, e, e1, q⟩ => ⟨d, e, _, _, e1, put_ok R ok h1 d, put_len (S := S) (σ := σ) (H := H) (M := M) R (by rw [List.length_set]; exact Ok.ln R ok) h2 e, _, rfl, q⟩) l1 l2 R.calm (par_c R.sc hk (lcl_of h4) (lcl_of h5) h3 h6 (nst_e h7) (nst_e h8) h9 h10) rfl).run S σ H ok wi⟩
    · cases hc
  | .par3 a b c x y z, PX, st, env, M, nx, bk, ct, Rv, hc, h => by
    unfold chkS at hc
    split at hc
    · simp only [Bool.and_eq_true, decide_eq_true_eq, Bool.not_eq_true'] at hc
      obtain ⟨⟨⟨⟨⟨⟨⟨⟨⟨⟨⟨⟨⟨⟨⟨h1, h2⟩, h3⟩, n1⟩, n2⟩, n3⟩, h4⟩, h5⟩, h5'⟩, h6⟩, h6'⟩, h7⟩, h8⟩, h8'⟩, h9⟩, h10⟩ := hc
      have l1 := lcl_of h4
      have l2 := lcl_of h5
      have l3 := lcl_of h5'
      rw [← R.sc] at l1 l2 l3
      refine ⟨fun S σ H ok wi => (s_par3 (P := upK N nx Rv bk ct) (put_ok R ok h1 .non) (put_ok R ok h2 .non) (put_ok R ok h3 .non) n1 n2 n3 ((three_A R h7 h8 h8' h).imp fun ds M1 ⟨d, e, f, e1, q⟩ => ⟨d, e, f, _, _, _, e1, put_ok R ok h1 d, put_len (S := S) (σ := σ) (H := H) (M := M) R (by rw [List.length_set]; exact Ok.ln R ok) h2 e, put_len (S := S) (σ := σ) (H := H) (M := M) R (by rw [List.length_set, List.length_set]; exact Ok.ln R ok) h3 f, _, rfl, q⟩) l1 l2 l3 R.calm (par3_c R.sc hk (lcl_of h4) (lcl_of h5) (lcl_of h5') n1 n2 n3 h6 h6' (nst_e h7) (nst_e h8) (nst_e h8') h9 h10)).run S σ H ok wi⟩
    · cases hc
  | .aug i o a, PX, st, env, M, nx, bk, ct, Rv, hc, h => by
    unfold chkS at hc
    split at hc
    · simp only [Bool.and_eq_true, decide_eq_true_eq] at hc
      obtain ⟨⟨⟨⟨h1, h2⟩, h3⟩, h4⟩, h5⟩ := hc
      subst h2
      obtain ⟨d, e1, q⟩ := wSome_e h
      refine ⟨fun S σ H ok wi => (aug_S (P := upK N nx Rv bk ct) (at_zip h1 (lk_e e1)) ((snd_e a R h4 q).imp fun y M1 q => wAug_mono q fun z q => ⟨_, put_ok R ok h1 z, _, rfl, q⟩) (by rw [R.sc]; exact loc_of h3) (fn_of R h3)).run S σ H ok wi⟩
    · cases hc
  | .ex a, PX, st, env, M, nx, bk, ct, Rv, hc, h => by
    unfold chkS at hc
    split at hc
    · rw [Bool.and_eq_true] at hc
      exact s_expr ((snd_e a R hc.1 h).imp fun _ M1 q => ⟨env, rfl, q⟩) (swn_c hc.2)
    · cases hc
  | .ret a, PX, st, env, M, nx, bk, ct, Rv, hc, h => by
    unfold chkS at hc
    split at hc
    · exact s_ret (snd_e a R hc h)
    · cases hc
  | .retN, PX, st, env, M, nx, bk, ct, Rv, hc, h => by
    unfold chkS at hc
    split at hc
    · exact s_retN h
    · cases hc
  | .pass, PX, st, env, M, nx, bk, ct, Rv, hc, h => by
    unfold chkS at hc
    split at hc
    · exact s_pass ⟨env, rfl, h⟩
    · cases hc
  | .brk, PX, st, env, M, nx, bk, ct, Rv, hc, h => by
    unfold chkS at hc
    split at hc
    · exact s_break ⟨env, rfl, h⟩
    · cases hc
  | .cont, PX, st, env, M, nx, bk, ct, Rv, hc, h => by
    unfold chkS at hc
    split at hc
    · exact s_cont ⟨env, rfl, h⟩
    · cases hc
  | .ifS c t e, PX, st, env, M, nx, bk, ct, Rv, hc, h => by
    unfold chkS at hc
    split at hc
    · simp only [Bool.and_eq_true] at hc
      refine s_if ((snd_t c R hc.1.1.1 hc.1.1.2 h).imp fun b M1 q => ?_)
      obtain ⟨q1, q2⟩ := wIf_e q
      exact ⟨fun z => snd_ss R hk t hc.1.2 (q1 z), fun z => snd_ss R hk e hc.2 (q2 z)⟩
    · cases hc
  | .ifJ c t e, PX, st, env, M, nx, bk, ct, Rv, hc, h => by
    unfold chkS at hc
    split at hc
    · simp only [Bool.and_eq_true] at hc
      obtain ⟨J, h, hJ⟩ := h
      refine s_if ((snd_t c R hc.1.1.1 hc.1.1.2 h).imp fun b M1 q => ?_)
      obtain ⟨q1, q2⟩ := wIf_e q
      exact ⟨fun z => SS_imp (snd_ss R hk t hc.1.2 (q1 z)) (fun e M ⟨env, e1, q⟩ => ⟨env, e1, hJ _ _ q⟩) (fun _ _ q => q) (fun _ _ q => q) (fun _ _ q => q), fun z => SS_imp (snd_ss R hk e hc.2 (q2 z)) (fun e M ⟨env, e1, q⟩ => ⟨env, e1, hJ _ _ q⟩) (fun _ _ q => q) (fun _ _ q => q) (fun _ _ q => q)⟩
    · cases hc
  | .for_ t it b, PX, st, env, M, nx, bk, ct, Rv, hc, h => by
    unfold chkS at hc
    split at hc
    · simp only [Bool.and_eq_true] at hc
      refine s_for ((snd_i it R hc.1.2 h).imp fun items M1 ⟨J, j0, jt, jd⟩ => ⟨fun i e M => ∃ env, e = N.zip env ∧ J i env M, ⟨env, rfl, j0⟩, fun i hi e M' ⟨env', e1, hJ⟩ => ?_, fun e M' ⟨env', e1, hJ⟩ => ⟨env', e1, jd _ _ hJ⟩⟩) R.calm (fold_c (nst_i hc.1.2))
      subst e1
      exact snd_tg R t hc.1.1 (jt i hi env' M' hJ) fun env2 q => snd_ss R hk b hc.2 q
    · cases hc
  | .whl c b, PX, st, env, M, nx, bk, ct, Rv, hc, h => by
    unfold chkS at hc
    split at hc
    · simp only [Bool.and_eq_true] at hc
      obtain ⟨J, m0, j0, h⟩ := h
      refine s_while (J := fun m e M => ∃ env, e = N.zip env ∧ J m env M) m0 ⟨env, rfl, j0⟩ fun m e M' ⟨env', e1, hJ⟩ => ?_
      subst e1
      refine (snd_t c R hc.1.1 hc.1.2 (h m env' M' hJ)).imp fun t M1 q => ?_
      obtain ⟨q1, q2⟩ := wIf_e q
      exact ⟨fun z => SS_imp (snd_ss R hk b hc.2 (q1 z)) (fun e M ⟨env, e1, m', hm, q⟩ => ⟨m', hm, env, e1, q⟩) (fun _ _ q => q) (fun _ _ q => q) (fun e M ⟨env, e1, m', hm, q⟩ => ⟨m', hm, env, e1, q⟩), fun z => ⟨env', rfl, q2 z⟩⟩
    · cases hc
  | .frz i, PX, st, env, M, nx, bk, ct, Rv, hc, h => nomatch hc
  | .dead, PX, st, env, M, nx, bk, ct, Rv, hc, h => h.elim
  | .rse k, PX, st, env, M, nx, bk, ct, Rv, hc, h => by
    unfold chkS at hc
    split at hc
    · rw [Bool.and_eq_true, decide_eq_true_eq] at hc
      obtain ⟨C, e1, RC⟩ := R.rs k _ hc.1
      obtain ⟨hg, hd⟩ := R.glb hc.2
      have h : (match Γ.rs[k]? with | some C => PX (.ref C) [] M | none => False) := h
      rw [e1] at h
      exact s_raise RC R.calm h hg hd
    · cases hc
  | .yld _, PX, st, env, M, nx, bk, ct, Rv, hc, h => h.elim
theorem snd_ss {X : Cx} {sc : Scope} (R : Rt Gn Γ j N allF sc X) (hk : sc.kind = .function) : ∀ (s : ISs) {PX : PXT} {sts : List Stmt} {env : Vs} {M : Mem} {nx bk ct : KV} {Rv : QD}, chkSS Gn N sc s sts = true → wSS Γ PX Rv s env M nx bk ct → SS X PX sts (N.zip env) M (upK N nx Rv bk ct)
  | .nil, PX, sts, env, M, nx, bk, ct, Rv, hc, h => by
    cases sts with
    | nil => exact ss_nil ⟨env, rfl, h⟩
    | cons _ _ => cases hc
  | .cons s ss, PX, sts, env, M, nx, bk, ct, Rv, hc, h => by
    unfold chkSS at hc
    rw [Bool.or_eq_true] at hc
    rcases hc with hc | hc
    · rw [Bool.and_eq_true] at hc
      obtain ⟨hf, hc⟩ := hc
      cases s with
      | frz i =>
        obtain ⟨d, e1, q⟩ := wSome_e h
        obtain ⟨a, e2, ds, hm, q2⟩ := wRef_e q
        clear q
        subst e2
        have hh := snd_ss R hk ss hc q2
        refine ⟨fun S σ H ok wi => ?_⟩
        have hl := Ok.ln R ok
        by_cases hi : i < N.length
        · have hz : (N.zip env)[i]? = some (N[i], some (.ref a)) := by
            rw [List.getElem?_zip_eq_some]
            exact ⟨List.getElem?_eq_getElem hi, lk_e e1⟩
          refine (SS.frz hz ?_ hm hh).run S σ H ok wi
          apply List.ext_getElem?
          intro k
          by_cases hk : k = i
          · subst hk
            have l1 : k < (N.zip env).length := by rw [List.length_zip]; omega
            rw [List.getElem?_set_self l1, List.getElem?_zip_eq_some]
            exact ⟨List.getElem?_eq_getElem hi, List.getElem?_set_self (by omega)⟩
          · rw [List.getElem?_set_ne (Ne.symm hk)]
            simp only [List.zip, List.getElem?_zipWith, List.getElem?_set_ne (Ne.symm hk)]
        · refine (SS_frz0 hm (show N.zip (env.set i (some (.lst ds))) = N.zip env from ?_) hh).run S σ H ok wi
          apply List.ext_getElem?
          intro k
          by_cases hk : k < N.length
          · simp only [List.zip, List.getElem?_zipWith, List.getElem?_set_ne (show i ≠ k by omega)]
          · simp only [List.zip, List.getElem?_zipWith, List.getElem?_eq_none (show N.length ≤ k by omega)]
      | _ => cases hf
    · cases sts with
      | nil => cases hc
      | cons st sts =>
        rw [Bool.and_eq_true] at hc
        exact ss_cons (S_imp (snd_s R hk s hc.1 h) (fun e M ⟨env', e1, q⟩ => by subst e1; exact snd_ss R hk ss hc.2 q) (fun _ _ q => q) (fun _ _ q => q) (fun _ _ q => q))
end
/-! ### defs that hand out -/
mutual
def chkY (G : Gs') (N : List Str) (sc : Scope) : IS → Stmt → Bool
  | .yld a, st => match st with | .Expr (.Yield (some e) _) _ => chkE G N allF sc a e | _ => false
  | .ifS c t e, st => match st with | .If x ts es _ => c.tOk && chkE G N allF sc c x && chkYs G N sc t ts && chkYs G N sc e es | _ => false
  | .whl c b, st => match st with | .While x ts [] _ => c.tOk && chkE G N allF sc c x && chkYs G N sc b ts | _ => false
  | .for_ t it b, st => match st with | .For tg e ts [] _ => chkTg N allF sc t tg && chkI G N allF sc it tg e && chkYs G N sc b ts | _ => false
  | s, st => chkS G N sc s st
def chkYs (G : Gs') (N : List Str) (sc : Scope) : ISs → List Stmt → Bool
  | .nil, l => match l with | [] => true | _ => false
  | .cons s ss, l => match l with | [] => false | x :: xs => chkY G N sc s x && chkYs G N sc ss xs
end
def upY (N : List Str) (nx : KY) : YN := fun e acc M => ∃ env, e = N.zip env ∧ nx env acc M
theorem Y_imp {X : Cx} {PX : PXT} {st : Stmt} {env : Vars} {acc : List D} {M : Mem} {Q Q' B C : YN} (h : Y X PX st env acc M Q B C) (k : ∀ e a M, Q e a M → Q' e a M) : Y X PX st env acc M Q' B C :=
  ⟨fun S σ H ys ok wi r => semY_mono (h.run S σ H ys ok wi r) (fun _ _ _ ⟨S', e', a', M', p, o, r, q⟩ => ⟨S', e', a', M', p, o, r, k _ _ _ q⟩) (fun _ _ _ q => q) (fun _ _ _ q => q) (fun _ _ _ q => q)⟩
theorem Ys_imp {X : Cx} {PX : PXT} {st : List Stmt} {env : Vars} {acc : List D} {M : Mem} {Q Q' B B' C C' : YN} (h : Ys X PX st env acc M Q B C) (k : ∀ e a M, Q e a M → Q' e a M) (k2 : ∀ e a M, B e a M → B' e a M) (k3 : ∀ e a M, C e a M → C' e a M) : Ys X PX st env acc M Q' B' C' :=
  ⟨fun S σ H ys ok wi r => semYs_mono (h.run S σ H ys ok wi r) (fun _ _ _ ⟨S', e', a', M', p, o, r, q⟩ => ⟨S', e', a', M', p, o, r, k _ _ _ q⟩) (fun _ _ _ q => q) (fun _ _ _ ⟨S', e', a', M', p, o, r, q⟩ => ⟨S', e', a', M', p, o, r, k2 _ _ _ q⟩) (fun _ _ _ ⟨S', e', a', M', p, o, r, q⟩ => ⟨S', e', a', M', p, o, r, k3 _ _ _ q⟩)⟩
theorem y_plainW {X : Cx} {sc : Scope} (R : Rt Gn Γ j N allF sc X) (hk : sc.kind = .function) {s : IS} {st : Stmt} {env : Vs} {acc : List D} {M : Mem} {nx : KY} {B C : YN} (hc : chkS Gn N sc s st = true) (h : wS Γ PX0 (fun _ _ => False) s env M (fun env' M' => nx env' acc M') (fun _ _ => False) fun _ _ => False) :
    Y X PX0 st (N.zip env) acc M (upY N nx) B C :=
  y_plain (S_imp (snd_s R hk s hc h) (fun e M ⟨env', e1, q⟩ => ⟨env', e1, q⟩) (fun _ _ q => q) (fun e M ⟨env', e1, q⟩ => q.elim) (fun e M ⟨env', e1, q⟩ => q.elim))
mutual
theorem snd_y {X : Cx} {sc : Scope} (R : Rt Gn Γ j N allF sc X) (hk : sc.kind = .function) (hco : X.env.scope.isCoroutine = false) (hi' : interactive X.env = false) : ∀ (s : IS) {st : Stmt} {env : Vs} {acc : List D} {M : Mem} {nx : KY} {B C : YN}, chkY Gn N sc s st = true → wY Γ s env acc M nx → Y X PX0 st (N.zip env) acc M (upY N nx) B C
  | .yld a, st, env, acc, M, nx, B, C, hc, h => by
    unfold chkY at hc
    split at hc
    · obtain ⟨h1, h2⟩ := h
      exact y_yield ((snd_e a R hc h2).imp fun d M1 q => ⟨h1, env, rfl, q⟩) hco hi' h1
    · cases hc
  | .ifS c t e, st, env, acc, M, nx, B, C, hc, h => by
    unfold chkY at hc
    split at hc
    · simp only [Bool.and_eq_true] at hc
      obtain ⟨⟨⟨h1, h2⟩, h3⟩, h4⟩ := hc
      refine y_if ((snd_t c R h1 h2 h).imp fun b M1 q => ?_)
      obtain ⟨q1, q2⟩ := wIf_e q
      exact ⟨fun z => snd_ys R hk hco hi' t h3 (q1 z), fun z => snd_ys R hk hco hi' e h4 (q2 z)⟩
    · cases hc
  | .whl c b, st, env, acc, M, nx, B, C, hc, h => by
    unfold chkY at hc
    split at hc
    · simp only [Bool.and_eq_true] at hc
      obtain ⟨⟨h1, h2⟩, h3⟩ := hc
      obtain ⟨J, m0, j0, hJ⟩ := h
      refine y_while (J := fun m => upY N (J m)) m0 ⟨env, rfl, j0⟩ ?_
      rintro m _ acc' M' ⟨env', rfl, jj⟩
      refine (snd_t c R h1 h2 (hJ m env' acc' M' jj)).imp fun t M1 q => ?_
      obtain ⟨q1, q2⟩ := wIf_e q
      refine ⟨fun z => Ys_imp (snd_ys R hk hco hi' b h3 (q1 z)) ?_ (fun _ _ _ q => q) (fun _ _ _ q => q), fun z => ⟨env', rfl, q2 z⟩⟩
      rintro e a M2 ⟨env2, rfl, m', hm, j2⟩
      exact ⟨m', hm, env2, rfl, j2⟩
    · cases hc
  | .asg _ _, st, env, acc, M, nx, B, C, hc, h => y_plainW R hk hc h
  | .par _ _ _ _, st, env, acc, M, nx, B, C, hc, h => y_plainW R hk hc h
  | .par3 _ _ _ _ _ _, st, env, acc, M, nx, B, C, hc, h => y_plainW R hk hc h
  | .aug _ _ _, st, env, acc, M, nx, B, C, hc, h => y_plainW R hk hc h
  | .ex _, st, env, acc, M, nx, B, C, hc, h => y_plainW R hk hc h
  | .ret _, st, env, acc, M, nx, B, C, hc, h => y_plainW R hk hc h
  | .retN, st, env, acc, M, nx, B, C, hc, h => y_plainW R hk hc h
  | .pass, st, env, acc, M, nx, B, C, hc, h => y_plainW R hk hc h
  | .brk, st, env, acc, M, nx, B, C, hc, h => y_plainW R hk hc h
  | .cont, st, env, acc, M, nx, B, C, hc, h => y_plainW R hk hc h
  | .ifJ _ _ _, st, env, acc, M, nx, B, C, hc, h => y_plainW R hk hc h
  | .for_ t it b, st, env, acc, M, nx, B, C, hc, h => by
    unfold chkY at hc
    split at hc
    · simp only [Bool.and_eq_true] at hc
      refine y_for ((snd_i it R hc.1.2 h).imp fun items M1 ⟨J, j0, jt, jd⟩ => ⟨fun i => upY N (J i), ⟨env, rfl, j0⟩, ?_, ?_⟩) R.calm (fold_c (nst_i hc.1.2))
      · rintro i hi _ acc' M' ⟨env', rfl, hJ⟩
        exact snd_tg R t hc.1.1 (jt i hi env' acc' M' hJ) fun env2 q => snd_ys R hk hco hi' b hc.2 q
      · rintro _ acc' M' ⟨env', rfl, hJ⟩
        exact ⟨env', rfl, jd _ _ _ hJ⟩
    · cases hc
  | .frz _, st, env, acc, M, nx, B, C, hc, h => y_plainW R hk hc h
  | .dead, st, env, acc, M, nx, B, C, hc, h => y_plainW R hk hc h
  | .rse _, st, env, acc, M, nx, B, C, hc, h => y_plainW R hk hc h
theorem snd_ys {X : Cx} {sc : Scope} (R : Rt Gn Γ j N allF sc X) (hk : sc.kind = .function) (hco : X.env.scope.isCoroutine = false) (hi' : interactive X.env = false) : ∀ (s : ISs) {sts : List Stmt} {env : Vs} {acc : List D} {M : Mem} {nx : KY} {B C : YN}, chkYs Gn N sc s sts = true → wYs Γ s env acc M nx → Ys X PX0 sts (N.zip env) acc M (upY N nx) B C
  | .nil, sts, env, acc, M, nx, B, C, hc, h => by
    cases sts with
    | nil => exact y_nil ⟨env, rfl, h⟩
    | cons _ _ => cases hc
  | .cons s ss, sts, env, acc, M, nx, B, C, hc, h => by
    cases sts with
    | nil => cases hc
    | cons st sts =>
      unfold chkYs at hc
      rw [Bool.and_eq_true] at hc
      exact y_cons (Y_imp (snd_y R hk hco hi' s hc.1 h) fun e a M ⟨env', e1, q⟩ => by subst e1; exact snd_ys R hk hco hi' ss hc.2 q)
end
end
end DL

/-! W8: a def by its small term -/
namespace DL
open PySem L2
def env0V : Nat → List D → Vs
  | 0, _ => []
  | n + 1, [] => none :: env0V n []
  | n + 1, d :: ds => some d :: env0V n ds
theorem env0_zip : ∀ (N : List Str) (ds : List D), env0 N ds = N.zip (env0V N.length ds)
  | [], _ => rfl
  | x :: N, [] => by show (x, none) :: env0 N [] = (x, none) :: N.zip (env0V N.length []); rw [env0_zip N []]
  | x :: N, d :: ds => by show (x, some d) :: env0 N ds = (x, some d) :: N.zip (env0V N.length ds); rw [env0_zip N ds]
def AllN (mg : Str → Option Value) : List Str → Prop
  | [] => True
  | x :: r => mg x = none ∧ AllN mg r
theorem AllN.at {mg : Str → Option Value} : ∀ {l : List Str}, AllN mg l → ∀ x ∈ l, mg x = none
  | [], _, x, h => nomatch h
  | y :: r, h, x, hx => by
    rcases List.mem_cons.mp hx with rfl | hx
    · exact h.1
    · exact AllN.at h.2 x hx
def All2 {α β : Type} (p : α → β → Prop) : List α → List β → Prop
  | [], _ => True
  | _ :: _, [] => False
  | a :: r, b :: s => p a b ∧ All2 p r s
theorem All2.at {α β : Type} {p : α → β → Prop} : ∀ {l : List α} {m : List β}, All2 p l m → ∀ (k : Nat) x, l[k]? = some x → ∃ y, m[k]? = some y ∧ p x y
  | [], _, _, k, x, h => by simp at h
  | _ :: _, [], z, _, _, _ => z.elim
  | a :: r, b :: s, h, 0, x, hx => by
    simp at hx; subst hx
    exact ⟨b, rfl, h.1⟩
  | a :: r, b :: s, h, k + 1, x, hx => by
    obtain ⟨y, h1, h2⟩ := All2.at h.2 k x (by simpa using hx)
    exact ⟨y, by simpa using h1, h2⟩
/-- what is known of the names -/
structure Fx (P : Program) (w : World) (K : PySem.W.Frag) (mg : Str → Option Value) (base : Heap) (Gn : Gs') (Γ : Gm) (j : Nat) : Prop where
  bi : AllN mg Gn.bi
  gl : All2 (fun x i => ∃ u, mg x = some u ∧ RelV (.int i) u) Gn.gl Γ.gl := by exact trivial
  df : All2 (fun x sp => ∃ l, l ≤ j ∧ Def P w K mg base x l sp) Gn.df Γ.df := by exact trivial
  ms : All2 (fun m (q : Addr × Str × DSp) => q.2.1 = m ∧ Cls K q.1 ∧ ∃ l, l ≤ j ∧ MDef P w K mg base q.1 m l q.2.2) Gn.ms Γ.ms := by exact trivial
  cs : All2 (fun x (q : Addr × DSp) => ∃ l, l + 1 ≤ j ∧ CDef P w K mg base x q.1 l q.2) Gn.cs Γ.cs := by exact trivial
  fd : ∀ C f, Γ.fd C f → Cls K C ∧ NoAttr K C f := by exact fun _ _ z => z.elim
  gn : All2 (fun x sp => ∃ l, l + 3 ≤ j ∧ GDef P w K mg base x l sp) Gn.gn Γ.gn := by exact trivial
  kw : All2 (fun (q : Str × Str × Nat) sp => ∃ l, l ≤ j ∧ KDef P w K mg base q.1 q.2.1 q.2.2 l sp) Gn.kw Γ.kw := by exact trivial
  rs : All2 (fun x C => RCl K mg x C) Gn.rs Γ.rs := by exact trivial
/-- THE RULE for a def by its small term -/
theorem wp_ok {P : Program} {w : World} {K : PySem.W.Frag} {mg : Str → Option Value} {base : Heap} {x qual : Str} {st : Stmt} {f : Addr} {fd : FuncData} {N ps : List Str} {k : Nat} {sp : DSp} {Gn : Gs'} {Γ : Gm} {ir : ISs} (F : Fun K x qual st f fd) (Sc : FnScope N ps (defScope st))
    (Hx : Fx P w K mg base Gn Γ k) (hc : chkSS Gn N (defScope st) ir (defBody st) = true) (len : ∀ ds M R RX, sp ds M R RX → ds.length = ps.length)
    (body : ∀ ds M R RX, sp ds M R RX → wSS Γ RX R ir (env0V N.length ds) M (kEnd R) kNo kNo) (nt : Gn.told = none := by rfl) : FnOk P w K mg base (L2.CX P w) (k + 1) f fd ps (lift K sp) := by
  refine fn_ok F Sc len (fun cdv A outer s H Ex ds M R RX hr h => ?_)
  have Rr : Rt Gn Γ k N allF (defScope st) (cxOf (L2.CX P w) P w K mg base N qual (defScope st) f cdv A outer s H Ex) := by
    refine ⟨rfl, rfl, (fun _ x hx => by rw [nt] at hx; cases hx), fun _ _ => rfl, rfl, hr, fun x hx => AllN.at Hx.bi x hx, fun k x hx => All2.at Hx.gl k x hx, fun k x hx => All2.at Hx.df k x hx, fun k m hm => ?_, fun k x hx => ?_, Hx.fd, fun k x hx => All2.at Hx.gn k x hx, fun k x hx => All2.at Hx.kw k x hx, fun k x hx => All2.at Hx.rs k x hx⟩
    · obtain ⟨⟨C, m', sp⟩, h1, e, h2, h3⟩ := All2.at Hx.ms k m hm
      cases e
      exact ⟨C, sp, h1, h2, h3⟩
    · obtain ⟨⟨C, sp⟩, h1, h2⟩ := All2.at Hx.cs k x hx
      exact ⟨C, sp, h1, h2⟩
  rw [env0_zip]
  exact SS_imp (snd_ss Rr Sc.kind ir hc (body ds M R RX h)) (fun e M ⟨_, _, q⟩ => q) (fun _ _ q => q) (fun e M ⟨_, _, q⟩ => q) (fun e M ⟨_, _, q⟩ => q)
/-- THE RULE for a def that hands out -/
theorem wpg_ok {P : Program} {w : World} {K : PySem.W.Frag} {mg : Str → Option Value} {base : Heap} {x qual : Str} {st : Stmt} {f : Addr} {fd : FuncData} {N ps : List Str} {k : Nat} {sp : DSp} {Gn : Gs'} {Γ : Gm} {ir : ISs} (F : Fun K x qual st f fd) (Sc : GScope N ps (defScope st))
    (Hx : Fx P w K mg base Gn Γ k) (hc : chkYs Gn N (defScope st) ir (defBody st) = true) (len : ∀ ds M R RX, sp ds M R RX → ds.length = ps.length)
    (body : ∀ ds M R, sp ds M R PX0 → wYs Γ ir (env0V N.length ds) [] M (fun _ acc M' => R (.lst acc) M')) (nt : Gn.told = none := by rfl) : GFn P w K mg base (k + 1) f fd ps (liftG K sp) := by
  refine gfn_ok F Sc len (fun cdv A outer s H Ex pn ds M R hr h => ?_)
  have Rr : Rt Gn Γ k N allF (defScope st) (gcxOf P w K mg base N qual (defScope st) f cdv A outer s H Ex pn) := by
    refine ⟨rfl, rfl, (fun _ x hx => by rw [nt] at hx; cases hx), fun _ _ => rfl, rfl, hr, fun x hx => AllN.at Hx.bi x hx, fun k x hx => All2.at Hx.gl k x hx, fun k x hx => All2.at Hx.df k x hx, fun k m hm => ?_, fun k x hx => ?_, Hx.fd, fun k x hx => All2.at Hx.gn k x hx, fun k x hx => All2.at Hx.kw k x hx, fun k x hx => All2.at Hx.rs k x hx⟩
    · obtain ⟨⟨C, m', sp⟩, h1, e, h2, h3⟩ := All2.at Hx.ms k m hm
      cases e
      exact ⟨C, sp, h1, h2, h3⟩
    · obtain ⟨⟨C, sp⟩, h1, h2⟩ := All2.at Hx.cs k x hx
      exact ⟨C, sp, h1, h2⟩
  rw [env0_zip]
  have hi : interactive (gcxOf P w K mg base N qual (defScope st) f cdv A outer s H Ex pn).env = false := by
    show ((defScope st).kind == .module && _) = false
    rw [Sc.kind]; rfl
  exact Ys_imp (snd_ys Rr Sc.kind Sc.co hi ir hc (body ds M R h)) (fun e a M ⟨_, _, q⟩ => q) (fun _ _ _ q => q) (fun _ _ _ q => q)
end DL

/-! END: the law's call, from its def; loose ints -/
namespace DL
open PySem PySem.Spec PyProof.Rows L2
/-- an int that the head leaves loose -/
theorem loose_int {lv : List (Str × PySem.W.WData)} {mg : Str → Option Value} {h : Heap} {x : Str} {i : Int} (X : PySem.W.LooseAre lv mg h) (hm : (x, PySem.W.WData.int i) ∈ lv) : ∃ u, mg x = some u ∧ RelV (.int i) u := by
  obtain ⟨v, h1, h2⟩ := X.val _ hm
  cases h2 with
  | int i t => exact ⟨_, h1, t, rfl⟩
theorem walk_ofX {l : PySem.W.OpenLaw} {k : Nat} {q p : Program} {loose : List Str} {lv : List (Str × PySem.W.WData)} {YP : World → Heap → Prop} {d : DefRec} {K : Params → PySem.W.Frag} {x : Str}
    (hn : l.most = some 63) (hdf : d.params.defaults = []) (hr : Room k callerA) (hY : ∀ (w : World) (h : Heap), YP w h → (K w.params).In h)
    (F : ∀ (w : World) (mg : Str → Option Value) (fa : Addr) (h : Heap), (K w.params).In h → h.Ns mainGlobals mg → PySem.W.LooseAre lv mg h → mg d.name = some (.ref fa) →
      ∃ fd : FuncData, (∀ (s : Shared) (u : Value), BindsTo s fd ⟨[u], []⟩ [(x, u)]) ∧
        ∀ base : Heap, (K w.params).In base → base.Ns mainGlobals mg → FnOk l.prog w (K w.params) mg base (L2.CX l.prog w) k fa fd [x] (lift (K w.params) fun ds M R _ => ∃ ns : List Int, ds = [.rol (ns.map .int)] ∧ ∀ M', R (.bl true) M')) :
    PySem.W.WalkO q loose (PySem.W.XL p lv) YP l.row.toRowW d [] (fun f vs => PySem.call f vs) := by
  refine Att.attach_call hn hdf fun w s₀ s₁ mg mb fa o pm cd doc a vs ns G Y ho hd hcd hmg hobj hints hlen hg => ?_
  have KX := hY w _ Y
  obtain ⟨fd, hb, hF⟩ := F w mg fa _ KX G.T.g G.X.2 hmg
  refine law_call (sp := fun vs H Q _ => ∃ a ns, vs = [V.ref a] ∧ SqL (K w.params) H a (ns.map V.int) ∧ ∀ H', Q (.bl true) H') KX G.T.g G.T.b G.T.builtins G.T.nolimit hg hobj hints (Nat.le_trans hlen (by decide)) hr (fun base h1 h2 => (hF base h1 h2).imp ?_) hb (fun H hO hS => ⟨a, ns, rfl, hS, fun _ => rfl⟩) fun H e s' => ?_
  · rintro vs H Q E ⟨a, ns, rfl, hS, hq⟩
    refine ⟨H, [.rol (ns.map .int)], fun _ => none, fun d M => d = .bl true, PX0, Same.refl H, (fun b c z => by cases z), ⟨_, [], rfl, ⟨a, _, rfl, hS, reps_map_int ns⟩, rfl⟩, ⟨ns, rfl, fun _ => rfl⟩, ?_, ?_⟩
    · rintro v H' ⟨S', d, M', _, r, rfl⟩
      rw [show v = V.bl true from r]; exact hq H'
    · rintro cls d H' z
      obtain ⟨_, _, _, _, _, z⟩ := z
      exact z.elim
  · rintro ⟨_, _, _, _, _, _, _, _, _, _, _, _, _, _, _, _, z⟩
theorem walk_ofY {l : PySem.W.OpenLaw} {k : Nat} {q : Program} {loose : List Str} {XP : (Str → Option Value) → Heap → Prop} {YP : World → Heap → Prop} {d : DefRec} {K : Params → PySem.W.Frag} {x : Str}
    (hn : l.most = some 63) (hdf : d.params.defaults = []) (hr : Room k callerA) (hY : ∀ (w : World) (h : Heap), YP w h → (K w.params).In h)
    (F : ∀ (w : World) (mg : Str → Option Value) (fa : Addr) (h : Heap), (K w.params).In h → h.Ns mainGlobals mg → mg d.name = some (.ref fa) →
      ∃ fd : FuncData, (∀ (s : Shared) (u : Value), BindsTo s fd ⟨[u], []⟩ [(x, u)]) ∧
        ∀ base : Heap, (K w.params).In base → base.Ns mainGlobals mg → FnOk l.prog w (K w.params) mg base (L2.CX l.prog w) k fa fd [x] (lift (K w.params) fun ds M R _ => ∃ ns : List Int, ds = [.rol (ns.map .int)] ∧ ∀ M', R (.bl true) M')) :
    PySem.W.WalkO q loose XP YP l.row.toRowW d [] (fun f vs => PySem.call f vs) := by
  refine Att.attach_call hn hdf fun w s₀ s₁ mg mb fa o pm cd doc a vs ns G Y ho hd hcd hmg hobj hints hlen hg => ?_
  have KX := hY w _ Y
  obtain ⟨fd, hb, hF⟩ := F w mg fa _ KX G.T.g hmg
  refine law_call (sp := fun vs H Q _ => ∃ a ns, vs = [V.ref a] ∧ SqL (K w.params) H a (ns.map V.int) ∧ ∀ H', Q (.bl true) H') KX G.T.g G.T.b G.T.builtins G.T.nolimit hg hobj hints (Nat.le_trans hlen (by decide)) hr (fun base h1 h2 => (hF base h1 h2).imp ?_) hb (fun H hO hS => ⟨a, ns, rfl, hS, fun _ => rfl⟩) fun H e s' => ?_
  · rintro vs H Q E ⟨a, ns, rfl, hS, hq⟩
    refine ⟨H, [.rol (ns.map .int)], fun _ => none, fun d M => d = .bl true, PX0, Same.refl H, (fun b c z => by cases z), ⟨_, [], rfl, ⟨a, _, rfl, hS, reps_map_int ns⟩, rfl⟩, ⟨ns, rfl, fun _ => rfl⟩, ?_, ?_⟩
    · rintro v H' ⟨S', d, M', _, r, rfl⟩
      rw [show v = V.bl true from r]; exact hq H'
    · rintro cls d H' z
      obtain ⟨_, _, _, _, _, z⟩ := z
      exact z.elim
  · rintro ⟨_, _, _, _, _, _, _, _, _, _, _, _, _, _, _, _, z⟩
end DL

/-! LT: a def that hands lambdas over; the law's call with a table of code objects -/
namespace DL
open PySem PySem.Spec L2 LamX PyProof.Rows
/-- THE RULE for a def that hands lambdas to the def that tells -/
theorem wp_okT {P : Program} {w : World} {K : PySem.W.Frag} {mg : Str → Option Value} {base : Heap} {x qual told q : Str} {st : Stmt} {f c Pt : Addr} {oc : Value} {od an : Option Addr} {osl : Array (Option Value)} {dV kV doc pm ct : Value} {N ps : List Str} {k : Nat} {sp : DSp} {Gn : Gs'} {Γ : Gm} {ir : ISs}
    (l : K.lookup f = some ⟨oc, od, .func (PySem.W.fnOf x qual (defArgs st) (defBody st) (defScope st) dV kV doc pm an (.ref c) ct), osl⟩) (hcd : PySem.W.codeIn K (.ref c) qual = true) (Sc : FnScope N ps (defScope st)) (TB : TabB base mg c Pt)
    (Hx : Fx P w K mg base Gn Γ k) (e1 : Γ.tb = some (Pt, q)) (eg : Gn.told = some told) (hq : qual ++ ".<locals>." ++ "<lambda>" = q) (T : ∀ X : Cx, X.prog = P → X.w = w → X.K = K → X.mg = mg → X.base = base → Teller X told k Γ.tr q)
    (hc : chkSS Gn N (defScope st) ir (defBody st) = true) (len : ∀ ds M R RX, sp ds M R RX → ds.length = ps.length)
    (body : ∀ ds M R RX, sp ds M R RX → wSS Γ RX R ir (env0V N.length ds) M (kEnd R) kNo kNo) :
    FnOk P w K mg base (L2.CX P w) (k + 2 + 1) f (PySem.W.fnOf x qual (defArgs st) (defBody st) (defScope st) dV kV doc pm an (.ref c) ct) ps (lift K sp) := by
  refine L2.fn_of l hcd Sc (fun vs H Q E ⟨S, ds, M, R, RX, sh, m, r, hs, hQ, hE⟩ => r.len.trans (len _ _ _ _ hs)) (fun A outer s H vs Q E hr ⟨S, ds, M, R, RX, sh, m, r, hs, hQ, hE⟩ => ?_)
  have Rr : Rt Gn Γ k N allF (defScope st) (cxOf (L2.CX P w) P w K mg base N qual (defScope st) f (.ref c) A outer s H E) := by
    refine ⟨rfl, rfl, fun _ x hx => ?_, fun _ _ => rfl, rfl, hr.mono (by omega), fun x hx => AllN.at Hx.bi x hx, fun k x hx => All2.at Hx.gl k x hx, fun k x hx => All2.at Hx.df k x hx, fun k m hm => ?_, fun k x hx => ?_, Hx.fd, fun k x hx => All2.at Hx.gn k x hx, fun k x hx => All2.at Hx.kw k x hx, fun k x hx => All2.at Hx.rs k x hx⟩
    · rw [eg] at hx
      cases hx
      exact ⟨hr, Pt, q, c, e1, T _ rfl rfl rfl rfl rfl, TB, rfl, hq⟩
    · obtain ⟨⟨C, m', sp⟩, h1, e, h2, h3⟩ := All2.at Hx.ms k m hm
      cases e
      exact ⟨C, sp, h1, h2, h3⟩
    · obtain ⟨⟨C, sp⟩, h1, h2⟩ := All2.at Hx.cs k x hx
      exact ⟨C, sp, h1, h2⟩
  refine ⟨semSS _ (defBody st), pss_sem, ?_⟩
  have hb : SS (cxOf (L2.CX P w) P w K mg base N qual (defScope st) f (.ref c) A outer s H E) RX (defBody st) (env0 N ds) M ⟨fun _ M' => R .non M', R, fun _ _ => False, fun _ _ => False⟩ := by
    rw [env0_zip]
    exact SS_imp (snd_ss Rr Sc.kind ir hc (body ds M R RX hs)) (fun e M ⟨_, _, q⟩ => q) (fun _ _ q => q) (fun e M ⟨_, _, q⟩ => q) (fun e M ⟨_, _, q⟩ => q)
  have hl : vs.length = ps.length := r.len.trans (len _ _ _ _ hs)
  have hpl : ps.length ≤ N.length := by have := congrArg List.length Sc.pre; rw [List.length_take] at this; omega
  have ok : Ok (cxOf (L2.CX P w) P w K mg base N qual (defScope st) f (.ref c) A outer s H E) S (env0 N ds) M (L2.start N vs) H := by
    refine ⟨sh, m, env0_nm N ds, fun i x d h => ?_, ?_, Sc.nd⟩
    · obtain ⟨v, h1, h2⟩ := env0_sl N ds vs i x d r h
      refine ⟨v, ?_, h2⟩
      have hi : i < vs.length := (List.getElem?_eq_some_iff.mp h1).1
      unfold L2.start
      rw [List.getElem?_append_left (by simpa using hi), List.getElem?_map, h1]
      rfl
    · unfold L2.start
      show _ = N.length
      rw [List.length_append, List.length_map, List.length_replicate]
      omega
  have wi : Wish (cxOf (L2.CX P w) P w K mg base N qual (defScope st) f (.ref c) A outer s H E) RX S M H := ⟨(takes_of rfl rfl rfl rfl).imp fun cls d _ H' h => hE cls d H' h, passes_of rfl⟩
  exact semSS_mono (hb.run S _ H ok wi) (fun σ' H' ⟨S', env', M', p, ok', q⟩ => hQ .non H' ⟨S', .non, M', p, rfl, q⟩) (fun v H' q => hQ v H' q) (fun σ' H' ⟨_, _, _, _, _, q⟩ => q) (fun σ' H' ⟨_, _, _, _, _, q⟩ => q)
/-- the law's promise: its script, and its table of code objects -/
abbrev spLawT (Pt : Addr) (q : Str) : DSp := fun ds M R _ => ∃ ns : List Int, ds = [.rol (ns.map .int)] ∧ M Pt = some (.tbl q) ∧ ∀ M', R (.bl true) M'
def hideS (H : Hp) (P : Addr) : Hp := fun b => if b = P then none else H b
theorem walk_ofT {l : PySem.W.OpenLaw} {k : Nat} {q p : Program} {loose : List Str} {lv : List (Str × PySem.W.WData)} {YP : World → Heap → Prop} {d : DefRec} {K : Params → PySem.W.Frag} {x : Str}
    (hn : l.most = some 63) (hdf : d.params.defaults = []) (hr : Room k callerA) (hY : ∀ (w : World) (h : Heap), YP w h → (K w.params).In h)
    (F : ∀ (w : World) (mg : Str → Option Value) (fa : Addr) (h : Heap), YP w h → (K w.params).In h → h.Ns mainGlobals mg → PySem.W.LooseAre lv mg h → mg d.name = some (.ref fa) →
      ∃ (fd : FuncData) (c Pt : Addr) (qn : Str), h.get? Pt = some { cls := .none, data := .fields #[] } ∧ (K w.params).lookup Pt = none ∧ PySem.W.CodeHd h c Pt ∧ (∀ (s : Shared) (u : Value), BindsTo s fd ⟨[u], []⟩ [(x, u)]) ∧
        ∀ base : Heap, (K w.params).In base → base.Ns mainGlobals mg → TabB base mg c Pt → FnOk l.prog w (K w.params) mg base (L2.CX l.prog w) k fa fd [x] (lift (K w.params) (spLawT Pt qn))) :
    PySem.W.WalkO q loose (PySem.W.XL p lv) YP l.row.toRowW d [] (fun f vs => PySem.call f vs) := by
  refine Att.attach_callB hn hdf fun w s₀ s₁ mg mb fa o pm cd doc a vs ns G Y ho hd hcd hmg hobj hints hlen hbits hg => ?_
  have KX := hY w _ Y
  obtain ⟨fd, c, Pt, qn, hT, nT, C, hb, hF⟩ := F w mg fa _ Y KX G.T.g G.X.2 hmg
  refine law_callTs (cs := [(c, Pt)]) (sp := fun vs H Q _ => ∃ a ns, vs = [V.ref a] ∧ H Pt = some (.tbl #[]) ∧ SqL (K w.params) H a (ns.map V.int) ∧ ∀ H', Q (.bl true) H') KX G.T.g G.T.b G.T.builtins G.T.nolimit hg
    (fun p hp => by rw [List.mem_singleton.mp hp]; exact hT) (fun p hp => by rw [List.mem_singleton.mp hp]; exact nT) (fun p hp => by rw [List.mem_singleton.mp hp]; exact C) G.T.bmain hobj hints (Nat.le_trans hlen (by decide)) hr
    (fun base h1 h2 h3 => (hF base h1 h2 (h3 _ (List.mem_singleton.mpr rfl))).imp ?_) hb (fun H hH hS => ⟨a, ns, rfl, hH _ (List.mem_singleton.mpr rfl), hS, fun _ => rfl⟩) fun H e s' => ?_
  · rintro vs H Q E ⟨a, ns, rfl, hP, hS, hq⟩
    have sh : Same (hideS H Pt) H := fun b o e => by
      unfold hideS at e
      split at e
      · cases e
      · exact e
    have hS' : SqL (K w.params) (hideS H Pt) a (ns.map V.int) := by
      rcases hS with (h | ⟨o, h⟩) | h
      · exact .inl (.inl (by unfold hideS; rw [if_neg (fun z => by subst z; rw [hP] at h; cases h)]; exact h))
      · exact .inl (.inr ⟨o, by unfold hideS; rw [if_neg (fun z => by subst z; rw [hP] at h; cases h)]; exact h⟩)
      · exact .inr h
    refine ⟨hideS H Pt, [.rol (ns.map .int)], fun b => if b = Pt then some (.tbl qn) else none, fun d M => d = .bl true, PX0, sh, (fun b c z => ?_), ⟨_, [], rfl, ⟨a, _, rfl, hS', reps_map_int ns⟩, rfl⟩, ⟨ns, rfl, if_pos rfl, fun _ => rfl⟩, ?_, ?_⟩
    · have z : (if b = Pt then some (Cell.tbl qn) else none) = some c := z
      split at z
      · next e =>
        cases z
        subst e
        exact ⟨if_pos rfl, #[], hP, True.intro, fun pos cv hc => by
          have z : codeAmong pos [] = some cv := hc
          simp [codeAmong] at z⟩
      · cases z
    · rintro v H' ⟨S', d, M', _, r, rfl⟩
      rw [show v = V.bl true from r]; exact hq H'
    · rintro cls d H' z
      obtain ⟨_, _, _, _, _, z⟩ := z
      exact z.elim
  · rintro ⟨_, _, _, _, _, _, _, _, _, _, _, _, _, _, _, _, z⟩
/-- told: try: return a() / except E as e: suite -/
theorem told_gives3 {X : Cx} {Ng : List Str} {x a e n q : Str} {sg : Scope} {g CS : Addr} {cdg : Value} {ie : Nat} {tr : Value → Option D} {b₀ : Stmt} {suite : List Stmt} {p1 p2 p3 p4 p7 p8 : Pos} (hge : sg.names.lookup e = some .globalImplicit) (hme : X.mg e = some (.ref CS)) (hde : (e == ("__debug__" : Str)) = false)
    (h0 : ∀ f : Addr, (L2.start Ng [V.ref f])[0]? = some (some (V.ref f))) (hN : Ng.Nodup) (hi : Ng[ie]? = some n) (hln : sg.names.lookup n = some .local)
    (htr : ∀ cls r, tr cls = some r → ∃ Dc, cls = .ref Dc ∧ ExcC X.K Dc ∧ PySem.W.exmOne X.K cls (.ref CS) = some true) (hsu : SuiteOk X Ng x sg g cdg ie tr (b₀ :: suite)) :
    GivesTo X Ng x sg g cdg [.Try [.Return (some (.Call (.Name a p1) [] [] p2)) p3] [.ExceptHandler (some (.Name e p4)) (some n) (b₀ :: suite) p7] [] [] p8] a q (TTd X.K tr) := by
  intro f c' s H Q tl act hc h
  have hgl : Gl (cxOf C8.CX0 X.prog X.w X.K X.mg X.base Ng x sg g cdg X.A X.stack s H C8.E0).nox e := hge
  refine ⟨_, pss_one (ps_try_as (X := (cxOf C8.CX0 X.prog X.w X.K X.mg X.base Ng x sg g cdg X.A X.stack s H C8.E0).nox) (c := .ref CS) (i := ie)
      (tb := fun W D σ H => ∃ Ech : XK, (∀ cls d σ' H', Ech cls d H' → W cls d σ' H') ∧ σ[0]? = some (some (.ref f)) ∧ H c' = some (CodeO c' q) ∧ tl Ech H D.rt)
      (ts := fun a cls d D σ H' => σ.length = Ng.length → ∀ (oe : Obj) (pn : List (Addr × Obj)), Zc cls d oe → (∃ vs, oe.data = .fields vs) → semSS (suiteX X Ng x sg g cdg s H a oe pn) (b₀ :: suite) D σ H')
      rfl rfl hN hi hln ⟨hgl, hde, .inl hme⟩ L2.takes0 (fun W pn xe tk _ => ?_) (fun a oe cls d pn hz hf => ?_)), ?_⟩
  · refine ⟨fun pins s' σ H' D I h' => ?_⟩
    obtain ⟨Ech, hW, h1, h2, h3⟩ := h'
    have hp := act W pn xe Ech p1 p2 tk hW
    have hq := pss_one (ps_ret (pos := p3) hp)
    exact hq.run pins s' σ H' D I ⟨h1, h2, h3⟩
  · exact ⟨fun pins s' σ H' D I h' => h' I.len oe pn hz hf pins s' I⟩
  · refine ⟨fun cls d H' => EXd X.K tr cls d H' Q, fun cls d σ' H' hx => ?_, h0 f, hc, h⟩
    obtain ⟨hd, S', M', r, sh, m, hr, hq⟩ := hx
    obtain ⟨Dc, e1, eC, e2⟩ := htr cls r hr
    subst e1 hd
    refine ⟨true, e2, fun _ a na hlen oe pn hz hf => ?_, fun z => nomatch z⟩
    have cr : CallR (suiteX X Ng x sg g cdg s H a oe pn) (.builtin "isinstance") (rIsE X.K Dc a) := call_isE (X := (cxOf C8.CX0 X.prog X.w X.K X.mg X.base Ng x sg g cdg X.A X.stack s H C8.E0).nox) eC hz hf
    have hss := hsu s H a oe pn Dc r M' hr cr
    have ok : Ok (suiteX X Ng x sg g cdg s H a oe pn) S' (envAt Ng ie (.ref a)) M' (σ'.set ie (some (.ref a))) H' := by
      refine ⟨sh, m, envAt_nm _ _ _, fun j y d' hj => ?_, hlen, hN⟩
      obtain ⟨e3, e4⟩ := envAt_sl _ _ _ _ _ _ hj
      subst e3 e4
      have hl : j < σ'.length := by
        have h5 := (List.getElem?_eq_some_iff.mp hi).1
        rw [List.length_set] at hlen
        omega
      exact ⟨.ref a, List.getElem?_set_self hl, rfl⟩
    have wi : Wish (suiteX X Ng x sg g cdg s H a oe pn) PX0 S' M' H' := ⟨fun u s' z => by
      obtain ⟨_, _, _, _, _, _, _, _, _, _, _, _, _, _, _, _, z⟩ := z
      obtain ⟨_, _, _, _, _, z⟩ := z
      exact z.elim, PassesOwn.never⟩
    exact semSS_mono (hss.run S' _ H' ok wi) (fun _ _ ⟨_, _, _, _, _, z⟩ => z.elim) (fun v H'' z => hq v H'' z) (fun _ _ ⟨_, _, _, _, _, z⟩ => z.elim) (fun _ _ ⟨_, _, _, _, _, z⟩ => z.elim)
end DL

/-! M9: plain laws for the laws about moments: courses, least displays, the period divides the number of displays -/
namespace Tr
open PySem L2 DL
theorem PgI.nofail {t : Train} (ht : t.ok) {st ot : List Int} (hot : StOk t ot) {k : Nat} {g : Pg} {fc : Int} (I : PgI t st (dpAll t ot) k g) (hk : k < t.cs.length) (hfc : dpAll t ot k = some fc) (hne : ¬ fc % modG t g k = nowG t st g k % modG t g k) {m : Int} (hm : facesL t st m = ot) : False := by
  rw [dpAll_some hk] at hfc
  cases hfc
  have hr := hot.r k hk
  refine I.fail ht hk (clo_all ht _) (dpAll_some hk) hr.1 hr.2 hne m fun w hw f hf => ?_
  rw [dpAll_some (by omega)] at hf
  cases hf
  exact (facesL_eq hot.len).mp hm w (by omega)
theorem Least.uniq {t : Train} {st a b : List Int} {ma mb : Int} (ha : a.length = t.cs.length) (hb : b.length = t.cs.length) (ea : facesL t st ma = a) (eb : facesL t st mb = b) (la : Least t st a) (lb : Least t st b) : a = b := by
  rcases la mb with h | ⟨w, hw, h1, h2⟩
  · exact h.symm.trans eb
  rcases lb ma with h | ⟨v, hv, h3, h4⟩
  · exact ea.symm.trans h
  exfalso
  have fa := (facesL_eq ha).mp ea
  have fb := (facesL_eq hb).mp eb
  rw [fb w hw] at h2
  rw [fa v hv] at h4
  rcases Nat.lt_trichotomy w v with h | h | h
  · have := h3 w h; rw [fa w hw] at this; omega
  · subst h; omega
  · have := h1 v h; rw [fb v hv] at this; omega
theorem Least.shift {t : Train} (ht : t.ok) {st l : List Int} {m : Int} (h : Least t (facesL t st m) l) : Least t st l := by
  intro k
  have e : facesL t st k = facesL t (facesL t st m) (k - m) := by rw [← facesL_add ht]; congr 1; omega
  rcases h (k - m) with h1 | ⟨w, hw, h1, h2⟩
  · exact .inl (e.trans h1)
  · have ef : ∀ v, v < t.cs.length → face t st k v = face t (facesL t st m) (k - m) v := fun v hv => by
      rw [← facesL_get hv, e, facesL_get hv]
    exact .inr ⟨w, hw, fun v hv => by rw [ef v (by omega)]; exact h1 v hv, by rw [ef w hw]; exact h2⟩
theorem not_lt_of_first : ∀ (a l : List Int), a.length = l.length → (a = l ∨ ∃ w, w < l.length ∧ (∀ v, v < w → a.getD v 0 = l.getD v 0) ∧ l.getD w 0 < a.getD w 0) → ¬ a < l
  | a, l, hl, .inl e => by rw [e]; exact List.lt_irrefl l
  | [], [], _, .inr ⟨w, hw, _⟩ => absurd hw (Nat.not_lt_zero _)
  | [], _ :: _, hl, _ => by cases hl
  | _ :: _, [], hl, _ => by cases hl
  | x :: a, y :: l, hl, .inr ⟨w, hw, h1, h2⟩ => by
    rw [List.cons_lt_cons_iff]
    cases w with
    | zero =>
      have h2 : y < x := h2
      rintro (h | ⟨h, _⟩) <;> omega
    | succ w =>
      have e : x = y := h1 0 (Nat.succ_pos _)
      rintro (h | ⟨_, h⟩)
      · omega
      · refine not_lt_of_first a l (Nat.succ.inj hl) (.inr ⟨w, by have := hw; rw [List.length_cons] at this; omega, fun v hv => ?_, h2⟩) h
        exact h1 (v + 1) (by omega)
theorem Least.not_lt {t : Train} {st l : List Int} (hl : l.length = t.cs.length) (h : Least t st l) (m : Int) : ¬ facesL t st m < l := by
  refine not_lt_of_first _ _ (by rw [facesL_len, hl]) ?_
  rcases h m with e | ⟨w, hw, h1, h2⟩
  · exact .inl e
  · exact .inr ⟨w, by omega, fun v hv => by rw [facesL_get (by omega)]; exact h1 v hv, by rw [facesL_get hw]; exact h2⟩
/-- data of ints -/
theorem pys_dints : ∀ l : List Int, D.pys (dints l) = l.map PyData.int
  | [] => rfl
  | x :: l => by show _ :: D.pys (dints l) = _; rw [pys_dints l]; rfl
theorem py_dints (l : List Int) : (D.tup (dints l)).py = .tuple (l.map .int) := by show PyData.tuple (D.pys (dints l)) = _; rw [pys_dints]
theorem alike_ints : ∀ a b : List Int, PySem.W.alikeAll (a.map .int) (b.map .int) = true
  | [], _ => by unfold PySem.W.alikeAll; rfl
  | _ :: _, [] => by rw [List.map_cons, List.map_nil, PySem.W.alikeAll]
  | x :: a, y :: b => by
    rw [List.map_cons, List.map_cons, PySem.W.alikeAll, alike_ints a b]
    rfl
theorem perS_dvd (t : Train) (ht : t.ok) : ∀ k, k ≤ t.cs.length → (perS t k).per ∣ prodL (t.cs.take k)
  | 0, _ => Int.dvd_refl 1
  | k + 1, h => by
    have ih := perS_dvd t ht k (by omega)
    rw [prodL_take _ (by omega)]
    refine Int.mul_dvd_mul ih ?_
    have d : modG t (perS t k) k ∣ t.cs.getD k 0 := Int.gcd_dvd_right ..
    exact ⟨modG t (perS t k) k, (Int.ediv_mul_cancel d).symm⟩
theorem per_dvd {t : Train} (ht : t.ok) : perOf t ∣ prodL t.cs := by
  have h := perS_dvd t ht t.cs.length (Nat.le_refl _)
  rw [List.take_length] at h
  exact h
end Tr

/-! WL: what laws ask again and again: equalities of data, promises joined -/
namespace Tr
open PySem L2 DL
theorem neT {x y : D} (h : D.eqv x y = true) : (if true = true then !D.eqv x y else D.eqv x y) = false := by rw [if_pos rfl, h]; rfl
theorem neF {x y : D} (h : D.eqv x y = false) : (if true = true then !D.eqv x y else D.eqv x y) = true := by rw [if_pos rfl, h]; rfl
theorem eqT {x y : D} (h : D.eqv x y = true) : (if false = true then !D.eqv x y else D.eqv x y) = true := by rw [if_neg Bool.false_ne_true, h]
theorem eqF {x y : D} (h : D.eqv x y = false) : (if false = true then !D.eqv x y else D.eqv x y) = false := by rw [if_neg Bool.false_ne_true, h]
theorem eqv_dints (a b : List Int) : D.eqv (.tup (dints a)) (.tup (dints b)) = decide (a = b) := eqv_ints a b
theorem eqv_dintsL (a b : List Int) : D.eqv (.lst (dints a)) (.lst (dints b)) = decide (a = b) := eqv_intsL a b
theorem eqv_is {a b : List Int} (h : a = b) : D.eqv (.tup (dints a)) (.tup (dints b)) = true := by rw [eqv_dints, decide_eq_true h]
theorem eqv_no {a b : List Int} (h : a ≠ b) : D.eqv (.tup (dints a)) (.tup (dints b)) = false := by rw [eqv_dints, decide_eq_false h]
theorem eqv_isL {a b : List Int} (h : a = b) : D.eqv (.lst (dints a)) (.lst (dints b)) = true := by rw [eqv_dintsL, decide_eq_true h]
theorem eqv_ii {a b c d : Int} (h : a = c) (h2 : b = d) : D.eqv (.tup [.int a, .int b]) (.tup [.int c, .int d]) = true := by
  subst h h2; exact eqv_is (a := [a, b]) rfl
theorem eqv_bl (a b : Bool) : D.eqv (.bl a) (.bl b) = (a == b) := by cases a <;> cases b <;> rfl
theorem eqv_nonT {ds : List D} : D.eqv (.tup ds) .non = false := rfl
theorem encS {l : List Int} : D.tup (dints l) = .tup ((l.map some).map encO) := by rw [← dints_encO]
theorem PgI.of0 {t : Train} {st : List Int} {g : Pg} (I : PgI t st (dpAll t st) t.cs.length g) (ht : t.ok) (hst : StOk t st) : g.first = 0 := by
  have h := (mom_all hst.len (fun w hw => dpAll_some hw) I 0).mp (facesL_zero ht hst)
  have h := Int.emod_eq_zero_of_dvd h
  have f0 := I.f0
  have f1 := I.f1
  have p0 := I.p0
  by_cases e : g.first = 0
  · exact e
  · have : (0 - g.first + g.per) % g.per = 0 := by rw [Int.add_emod_right]; exact h
    rw [Int.emod_eq_of_lt (by omega) (by omega)] at this
    omega
/-- two progressions of one display -/
theorem PgI.uniq {t : Train} {st : List Int} {dp : Nat → Option Int} {k : Nat} {g g' : Pg} (I : PgI t st dp k g) (I' : PgI t st dp k g') : g.first = g'.first ∧ g.per = g'.per := by
  have key : ∀ m, g.per ∣ m - g.first ↔ g'.per ∣ m - g'.first := fun m => (I.mom m).symm.trans (I'.mom m)
  have p0 := I.p0
  have q0 := I'.p0
  have f0 := I.f0
  have f1 := I.f1
  have e0 := I'.f0
  have e1 := I'.f1
  have h1 : g'.per ∣ g.first - g'.first := (key g.first).mp (by rw [Int.sub_self]; exact Int.dvd_zero _)
  have h2 : g.per ∣ g'.first - g.first := (key g'.first).mpr (by rw [Int.sub_self]; exact Int.dvd_zero _)
  have h3 : g'.per ∣ g.per := by
    have := (key (g.first + g.per)).mp (by rw [show g.first + g.per - g.first = g.per by omega]; exact Int.dvd_refl _)
    rw [show g.first + g.per - g'.first = (g.first - g'.first) + g.per by omega] at this
    exact (Int.dvd_add_right h1).mp this
  have h4 : g.per ∣ g'.per := by
    have := (key (g'.first + g'.per)).mpr (by rw [show g'.first + g'.per - g'.first = g'.per by omega]; exact Int.dvd_refl _)
    rw [show g'.first + g'.per - g.first = (g'.first - g.first) + g'.per by omega] at this
    exact (Int.dvd_add_right h2).mp this
  have hp : g.per = g'.per := by
    have a1 := Int.le_of_dvd p0 h3
    have a2 := Int.le_of_dvd q0 h4
    omega
  refine ⟨?_, hp⟩
  obtain ⟨q, hq⟩ := h1
  rw [← hp] at hq e1
  have : q = 0 := by
    rcases Int.lt_trichotomy q 0 with h | h | h
    · have : g.per * q ≤ g.per * (-1) := Int.mul_le_mul_of_nonneg_left (by omega) (by omega)
      omega
    · exact h
    · have : g.per * 1 ≤ g.per * q := Int.mul_le_mul_of_nonneg_left (by omega) (by omega)
      omega
  subst this
  omega
theorem PgI.first_mod {t : Train} (ht : t.ok) {st l : List Int} {g : Pg} (hl : l.length = t.cs.length) {dp : Nat → Option Int} (hdp : ∀ w, w < t.cs.length → dp w = some (l.getD w 0)) (I : PgI t st dp t.cs.length g) {m : Int} (hm : facesL t st m = l) : g.first = m % g.per := by
  have h := (mom_all hl hdp I m).mp hm
  have f0 := I.f0
  have f1 := I.f1
  obtain ⟨q, hq⟩ := h
  have : m = g.first + g.per * q := by omega
  rw [this, Int.add_mul_emod_self_left, Int.emod_eq_of_lt f0 f1]
/-! ### whole displays -/
theorem ds3 {a b : D} {l : List Int} : [a, b, D.tup (dints l)] = [a, b, .tup ((l.map some).map encO)] := by rw [encS (l := l)]
theorem ds4 {a b c : D} {l : List Int} : [a, b, D.tup (dints l), c] = [a, b, .tup ((l.map some).map encO), c] := by rw [encS (l := l)]
theorem all_moms {t : Train} {st ot : List Int} (ht : t.ok) (hst : StOk t st) (hot : StOk t ot) {m : Int} (hm : facesL t st m = ot) {d : D}
    (h : (∃ g, d = .tup [.int g.first, .int g.per] ∧ PgI t st (dpf (ot.map some)) t.cs.length g) ∨ (d = .non ∧ NoMom t st (ot.map some))) : ∃ g, d = .tup [.int g.first, .int g.per] ∧ PgI t st (dpAll t ot) t.cs.length g ∧ g.per = perOf t ∧ g.first = m % perOf t := by
  rw [dpf_all hot] at h
  rcases h with ⟨g, rfl, hI⟩ | ⟨rfl, hn⟩
  · have e1 := per_all ht hst hot.len (fun w hw => dpAll_some hw) hI
    have e2 := PgI.first_mod ht hot.len (fun w hw => dpAll_some hw) hI hm
    rw [e1] at e2
    exact ⟨g, rfl, hI, e1, e2⟩
  · refine absurd ?_ (hn m)
    intro w hw f hf
    rw [dpf_all hot, dpAll_some hw] at hf
    cases hf
    exact (facesL_eq hot.len).mp hm w hw
theorem clo_map {t : Train} (ht : t.ok) {ot : List Int} (hot : StOk t ot) : Clo t (dpf (ot.map some)) := by rw [dpf_all hot]; exact clo_all ht _
/-- no whole display met -/
theorem no_moms {t : Train} {st ot : List Int} (hot : StOk t ot) (h : NoMom t st (ot.map some)) (m : Int) : facesL t st m ≠ ot := fun e => h m fun w hw f hf => by
  rw [dpf_all hot, dpAll_some hw] at hf
  cases hf
  exact (facesL_eq hot.len).mp e w hw
theorem some_moms {t : Train} {st ot : List Int} (hot : StOk t ot) {g : Pg} (hI : PgI t st (dpf (ot.map some)) t.cs.length g) : facesL t st g.first = ot := by
  rw [dpf_all hot] at hI
  exact (mom_all hot.len (fun w hw => dpAll_some hw) hI _).mpr (by rw [Int.sub_self]; exact Int.dvd_zero _)
theorem dataLt_dints (a b : List Int) : PySem.W.dataLt (D.tup (dints a)).py (D.tup (dints b)).py = decide (a < b) := by
  rw [py_dints, py_dints]
  exact PySem.W.dataLt_ints a b
theorem alike_dints (a b : List Int) : PySem.W.alike (D.tup (dints a)).py (D.tup (dints b)).py = true := by
  rw [py_dints, py_dints, PySem.W.alike]
  exact alike_ints a b
end Tr

/-! OB: displays that are searched: obstacles, bounds of periods, unlike ones -/
namespace Tr
open PySem L2 DL
open PyProof.Rows (firstMet step_dedup firstMet_succ firstMet_zero)
theorem firstMet_one (f : Nat → Int) : ∀ n, (firstMet f (n + 1) = [f 0] ∧ ∀ i, i ≤ n → f i = f 0) ∨ (2 ≤ (firstMet f (n + 1)).length ∧ ¬ ∀ i, i ≤ n → f i = f 0)
  | 0 => Or.inl ⟨rfl, fun i hi => by rw [Nat.le_zero.mp hi]⟩
  | n + 1 => by
    rw [firstMet_succ]
    rcases firstMet_one f n with ⟨h1, h2⟩ | ⟨h1, h2⟩
    · rw [h1]
      unfold step_dedup
      by_cases e : f 0 = f (n + 1)
      · refine Or.inl ⟨?_, fun i hi => ?_⟩
        · rw [if_pos (by simp [e])]
        · rcases Nat.lt_or_ge i (n + 1) with h | h
          · exact h2 i (by omega)
          · rw [show i = n + 1 by omega, e]
      · refine Or.inr ⟨?_, fun h => e (h (n + 1) (Nat.le_refl _)).symm⟩
        rw [if_neg (by simp [e])]
        exact Nat.le_refl _
    · refine Or.inr ⟨?_, fun h => h2 fun i hi => h i (by omega)⟩
      unfold step_dedup
      split
      · exact h1
      · rw [List.length_append]; omega
theorem ddc_one {ns : List Int} (h : 0 < ns.length) : ((ddc ns : Nat) : Int) = 1 ↔ ∀ i, i < ns.length → ns.getD i 0 = ns.getD 0 0 := by
  obtain ⟨n, hn⟩ : ∃ n, ns.length = n + 1 := ⟨ns.length - 1, by omega⟩
  unfold ddc
  rw [hn]
  rcases firstMet_one (fun i => ns.getD i 0) n with ⟨h1, h2⟩ | ⟨h1, h2⟩
  · rw [h1]
    exact ⟨fun _ i hi => h2 i (by omega), fun _ => rfl⟩
  · exact ⟨fun z => by omega, fun z => absurd (fun i hi => z i (by omega)) h2⟩
/-! ### two searches with one answer -/
theorem PgI.uniqM {t t' : Train} {st st' : List Int} {dp dp' : Nat → Option Int} {k k' : Nat} {g g' : Pg} (I : PgI t st dp k g) (I' : PgI t' st' dp' k' g') (key : ∀ m, g.per ∣ m - g.first ↔ g'.per ∣ m - g'.first) : g.first = g'.first ∧ g.per = g'.per := by
  have p0 := I.p0
  have q0 := I'.p0
  have f0 := I.f0
  have f1 := I.f1
  have e0 := I'.f0
  have e1 := I'.f1
  have h1 : g'.per ∣ g.first - g'.first := (key g.first).mp (by rw [Int.sub_self]; exact Int.dvd_zero _)
  have h3 : g'.per ∣ g.per := by
    have := (key (g.first + g.per)).mp (by rw [show g.first + g.per - g.first = g.per by omega]; exact Int.dvd_refl _)
    rw [show g.first + g.per - g'.first = (g.first - g'.first) + g.per by omega] at this
    exact (Int.dvd_add_right h1).mp this
  have h2 : g.per ∣ g'.first - g.first := (key g'.first).mpr (by rw [Int.sub_self]; exact Int.dvd_zero _)
  have h4 : g.per ∣ g'.per := by
    have := (key (g'.first + g'.per)).mpr (by rw [show g'.first + g'.per - g'.first = g'.per by omega]; exact Int.dvd_refl _)
    rw [show g'.first + g'.per - g.first = (g'.first - g.first) + g'.per by omega] at this
    exact (Int.dvd_add_right h2).mp this
  have hp : g.per = g'.per := by
    have a1 := Int.le_of_dvd p0 h3
    have a2 := Int.le_of_dvd q0 h4
    omega
  refine ⟨?_, hp⟩
  obtain ⟨q, hq⟩ := h1
  rw [← hp] at hq e1
  have : q = 0 := by
    rcases Int.lt_trichotomy q 0 with h | h | h
    · have : g.per * q ≤ g.per * (-1) := Int.mul_le_mul_of_nonneg_left (by omega) (by omega)
      omega
    · exact h
    · have : g.per * 1 ≤ g.per * q := Int.mul_le_mul_of_nonneg_left (by omega) (by omega)
      omega
  subst this
  omega
theorem face_per {t : Train} (ht : t.ok) {st : List Int} (hst : StOk t st) (m : Int) : facesL t st (m + perOf t) = facesL t st m := by
  have h0 : facesL t (facesL t st m) 0 = facesL t st m := facesL_zero ht (facesL_ok ht st m)
  have hs := facesL_ok ht st m
  rw [facesL_add ht]
  obtain ⟨e, I⟩ := perS_ok ht hs t.cs.length (Nat.le_refl _)
  refine (mom_all hs.len (fun w hw => dpAll_some hw) I _).mpr ?_
  rw [e, Int.sub_zero]
  exact Int.dvd_refl _
theorem PgI.per_dvd_all {t : Train} (ht : t.ok) {st : List Int} (hst : StOk t st) {dp : Nat → Option Int} {g : Pg} (I : PgI t st dp t.cs.length g) : g.per ∣ perOf t := by
  have h := (I.mom g.first).mpr (by rw [Int.sub_self]; exact Int.dvd_zero _)
  have h2 := (I.mom (g.first + perOf t)).mp fun w hw f hf => by
    have e := congrArg (fun l : List Int => l.getD w 0) (face_per ht hst g.first)
    simp only [facesL_get hw] at e
    rw [e]
    exact h w hw f hf
  rwa [show g.first + perOf t - g.first = perOf t by omega] at h2
theorem prodL_le {B : Nat} : ∀ {l : List Int}, (∀ c ∈ l, 2 ≤ c ∧ c ≤ B) → 0 < prodL l ∧ prodL l ≤ (B : Int) ^ l.length
  | [], _ => ⟨by decide, Int.le_refl _⟩
  | c :: l, h => by
    obtain ⟨h1, h2⟩ := prodL_le (l := l) fun x hx => h x (List.mem_cons_of_mem _ hx)
    have hc := h c List.mem_cons_self
    refine ⟨Int.mul_pos (by omega) h1, ?_⟩
    show c * prodL l ≤ (B : Int) ^ (l.length + 1)
    rw [Int.pow_succ, Int.mul_comm]
    exact Int.mul_le_mul h2 hc.2 (by omega) (by omega)
theorem perOf_le {t : Train} (ht : t.ok) {B : Nat} {n : Nat} (hc : ∀ c ∈ t.cs, c ≤ (B : Int)) (hn : t.cs.length ≤ n) (hB : 1 ≤ B) : perOf t ≤ ((B ^ n : Nat) : Int) := by
  obtain ⟨h1, h2⟩ := prodL_le (B := B) (l := t.cs) fun c hc' => ⟨(ht.c c hc').1, hc c hc'⟩
  have h3 := Int.le_of_dvd h1 (per_dvd ht)
  have h4 : B ^ t.cs.length ≤ B ^ n := Nat.pow_le_pow_right hB hn
  have h5 : ((B ^ t.cs.length : Nat) : Int) = (B : Int) ^ t.cs.length := Int.natCast_pow ..
  omega
/-- a display met nowhere -/
theorem obst_no {t : Train} (ht : t.ok) {st : List Int} {dp : List (Option Int)} (hdp : DpOk t dp) (hcl : Clo t (dpf dp)) {k : Nat} {g : Pg} {fc : Int} (I : PgI t st (dpf dp) k g) (hk : k < t.cs.length) (hfc : dpf dp k = some fc) (hne : ¬ fc % modG t g k = nowG t st g k % modG t g k) : NoMom t st dp := fun m h =>
  I.fail ht hk hcl hfc (hdp.2 _ _ hfc).1 (hdp.2 _ _ hfc).2 hne m fun w hw f hf => h w (by omega) f hf
theorem pg_mom {t : Train} {st : List Int} {dp : List (Option Int)} {g : Pg} (I : PgI t st (dpf dp) t.cs.length g) : ¬ NoMom t st dp := fun h => h g.first ((I.mom _).mpr (by rw [Int.sub_self]; exact Int.dvd_zero _))
/-! ### the wheels before -/
def cutDp (dp : List (Option Int)) (k n : Nat) : List (Option Int) := dp.take k ++ List.replicate (n - k) none
theorem cutDp_get {dp : List (Option Int)} {k n : Nat} (hk : k ≤ n) (hl : dp.length = n) (w : Nat) : dpf (cutDp dp k n) w = if w < k then dpf dp w else none := by
  unfold dpf cutDp
  by_cases h : w < k
  · rw [if_pos h, List.getD_eq_getElem?_getD, List.getElem?_append_left (by rw [List.length_take]; omega), List.getElem?_take, if_pos h, ← List.getD_eq_getElem?_getD]
  · rw [if_neg h, List.getD_eq_getElem?_getD, List.getElem?_append_right (by rw [List.length_take]; omega), List.getElem?_replicate]
    split <;> rfl
theorem cutDp_ok {t : Train} {dp : List (Option Int)} {k : Nat} (hdp : DpOk t dp) (hk : k ≤ t.cs.length) : DpOk t (cutDp dp k t.cs.length) := by
  refine ⟨?_, fun w f hf => ?_⟩
  · have := hdp.1
    unfold cutDp
    rw [List.length_append, List.length_take, List.length_replicate]; omega
  · rw [cutDp_get hk hdp.1] at hf
    split at hf
    · exact hdp.2 w f hf
    · cases hf
theorem cutDp_clo {t : Train} (ht : t.ok) {dp : List (Option Int)} {k : Nat} (hdp : DpOk t dp) (hk : k ≤ t.cs.length) (hcl : Clo t (dpf dp)) : Clo t (dpf (cutDp dp k t.cs.length)) := fun p hp h => by
  rw [cutDp_get hk hdp.1] at h ⊢
  have hab := (ht.p p hp).ab
  split at h
  · rw [if_pos (by omega)]; exact hcl p hp h
  · cases h
theorem cutDp_enc {dp : List (Option Int)} {k n : Nat} : (dp.map encO).take k ++ (List.replicate (n - k) [D.non]).flatten = (cutDp dp k n).map encO := by
  unfold cutDp
  rw [List.map_append, List.map_take, List.map_replicate]
  congr 1
  induction n - k with
  | zero => rfl
  | succ m ih => rw [List.replicate_succ, List.replicate_succ, List.flatten_cons, ih]; rfl
theorem PgI.cut_uniq {t : Train} {st : List Int} {dp : List (Option Int)} {k : Nat} {g g' : Pg} (I : PgI t st (dpf dp) k g) (hk : k ≤ t.cs.length) (hl : dp.length = t.cs.length) (I' : PgI t st (dpf (cutDp dp k t.cs.length)) t.cs.length g') : g.first = g'.first ∧ g.per = g'.per := by
  refine I.uniqM I' fun m => ?_
  rw [← I.mom m, ← I'.mom m]
  constructor
  · intro h w hw f hf
    rw [cutDp_get hk hl] at hf
    split at hf
    · exact h w (by assumption) f hf
    · cases hf
  · intro h w hw f hf
    exact h w (by omega) f (by rw [cutDp_get hk hl, if_pos hw]; exact hf)
theorem cut_nomom {t : Train} {st : List Int} {dp : List (Option Int)} {k : Nat} {g : Pg} (I : PgI t st (dpf dp) k g) (hk : k ≤ t.cs.length) (hl : dp.length = t.cs.length) : ¬ NoMom t st (cutDp dp k t.cs.length) := fun hn => by
  refine hn g.first fun w hw f hf => ?_
  rw [cutDp_get hk hl] at hf
  split at hf
  · exact (I.mom g.first).mpr (by rw [Int.sub_self]; exact Int.dvd_zero _) w (by assumption) f hf
  · cases hf
/-- the faces of a wheel whose drivers are shown, from period to period -/
theorem face_per_k {t : Train} (ht : t.ok) {st : List Int} {dp : Nat → Option Int} {k : Nat} {g : Pg} (I : PgI t st dp k g) (hk : k < t.cs.length) (hcl : Clo t dp) (hs : (dp k).isSome = true) (j : Int) :
    face t st (g.first + g.per * j) k = (nowG t st g k + j * chOf t g.per g.ch k) % t.cs.getD k 0 := by
  unfold face nowG
  rw [(tw_per ht I hcl g.first j k hk).2 rfl fun p hp hb => hcl p hp (by rw [hb]; exact hs), Int.add_assoc]
theorem modG_pos {t : Train} (ht : t.ok) {g : Pg} {k : Nat} (hk : k < t.cs.length) : 0 < modG t g k ∧ modG t g k ∣ t.cs.getD k 0 ∧ modG t g k ∣ chOf t g.per g.ch k := by
  have hc := ht.cget hk
  unfold modG
  refine ⟨?_, Int.gcd_dvd_right .., Int.gcd_dvd_left ..⟩
  have := Int.gcd_pos_of_ne_zero_right (chOf t g.per g.ch k) (show t.cs.getD k 0 ≠ 0 by omega)
  omega
/-- the rests are all alike just for the divisors of the modulus -/
theorem alike_iff {N C c d : Int} (hd : 0 < d) (hdc : d ∣ c) {n : Nat} (hn : 2 ≤ n) {ns : List Int} (hl : ns.length = n) (hns : ∀ i, i < n → ns.getD i 0 = (N + (i : Int) * C) % c % d) : ((ddc ns : Nat) : Int) = 1 ↔ d ∣ Int.gcd C c := by
  rw [ddc_one (by omega), hl]
  have e : ∀ i, i < n → ns.getD i 0 = (N + (i : Int) * C) % d := fun i hi => by rw [hns i hi, Int.emod_emod_of_dvd _ hdc]
  constructor
  · intro h
    refine Int.dvd_coe_gcd ?_ hdc
    have h1 := h 1 (by omega)
    rw [e 1 (by omega), e 0 (by omega)] at h1
    have := Int.emod_eq_emod_iff_emod_sub_eq_zero.mp h1
    have := Int.dvd_of_emod_eq_zero this
    rwa [show N + ((1 : Nat) : Int) * C - (N + ((0 : Nat) : Int) * C) = C by omega] at this
  · intro h i hi
    have hC : d ∣ C := Int.dvd_trans h (Int.gcd_dvd_left ..)
    rw [e i hi, e 0 (by omega)]
    apply Int.emod_eq_emod_iff_emod_sub_eq_zero.mpr
    apply Int.emod_eq_zero_of_dvd
    rw [show N + (i : Int) * C - (N + ((0 : Nat) : Int) * C) = (i : Int) * C by rw [show (((0 : Nat) : Int)) = 0 from rfl, Int.zero_mul]; omega]
    exact Int.dvd_mul_of_dvd_right hC
/-- the divisors -/
def divsT (n : Int) (i : Nat) : List Int := ((List.range i).map fun (j : Nat) => (j : Int) + 1).filter fun d => decide (n % d = 0)
theorem divsT_succ (n : Int) (i : Nat) : divsT n (i + 1) = if n % ((i : Int) + 1) = 0 then divsT n i ++ [(i : Int) + 1] else divsT n i := by
  unfold divsT
  rw [List.range_succ, List.map_append, List.filter_append]
  by_cases h : n % ((i : Int) + 1) = 0
  · rw [if_pos h]; simp [h]
  · rw [if_neg h]; simp [h]
def divs (n : Int) : List Int := divsT n n.toNat
theorem mem_divs {n d : Int} (hn : 0 < n) : d ∈ divs n ↔ 0 < d ∧ d ∣ n := by
  unfold divs divsT
  rw [List.mem_filter, decide_eq_true_eq, List.mem_map]
  constructor
  · rintro ⟨⟨j, _, rfl⟩, h⟩
    exact ⟨by omega, Int.dvd_of_emod_eq_zero h⟩
  · rintro ⟨h0, h⟩
    have := Int.le_of_dvd hn h
    exact ⟨⟨(d - 1).toNat, List.mem_range.mpr (by omega), by omega⟩, Int.emod_eq_zero_of_dvd h⟩
theorem divsT_len (n : Int) (i : Nat) : (divsT n i).length ≤ i := by
  unfold divsT
  refine Nat.le_trans (List.length_filter_le ..) ?_
  rw [List.length_map, List.length_range]
  exact Nat.le_refl _
theorem dpf_app {dp : List (Option Int)} {x : Option Int} {w : Nat} : dpf (dp ++ [x]) w = if w < dp.length then dpf dp w else if w = dp.length then x else none := by
  unfold dpf
  by_cases h : w < dp.length
  · rw [if_pos h, List.getD_eq_getElem?_getD, List.getElem?_append_left h, ← List.getD_eq_getElem?_getD]
  · rw [if_neg h, List.getD_eq_getElem?_getD, List.getElem?_append_right (by omega)]
    by_cases e : w = dp.length
    · rw [if_pos e, e, Nat.sub_self]; rfl
    · rw [if_neg e, List.getElem?_eq_none (by show 1 ≤ _; omega)]; rfl
theorem dpf_out {dp : List (Option Int)} {w : Nat} (h : dp.length ≤ w) : dpf dp w = none := by
  unfold dpf
  rw [List.getD_eq_getElem?_getD, List.getElem?_eq_none h]; rfl
theorem dp_enc_at {dp : List (Option Int)} {w : Nat} (h : w < dp.length) : atI (dp.map encO) ((w : Nat) : Int) = some (encO (dpf dp w)) := by
  refine at_nat ?_
  rw [List.getElem?_map, List.getElem?_eq_getElem h]
  unfold dpf
  rw [List.getD_eq_getElem?_getD, List.getElem?_eq_getElem h]; rfl
theorem encO_non (x : Option Int) : (encO x).isNon = !x.isSome := by cases x <;> rfl
theorem dints_one (x : Int) : dints [x] = [D.int x] := rfl
theorem getD_mem {l : List Int} {i : Nat} (h : i < l.length) : l.getD i 0 ∈ l := by
  rw [List.getD_eq_getElem?_getD, List.getElem?_eq_getElem h]; exact List.getElem_mem h
theorem take_sn {l : List Int} {i : Nat} (h : i < l.length) : l.take (i + 1) = l.take i ++ [l.getD i 0] := by
  rw [List.take_succ_eq_append_getElem h, List.getD_eq_getElem?_getD, List.getElem?_eq_getElem h]; rfl
theorem getD_map {l : List Int} {f : Int → Int} {i : Nat} (h : i < l.length) : (l.map f).getD i 0 = f (l.getD i 0) := by
  rw [List.getD_eq_getElem?_getD, List.getElem?_map, List.getD_eq_getElem?_getD, List.getElem?_eq_getElem h]; rfl
theorem getD_range {f : Nat → Int} {n i : Nat} (h : i < n) : ((List.range n).map f).getD i 0 = f i := by
  rw [List.getD_eq_getElem?_getD, List.getElem?_map, List.getElem?_range h]; rfl
theorem cut_to {α : Type} {xs : List α} {k : Nat} (h : k ≤ xs.length) : cut xs none (some (k : Int)) = xs.take k := by
  unfold cut
  rw [HT.sIx_none, HT.sIx_nat, Nat.min_eq_left h]
  simp
theorem cut_from {α : Type} {xs : List α} {k : Nat} (h : k ≤ xs.length) : cut xs (some (k : Int)) none = xs.drop k := by
  unfold cut
  rw [HT.sIx_none, HT.sIx_nat, Nat.min_eq_left h]
  rw [List.take_of_length_le (by rw [List.length_drop]; omega)]
theorem dints_snoc (l : List Int) (x : Int) : dints l ++ [D.int x] = dints (l ++ [x]) := by rw [← dints_one]; exact (List.map_append ..).symm
end Tr

namespace K04
open PySem L2 DL Tr
open PySem.W (alike dataLt)
def topL0 : List Stmt := PySem.Challenge.pw_pintrain_k04_far_moments.main.body
def topL1 : List Stmt := topL0.tail
def topL2 : List Stmt := topL1.tail
def topL3 : List Stmt := topL2.tail
def topL4 : List Stmt := topL3.tail
def topL5 : List Stmt := topL4.tail
def topL6 : List Stmt := topL5.tail
def topL7 : List Stmt := topL6.tail
def topL8 : List Stmt := topL7.tail
def topL9 : List Stmt := topL8.tail
def topL10 : List Stmt := topL9.tail
def topL11 : List Stmt := topL10.tail
def topL12 : List Stmt := topL11.tail
def topL13 : List Stmt := topL12.tail
def topL14 : List Stmt := topL13.tail
def topL15 : List Stmt := topL14.tail
def topL16 : List Stmt := topL15.tail
def topL17 : List Stmt := topL16.tail
def topL18 : List Stmt := topL17.tail
def topL19 : List Stmt := topL18.tail
def topL20 : List Stmt := topL19.tail
def topL21 : List Stmt := topL20.tail
def topL22 : List Stmt := topL21.tail
def topL23 : List Stmt := topL22.tail
def topL24 : List Stmt := topL23.tail
def topL25 : List Stmt := topL24.tail
def topL26 : List Stmt := topL25.tail
def topL27 : List Stmt := topL26.tail
def topL28 : List Stmt := topL27.tail
def topL29 : List Stmt := topL28.tail
def topL30 : List Stmt := topL29.tail
def topL31 : List Stmt := topL30.tail
def topL32 : List Stmt := topL31.tail
def topL33 : List Stmt := topL32.tail
def topL34 : List Stmt := topL33.tail
def topL35 : List Stmt := topL34.tail
def topL36 : List Stmt := topL35.tail
def topL37 : List Stmt := topL36.tail
def topL38 : List Stmt := topL37.tail
def topL39 : List Stmt := topL38.tail
def topL40 : List Stmt := topL39.tail
def topL41 : List Stmt := topL40.tail
def topL42 : List Stmt := topL41.tail
def topL43 : List Stmt := topL42.tail
def topL44 : List Stmt := topL43.tail
def topL45 : List Stmt := topL44.tail
def topL46 : List Stmt := topL45.tail
def topL47 : List Stmt := topL46.tail
def topL48 : List Stmt := topL47.tail
def topL49 : List Stmt := topL48.tail
def topL50 : List Stmt := topL49.tail
def topL51 : List Stmt := topL50.tail
def topL52 : List Stmt := topL51.tail
def topL53 : List Stmt := topL52.tail
def topL54 : List Stmt := topL53.tail
def topL55 : List Stmt := topL54.tail
def topL56 : List Stmt := topL55.tail
abbrev st_L_dice : Stmt := topL47.headD (.Pass ⟨0, 0, 0, 0⟩)
abbrev N_L_dice : List Str := ["_law_script", "_law_mixed", "_law_cell"]
theorem sc_L_dice : FnScope ["_law_script", "_law_mixed", "_law_cell"] ["_law_script"] (defScope st_L_dice) := ⟨rfl, rfl, rfl, by decide +kernel, rfl, by decide +kernel, by decide +kernel⟩
abbrev st_L_next : Stmt := topL48.headD (.Pass ⟨0, 0, 0, 0⟩)
abbrev N_L_next : List Str := ["_law_dice_here", "_law_many", "_law_found", "_law_cell"]
theorem sc_L_next : FnScope ["_law_dice_here", "_law_many", "_law_found", "_law_cell"] ["_law_dice_here", "_law_many"] (defScope st_L_next) := ⟨rfl, rfl, rfl, by decide +kernel, rfl, by decide +kernel, by decide +kernel⟩
abbrev st_L_pin : Stmt := topL51.headD (.Pass ⟨0, 0, 0, 0⟩)
abbrev N_L_pin : List Str := ["_law_d", "_law_faces", "_law_most", "_law_driver", "_law_driven", "_law_steps"]
theorem sc_L_pin : FnScope ["_law_d", "_law_faces", "_law_most", "_law_driver", "_law_driven", "_law_steps"] ["_law_d", "_law_faces", "_law_most"] (defScope st_L_pin) := ⟨rfl, rfl, rfl, by decide +kernel, rfl, by decide +kernel, by decide +kernel⟩
abbrev st_L_train : Stmt := topL52.headD (.Pass ⟨0, 0, 0, 0⟩)
abbrev N_L_train : List Str := ["_law_d", "_law_wheels", "_law_faces", "_law_pins", "_law_most", "_law_counts", "_law_found", "_law_k"]
theorem sc_L_train : FnScope ["_law_d", "_law_wheels", "_law_faces", "_law_pins", "_law_most", "_law_counts", "_law_found", "_law_k"] ["_law_d", "_law_wheels", "_law_faces", "_law_pins", "_law_most"] (defScope st_L_train) := ⟨rfl, rfl, rfl, by decide +kernel, rfl, by decide +kernel, by decide +kernel⟩
abbrev st_L_start : Stmt := topL53.headD (.Pass ⟨0, 0, 0, 0⟩)
abbrev N_L_start : List Str := ["_law_d", "_law_train_here", "_law_count"]
theorem sc_L_start : FnScope ["_law_d", "_law_train_here", "_law_count"] ["_law_d", "_law_train_here"] (defScope st_L_start) := ⟨rfl, rfl, rfl, by decide +kernel, rfl, by decide +kernel, by decide +kernel⟩
abbrev st_L_closed : Stmt := topL55.headD (.Pass ⟨0, 0, 0, 0⟩)
abbrev N_L_closed : List Str := ["_law_d", "_law_train_here", "_law_faces", "_law_kept", "_law_k", "_law_some", "_law_good", "_law_pin_here", "_law_driver"]
theorem sc_L_closed : FnScope ["_law_d", "_law_train_here", "_law_faces", "_law_kept", "_law_k", "_law_some", "_law_good", "_law_pin_here", "_law_driver"] ["_law_d", "_law_train_here", "_law_faces"] (defScope st_L_closed) := ⟨rfl, rfl, rfl, by decide +kernel, rfl, by decide +kernel, by decide +kernel⟩
abbrev st_is_integer : Stmt := topL24.headD (.Pass ⟨0, 0, 0, 0⟩)
abbrev N_is_integer : List Str := ["value", "low", "high"]
theorem sc_is_integer : FnScope ["value", "low", "high"] ["value", "low", "high"] (defScope st_is_integer) := ⟨rfl, rfl, rfl, by decide +kernel, rfl, by decide +kernel, by decide +kernel⟩
abbrev st_is_pin : Stmt := topL25.headD (.Pass ⟨0, 0, 0, 0⟩)
abbrev N_is_pin : List Str := ["faces", "pin", "driver", "face", "driven", "steps"]
theorem sc_is_pin : FnScope ["faces", "pin", "driver", "face", "driven", "steps"] ["faces", "pin"] (defScope st_is_pin) := ⟨rfl, rfl, rfl, by decide +kernel, rfl, by decide +kernel, by decide +kernel⟩
abbrev st_check_train : Stmt := topL26.headD (.Pass ⟨0, 0, 0, 0⟩)
abbrev N_check_train : List Str := ["train", "faces", "pins", "index", "count", "pin"]
theorem sc_check_train : FnScope ["train", "faces", "pins", "index", "count", "pin"] ["train"] (defScope st_check_train) := ⟨rfl, rfl, rfl, by decide +kernel, rfl, by decide +kernel, by decide +kernel⟩
abbrev st_check_display : Stmt := topL28.headD (.Pass ⟨0, 0, 0, 0⟩)
abbrev N_check_display : List Str := ["train", "display", "counts", "index", "face"]
theorem sc_check_display : FnScope ["train", "display", "counts", "index", "face"] ["train", "display"] (defScope st_check_display) := ⟨rfl, rfl, rfl, by decide +kernel, rfl, by decide +kernel, by decide +kernel⟩
abbrev st_check_faces : Stmt := topL27.headD (.Pass ⟨0, 0, 0, 0⟩)
abbrev N_check_faces : List Str := ["train", "display"]
theorem sc_check_faces : FnScope ["train", "display"] ["train", "display"] (defScope st_check_faces) := ⟨rfl, rfl, rfl, by decide +kernel, rfl, by decide +kernel, by decide +kernel⟩
abbrev st_check_moment : Stmt := topL29.headD (.Pass ⟨0, 0, 0, 0⟩)
abbrev N_check_moment : List Str := ["moment"]
theorem sc_check_moment : FnScope ["moment"] ["moment"] (defScope st_check_moment) := ⟨rfl, rfl, rfl, by decide +kernel, rfl, by decide +kernel, by decide +kernel⟩
abbrev st_check_all : Stmt := topL35.headD (.Pass ⟨0, 0, 0, 0⟩)
abbrev N_check_all : List Str := ["train", "start", "moment"]
theorem sc_check_all : FnScope ["train", "start", "moment"] ["train", "start", "moment"] (defScope st_check_all) := ⟨rfl, rfl, rfl, by decide +kernel, rfl, by decide +kernel, by decide +kernel⟩
abbrev st_passes : Stmt := topL32.headD (.Pass ⟨0, 0, 0, 0⟩)
abbrev N_passes : List Str := ["count", "start", "face", "steps"]
theorem sc_passes : FnScope ["count", "start", "face", "steps"] ["count", "start", "face", "steps"] (defScope st_passes) := ⟨rfl, rfl, rfl, by decide +kernel, rfl, by decide +kernel, by decide +kernel⟩
abbrev st_total_steps : Stmt := topL33.headD (.Pass ⟨0, 0, 0, 0⟩)
abbrev N_total_steps : List Str := ["train", "start", "moment", "counts", "pins", "totals", "wheel", "total", "driver", "face", "driven", "steps"]
theorem sc_total_steps : FnScope ["train", "start", "moment", "counts", "pins", "totals", "wheel", "total", "driver", "face", "driven", "steps"] ["train", "start", "moment"] (defScope st_total_steps) := ⟨rfl, rfl, rfl, by decide +kernel, rfl, by decide +kernel, by decide +kernel⟩
abbrev st_faces_after : Stmt := topL34.headD (.Pass ⟨0, 0, 0, 0⟩)
abbrev N_faces_after : List Str := ["train", "start", "moment", "totals", "face", "total", "count"]
theorem sc_faces_after : FnScope ["train", "start", "moment", "totals", "face", "total", "count"] ["train", "start", "moment"] (defScope st_faces_after) := ⟨rfl, rfl, rfl, by decide +kernel, rfl, by decide +kernel, by decide +kernel⟩
abbrev st_faces_at : Stmt := topL36.headD (.Pass ⟨0, 0, 0, 0⟩)
abbrev N_faces_at : List Str := ["train", "start", "moment"]
theorem sc_faces_at : FnScope ["train", "start", "moment"] ["train", "start", "moment"] (defScope st_faces_at) := ⟨rfl, rfl, rfl, by decide +kernel, rfl, by decide +kernel, by decide +kernel⟩
abbrev st_drivers_of : Stmt := topL30.headD (.Pass ⟨0, 0, 0, 0⟩)
abbrev N_drivers_of : List Str := ["train", "wheel", "pin"]
theorem sc_drivers_of : FnScope ["train", "wheel", "pin"] ["train", "wheel"] (defScope st_drivers_of) := ⟨rfl, rfl, rfl, by decide +kernel, rfl, by decide +kernel, by decide +kernel⟩
abbrev st_check_closed : Stmt := topL39.headD (.Pass ⟨0, 0, 0, 0⟩)
abbrev N_check_closed : List Str := ["train", "display", "wheel", "face", "driver"]
theorem sc_check_closed : FnScope ["train", "display", "wheel", "face", "driver"] ["train", "display"] (defScope st_check_closed) := ⟨rfl, rfl, rfl, by decide +kernel, rfl, by decide +kernel, by decide +kernel⟩
abbrev st_check_search : Stmt := topL41.headD (.Pass ⟨0, 0, 0, 0⟩)
abbrev N_check_search : List Str := ["train", "start", "display"]
theorem sc_check_search : FnScope ["train", "start", "display"] ["train", "start", "display"] (defScope st_check_search) := ⟨rfl, rfl, rfl, by decide +kernel, rfl, by decide +kernel, by decide +kernel⟩
abbrev st_Progression_init : Stmt := inClass (topL38.headD (.Pass ⟨0, 0, 0, 0⟩)) 0
abbrev N_Progression_init : List Str := ["self", "train", "start"]
theorem sc_Progression_init : FnScope ["self", "train", "start"] ["self", "train", "start"] (defScope st_Progression_init) := ⟨rfl, rfl, rfl, by decide +kernel, rfl, by decide +kernel, by decide +kernel⟩
abbrev st_greatest_divisor : Stmt := topL15.headD (.Pass ⟨0, 0, 0, 0⟩)
abbrev N_greatest_divisor : List Str := ["one", "other"]
theorem sc_greatest_divisor : FnScope ["one", "other"] ["one", "other"] (defScope st_greatest_divisor) := ⟨rfl, rfl, rfl, by decide +kernel, rfl, by decide +kernel, by decide +kernel⟩
abbrev st_Progression_change_of : Stmt := inClass (topL38.headD (.Pass ⟨0, 0, 0, 0⟩)) 1
abbrev N_Progression_change_of : List Str := ["self", "wheel", "counts", "pins", "change", "driver", "face", "driven", "steps"]
theorem sc_Progression_change_of : FnScope ["self", "wheel", "counts", "pins", "change", "driver", "face", "driven", "steps"] ["self", "wheel"] (defScope st_Progression_change_of) := ⟨rfl, rfl, rfl, by decide +kernel, rfl, by decide +kernel, by decide +kernel⟩
abbrev st_Progression_face_rest : Stmt := inClass (topL38.headD (.Pass ⟨0, 0, 0, 0⟩)) 2
abbrev N_Progression_face_rest : List Str := ["self", "wheel", "count", "modulus", "face"]
theorem sc_Progression_face_rest : FnScope ["self", "wheel", "count", "modulus", "face"] ["self", "wheel"] (defScope st_Progression_face_rest) := ⟨rfl, rfl, rfl, by decide +kernel, rfl, by decide +kernel, by decide +kernel⟩
abbrev st_inverse_modulo : Stmt := topL16.headD (.Pass ⟨0, 0, 0, 0⟩)
abbrev N_inverse_modulo : List Str := ["number", "modulus", "one", "other", "left", "right", "quotient"]
theorem sc_inverse_modulo : FnScope ["number", "modulus", "one", "other", "left", "right", "quotient"] ["number", "modulus"] (defScope st_inverse_modulo) := ⟨rfl, rfl, rfl, by decide +kernel, rfl, by decide +kernel, by decide +kernel⟩
abbrev st_Progression_require : Stmt := inClass (topL38.headD (.Pass ⟨0, 0, 0, 0⟩)) 3
abbrev N_Progression_require : List Str := ["self", "wheel", "face", "count", "change", "now", "divisor", "factor", "turns", "driver", "steps"]
theorem sc_Progression_require : FnScope ["self", "wheel", "face", "count", "change", "now", "divisor", "factor", "turns", "driver", "steps"] ["self", "wheel", "face"] (defScope st_Progression_require) := ⟨rfl, rfl, rfl, by decide +kernel, rfl, by decide +kernel, by decide +kernel⟩
abbrev st_follow : Stmt := topL40.headD (.Pass ⟨0, 0, 0, 0⟩)
abbrev N_follow : List Str := ["train", "start", "display", "progression", "wheel", "face", "modulus", "rest"]
theorem sc_follow : FnScope ["train", "start", "display", "progression", "wheel", "face", "modulus", "rest"] ["train", "start", "display"] (defScope st_follow) := ⟨rfl, rfl, rfl, by decide +kernel, rfl, by decide +kernel, by decide +kernel⟩
abbrev st_find_moments : Stmt := topL42.headD (.Pass ⟨0, 0, 0, 0⟩)
abbrev N_find_moments : List Str := ["train", "start", "display", "progression", "failed"]
theorem sc_find_moments : FnScope ["train", "start", "display", "progression", "failed"] ["train", "start", "display"] (defScope st_find_moments) := ⟨rfl, rfl, rfl, by decide +kernel, rfl, by decide +kernel, by decide +kernel⟩
abbrev st_L_fits : Stmt := topL54.headD (.Pass ⟨0, 0, 0, 0⟩)
abbrev N_L_fits : List Str := ["_law_display", "_law_faces", "_law_k"]
theorem sc_L_fits : FnScope ["_law_display", "_law_faces", "_law_k"] ["_law_display", "_law_faces"] (defScope st_L_fits) := ⟨rfl, rfl, rfl, by decide +kernel, rfl, by decide +kernel, by decide +kernel⟩
abbrev st_next_moment : Stmt := topL43.headD (.Pass ⟨0, 0, 0, 0⟩)
abbrev N_next_moment : List Str := ["train", "start", "display", "moment", "found", "first", "period"]
theorem sc_next_moment : FnScope ["train", "start", "display", "moment", "found", "first", "period"] ["train", "start", "display", "moment"] (defScope st_next_moment) := ⟨rfl, rfl, rfl, by decide +kernel, rfl, by decide +kernel, by decide +kernel⟩
abbrev st_nth_moment : Stmt := topL45.headD (.Pass ⟨0, 0, 0, 0⟩)
abbrev N_nth_moment : List Str := ["train", "start", "display", "number", "found"]
theorem sc_nth_moment : FnScope ["train", "start", "display", "number", "found"] ["train", "start", "display", "number"] (defScope st_nth_moment) := ⟨rfl, rfl, rfl, by decide +kernel, rfl, by decide +kernel, by decide +kernel⟩
abbrev st_count_moments : Stmt := topL44.headD (.Pass ⟨0, 0, 0, 0⟩)
abbrev N_count_moments : List Str := ["train", "start", "display", "begin", "end", "found", "first", "period"]
theorem sc_count_moments : FnScope ["train", "start", "display", "begin", "end", "found", "first", "period"] ["train", "start", "display", "begin", "end"] (defScope st_count_moments) := ⟨rfl, rfl, rfl, by decide +kernel, rfl, by decide +kernel, by decide +kernel⟩
abbrev st_L_pick : Stmt := topL49.headD (.Pass ⟨0, 0, 0, 0⟩)
abbrev N_L_pick : List Str := ["_law_d", "_law_some"]
theorem sc_L_pick : FnScope ["_law_d", "_law_some"] ["_law_d", "_law_some"] (defScope st_L_pick) := ⟨rfl, rfl, rfl, by decide +kernel, rfl, by decide +kernel, by decide +kernel⟩
abbrev st_L_told : Stmt := topL50.headD (.Pass ⟨0, 0, 0, 0⟩)
abbrev N_L_told : List Str := ["_law_work", "e", "_law_some", "_law_terms", "_law_k", "_law_head"]
theorem sc_L_told : FnScope ["_law_work", "e", "_law_some", "_law_terms", "_law_k", "_law_head"] ["_law_work"] (defScope st_L_told) := ⟨rfl, rfl, rfl, by decide +kernel, rfl, by decide +kernel, by decide +kernel⟩
abbrev st_law : Stmt := topL56.headD (.Pass ⟨0, 0, 0, 0⟩)
abbrev N_law : List Str := ["_law_script", "_law_d", "_law_turn", "_law_train_here", "_law_start_here", "_law_there", "_law_display", "_law_first", "_law_step", "_law_k", "_law_part", "_law_between", "_law_moment", "_law_number", "_law_after", "_law_end", "_law_due", "_law_bad"]
theorem sc_law : FnScope ["_law_script", "_law_d", "_law_turn", "_law_train_here", "_law_start_here", "_law_there", "_law_display", "_law_first", "_law_step", "_law_k", "_law_part", "_law_between", "_law_moment", "_law_number", "_law_after", "_law_end", "_law_due", "_law_bad"] ["_law_script"] (defScope st_law) := ⟨rfl, rfl, rfl, by decide +kernel, rfl, by decide +kernel, by decide +kernel⟩
local macro_rules | `(tactic| walk_at "at") => `(tactic| (with_reducible repeat (first | exact At.here | apply At.there)))
local macro_rules | `(tactic| walk_at "put") => `(tactic| (with_reducible repeat (first | exact Put.here | apply Put.there)))
local macro_rules | `(tactic| walk_at "fat") => `(tactic| repeat (first | exact FAt.here | (apply FAt.there; focus (decide +kernel))))
local macro_rules | `(tactic| walk_at "fput") => `(tactic| repeat (first | exact FPut.here | exact FPut.last | (apply FPut.there; focus (decide +kernel))))
local macro_rules | `(tactic| walk_at "fno") => `(tactic| repeat (first | exact FNo.nil | (apply FNo.cons; focus (decide +kernel))))
local macro_rules | `(tactic| walk_at "drop") => `(tactic| (with_reducible repeat (first | exact Drop.here | apply Drop.there)))
local macro_rules | `(tactic| walk_at "s") => `(tactic| first
  | refine e_name (by walk_at "at") ?_
  | refine e_methD (by assumption) (by assumption) (by assumption) (by decide) ?_
  | with_reducible refine x_ii ?_
  | with_reducible refine x_i ?_
  | with_reducible refine x_b ?_
  | refine ss_cons ?_
  | refine ss_nil ?_
  | refine e_int ?_
  | refine e_globI (by assumption) ?_
  | refine e_call (by assumption) (by assumption) (by decide) ?_
  | refine e_makeD (by assumption) (by assumption) (by decide) ?_
  | refine e_intC (by assumption) ?_
  | refine e_int1 (by assumption) ?_
  | refine e_abs (by assumption) ?_
  | refine e_len (by assumption) ?_
  | refine e_isi (by assumption) (by assumption) rfl ?_
  | refine s_asg ?_
  | refine g_name (by walk_at "put") ?_
  | refine s_ret ?_
  | refine s_retN ?_
  | refine s_pass ?_
  | refine s_break ?_
  | refine s_cont ?_
  | refine e_chg (hu1 (by assumption)) ?_
  | refine e_sub' ?_
  | refine e_fld (by rfl) (by assumption) (by assumption) ?_
  | with_reducible refine x_fld (by assumption) (by walk_at "fat") ?_
  | refine e_add ?_
  | refine e_sub ?_
  | refine e_mod ?_
  | refine e_pow ?_
  | refine e_repTt ?_
  | refine e_mul ?_
  | refine e_fdiv ?_
  | refine e_neg ?_
  | refine a_cons ?_
  | refine a_nil ?_
  | refine e_tup ?_
  | refine s_if ?_
  | refine e_lt ?_
  | refine e_le ?_
  | refine e_gt ?_
  | refine e_ge ?_
  | refine e_leLe ?_
  | refine e_leLt ?_
  | refine t_lt ?_
  | refine t_le ?_
  | refine t_gt ?_
  | refine t_ge ?_
  | refine t_leLe ?_
  | refine t_leLt ?_
  | refine e_isN ?_
  | refine e_notN ?_
  | refine t_isN ?_
  | refine t_notN ?_
  | refine t_not ?_
  | refine t_w (w_and ?_)
  | refine t_w (w_or ?_)
  | refine w_and ?_
  | refine w_or ?_
  | refine w_and1 ?_
  | refine w_or1 ?_
  | refine e_and ?_
  | refine e_or ?_
  | refine e_one ?_
  | refine e_not ?_
  | refine t_val ?_
  | refine e_bl ?_
  | refine e_non ?_
  | refine e_str ?_
  | refine g_tup ?_
  | refine gs_cons ?_
  | refine gs_nil ?_
  | refine s_expr ?_
  | refine s_par (by walk_at "put") (by walk_at "put") (by decide +kernel) ?_
  | with_reducible refine x_par (by walk_at "put") (by walk_at "put") ?_
  | with_reducible refine x_put (by walk_at "put") ?_
  | refine x_tup ?_
  | refine x_le ?_)
local macro_rules | `(tactic| walk_at "w") => `(tactic| repeat (walk_at "s"))
section
variable {P : Program} {w : World} {K : PySem.W.Frag} {mg : Str → Option Value} {base : Heap} {f : Addr} {fd : FuncData}
theorem ok_dice (F : Fun K "_law_dice" "_law_dice" st_L_dice f fd) (mi : mg "int" = none) (ml : mg "len" = none) : FnOk P w K mg base (L2.CX P w) 1 f fd ["_law_script"] (lift K spDice) := by
  refine fn_ok F sc_L_dice (by rintro ds M R RX ⟨a, rfl, _⟩; rfl) (fun cdv A outer s H Ex ds M R RX hr h => ?_)
  obtain ⟨ns, rfl, k⟩ := h
  dsimp only [env0]
  walk_at "w"
  refine s_for (i_list ?_)
  walk_at "w"
  refine ⟨_, .inr rfl, fun i env' M' => (∃ (o : Option D) (mx : Int), env' = [nv "_law_script" (.rol (dints ns)), nv "_law_mixed" (.int mx), ("_law_cell", o)] ∧ 0 ≤ mx ∧ mx < 2147483647) ∧ M = M', ⟨⟨_, 0, rfl, by decide, by decide⟩, rfl⟩, ?_, ?_⟩
  · rintro i hi env' M' ⟨⟨o, mx, rfl, h0, h1⟩, rfl⟩
    have hi' : i < ns.length := by rw [dints_len] at hi; exact hi
    rw [dints_el hi hi']
    walk_at "w"
    refine ⟨mulR ⟨by decide, by decide⟩, ?_⟩
    walk_at "w"
    refine ⟨by decide, ?_⟩
    walk_at "w"
    refine ⟨mulR ⟨by decide, by decide⟩, ?_⟩
    walk_at "w"
    refine ⟨by decide, ?_⟩
    walk_at "w"
    exact ⟨⟨_, _, rfl, Int.emod_nonneg _ (by decide), Int.emod_lt_of_pos _ (by decide)⟩, rfl⟩
  rintro env' M' ⟨⟨o, mx, rfl, h0, h1⟩, rfl⟩
  refine ss_cons (s_ret (e_lstM ?_))
  refine a_cons ?_
  walk_at "w"
  refine x_len (.rol _) ?_
  walk_at "w"
  generalize hb : decide ((2 : Int) < ((dints ns).length : Nat)) = b
  refine ⟨mulR (by cases b <;> decide), ?_⟩
  walk_at "w"
  refine fun p hp => k p _ hp ⟨ns, _, _, _, rfl, by decide, ?_, ?_, by decide⟩
  · cases b
    · show 0 ≤ mx * 0; omega
    · show 0 ≤ mx * 1; omega
  · cases b
    · show mx * 0 < _; omega
    · show mx * 1 < _; omega
theorem ok_next (F : Fun K "_law_next" "_law_next" st_L_next f fd) (mi : mg "int" = none) (ml : mg "len" = none) : FnOk P w K mg base (L2.CX P w) 1 f fd ["_law_dice_here", "_law_many"] (lift K spNext) := by
  refine fn_ok F sc_L_next (by rintro ds M R RX ⟨a, b, rfl, _⟩; rfl) (fun cdv A outer s H Ex ds M R RX hr h => ?_)
  obtain ⟨a, n, rfl, ⟨_, hM, ns, i, mx, r, rfl, hi0, hm0, hm1, hr0⟩, n0, n1, k⟩ := h
  have hd : ∀ x, CDiv x n ∨ CDivW x n := fun x => divN n0 (nat_lt_pow (k := 60) 5000 (by omega) (by decide))
  have kk : ∀ x c, DiceC c → R (.int (x % n)) (updM M a c) := fun x c hc => k _ c (Int.emod_nonneg _ (by omega)) (Int.emod_lt_of_pos _ n0) hc
  dsimp only [env0]
  walk_at "w"
  refine x_ixM hM rfl ?_
  walk_at "w"
  refine ⟨fun h0 => ?_, fun h0 => ?_⟩
  · have h0 := of_decide_eq_true h0
    walk_at "w"
    refine x_ixM hM rfl ?_
    walk_at "w"
    refine ⟨n0, ?_⟩
    walk_at "w"
    refine x_ixM hM rfl ?_
    walk_at "w"
    refine ⟨hd _, ?_⟩
    refine g_sub ?_
    walk_at "w"
    refine ⟨a, _, 3, 3, rfl, rfl, hM, rfl, ?_⟩
    walk_at "w"
    exact kk _ _ ⟨ns, i, mx, r / n, rfl, hi0, hm0, hm1, Int.ediv_nonneg hr0 (by omega)⟩
  · walk_at "w"
    refine x_ixM hM rfl ?_
    walk_at "w"
    refine g_sub ?_
    walk_at "w"
    refine ⟨a, _, 1, 1, rfl, rfl, hM, rfl, ?_⟩
    walk_at "w"
    refine x_ixM updM_same rfl ?_
    walk_at "w"
    refine x_ixM updM_same rfl ?_
    walk_at "w"
    refine x_len (.rol _) ?_
    walk_at "w"
    refine ⟨fun h1 => ?_, fun h1 => ?_⟩
    · have h1 := of_decide_eq_true h1
      rw [dints_len] at h1
      walk_at "w"
      refine x_ixM updM_same rfl ?_
      walk_at "w"
      refine x_ixM updM_same rfl ?_
      walk_at "w"
      refine x_ixR (d := .int (ns.getD i.toNat 0)) (by rw [show i + 1 - 1 = ((i.toNat : Nat) : Int) by omega]; exact dints_at (by omega)) ?_
      walk_at "w"
      generalize ns.getD i.toNat 0 = cell
      refine E.imp (Q := fun d M1 => (∃ x : Int, d = .int x ∧ 0 ≤ x) ∧ M1 = updM M a (.lst [.rol (dints ns), .int (i + 1), .int mx, .int r])) ?_ ?_
      · refine e_if ?_
        walk_at "w"
        refine ⟨⟨by decide, by decide, by decide⟩, ?_⟩
        walk_at "w"
        refine ⟨fun h2 => ?_, fun h2 => ?_⟩
        · have h2 := of_decide_eq_true h2
          walk_at "w"
          refine ⟨hd _, ?_⟩
          exact ⟨⟨_, rfl, Int.ediv_nonneg (Int.le_trans (by decide) h2) (by omega)⟩, rfl⟩
        · walk_at "w"
          exact ⟨⟨_, rfl, by decide⟩, rfl⟩
      rintro d M1 ⟨⟨x, rfl, hx⟩, rfl⟩
      refine g_sub ?_
      walk_at "w"
      refine ⟨a, _, 3, 3, rfl, rfl, updM_same, rfl, ?_⟩
      walk_at "w"
      refine ⟨n0, ?_⟩
      rw [updM_updM]
      exact kk _ _ ⟨ns, i + 1, mx, x, rfl, by omega, hm0, hm1, hx⟩
    · walk_at "w"
      refine x_ixM updM_same rfl ?_
      walk_at "w"
      refine ⟨mulR ⟨by decide, by decide⟩, ?_⟩
      walk_at "w"
      refine ⟨by decide, ?_⟩
      refine g_sub ?_
      walk_at "w"
      refine ⟨a, _, 2, 2, rfl, rfl, updM_same, rfl, ?_⟩
      walk_at "w"
      refine x_ixM updM_same rfl ?_
      walk_at "w"
      refine ⟨divS ⟨by decide, by decide⟩, ?_⟩
      walk_at "w"
      refine ⟨n0, ?_⟩
      rw [updM_updM]
      exact kk _ _ ⟨ns, i + 1, _, r, rfl, by omega, Int.emod_nonneg _ (by decide), Int.emod_lt_of_pos _ (by decide), hr0⟩
theorem ok_lpin (F : Fun K "_law_pin" "_law_pin" st_L_pin f fd) (D1 : Def P w K mg base "_law_next" 1 spNext) (ml : mg "len" = none) : FnOk P w K mg base (L2.CX P w) 2 f fd ["_law_d", "_law_faces", "_law_most"] (lift K spLPin) := by
  refine fn_ok F sc_L_pin (by rintro ds M R RX ⟨a, b, c, rfl, _⟩; rfl) (fun cdv A outer s H Ex ds M R RX hr h => ?_)
  obtain ⟨a, cs, most, rfl, hM, c2, c8, hc, m1, m9, k⟩ := h
  have hl := @dints_len cs
  dsimp only [env0]
  walk_at "w"
  refine x_len (.tup _) ?_
  walk_at "w"
  refine ⟨a, _, rfl, hM, by omega, by omega, fun x1 d1 x10 x11 hd1 => ?_⟩
  walk_at "w"
  refine x_len (.tup _) ?_
  walk_at "w"
  refine ⟨a, _, rfl, .set hd1, by omega, by omega, fun x2 d2 x20 x21 hd2 => ?_⟩
  rw [updM_updM]
  walk_at "w"
  refine ⟨a, _, rfl, .set hd2, by omega, by omega, fun x3 d3 x30 x31 hd3 => ?_⟩
  rw [updM_updM]
  walk_at "w"
  obtain ⟨n1, rfl⟩ : ∃ n : Nat, x1 = n := ⟨x1.toNat, by omega⟩
  have hn : n1 < cs.length := by omega
  have hcn := hc _ (List.mem_of_getElem? (getD_of hn))
  refine x_ixT (dints_at hn) ?_
  walk_at "w"
  refine ⟨a, _, rfl, .set hd3, by omega, by omega, fun x4 d4 x40 x41 hd4 => ?_⟩
  rw [updM_updM]
  walk_at "w"
  refine ⟨a, _, rfl, .set hd4, by omega, by omega, fun x5 d5 x50 x51 hd5 => ?_⟩
  rw [updM_updM]
  walk_at "w"
  refine ⟨mulL ⟨by omega, by omega⟩, ?_⟩
  walk_at "w"
  refine ⟨mulL ⟨by omega, by omega⟩, ?_⟩
  walk_at "w"
  have e := k ⟨n1, x4, (n1 + 1 + x2).toNat, (1 + x3) * (1 - 2 * x5)⟩ d5 ⟨by show n1 < (n1 + 1 + x2).toNat; omega, by show (n1 + 1 + x2).toNat < cs.length; omega, x40, x41, ?_, ?_, ?_⟩ hd5
  · dsimp only [encPin] at e
    rw [show (((n1 + 1 + x2).toNat : Nat) : Int) = n1 + 1 + x2 by omega] at e
    exact e
  all_goals
    rcases (show x5 = 0 ∨ x5 = 1 by omega) with z | z <;> subst z
    · show _; simp; omega
    · show _; simp; omega
theorem ok_ltrain (F : Fun K "_law_train" "_law_train" st_L_train f fd) (D1 : Def P w K mg base "_law_next" 1 spNext) (D2 : Def P w K mg base "_law_pin" 2 spLPin) (ml : mg "len" = none) (mr : mg "range" = none) (mt : mg "tuple" = none) : FnOk P w K mg base (L2.CX P w) 3 f fd ["_law_d", "_law_wheels", "_law_faces", "_law_pins", "_law_most"] (lift K spLTrain) := by
  refine fn_ok F sc_L_train (by rintro ds M R RX ⟨a, b, c, d, e, rfl, _⟩; rfl) (fun cdv A outer s H Ex ds M R RX hr h => ?_)
  obtain ⟨a, wh, fa, pn, most, rfl, hM, w1, w8, f2, f40, p0, p24, m1, m9, k⟩ := h
  dsimp only [env0]
  refine ss_cons (s_asg (e_tuple (by assumption) (e_lc (own := [("_law_k", 7)]) (blkOk_by (N := N_L_train) (sc := defScope st_L_train) (by decide +kernel)) (show Drops _ ["_law_k"] _ from .cons .nil (by walk_at "drop")) (i_range1 (by assumption) ?_))))
  walk_at "w"
  refine ⟨a, _, rfl, hM, by omega, by omega, fun x1 d1 x10 x11 hd1 => ?_⟩
  walk_at "w"
  refine ⟨⟨by omega, by omega⟩, by rw [rngD_len]; omega, fun i acc M' => ∃ (cs : List Int) (c : Cell), acc = dints cs ∧ cs.length = i ∧ (∀ x ∈ cs, 2 ≤ x ∧ x ≤ fa) ∧ DiceC c ∧ M' = updM M a c, ⟨[], d1, rfl, rfl, by simp, hd1, rfl⟩, ?_, ?_⟩
  · rintro i hi acc M' ⟨cs, c, rfl, hl, hc, hd, rfl⟩ hal
    rw [rngD_get hi]
    intro s2 H2 C2 cl2 fp2
    refine gw_name (by walk_at "put") ?_ ⟨7, by decide, rfl⟩
    intro s3 H3 C3 cl3 fp3
    refine ts_nil ⟨fun _ => ?_, fun z => by cases z⟩
    intro s4 H4 C4 cl4 fp4
    walk_at "w"
    refine ⟨a, _, rfl, .set hd, by omega, by omega, fun x2 d2 x20 x21 hd2 => ?_⟩
    rw [updM_updM]
    walk_at "w"
    refine ⟨cs ++ [2 + x2], d2, ?_, by rw [List.length_append, hl]; rfl, ?_, hd2, rfl⟩
    · unfold dints; rw [List.map_append]; rfl
    · intro x hx
      rcases List.mem_append.mp hx with h | h
      · exact hc x h
      · rw [List.mem_singleton.mp h]; omega
  rintro acc M' ⟨cs, c, rfl, hl, hc, hd, rfl⟩ _
  rw [rngD_len] at hl
  refine .inl ⟨_, .inl rfl, ?_⟩
  walk_at "w"
  have hln := @dints_len cs
  refine s_lc (own := [("_law_k", 7)]) (blkOk_by (N := N_L_train) (sc := defScope st_L_train) (by decide +kernel)) (show Drops _ ["_law_k"] _ from .cons .nil (by walk_at "drop")) (by walk_at "put") (i_range1 (by assumption) ?_)
  refine E.imp (Q := fun d M1 => ∃ (x : Int) (c : Cell), d = .int x ∧ 0 ≤ x ∧ x ≤ pn ∧ (0 < x → 2 ≤ cs.length) ∧ DiceC c ∧ M1 = updM M a c) ?_ ?_
  · refine e_if ?_
    walk_at "w"
    refine x_len (.tup _) ?_
    walk_at "w"
    refine ⟨fun h0 => ?_, fun h0 => ?_⟩
    · have h0 := of_decide_eq_true h0
      walk_at "w"
      refine ⟨a, _, rfl, .set hd, by omega, by omega, fun x2 d2 x20 x21 hd2 => ?_⟩
      rw [updM_updM]
      exact ⟨x2, d2, rfl, x20, by omega, fun _ => by omega, hd2, rfl⟩
    · walk_at "w"
      exact ⟨0, c, rfl, by decide, p0, fun z => by omega, hd, rfl⟩
  rintro d M1 ⟨x, c2, rfl, x0, xp, xl, hd2, rfl⟩
  refine ⟨_, rfl, ⟨by omega, by omega⟩, by rw [rngD_len]; omega, fun i acc M' => ∃ (ps : List Pin) (c : Cell), acc = ps.map encPin ∧ ps.length = i ∧ (∀ p ∈ ps, p.ok cs) ∧ DiceC c ∧ M' = updM M a c, ⟨[], c2, rfl, rfl, by simp, hd2, rfl⟩, ?_, ?_⟩
  · rintro i hi acc M' ⟨ps, c, rfl, hl3, hc3, hd3, rfl⟩ hal
    have hi2 : i < x.toNat := by rw [rngD_len] at hi; exact hi
    rw [rngD_get hi]
    intro s2 H2 C2 cl2 fp2
    refine gw_name (by walk_at "put") ?_ ⟨7, by decide, rfl⟩
    intro s3 H3 C3 cl3 fp3
    refine ts_nil ⟨fun _ => ?_, fun z => by cases z⟩
    intro s4 H4 C4 cl4 fp4
    walk_at "w"
    refine ⟨a, cs, most, rfl, .set hd3, xl (by omega), by omega, fun y hy => ⟨(hc y hy).1, by have := (hc y hy).2; omega⟩, m1, m9, fun p d2 hp hd2 => ?_⟩
    rw [updM_updM]
    refine ⟨ps ++ [p], d2, ?_, by rw [List.length_append, hl3]; rfl, ?_, hd2, rfl⟩
    · rw [List.map_append]; rfl
    · intro y hy
      rcases List.mem_append.mp hy with h | h
      · exact hc3 y h
      · rw [List.mem_singleton.mp h]; exact hp
  rintro acc M' ⟨ps, c3, rfl, hl3, hc3, hd3, rfl⟩ _
  rw [rngD_len] at hl3
  walk_at "w"
  refine e_tuple (by assumption) ?_
  walk_at "w"
  refine .inl ⟨_, .inl rfl, ?_⟩
  walk_at "w"
  exact k ⟨cs, ps⟩ c3 ⟨⟨by show 1 ≤ cs.length; omega, by show cs.length ≤ 8; omega, fun y hy => ⟨(hc y hy).1, by have := (hc y hy).2; omega⟩, by show ps.length ≤ 24; omega, hc3⟩, by show (cs.length : Int) ≤ wh; omega, fun y hy => (hc y hy).2, by show (ps.length : Int) ≤ pn; omega⟩ hd3
theorem ok_lstart (F : Fun K "_law_start" "_law_start" st_L_start f fd) (D1 : Def P w K mg base "_law_next" 1 spNext) (mt : mg "tuple" = none) : FnOk P w K mg base (L2.CX P w) 2 f fd ["_law_d", "_law_train_here"] (lift K spLStart) := by
  refine fn_ok F sc_L_start (by rintro ds M R RX ⟨a, b, rfl, _⟩; rfl) (fun cdv A outer s H Ex ds M R RX hr h => ?_)
  obtain ⟨a, t, rfl, ⟨c0, hc0, hd0⟩, ht, k⟩ := h
  have n8 := ht.n1
  have hl := @dints_len t.cs
  have hM0 : updM M a c0 = M := by
    funext b
    by_cases e : b = a
    · rw [e, updM_same, hc0]
    · rw [updM_ne e]
  dsimp only [env0]
  refine ss_cons (s_ret (e_tuple (by assumption) (e_lc (own := [("_law_count", 2)]) (blkOk_by (N := N_L_start) (sc := defScope st_L_start) (by decide +kernel)) (show Drops _ ["_law_count"] _ from .cons .nil (by walk_at "drop")) (i_tup ?_))))
  walk_at "w"
  refine x_ixT rfl ⟨_, rfl, by omega, fun i acc M' => ∃ (l : List Int) (c : Cell), acc = dints l ∧ l.length = i ∧ (∀ j, j < i → 0 ≤ l.getD j 0 ∧ l.getD j 0 < t.cs.getD j 0) ∧ DiceC c ∧ M' = updM M a c, ⟨[], c0, rfl, rfl, (fun j hj => absurd hj (Nat.not_lt_zero _)), hd0, hM0.symm⟩, ?_, ?_⟩
  · rintro i hi acc M' ⟨l, c, rfl, hll, hlr, hd, rfl⟩ hal
    have hi' : i < t.cs.length := by omega
    rw [dints_el hi hi']
    have hc := ht.cget hi'
    intro s2 H2 C2 cl2 fp2
    refine gw_name (by walk_at "put") ?_ ⟨2, by decide, rfl⟩
    intro s3 H3 C3 cl3 fp3
    refine ts_nil ⟨fun _ => ?_, fun z => by cases z⟩
    intro s4 H4 C4 cl4 fp4
    walk_at "w"
    refine ⟨a, _, rfl, .set hd, by omega, by omega, fun x2 d2 x20 x21 hd2 => ?_⟩
    rw [updM_updM]
    refine ⟨l ++ [x2], d2, ?_, by rw [List.length_append, hll]; rfl, fun j hj => ?_, hd2, rfl⟩
    · unfold dints; rw [List.map_append]; rfl
    · by_cases e : j < i
      · rw [List.getD_eq_getElem?_getD, List.getElem?_append_left (by omega), ← List.getD_eq_getElem?_getD]; exact hlr j e
      · have e : j = i := by omega
        rw [e, List.getD_eq_getElem?_getD, List.getElem?_append_right (by omega), hll, Nat.sub_self]
        exact ⟨x20, x21⟩
  rintro acc M' ⟨l, c, rfl, hll, hlr, hd, rfl⟩ _
  rw [hl] at hll hlr
  refine .inl ⟨_, .inl rfl, ?_⟩
  exact k l c ⟨hll, hlr⟩ hd
def ir_L_closed_5 : ISs := (.cons (.asg (.t (.nm 3)) (.op .add (.v 3) (.op .mul (.lst (.cons (.v 4) .nil)) (.bi .int (.and (.cons (.v 6) (.cons (.cmp .gt (.call 0 (.cons (.v 0) (.cons (.n 4) .nil))) (.n 0)) .nil))))))) .nil)
def ir_L_closed_4 : ISs := (.cons (.asg (.t (.nm 6)) (.cmp .eq (.lc false [8] (.nm 8) (.seq (.v 5)) (.so (.cmp .nin (.v 8) (.v 3))) (.v 8)) (.lst .nil))) ir_L_closed_5)
def ir_L_closed_3 : ISs := (.cons (.asg (.t (.nm 5)) (.lc false [7] (.nm 7) (.seq (.ix (.v 1) (.n 1))) (.so (.cmp .eq (.ix (.v 7) (.n 2)) (.v 4))) (.ix (.v 7) (.n 0)))) ir_L_closed_4)
def ir_L_closed_6 : ISs := (.cons (.ret (.bi .tuple (.lc false [4] (.nm 4) (.rng1 (.bi .len (.v 2))) .no (.ite (.cmp .in_ (.v 4) (.v 3)) (.ix (.v 2) (.v 4)) .non)))) .nil)
def ir_L_closed_2 : ISs := (.cons (.for_ (.nm 4) (.rng1 (.bi .len (.v 2))) ir_L_closed_3) ir_L_closed_6)
def ir_L_closed_1 : ISs := (.cons (.asg (.t (.nm 3)) (.lst .nil)) ir_L_closed_2)
def ir_L_closed : ISs := ir_L_closed_1
abbrev G_L_closed : Gs' := { df := ["_law_next"], bi := ["range", "len", "int", "tuple"] }
abbrev Γ_L_closed : Gm := { df := [spNext] }
theorem c_L_closed : chkSS G_L_closed N_L_closed (defScope st_L_closed) ir_L_closed (defBody st_L_closed) = true := by decide +kernel
def spDispC : DSp := fun ds M R _ => ∃ (a : Addr) (t : Train) (sh : List Int), ds = [.ref a, enc t, .tup (dints sh)] ∧ DiceM M a ∧ t.ok ∧ StOk t sh ∧ ∀ (dp : List (Option Int)) c, DpOk t dp → Clo t (dpf dp) → (∀ w f, dpf dp w = some f → f = sh.getD w 0) → DiceC c → R (.tup (dp.map encO)) (updM M a c)
theorem any_dints (x : Int) (l : List Int) : ((dints l).any fun z => D.eqv z (.int x)) = decide (x ∈ l) := by
  induction l with
  | nil => simp [dints]
  | cons y l ih =>
    show (D.eqv (.int y) (.int x) || (dints l).any fun z => D.eqv z (.int x)) = _
    rw [ih]
    have e : D.eqv (.int y) (.int x) = decide (y = x) := by
      have := eqv_ints [y] [x]
      have h : (D.eqv (.int y) (.int x) && true) = decide ([y] = [x]) := this
      rw [Bool.and_true] at h
      rw [h]
      by_cases h2 : y = x
      · subst h2; rw [decide_eq_true rfl, decide_eq_true rfl]
      · rw [decide_eq_false h2, decide_eq_false (fun z => h2 (by injection z))]
    rw [e]
    by_cases h : y = x
    · simp [h]
    · by_cases h2 : x ∈ l
      · simp [h2]
      · have h3 : ¬ x = y := fun e => h e.symm
        simp [h, h2, h3]
abbrev W_L_closed : Prop := ∀ ds M R RX, spDispC ds M R RX → wSS (Γ_L_closed) RX R ir_L_closed (env0V 9 ds) M (kEnd R) kNo kNo
theorem w_L_closed : W_L_closed := by
  rintro ds M R RX ⟨a, t, sh, rfl, ⟨c0, hM0, hc0⟩, ht, hsh, k⟩
  have hMM : M = updM M a c0 := (updM_self hM0).symm
  have hl := @dints_len sh
  have hsl := hsh.len
  have n8 := ht.n1
  refine ⟨⟨by rw [hl]; omega, by rw [hl]; omega⟩, fun i env' M' => ∃ ks : List Int, (∃ o4 o5 o6 o7 o8 : Option D, env' = [some (.ref a), some (enc t), some (.tup (dints sh)), some (.lst (dints ks)), o4, o5, o6, o7, o8]) ∧ (∃ c, DiceC c ∧ M' = updM M a c) ∧ ks.length ≤ i ∧ (∀ x ∈ ks, 0 ≤ x ∧ x < i) ∧ (∀ q ∈ t.ps, (q.b : Int) ∈ ks → (q.a : Int) ∈ ks), ⟨[], ⟨_, _, _, _, _, rfl⟩, ⟨c0, hc0, hMM⟩, Nat.le_refl _, (fun _ z => by cases z), (fun _ _ z => by cases z)⟩, ?_, ?_⟩
  · rintro i hi env' M' ⟨ks, ⟨o4, o5, o6, o7, o8, rfl⟩, ⟨c1, hc1, hM'⟩, hkl, hkr, hkc⟩
    rw [rngD_len] at hi
    rw [rngD_get, show (0 : Int) + ((i : Nat) : Int) * 1 = ((i : Nat) : Int) by omega]
    refine ⟨by rw [List.length_map]; have := ht.m; omega, fun j acc M2 => M2 = M' ∧ ∃ us : List Int, acc = dints us ∧ us.length ≤ j ∧ (∀ q ∈ t.ps.take j, q.b = i → (q.a : Int) ∈ us), ⟨rfl, [], rfl, Nat.le_refl _, (fun q z => by cases z)⟩, ?_, ?_⟩
    · rintro j hj acc M2 ⟨rfl, us, rfl, hul, hall⟩ hac
      have hj' : j < t.ps.length := by rw [List.length_map] at hj; exact hj
      have e : (t.ps.map encPin)[j] = encPin t.ps[j] := List.getElem_map ..
      rw [e]
      generalize hq : t.ps[j] = q
      have htk : ∀ x ∈ t.ps.take (j + 1), x ∈ t.ps.take j ∨ x = q := fun x hx => by
        rw [List.take_succ_eq_append_getElem hj', hq] at hx
        rcases List.mem_append.mp hx with h | h
        · exact Or.inl h
        · exact Or.inr (List.mem_singleton.mp h)
      refine wIf_d (fun h => ?_) (fun h => ?_)
      · refine ⟨rfl, us ++ [(q.a : Int)], dints_snoc .., by rw [List.length_append]; exact Nat.succ_le_succ hul, fun x hx hb => ?_⟩
        rcases htk x hx with h | rfl
        · exact List.mem_append_left _ (hall x h hb)
        · exact List.mem_append_right _ List.mem_cons_self
      · refine ⟨rfl, us, rfl, by omega, fun x hx hb => ?_⟩
        rcases htk x hx with h2 | rfl
        · exact hall x h2 hb
        · exact absurd (show ((x.b : Nat) : Int) = ((i : Nat) : Int) by rw [hb]) h
    rintro acc M2 ⟨rfl, us, rfl, hul, hall⟩ _
    rw [List.length_map] at hul hall
    rw [List.take_length] at hall
    refine ⟨by rw [dints_len]; have := ht.m; omega, fun j acc M3 => M3 = M2 ∧ ∃ vs : List Int, acc = dints vs ∧ (vs = [] → ∀ x ∈ us.take j, x ∈ ks), ⟨rfl, [], rfl, fun _ x z => by cases z⟩, ?_, ?_⟩
    · rintro j hj acc M3 ⟨rfl, vs, rfl, hvs⟩ _
      have hj' : j < us.length := by rw [dints_len] at hj; exact hj
      rw [dints_el hj hj']
      refine ⟨rfl, plains_dints _ 50, ?_⟩
      rw [if_pos rfl, any_dints]
      refine wIf_i (fun h => ?_) (fun h => ?_)
      · refine ⟨rfl, vs ++ [us.getD j 0], dints_snoc .., fun z => ?_⟩
        have := congrArg List.length z
        rw [List.length_append] at this
        have : vs.length + 1 = 0 := this
        omega
      · refine ⟨rfl, vs, rfl, fun z x hx => ?_⟩
        rw [take_sn hj'] at hx
        rcases List.mem_append.mp hx with h1 | h1
        · exact hvs z x h1
        · rw [List.mem_singleton.mp h1]
          rw [Bool.not_eq_false', decide_eq_true_eq] at h
          exact h
    rintro acc M3 ⟨rfl, vs, rfl, hvs⟩ _
    rw [dints_len, List.take_length] at hvs
    have hplv : (D.lst (dints vs)).plain 60 = true := plains_dints _ 59
    refine ⟨hplv, rfl, ?_⟩
    have nil_iff : (if false = true then !D.eqv (.lst (dints vs)) (.lst []) else D.eqv (.lst (dints vs)) (.lst [])) = decide (vs = []) := by
      rw [if_neg Bool.false_ne_true]; exact eqv_intsL vs []
    rw [nil_iff]
    have inv2 : vs = [] → (ks ++ [(i : Int)]).length ≤ i + 1 ∧ (∀ x ∈ ks ++ [(i : Int)], 0 ≤ x ∧ x < ((i + 1 : Nat) : Int)) ∧ (∀ q ∈ t.ps, (q.b : Int) ∈ ks ++ [(i : Int)] → (q.a : Int) ∈ ks ++ [(i : Int)]) := fun hv => by
      refine ⟨by rw [List.length_append]; exact Nat.succ_le_succ hkl, fun x hx => ?_, fun q hq hb => ?_⟩
      · rcases List.mem_append.mp hx with h | h
        · exact ⟨(hkr x h).1, by have := (hkr x h).2; omega⟩
        · rw [List.mem_singleton.mp h]; omega
      · rcases List.mem_append.mp hb with h | h
        · exact List.mem_append_left _ (hkc q hq h)
        · have hb : q.b = i := by have := List.mem_singleton.mp h; omega
          exact List.mem_append_left _ (hvs hv _ (hall q hq hb))
    have inv1 : ks.length ≤ i + 1 ∧ (∀ x ∈ ks, 0 ≤ x ∧ x < ((i + 1 : Nat) : Int)) := ⟨by omega, fun x hx => ⟨(hkr x hx).1, by have := (hkr x hx).2; omega⟩⟩
    have e0 : dints ks ++ (List.replicate (0 : Int).toNat [D.int (i : Int)]).flatten = dints ks := List.append_nil _
    have e1 : dints ks ++ (List.replicate (1 : Int).toNat [D.int (i : Int)]).flatten = dints (ks ++ [(i : Int)]) := dints_snoc ..
    refine wIf_d (fun hv => ?_) (fun hv => ?_)
    · refine ⟨a, _, rfl, ⟨c1, by rw [hM']; exact updM_same, hc1⟩, by decide, by decide, fun x c x0 x1 hc => ?_⟩
      have hM : ∃ c, DiceC c ∧ updM M3 a c1 = updM M a c := ⟨c1, hc1, by rw [hM', updM_updM]⟩
      have hM : ∃ c', DiceC c' ∧ updM M3 a c = updM M a c' := ⟨c, hc, by rw [hM', updM_updM]⟩
      generalize updM M3 a c = M4 at hM ⊢
      by_cases hx : 0 < x
      · have hb : (if decide (0 < x) = true then (1 : Int) else 0) = 1 := if_pos (decide_eq_true hx)
        refine ⟨by rw [hb]; decide, by rw [hb]; decide, by rw [hb]; show 1 * 1 ≤ 100000; decide, ?_⟩
        rw [hb]
        refine ⟨by rw [dints_len]; show ks.length + 1 ≤ _; omega, ?_⟩
        rw [e1]
        obtain ⟨h1, h2, h3⟩ := inv2 hv
        exact ⟨_, ⟨_, _, _, _, _, rfl⟩, hM, h1, h2, h3⟩
      · have hb : (if decide (0 < x) = true then (1 : Int) else 0) = 0 := if_neg (fun z => hx (of_decide_eq_true z))
        refine ⟨by rw [hb]; decide, by rw [hb]; decide, by rw [hb]; show 1 * 0 ≤ 100000; decide, ?_⟩
        rw [hb]
        refine ⟨by rw [dints_len]; show ks.length + 0 ≤ _; omega, ?_⟩
        rw [e0]
        exact ⟨_, ⟨_, _, _, _, _, rfl⟩, hM, inv1.1, inv1.2, hkc⟩
    · refine ⟨by decide, by decide, (by decide : 1 * (0 : Int).toNat ≤ 100000), ?_⟩
      refine ⟨by rw [dints_len]; show ks.length + 0 ≤ _; omega, ?_⟩
      show ∃ ks2 : List Int, (∃ _, _) ∧ _
      exact ⟨ks, by rw [if_neg Bool.false_ne_true, e0]; exact ⟨_, _, _, _, _, rfl⟩, ⟨c1, hc1, hM'⟩, inv1.1, inv1.2, hkc⟩
  rintro env' M' ⟨ks, ⟨o4, o5, o6, o7, o8, rfl⟩, ⟨c1, hc1, hM'⟩, hkl, hkr, hkc⟩
  rw [rngD_len, hl, Int.toNat_natCast] at hkl hkr
  have hdpf : ∀ w, dpf ((List.range sh.length).map fun (w : Nat) => if (w : Int) ∈ ks then some (sh.getD w 0) else none) w = if w < sh.length then (if (w : Int) ∈ ks then some (sh.getD w 0) else none) else none := fun w => by
    unfold dpf
    rw [List.getD_eq_getElem?_getD, List.getElem?_map]
    by_cases h : w < sh.length
    · rw [List.getElem?_range h, if_pos h]; rfl
    · rw [if_neg h, List.getElem?_eq_none (by rw [List.length_range]; omega)]; rfl
  refine ⟨⟨by rw [hl]; omega, by rw [hl]; omega⟩, by rw [rngD_len, hl]; omega, fun i acc M2 => M2 = M' ∧ acc = ((List.range i).map fun (w : Nat) => if (w : Int) ∈ ks then some (sh.getD w 0) else none).map encO, ⟨rfl, rfl⟩, ?_, ?_⟩
  · rintro i hi acc M2 ⟨rfl, rfl⟩ _
    rw [rngD_len, hl, Int.toNat_natCast] at hi
    rw [rngD_get, show (0 : Int) + ((i : Nat) : Int) * 1 = ((i : Nat) : Int) by omega]
    refine ⟨fun d M3 => d = encO (if (i : Int) ∈ ks then some (sh.getD i 0) else none) ∧ M3 = M2, ⟨rfl, plains_dints _ 50, ?_⟩, ?_⟩
    · rw [if_neg Bool.false_ne_true, any_dints]
      refine wIf_d (fun h => ?_) (fun h => ?_)
      · refine wSome_i (dints_at hi) ⟨?_, rfl⟩
        rw [if_pos h]; rfl
      · refine ⟨?_, rfl⟩
        rw [if_neg h]; rfl
    rintro d M3 ⟨rfl, rfl⟩
    refine ⟨rfl, ?_⟩
    rw [List.range_succ, List.map_append, List.map_append]; rfl
  rintro acc M2 ⟨rfl, rfl⟩ _
  rw [rngD_len, hl, Int.toNat_natCast]
  rw [hM']
  refine k _ _ ⟨?_, fun w f hf => ?_⟩ (fun q hq hs => ?_) (fun w f hf => ?_) hc1
  · rw [List.length_map, List.length_range, hsl]
  · rw [hdpf] at hf
    split at hf
    · rename_i hw
      split at hf
      · cases hf; exact hsh.r w (by omega)
      · cases hf
    · cases hf
  · have hab := (ht.p q hq).ab
    rw [hdpf] at hs ⊢
    split at hs
    · rename_i hw
      rw [if_pos (by omega)]
      split at hs
      · rename_i hm
        rw [if_pos (hkc q hq hm)]; rfl
      · cases hs
    · cases hs
  · rw [hdpf] at hf
    split at hf
    · split at hf
      · cases hf; rfl
      · cases hf
    · cases hf
theorem ok_L_closed (F : Fun K "_law_closed" "_law_closed" st_L_closed f fd) (D1 : Def P w K mg base "_law_next" 1 spNext) (b_range : mg "range" = none) (b_len : mg "len" = none) (b_int : mg "int" = none) (b_tuple : mg "tuple" = none) : FnOk P w K mg base (L2.CX P w) 2 f fd ["_law_d", "_law_train_here", "_law_faces"] (lift K spDispC) :=
  wp_ok F sc_L_closed (Gn := G_L_closed) (Γ := Γ_L_closed) ⟨⟨b_range, b_len, b_int, b_tuple, trivial⟩, trivial, ⟨⟨_, by decide, D1⟩, trivial⟩, trivial, trivial, fun _ _ z => z.elim, trivial, trivial, trivial⟩ c_L_closed (fun ds M R RX h => by unfold spDispC at h; repeat (first | (obtain ⟨e, _⟩ := h; (rw [e]; done)) | (obtain ⟨e, _⟩ := h; (rw [e]; rfl)) | (rw [h]; rfl) | (obtain ⟨_, h⟩ := h))) (w_L_closed)
theorem isInt_of (d : D) (lo hi : Int) {P : Bool → Prop} (hd : d.tyn.isSome = true) (h1 : ∀ v, d = .int v → P (decide (lo ≤ v ∧ v ≤ hi))) (h2 : (∀ v, d ≠ .int v) → P false) : P (isInt d lo hi) := by
  cases d <;> first | exact h1 _ rfl | exact h2 (fun v z => by cases z)
theorem ok_isint (F : Fun K "is_integer" "is_integer" st_is_integer f fd) (mi : mg "int" = none) (mb : mg "bool" = none) (ms : mg "isinstance" = none) : FnOk P w K mg base (L2.CX P w) 1 f fd ["value", "low", "high"] (lift K spIsInt) := by
  refine fn_ok F sc_is_integer (by rintro ds M R RX ⟨a, b, c, rfl, _⟩; rfl) (fun cdv A outer s H Ex ds M R RX hr h => ?_)
  obtain ⟨d, lo, hi, rfl, ht, k⟩ := h
  dsimp only [env0]
  cases d with
  | int v =>
    walk_at "w"
    refine ⟨_, _, rfl, rfl, ?_⟩
    walk_at "w"
    refine br_t rfl ?_
    walk_at "w"
    refine ⟨_, _, rfl, rfl, ?_⟩
    walk_at "w"
    refine br_t rfl ?_
    walk_at "w"
    refine ⟨fun h1 => ?_, fun h1 => ?_⟩
    · walk_at "w"
      have e : isInt (.int v) lo hi = decide (v ≤ hi) := decide_eq_decide.mpr ⟨fun z => z.2, fun z => ⟨of_decide_eq_true h1, z⟩⟩
      rw [← e]; exact k
    · have e : isInt (.int v) lo hi = false := decide_eq_false fun z => of_decide_eq_false h1 z.1
      rw [← e]; exact k
  | bl v =>
    walk_at "w"
    refine ⟨_, _, rfl, rfl, ?_⟩
    walk_at "w"
    refine br_t rfl ?_
    walk_at "w"
    refine ⟨_, _, rfl, rfl, ?_⟩
    walk_at "w"
    exact br_f rfl k
  | non => walk_at "w"; refine ⟨_, _, rfl, rfl, ?_⟩; walk_at "w"; exact br_f rfl k
  | str v => walk_at "w"; refine ⟨_, _, rfl, rfl, ?_⟩; walk_at "w"; exact br_f rfl k
  | tup v => walk_at "w"; refine ⟨_, _, rfl, rfl, ?_⟩; walk_at "w"; exact br_f rfl k
  | lst v => walk_at "w"; refine ⟨_, _, rfl, rfl, ?_⟩; walk_at "w"; exact br_f rfl k
  | _ => cases ht
theorem ok_ispin (F : Fun K "is_pin" "is_pin" st_is_pin f fd) (D1 : Def P w K mg base "is_integer" 1 spIsInt) (ml : mg "len" = none) (mt : mg "tuple" = none) (ms : mg "isinstance" = none) (g1 : ∃ u, mg "MAX_STEPS" = some u ∧ RelV (.int 9) u) : FnOk P w K mg base (L2.CX P w) 2 f fd ["faces", "pin"] (lift K spIsPin) := by
  refine fn_ok F sc_is_pin (by rintro ds M R RX ⟨a, b, rfl, _⟩; rfl) (fun cdv A outer s H Ex ds M R RX hr h => ?_)
  obtain ⟨cs, ⟨pa, pf, pb, ps⟩, rfl, hp, k⟩ := h
  have hab : pa < pb := hp.ab
  have hbn : pb < cs.length := hp.bn
  have hf0 : 0 ≤ pf := hp.f0
  have hf1 : pf < cs.getD pa 0 := hp.f1
  have hs0 : -9 ≤ ps := hp.s0
  have hs1 : ps ≤ 9 := hp.s1
  have hsn : ps ≠ 0 := hp.sn
  have hl := @dints_len cs
  dsimp only [env0, encPin]
  walk_at "w"
  refine ⟨_, _, rfl, rfl, ?_⟩
  walk_at "w"
  refine rb_f rfl ?_
  refine w_or1 (t_neI ?_)
  walk_at "w"
  refine x_len (.tup _) ?_
  walk_at "w"
  refine br_f rfl ?_
  walk_at "w"
  refine x_len (.tup _) ?_
  walk_at "w"
  refine ⟨_, _, _, rfl, rfl, ?_⟩
  refine x_b (rb_f ?_ ?_)
  · rw [Bool.not_eq_false']; exact decide_eq_true ⟨by omega, by omega⟩
  walk_at "w"
  refine x_len (.tup _) ?_
  walk_at "w"
  refine ⟨_, _, _, rfl, rfl, ?_⟩
  refine x_b (br_f ?_ ?_)
  · rw [Bool.not_eq_false']; exact decide_eq_true ⟨by omega, by omega⟩
  walk_at "w"
  refine x_ixT (dints_at (by omega)) ?_
  walk_at "w"
  refine ⟨_, _, _, rfl, rfl, x_b (br_t (decide_eq_true ⟨hf0, by omega⟩) ?_)⟩
  walk_at "w"
  refine ⟨_, _, _, rfl, rfl, x_b (br_t (decide_eq_true ⟨hs0, hs1⟩) ?_)⟩
  refine e_one (e_neI ?_)
  walk_at "w"
  rw [decide_eq_true hsn]
  exact k
theorem ok_ctrain (F : Fun K "check_train" "check_train" st_check_train f fd) (D1 : Def P w K mg base "is_integer" 1 spIsInt) (D2 : Def P w K mg base "is_pin" 2 spIsPin) (ml : mg "len" = none) (mt : mg "tuple" = none) (ms : mg "isinstance" = none) (me : mg "enumerate" = none)
    (g1 : ∃ u, mg "MAX_WHEELS" = some u ∧ RelV (.int 8) u) (g2 : ∃ u, mg "MIN_FACES" = some u ∧ RelV (.int 2) u) (g3 : ∃ u, mg "MAX_FACES" = some u ∧ RelV (.int 40) u) (g4 : ∃ u, mg "MAX_PINS" = some u ∧ RelV (.int 24) u) : FnOk P w K mg base (L2.CX P w) 3 f fd ["train"] (lift K spTrain) := by
  refine fn_ok F sc_check_train (by rintro ds M R RX ⟨a, rfl, _⟩; rfl) (fun cdv A outer s H Ex ds M R RX hr h => ?_)
  obtain ⟨⟨cs, ps⟩, rfl, ht, k⟩ := h
  have n0 : 1 ≤ cs.length := ht.n0
  have n1 : cs.length ≤ 8 := ht.n1
  have nm : ps.length ≤ 24 := ht.m
  dsimp only [env0, enc]
  walk_at "w"
  refine ⟨_, _, rfl, rfl, ?_⟩
  walk_at "w"
  refine rb_f rfl ?_
  refine w_or1 (t_neI ?_)
  walk_at "w"
  refine x_len (.tup _) ?_
  walk_at "w"
  refine br_f rfl ?_
  walk_at "w"
  refine ⟨_, _, rfl, rfl, ?_⟩
  walk_at "w"
  refine br_f rfl ?_
  walk_at "w"
  refine s_for (i_enum (by assumption) ?_)
  walk_at "w"
  refine ⟨_, .tup _, (fun _ z => by cases z), fun i env' M' => (∃ o1 o2, env' = [nv "train" (.tup [.tup (dints cs), .tup (ps.map encPin)]), nv "faces" (.tup (dints cs)), nv "pins" (.tup (ps.map encPin)), ("index", o1), ("count", o2), nn "pin"]) ∧ M = M', ⟨⟨_, _, rfl⟩, rfl⟩, ?_, ?_⟩
  · rintro i hi env' M' ⟨⟨o1, o2, rfl⟩, rfl⟩
    have hi' : i < cs.length := by rw [enumD_len, dints_len] at hi; exact hi
    rw [enumD_get (dints_get hi') hi]
    have hc := ht.cget hi'
    walk_at "w"
    refine t_eqI ?_
    walk_at "w"
    refine rb_f (decide_eq_false (by omega)) ?_
    walk_at "w"
    refine ⟨_, _, _, rfl, rfl, x_b (br_f ?_ ?_)⟩
    · rw [Bool.not_eq_false']; exact decide_eq_true hc
    walk_at "w"
    exact ⟨⟨_, _, rfl⟩, rfl⟩
  rintro env' M' ⟨⟨o1, o2, rfl⟩, rfl⟩
  walk_at "w"
  refine t_eq (hu64 hr) ?_
  walk_at "w"
  refine ⟨plain_ints _, rfl, br_f ?_ ?_⟩
  · cases cs with
    | nil => exact absurd n0 (by simp)
    | cons c cs => rfl
  walk_at "w"
  refine ⟨_, _, rfl, rfl, ?_⟩
  walk_at "w"
  refine br_f rfl ?_
  walk_at "w"
  refine s_for (i_enum (by assumption) ?_)
  walk_at "w"
  refine ⟨_, .tup _, (fun _ z => by cases z), fun i env' M' => (∃ o1 o2 o3, env' = [nv "train" (.tup [.tup (dints cs), .tup (ps.map encPin)]), nv "faces" (.tup (dints cs)), nv "pins" (.tup (ps.map encPin)), ("index", o1), ("count", o2), ("pin", o3)]) ∧ M = M', ⟨⟨_, _, _, rfl⟩, rfl⟩, ?_, ?_⟩
  · rintro i hi env' M' ⟨⟨o1, o2, o3, rfl⟩, rfl⟩
    have hi' : i < ps.length := by rw [enumD_len, List.length_map] at hi; exact hi
    rw [enumD_get (encs_get (List.getElem?_eq_getElem hi')) hi]
    walk_at "w"
    refine t_eqI ?_
    walk_at "w"
    refine rb_f (decide_eq_false (by omega)) ?_
    walk_at "w"
    refine ⟨_, _, rfl, ht.p _ (List.getElem_mem hi'), x_b (br_f rfl ?_)⟩
    walk_at "w"
    exact ⟨⟨_, _, _, rfl⟩, rfl⟩
  rintro env' M' ⟨⟨o1, o2, o3, rfl⟩, rfl⟩
  walk_at "w"
  exact k
theorem ok_cdisp (F : Fun K "check_display" "check_display" st_check_display f fd) (D1 : Def P w K mg base "is_integer" 1 spIsInt) (ml : mg "len" = none) (mt : mg "tuple" = none) (ms : mg "isinstance" = none) (me : mg "enumerate" = none) : FnOk P w K mg base (L2.CX P w) 2 f fd ["train", "display"] (lift K spDisp) := by
  refine fn_ok F sc_check_display (by rintro ds M R RX ⟨a, b, rfl, _⟩; rfl) (fun cdv A outer s H Ex ds M R RX hr h => ?_)
  obtain ⟨⟨cs, ps⟩, dp, rfl, hn, hd, k⟩ := h
  have hn : dp.length = cs.length := hn
  have hd : ∀ (i : Nat) f, dp[i]? = some (some f) → 0 ≤ f ∧ f < cs.getD i 0 := hd
  dsimp only [env0, enc]
  walk_at "w"
  refine x_ixT rfl ?_
  walk_at "w"
  refine ⟨_, _, rfl, rfl, ?_⟩
  walk_at "w"
  refine br_f rfl ?_
  walk_at "w"
  refine s_for (i_enum (by assumption) ?_)
  walk_at "w"
  refine ⟨_, .tup _, (fun _ z => by cases z), fun i env' M' => (∃ o1 o2, env' = [nv "train" (.tup [.tup (dints cs), .tup (ps.map encPin)]), nv "display" (.tup (dp.map encO)), nv "counts" (.tup (dints cs)), ("index", o1), ("face", o2)]) ∧ M = M', ⟨⟨_, _, rfl⟩, rfl⟩, ?_, ?_⟩
  · rintro i hi env' M' ⟨⟨o1, o2, rfl⟩, rfl⟩
    have hi' : i < dp.length := by rw [enumD_len, List.length_map] at hi; exact hi
    have hg := List.getElem?_eq_getElem hi'
    rw [enumD_get (encs_get hg) hi]
    have hl := @dints_len cs
    generalize dp[i] = o at hg
    cases o with
    | none =>
      walk_at "w"
      refine t_eqI ?_
      walk_at "w"
      refine x_len (.tup _) ?_
      walk_at "w"
      refine rb_f (decide_eq_false (by omega)) ?_
      walk_at "w"
      refine rb_t rfl (br_f rfl ?_)
      walk_at "w"
      exact ⟨⟨_, _, rfl⟩, rfl⟩
    | some f =>
      have hf := hd i f hg
      walk_at "w"
      refine t_eqI ?_
      walk_at "w"
      refine x_len (.tup _) ?_
      walk_at "w"
      refine rb_f (decide_eq_false (by omega)) ?_
      walk_at "w"
      refine rb_f rfl ?_
      walk_at "w"
      refine x_ixT (dints_at (by omega)) ?_
      walk_at "w"
      refine ⟨_, _, _, rfl, rfl, x_b (br_f ?_ ?_)⟩
      · rw [Bool.not_eq_false']; exact decide_eq_true ⟨by omega, by omega⟩
      walk_at "w"
      exact ⟨⟨_, _, rfl⟩, rfl⟩
  rintro env' M' ⟨⟨o1, o2, rfl⟩, rfl⟩
  have hl := @dints_len cs
  have hl2 : (dp.map encO).length = dp.length := List.length_map _
  walk_at "w"
  refine x_len (.tup _) ?_
  walk_at "w"
  refine x_len (.tup _) ?_
  walk_at "w"
  refine br_f (decide_eq_false (by omega)) ?_
  walk_at "w"
  exact k
theorem ok_cfaces (F : Fun K "check_faces" "check_faces" st_check_faces f fd) (D1 : Def P w K mg base "check_display" 2 spDisp) : FnOk P w K mg base (L2.CX P w) 3 f fd ["train", "display"] (lift K spFaces) := by
  refine fn_ok F sc_check_faces (by rintro ds M R RX ⟨a, b, rfl, _⟩; rfl) (fun cdv A outer s H Ex ds M R RX hr h => ?_)
  obtain ⟨t, st, rfl, hst, k⟩ := h
  dsimp only [env0]
  walk_at "w"
  refine ⟨t, st.map some, by rw [dints_encO], by rw [List.length_map]; exact hst.len, fun i f hf => ?_, ?_⟩
  · rw [List.getElem?_map] at hf
    cases hg : st[i]? with
    | none => rw [hg] at hf; cases hf
    | some x =>
      rw [hg] at hf; cases hf
      have := hst.r i (by rw [← hst.len]; exact (List.getElem?_eq_some_iff.mp hg).1)
      rw [List.getD_eq_getElem?_getD, hg] at this
      exact this
  walk_at "w"
  refine t_in ?_
  walk_at "w"
  refine ⟨_, .inl rfl, rfl, by rw [dints_encO]; exact flat_encO _, x_b (br_f (inD_dints _) ?_)⟩
  walk_at "w"
  exact k
theorem ok_cmom (F : Fun K "check_moment" "check_moment" st_check_moment f fd) (D1 : Def P w K mg base "is_integer" 1 spIsInt) (g1 : ∃ u, mg "MAX_MOMENT" = some u ∧ RelV (.int 1000000000000000000) u) : FnOk P w K mg base (L2.CX P w) 2 f fd ["moment"] (lift K spMoment) := by
  refine fn_ok F sc_check_moment (by rintro ds M R RX ⟨a, rfl, _⟩; rfl) (fun cdv A outer s H Ex ds M R RX hr h => ?_)
  obtain ⟨m, rfl, h0, h1, k⟩ := h
  dsimp only [env0]
  walk_at "w"
  refine ⟨_, _, _, rfl, rfl, x_b (br_f ?_ ?_)⟩
  · rw [Bool.not_eq_false']; exact decide_eq_true ⟨h0, h1⟩
  walk_at "w"
  exact k
theorem ok_call (F : Fun K "check_all" "check_all" st_check_all f fd) (D1 : Def P w K mg base "check_train" 3 spTrain) (D2 : Def P w K mg base "check_faces" 3 spFaces) (D3 : Def P w K mg base "check_moment" 2 spMoment) : FnOk P w K mg base (L2.CX P w) 4 f fd ["train", "start", "moment"] (lift K spAll) := by
  refine fn_ok F sc_check_all (by rintro ds M R RX ⟨a, b, c, rfl, _⟩; rfl) (fun cdv A outer s H Ex ds M R RX hr h => ?_)
  obtain ⟨t, st, m, rfl, ht, hst, m0, m1, k⟩ := h
  dsimp only [env0]
  walk_at "w"
  refine ⟨t, rfl, ht, ?_⟩
  walk_at "w"
  refine ⟨t, st, rfl, hst, ?_⟩
  walk_at "w"
  refine ⟨m, rfl, m0, m1, ?_⟩
  walk_at "w"
  exact k
theorem ok_pas (F : Fun K "passes" "passes" st_passes f fd) : FnOk P w K mg base (L2.CX P w) 1 f fd ["count", "start", "face", "steps"] (lift K spPasses) := by
  refine fn_ok F sc_passes (by rintro ds M R RX ⟨a, b, c, d, rfl, _⟩; rfl) (fun cdv A outer s H Ex ds M R RX hr h => ?_)
  obtain ⟨c, st, fc, n, rfl, h0, h1, k⟩ := h
  dsimp only [env0]
  have hd : ∀ i, CDiv i c ∨ CDivW i c := fun i => divS ⟨h0, by omega⟩
  walk_at "w"
  refine ⟨hd _, ?_⟩
  walk_at "w"
  refine ⟨hd _, ?_⟩
  walk_at "w"
  exact k
theorem ok_total (F : Fun K "total_steps" "total_steps" st_total_steps f fd) (D1 : Def P w K mg base "passes" 1 spPasses) (ml : mg "len" = none) (mr : mg "range" = none) : FnOk P w K mg base (L2.CX P w) 2 f fd ["train", "start", "moment"] (lift K spTotal) := by
  refine fn_ok F sc_total_steps (by rintro ds M R RX ⟨a, b, c, rfl, _⟩; rfl) (fun cdv A outer s H Ex ds M R RX hr h => ?_)
  obtain ⟨⟨cs, ps⟩, st, m, rfl, ht, hst, k⟩ := h
  have n1 : cs.length ≤ 8 := ht.n1
  have hl := @dints_len cs
  have hln : st.length = cs.length := hst.len
  dsimp only [env0, enc]
  walk_at "w"
  refine e_lstM (a_nil ⟨Nat.zero_le _, fun p hp => ?_⟩)
  walk_at "w"
  refine s_for (i_range1 (by assumption) ?_)
  walk_at "w"
  refine x_len (.tup _) ⟨_, rfl, ⟨by omega, by omega⟩, ?_⟩
  refine ⟨fun i env' M' => (∃ o1 o2 o3 o4 o5 o6, env' = [nv "train" (.tup [.tup (dints cs), .tup (ps.map encPin)]), nv "start" (.tup (dints st)), nv "moment" (.int m), nv "counts" (.tup (dints cs)), nv "pins" (.tup (ps.map encPin)), nv "totals" (.ref p), ("wheel", o1), ("total", o2), ("driver", o3), ("face", o4), ("driven", o5), ("steps", o6)]) ∧ M' = updM M p (.lst (dints (totL ⟨cs, ps⟩ st m i))), ⟨⟨_, _, _, _, _, _, rfl⟩, rfl⟩, ?_, ?_⟩
  · rintro i hi env' M' ⟨⟨o1, o2, o3, o4, o5, o6, rfl⟩, rfl⟩
    have hi' : i < cs.length := by rw [rngD_len] at hi; omega
    rw [rngD_get hi]
    have e0 : (0 : Int) + (i : Nat) * 1 = i := by omega
    rw [e0]
    walk_at "w"
    refine E.imp (Q := fun d M1 => d = .int (if i = 0 then m else 0) ∧ M1 = updM M p (.lst (dints (totL ⟨cs, ps⟩ st m i)))) ?_ ?_
    · refine e_if (t_eqI ?_)
      walk_at "w"
      refine ⟨fun h0 => ?_, fun h0 => ?_⟩
      · walk_at "w"
        have h0 := of_decide_eq_true h0
        exact ⟨by rw [if_pos (by omega)], rfl⟩
      · walk_at "w"
        have h0 := of_decide_eq_false h0
        exact ⟨by rw [if_neg (by omega)], rfl⟩
    rintro d M1 ⟨rfl, rfl⟩
    walk_at "w"
    refine s_for (i_tup ?_)
    walk_at "w"
    refine ⟨_, rfl, fun j env' M' => (∃ o3 o4 o5 o6, env' = [nv "train" (.tup [.tup (dints cs), .tup (ps.map encPin)]), nv "start" (.tup (dints st)), nv "moment" (.int m), nv "counts" (.tup (dints cs)), nv "pins" (.tup (ps.map encPin)), nv "totals" (.ref p), nv "wheel" (.int i), nv "total" (.int ((if i = 0 then m else 0) + psum i (fun q => q.s * pas (cs.getD q.a 0) (st.getD q.a 0) q.f ((totL ⟨cs, ps⟩ st m i).getD q.a 0)) (ps.take j))), ("driver", o3), ("face", o4), ("driven", o5), ("steps", o6)]) ∧ M' = updM M p (.lst (dints (totL ⟨cs, ps⟩ st m i))), ⟨⟨_, _, _, _, by simp only [List.take_zero, psum, Int.add_zero]; rfl⟩, rfl⟩, ?_, ?_⟩
    · rintro j hj env' M' ⟨⟨o3, o4, o5, o6, rfl⟩, rfl⟩
      have hj' : j < ps.length := by rw [List.length_map] at hj; exact hj
      have hp' := ht.p ps[j] (List.getElem_mem hj')
      rw [List.getElem_map]
      generalize hq : ps[j] = q at hp'
      have hsn := take_snoc hj'
      rw [hq] at hsn
      obtain ⟨pa, pf, pb, s'⟩ := q
      have hab : pa < pb := hp'.ab
      have hbn : pb < cs.length := hp'.bn
      have hs0 : -9 ≤ s' := hp'.s0
      have hs1 : s' ≤ 9 := hp'.s1
      dsimp only [encPin]
      rw [hsn]
      walk_at "w"
      refine t_eqI ?_
      walk_at "w"
      refine ⟨fun h0 => ?_, fun h0 => ?_⟩
      · have h0 : pb = i := by have := of_decide_eq_true h0; omega
        have hc : 2 ≤ cs.getD pa 0 ∧ cs.getD pa 0 ≤ 40 := ht.cget (show pa < cs.length by omega)
        have htl := totL_len ⟨cs, ps⟩ st m i
        refine ss_cons (s_augAdd (by walk_at "at") ?_)
        walk_at "w"
        refine x_ixT (dints_at (by omega)) ?_
        walk_at "w"
        refine x_ixT (dints_at (by omega)) ?_
        walk_at "w"
        refine x_ixM updM_same (dints_at (by omega)) ?_
        walk_at "w"
        refine ⟨_, _, _, _, rfl, by omega, by omega, ?_⟩
        walk_at "w"
        refine ⟨mulL ⟨by omega, by omega⟩, ?_⟩
        walk_at "w"
        rw [psum_snoc, if_pos h0, ← Int.add_assoc]
        exact ⟨⟨_, _, _, _, rfl⟩, rfl⟩
      · have h0 : ¬ pb = i := by have := of_decide_eq_false h0; omega
        walk_at "w"
        rw [psum_snoc, if_neg h0, Int.add_zero]
        exact ⟨⟨_, _, _, _, rfl⟩, rfl⟩
    rintro env' M' ⟨⟨o3, o4, o5, o6, rfl⟩, rfl⟩
    rw [List.length_map, List.take_length]
    refine ss_cons (s_expr (e_append ?_))
    walk_at "w"
    refine ⟨_, _, rfl, updM_same, ?_⟩
    walk_at "w"
    refine ⟨_, updM_same, ?_, ?_⟩
    · rw [dints_len, totL_len]; omega
    walk_at "w"
    refine ⟨⟨_, _, _, _, _, _, rfl⟩, ?_⟩
    rw [updM_updM]
    unfold dints
    rw [totL, List.map_append]
    rfl
  rintro env' M' ⟨⟨o1, o2, o3, o4, o5, o6, rfl⟩, rfl⟩
  walk_at "w"
  have e1 := k p hp
  rw [rngD_len, hl]
  exact e1
theorem ok_after (F : Fun K "faces_after" "faces_after" st_faces_after f fd) (D1 : Def P w K mg base "total_steps" 2 spTotal) (mi : mg "int" = none) (mz : mg "zip" = none) (mt : mg "tuple" = none) : FnOk P w K mg base (L2.CX P w) 3 f fd ["train", "start", "moment"] (lift K spAfter) := by
  refine fn_ok F sc_faces_after (by rintro ds M R RX ⟨a, b, c, rfl, _⟩; rfl) (fun cdv A outer s H Ex ds M R RX hr h => ?_)
  obtain ⟨t, st, m, rfl, ht, hst, k⟩ := h
  have hl1 := @dints_len st
  have hl2 := @dints_len (tot t st m)
  have hl3 := @dints_len t.cs
  have hl4 := tot_len t st m
  have hl5 := hst.len
  have n8 := ht.n1
  dsimp only [env0]
  walk_at "w"
  refine ⟨t, st, m, rfl, ht, hst, fun p hp => ?_⟩
  walk_at "w"
  refine e_tuple (by assumption) (e_lc (own := [("face", 4), ("total", 5), ("count", 6)]) (blkOk_by (N := N_faces_after) (sc := defScope st_faces_after) (by decide +kernel)) (show Drops _ ["face", "total", "count"] _ from .cons (.cons (.cons .nil (by walk_at "drop")) (by walk_at "drop")) (by walk_at "drop")) (i_zip3 (by assumption) ?_))
  refine a_cons (e_name (by walk_at "at") (a_cons (E.freeze (e_name (by walk_at "at") (.inr ⟨p, _, rfl, updM_same, ?_⟩)))))
  rw [delM_updM hp]
  walk_at "w"
  refine x_ixT rfl ?_
  walk_at "w"
  have hz := zip3_len (dints st) (dints (tot t st m)) (dints t.cs)
  refine ⟨_, _, _, _, _, _, rfl, .tup _, (fun _ z => by cases z), .lst _, (fun _ z => by cases z), .tup _, (fun _ z => by cases z), by omega, fun i acc M' => acc = dints ((List.range i).map (face t st m)) ∧ M = M', ⟨rfl, rfl⟩, ?_, ?_⟩
  · rintro i hi acc M' ⟨rfl, rfl⟩ _
    obtain ⟨x, y, z, e1, e2, e3, e4⟩ := zip3_get (dints st) (dints (tot t st m)) (dints t.cs) i hi
    have hi' : i < t.cs.length := by omega
    rw [dints_get (by omega)] at e1 e2 e3
    cases e1; cases e2; cases e3
    have hc := ht.cget hi'
    rw [e4]
    intro s2 H2 C2 cl2 fp2
    refine gw_tup ⟨_, rfl, rfl, gws_cons (gw_name (by walk_at "put") (gws_cons (gw_name (by walk_at "put") (gws_cons (gw_name (by walk_at "put") (gws_nil ?_) ⟨6, by decide, rfl⟩)) ⟨5, by decide, rfl⟩)) ⟨4, by decide, rfl⟩)⟩
    intro s3 H3 C3 cl3 fp3
    refine ts_nil ⟨fun _ => ?_, fun z => by cases z⟩
    intro s4 H4 C4 cl4 fp4
    walk_at "w"
    refine ⟨by omega, ?_⟩
    refine ⟨?_, rfl⟩
    rw [List.range_succ, List.map_append]
    unfold dints
    rw [List.map_append]
    rfl
  rintro acc M' ⟨rfl, rfl⟩ _
  refine .inl ⟨_, .inl rfl, ?_⟩
  rw [show (zip3 (dints st) (dints (tot t st m)) (dints t.cs)).length = t.cs.length by omega]
  exact k
theorem ok_facesat (F : Fun K "faces_at" "faces_at" st_faces_at f fd) (D1 : Def P w K mg base "check_all" 4 spAll) (D2 : Def P w K mg base "faces_after" 3 spAfter) : FnOk P w K mg base (L2.CX P w) 5 f fd ["train", "start", "moment"] (lift K spFacesAt) := by
  refine fn_ok F sc_faces_at (by rintro ds M R RX ⟨a, b, c, rfl, _⟩; rfl) (fun cdv A outer s H Ex ds M R RX hr h => ?_)
  obtain ⟨t, st, m, rfl, ht, hst, m0, m1, k⟩ := h
  dsimp only [env0]
  walk_at "w"
  refine ⟨t, st, m, rfl, ht, hst, m0, m1, ?_⟩
  walk_at "w"
  exact ⟨t, st, m, rfl, ht, hst, k⟩
theorem ok_drv (F : Fun K "drivers_of" "drivers_of" st_drivers_of f fd) (ms : mg "sorted" = none) : FnOk P w K mg base (L2.CX P w) 1 f fd ["train", "wheel"] (lift K spDrv) := by
  refine fn_ok F sc_drivers_of (by rintro ds M R RX ⟨a, b, rfl, _⟩; rfl) (fun cdv A outer s H Ex ds M R RX hr h => ?_)
  obtain ⟨t, wh, rfl, ht, k⟩ := h
  have hpl : (t.ps.map encPin).length = t.ps.length := List.length_map _
  have nm := ht.m
  dsimp only [env0]
  walk_at "w"
  refine e_sortDI (hm := by assumption) (h := e_dcM (own := [("pin", 2)]) (blkOk_by (N := N_drivers_of) (sc := defScope st_drivers_of) (by decide +kernel)) (show Drops _ ["pin"] _ from .cons .nil (by walk_at "drop")) (i_tup ?_))
  walk_at "w"
  refine x_ixT rfl ?_
  refine ⟨_, rfl, by omega, fun i acc M' => (∃ ks : List Int, acc = ks.map (fun k => ((Sum.inl k : Key), D.bl true)) ∧ ks.Nodup ∧ ks.length ≤ i ∧ ∀ y, y ∈ ks ↔ ∃ p ∈ t.ps.take i, p.b = wh ∧ (p.a : Int) = y) ∧ M = M', ⟨⟨[], rfl, List.nodup_nil, Nat.zero_le _, by simp⟩, rfl⟩, ?_, ?_⟩
  · rintro i hi acc M' ⟨⟨ks, rfl, hnd, hkl, hks⟩, rfl⟩ _
    have hi' : i < t.ps.length := by omega
    rw [List.getElem_map]
    have hsn := take_snoc hi'
    generalize t.ps[i] = q at hsn
    intro s2 H2 C2 cl2 fp2
    refine gw_name (by walk_at "put") ?_ ⟨2, by decide, rfl⟩
    intro s3 H3 C3 cl3 fp3
    obtain ⟨pa, pf, pb, ps⟩ := q
    dsimp only [encPin]
    refine ts_one (t_eqI ?_)
    walk_at "w"
    refine x_ixT rfl ?_
    walk_at "w"
    refine ⟨fun h1 => ?_, fun h1 => ?_⟩
    · have h1 := of_decide_eq_true h1
      intro s4 H4 C4 cl4 fp4
      walk_at "w"
      refine x_ixT rfl ⟨Sum.inl (pa : Int), rfl, ?_⟩
      intro s5 H5 C5 cl5 fp5
      walk_at "w"
      refine ⟨?_, rfl⟩
      rw [hsn]
      by_cases hm : (pa : Int) ∈ ks
      · refine ⟨ks, ?_, hnd, by omega, fun y => ?_⟩
        · unfold putD
          rw [if_pos]
          · rw [List.map_map]
            refine List.map_congr_left fun z hz => ?_
            show (if (Sum.inl z : Key) = Sum.inl (pa : Int) then _ else _) = _
            by_cases e : (Sum.inl z : Key) = Sum.inl (pa : Int)
            · rw [if_pos e]
            · rw [if_neg e]
          · rw [List.any_eq_true]
            exact ⟨_, List.mem_map.mpr ⟨_, hm, rfl⟩, decide_eq_true rfl⟩
        · rw [hks]
          constructor
          · rintro ⟨p, hp, e⟩; exact ⟨p, List.mem_append_left _ hp, e⟩
          · rintro ⟨p, hp, e1, e2⟩
            rcases List.mem_append.mp hp with h | h
            · exact ⟨p, h, e1, e2⟩
            · rw [List.mem_singleton.mp h] at e2
              rw [← e2]; exact (hks _).mp hm
      · refine ⟨ks ++ [(pa : Int)], ?_, ?_, by rw [List.length_append]; exact Nat.succ_le_succ hkl, fun y => ?_⟩
        · unfold putD
          rw [if_neg]
          · rw [List.map_append]; rfl
          · intro z
            rw [List.any_eq_true] at z
            obtain ⟨q, hq, e⟩ := z
            obtain ⟨z, hz, rfl⟩ := List.mem_map.mp hq
            have e := Sum.inl.inj (of_decide_eq_true e)
            exact hm (e ▸ hz)
        · rw [List.nodup_append]
          exact ⟨hnd, by simp, fun a ha b hb e => hm (by rw [← List.mem_singleton.mp hb, ← e]; exact ha)⟩
        · rw [List.mem_append, hks]
          constructor
          · rintro (⟨p, hp, e⟩ | h)
            · exact ⟨p, List.mem_append_left _ hp, e⟩
            · exact ⟨_, List.mem_append_right _ (List.mem_singleton.mpr rfl), by show pb = wh; omega, (List.mem_singleton.mp h).symm⟩
          · rintro ⟨p, hp, e1, e2⟩
            rcases List.mem_append.mp hp with h | h
            · exact .inl ⟨p, h, e1, e2⟩
            · rw [List.mem_singleton.mp h] at e2
              exact .inr (List.mem_singleton.mpr e2.symm)
    · have h1 := of_decide_eq_false h1
      refine ⟨⟨ks, rfl, hnd, by omega, fun y => ?_⟩, rfl⟩
      rw [hks, hsn]
      constructor
      · rintro ⟨p, hp, e⟩; exact ⟨p, List.mem_append_left _ hp, e⟩
      · rintro ⟨p, hp, e1, e2⟩
        rcases List.mem_append.mp hp with h | h
        · exact ⟨p, h, e1, e2⟩
        · rw [List.mem_singleton.mp h] at e1
          exact absurd (show pb = wh from e1) (by omega)
  rintro acc M' ⟨⟨ks, rfl, hnd, hkl, hks⟩, rfl⟩ _ q hq
  rw [hpl, List.take_length] at hks
  refine ⟨q, _, ks, rfl, updM_same, by rw [List.map_map]; rfl, by omega, fun ys hp hs => ?_⟩
  have hnd2 : ys.Nodup := hp.nodup_iff.mpr hnd
  refine k ys _ (fun y => by rw [hp.mem_iff]; exact hks y) ?_ (Ext.refl.new hq)
  have := List.Pairwise.and hs hnd2
  exact this.imp fun {a b} h => by have h1 := h.1; have h2 : a ≠ b := h.2; omega
theorem ok_closed (F : Fun K "check_closed" "check_closed" st_check_closed f fd) (D1 : Def P w K mg base "drivers_of" 1 spDrv) (me : mg "enumerate" = none) : FnOk P w K mg base (L2.CX P w) 2 f fd ["train", "display"] (lift K spClosed) := by
  refine fn_ok F sc_check_closed (by rintro ds M R RX ⟨a, b, rfl, _⟩; rfl) (fun cdv A outer s H Ex ds M R RX hr h => ?_)
  obtain ⟨t, dp, rfl, ht, hdp, hcl, k⟩ := h
  have hdl := hdp.1
  dsimp only [env0]
  refine ss_cons (s_for (i_enum (by assumption) ?_))
  walk_at "w"
  refine ⟨_, .tup _, (fun _ z => by cases z), fun i env' M' => (∃ o1 o2 o3, env' = [nv "train" (enc t), nv "display" (.tup (dp.map encO)), ("wheel", o1), ("face", o2), ("driver", o3)]) ∧ Ext M M', ⟨⟨_, _, _, rfl⟩, Ext.refl⟩, ?_, ?_⟩
  · rintro i hi env' M' ⟨⟨o1, o2, o3, rfl⟩, hx⟩
    have hi' : i < dp.length := by rw [enumD_len, List.length_map] at hi; exact hi
    have hg := List.getElem?_eq_getElem hi'
    rw [enumD_get (encs_get hg) hi]
    generalize dp[i] = o at hg
    have hdf : dpf dp i = o := by unfold dpf; rw [List.getD_eq_getElem?_getD, hg]; rfl
    cases o with
    | none =>
      dsimp only [encO]
      walk_at "w"
      refine br_f rfl ?_
      walk_at "w"
      exact ⟨⟨_, _, _, rfl⟩, hx⟩
    | some fc =>
      dsimp only [encO]
      walk_at "w"
      refine br_t rfl ?_
      refine ss_cons (s_for (i_list ?_))
      walk_at "w"
      refine ⟨t, i, rfl, ht, fun ys M2 hys hpw hx2 => ⟨_, .inl rfl, fun j env' M' => (∃ o3, env' = [nv "train" (enc t), nv "display" (.tup (dp.map encO)), nv "wheel" (.int i), nv "face" (.int fc), ("driver", o3)]) ∧ M2 = M', ⟨⟨_, rfl⟩, rfl⟩, ?_, ?_⟩⟩
      · rintro j hj env' M3 ⟨⟨o3, rfl⟩, rfl⟩
        have hj' : j < ys.length := by rw [dints_len] at hj; exact hj
        rw [dints_el hj hj']
        have hy := (hys (ys.getD j 0)).mp (List.mem_of_getElem? (getD_of hj'))
        generalize ys.getD j 0 = y at hy
        obtain ⟨p, hp, hb, rfl⟩ := hy
        have hsh := hcl p hp (by rw [hb, hdf]; rfl)
        have hab := (ht.p p hp).ab
        have hpa : p.a < dp.length := by omega
        have hga := List.getElem?_eq_getElem hpa
        have hdfa : dpf dp p.a = dp[p.a] := by unfold dpf; rw [List.getD_eq_getElem?_getD, hga]; rfl
        rw [hdfa] at hsh
        generalize dp[p.a] = o at hga hsh
        cases o with
        | none => cases hsh
        | some z =>
          walk_at "w"
          refine x_ixT (at_nat (encs_get hga)) ?_
          refine br_f rfl ?_
          walk_at "w"
          exact ⟨⟨_, rfl⟩, rfl⟩
      rintro env' M3 ⟨⟨o3, rfl⟩, rfl⟩
      walk_at "w"
      exact ⟨⟨_, _, _, rfl⟩, Ext.trans hx hx2⟩
  rintro env' M' ⟨⟨o1, o2, o3, rfl⟩, hx⟩
  walk_at "w"
  exact k _ hx
theorem ok_search (F : Fun K "check_search" "check_search" st_check_search f fd) (D1 : Def P w K mg base "check_train" 3 spTrain) (D2 : Def P w K mg base "check_faces" 3 spFaces) (D3 : Def P w K mg base "check_display" 2 spDisp) (D4 : Def P w K mg base "check_closed" 2 spClosed) : FnOk P w K mg base (L2.CX P w) 4 f fd ["train", "start", "display"] (lift K spSearch) := by
  refine fn_ok F sc_check_search (by rintro ds M R RX ⟨a, b, c, rfl, _⟩; rfl) (fun cdv A outer s H Ex ds M R RX hr h => ?_)
  obtain ⟨t, st, dp, rfl, ht, hst, hdp, hcl, k⟩ := h
  dsimp only [env0]
  walk_at "w"
  refine ⟨t, rfl, ht, ?_⟩
  walk_at "w"
  refine ⟨t, st, rfl, hst, ?_⟩
  walk_at "w"
  refine ⟨t, dp, rfl, hdp.1, fun i f hf => hdp.2 i f (by unfold dpf; rw [List.getD_eq_getElem?_getD, hf]; rfl), ?_⟩
  walk_at "w"
  refine ⟨t, dp, rfl, ht, hdp, hcl, fun M' hx => ?_⟩
  walk_at "w"
  exact k _ hx
theorem ok_pinit {C : Addr} (F : Fun K "__init__" "Progression.__init__" st_Progression_init f fd) (cl : Cls K C) (n1 : NoAttr K C "train") (n2 : NoAttr K C "start") (n3 : NoAttr K C "first") (n4 : NoAttr K C "period") (n5 : NoAttr K C "changes") : FnOk P w K mg base (L2.CX P w) 1 f fd ["self", "train", "start"] (lift K (spPInit C)) := by
  refine fn_ok F sc_Progression_init (by rintro ds M R RX ⟨a, b, c, rfl, _⟩; rfl) (fun cdv A outer s H Ex ds M R RX hr h => ?_)
  obtain ⟨a, t, st, rfl, hm, k⟩ := h
  dsimp only [env0]
  refine ss_cons (s_fld cl n1 ?_)
  walk_at "w"
  refine ⟨a, _, _, rfl, hm, Nat.le_of_ble_eq_true rfl, by walk_at "fput", ?_⟩
  refine ss_cons (s_fld cl n2 ?_)
  walk_at "w"
  refine ⟨a, _, _, rfl, updM_same, Nat.le_of_ble_eq_true rfl, by walk_at "fput", ?_⟩
  refine ss_cons (s_fld cl n3 ?_)
  walk_at "w"
  refine ⟨a, _, _, rfl, updM_same, Nat.le_of_ble_eq_true rfl, by walk_at "fput", ?_⟩
  refine ss_cons (s_fld cl n4 ?_)
  walk_at "w"
  refine ⟨a, _, _, rfl, updM_same, Nat.le_of_ble_eq_true rfl, by walk_at "fput", ?_⟩
  refine ss_cons (s_fld cl n5 (e_dnew fun q hq => ?_))
  have hqa : a ≠ q := fun z => by rw [z, updM_same] at hq; cases hq
  walk_at "w"
  refine ⟨a, _, _, rfl, by rw [updM_ne hqa]; exact updM_same, Nat.le_of_ble_eq_true rfl, by walk_at "fput", ?_⟩
  walk_at "w"
  refine k _ ?_ ⟨q, hqa.symm, updM_same, ?_⟩
  · exact ((ExtB.refl.upd.upd.upd.upd).new hq).upd
  · rw [updM_ne hqa.symm]; exact updM_same
theorem ok_gcd (F : Fun K "greatest_divisor" "greatest_divisor" st_greatest_divisor f fd) (mi : mg "int" = none) (ma : mg "abs" = none) : FnOk P w K mg base (L2.CX P w) 1 f fd ["one", "other"] (lift K spGcd) := by
  refine fn_ok F sc_greatest_divisor (by rintro ds M R RX ⟨a, b, rfl, _⟩; rfl) (fun cdv A outer s H Ex ds M R RX hr h => ?_)
  obtain ⟨a, b, rfl, hb, k⟩ := h
  refine ss_cons ?_
  refine s_while (J := fun m env' M' => ∃ x y : Int, env' = [nv "one" (.int x), nv "other" (.int y)] ∧ M' = M ∧ 0 ≤ y ∧ m = y.toNat ∧ Int.gcd x y = Int.gcd a b) b.toNat ⟨a, b, rfl, rfl, hb, rfl, rfl⟩ ?_
  rintro m env' M' ⟨x, y, rfl, rfl, hy, rfl, hg⟩
  refine t_neI ?_
  walk_at "w"
  refine ⟨fun h0 => ?_, fun h0 => ?_⟩
  · have h0 : y ≠ 0 := of_decide_eq_true h0
    have hp : 0 < y := by omega
    walk_at "w"
    refine ⟨hp, ?_⟩
    walk_at "w"
    have h1 := Int.emod_nonneg x (show y ≠ 0 from h0)
    have h2 := Int.emod_lt_of_pos x hp
    refine ⟨(x % y).toNat, by omega, y, x % y, rfl, rfl, h1, rfl, ?_⟩
    rw [← hg]; exact gcd_step x y
  · have h0 : y = 0 := by have := of_decide_eq_false h0; omega
    subst h0
    walk_at "w"
    rw [Int.gcd_zero_right] at hg
    rw [hg]
    exact k
theorem ok_pchg {C : Addr} (F : Fun K "change_of" "Progression.change_of" st_Progression_change_of f fd) (cl : Cls K C) (n1 : NoAttr K C "train") (n4 : NoAttr K C "period") (n5 : NoAttr K C "changes") : FnOk P w K mg base (L2.CX P w) 1 f fd ["self", "wheel"] (lift K (spChg C)) := by
  refine fn_ok F sc_Progression_change_of (by rintro ds M R RX ⟨a, b, c, d, e, g, rfl, _⟩; rfl) (fun cdv A outer s H Ex ds M R RX hr h => ?_)
  obtain ⟨a, ⟨cs, ps⟩, st, dp, i, g, rfl, hh, k⟩ := h
  obtain ⟨q, hqa, hm, hq⟩ := hh.m
  have ht := hh.ht
  have hi : i < cs.length := hh.hk
  have n8 : cs.length ≤ 8 := ht.n1
  have hl := @dints_len cs
  dsimp only [pgF, enc] at hm
  dsimp only [env0]
  walk_at "w"
  refine E.imp (Q := fun d M1 => d = .int (if i = 0 then g.per else 0) ∧ M = M1) ?_ ?_
  · refine e_if (t_eqI ?_)
    walk_at "w"
    refine ⟨fun h0 => ?_, fun h0 => ?_⟩
    · walk_at "w"
      have h0 := of_decide_eq_true h0
      exact ⟨by rw [if_pos (by omega)], rfl⟩
    · walk_at "w"
      have h0 := of_decide_eq_false h0
      exact ⟨by rw [if_neg (by omega)], rfl⟩
  rintro d M1 ⟨rfl, rfl⟩
  walk_at "w"
  refine s_for (i_tup ?_)
  walk_at "w"
  refine ⟨_, rfl, fun j env' M' => (∃ o3 o4 o5 o6, env' = [nv "self" (.ref a), nv "wheel" (.int i), nv "counts" (.tup (dints cs)), nv "pins" (.tup (ps.map encPin)), nv "change" (.int ((if i = 0 then g.per else 0) + psum i (fun p => p.s * (look g.ch p.a / cs.getD p.a 0)) (ps.take j))), ("driver", o3), ("face", o4), ("driven", o5), ("steps", o6)]) ∧ M = M', ⟨⟨_, _, _, _, by simp only [List.take_zero, psum, Int.add_zero]; rfl⟩, rfl⟩, ?_, ?_⟩
  · rintro j hj env' M' ⟨⟨o3, o4, o5, o6, rfl⟩, rfl⟩
    have hj' : j < ps.length := by rw [List.length_map] at hj; exact hj
    have hmem := List.getElem_mem hj'
    have hp' := ht.p ps[j] hmem
    have hdr := hh.dr ps[j] hmem
    rw [List.getElem_map]
    have hsn : ps.take (j + 1) = ps.take j ++ [ps[j]] := by rw [List.take_succ_eq_append_getElem hj']
    generalize hqq : ps[j] = qq at hp' hdr hsn
    obtain ⟨pa, pf, pb, s'⟩ := qq
    have hab : pa < pb := hp'.ab
    have hbn : pb < cs.length := hp'.bn
    have hs0 : -9 ≤ s' := hp'.s0
    have hs1 : s' ≤ 9 := hp'.s1
    dsimp only [encPin]
    rw [hsn]
    walk_at "w"
    refine t_eqI ?_
    walk_at "w"
    refine ⟨fun h0 => ?_, fun h0 => ?_⟩
    · have h0 : pb = i := by have := of_decide_eq_true h0; omega
      have hc : 2 ≤ cs.getD pa 0 ∧ cs.getD pa 0 ≤ 40 := ht.cget (show pa < cs.length by omega)
      refine ss_cons (s_augAdd (by walk_at "at") ?_)
      walk_at "w"
      refine ⟨q, _, Sum.inl (pa : Int), _, rfl, rfl, hq, lookC (hh.I.find (show pa < i by omega) (hdr h0)), ?_⟩
      walk_at "w"
      refine x_ixT (dints_at (by omega)) ?_
      walk_at "w"
      refine ⟨divS ⟨by omega, by omega⟩, ?_⟩
      walk_at "w"
      refine ⟨mulL ⟨by omega, by omega⟩, ?_⟩
      walk_at "w"
      rw [psum_snoc, if_pos h0, ← Int.add_assoc]
      exact ⟨⟨_, _, _, _, rfl⟩, rfl⟩
    · have h0 : ¬ pb = i := by have := of_decide_eq_false h0; omega
      walk_at "w"
      rw [psum_snoc, if_neg h0, Int.add_zero]
      exact ⟨⟨_, _, _, _, rfl⟩, rfl⟩
  rintro env' M' ⟨⟨o3, o4, o5, o6, rfl⟩, rfl⟩
  rw [List.length_map, List.take_length]
  walk_at "w"
  exact k
theorem ok_prest {C : Addr} (F : Fun K "face_rest" "Progression.face_rest" st_Progression_face_rest f fd) (cl : Cls K C) (n1 : NoAttr K C "train") (n2 : NoAttr K C "start") (n3 : NoAttr K C "first") (mi : mg "int" = none) (D1 : Def P w K mg base "greatest_divisor" 1 spGcd) (D2 : Def P w K mg base "total_steps" 2 spTotal) (D3 : MDef P w K mg base C "change_of" 1 (spChg C)) : FnOk P w K mg base (L2.CX P w) 3 f fd ["self", "wheel"] (lift K (spRest C)) := by
  refine fn_ok F sc_Progression_face_rest (by rintro ds M R RX ⟨a, b, c, d, e, g, rfl, _⟩; rfl) (fun cdv A outer s H Ex ds M R RX hr h => ?_)
  obtain ⟨a, t, st, dp, i, g, rfl, hh, k⟩ := h
  obtain ⟨q, hqa, hm, hq⟩ := hh.m
  have ht := hh.ht
  have hi := hh.hk
  have hc := ht.cget hi
  have hln := hh.hst.len
  have hl := @dints_len t.cs
  have hl2 := @dints_len st
  dsimp only [pgF] at hm
  dsimp only [env0]
  walk_at "w"
  refine x_ixT rfl ?_
  walk_at "w"
  refine x_ixT (dints_at (by omega)) ?_
  walk_at "w"
  refine x_mth hm (by walk_at "fno") ?_
  walk_at "w"
  refine ⟨a, t, st, dp, i, g, rfl, hh, ?_⟩
  walk_at "w"
  refine ⟨_, _, rfl, by omega, ?_⟩
  walk_at "w"
  refine x_ixT (dints_at (by omega)) ?_
  walk_at "w"
  refine ⟨t, st, _, rfl, ht, hh.hst, fun p hp => ?_⟩
  walk_at "w"
  refine x_ixM updM_same (dints_at (by rw [tot_len]; omega)) ?_
  walk_at "w"
  have gne : 0 < Int.gcd (chOf t g.per g.ch i) (t.cs.getD i 0) := Int.gcd_pos_of_ne_zero_right _ (by omega)
  refine ⟨by omega, ?_⟩
  walk_at "w"
  exact k _ (Ext.refl.new hp)
theorem ok_inv (F : Fun K "inverse_modulo" "inverse_modulo" st_inverse_modulo f fd) (mi : mg "int" = none) : FnOk P w K mg base (L2.CX P w) 1 f fd ["number", "modulus"] (lift K spInv) := by
  refine fn_ok F sc_inverse_modulo (by rintro ds M R RX ⟨a, b, rfl, _⟩; rfl) (fun cdv A outer s H Ex ds M R RX hr h => ?_)
  obtain ⟨a, m, rfl, h0, h1, k⟩ := h
  dsimp only [env0]
  walk_at "w"
  refine ⟨h0, ?_⟩
  walk_at "w"
  refine s_while (J := fun mm env' M' => ∃ (x y l r : Int) (o : Option D), env' = [nv "number" (.int a), nv "modulus" (.int m), nv "one" (.int x), nv "other" (.int y), nv "left" (.int l), nv "right" (.int r), ("quotient", o)] ∧ M' = M ∧ 0 ≤ y ∧ 0 ≤ x ∧ x ≤ m ∧ y ≤ m ∧ mm = y.toNat ∧ Int.gcd x y = Int.gcd a m ∧ m ∣ (a * l - x) ∧ m ∣ (a * r - y)) m.toNat ⟨a % m, m, 1, 0, none, rfl, rfl, Int.le_of_lt h0, Int.emod_nonneg _ (by omega), Int.le_of_lt (Int.emod_lt_of_pos _ h0), Int.le_refl _, rfl, ?_, ?_, ?_⟩ ?_
  · rw [Int.gcd_comm, gcd_step]
  · rw [Int.mul_one]; exact Int.dvd_self_sub_emod
  · rw [Int.mul_zero, Int.zero_sub]; exact Int.dvd_neg.mpr (Int.dvd_refl m)
  rintro mm env' M' ⟨x, y, l, r, o, rfl, rfl, hy, hx, hxm, hym, rfl, hg, hl, hrr⟩
  refine t_neI ?_
  walk_at "w"
  refine ⟨fun z => ?_, fun z => ?_⟩
  · have z : y ≠ 0 := of_decide_eq_true z
    have hp : 0 < y := by omega
    have q0 : 0 ≤ x / y := Int.ediv_nonneg hx hy
    have q1 : x / y ≤ x := Int.ediv_le_self y hx
    have hm : ∀ j, CMul (x / y) j ∨ CMulW (x / y) j := fun j => mulL ⟨by omega, by omega⟩
    walk_at "w"
    refine ⟨divS ⟨hp, by omega⟩, ?_⟩
    walk_at "w"
    refine ⟨hm _, ?_⟩
    walk_at "w"
    refine ⟨hm _, ?_⟩
    walk_at "w"
    have e : x - x / y * y = x % y := by rw [Int.emod_def, Int.mul_comm]
    have b1 := Int.emod_nonneg x z
    have b2 := Int.emod_lt_of_pos x hp
    refine ⟨(x % y).toNat, by omega, y, x - x / y * y, r, l - x / y * r, _, rfl, rfl, by omega, by omega, by omega, by omega, by rw [e], ?_, hrr, ?_⟩
    · rw [e, gcd_step]; exact hg
    · have e2 : a * (l - x / y * r) - (x - x / y * y) = (a * l - x) - (x / y) * (a * r - y) := by
        rw [Int.mul_sub, Int.mul_sub, Int.mul_left_comm a (x / y) r]; omega
      rw [e2]; exact Int.dvd_sub hl (Int.dvd_mul_of_dvd_right hrr)
  · have z : y = 0 := by have := of_decide_eq_false z; omega
    subst z
    rw [Int.gcd_zero_right] at hg
    walk_at "w"
    refine ⟨h0, ?_⟩
    walk_at "w"
    refine k _ (Int.emod_nonneg _ (by omega)) (Int.emod_lt_of_pos _ h0) fun hc => ?_
    have hx1 : x = 1 := by omega
    subst hx1
    have d1 : m ∣ a * (l % m) - a * l := by
      rw [← Int.mul_sub]
      refine Int.dvd_mul_of_dvd_right ?_
      rw [← Int.dvd_neg, Int.neg_sub]; exact Int.dvd_self_sub_emod
    have e3 : a * (l % m) - 1 = (a * (l % m) - a * l) + (a * l - 1) := by omega
    rw [e3]; exact Int.dvd_add d1 hl
theorem ok_preq {C : Addr} (F : Fun K "require" "Progression.require" st_Progression_require f fd) (cl : Cls K C) (n1 : NoAttr K C "train") (n2 : NoAttr K C "start") (n3 : NoAttr K C "first") (n4 : NoAttr K C "period") (n5 : NoAttr K C "changes") (mi : mg "int" = none) (D1 : Def P w K mg base "greatest_divisor" 1 spGcd) (D2 : Def P w K mg base "total_steps" 2 spTotal) (D4 : Def P w K mg base "inverse_modulo" 1 spInv) (D3 : MDef P w K mg base C "change_of" 1 (spChg C)) : FnOk P w K mg base (L2.CX P w) 3 f fd ["self", "wheel", "face"] (lift K (spReq C)) := by
  refine fn_ok F sc_Progression_require (by rintro ds M R RX ⟨a, b, c, d, e, g, h, rfl, _⟩; rfl) (fun cdv A outer s H Ex ds M R RX hr h => ?_)
  obtain ⟨a, t, st, dp, i, g, fc, rfl, hh, hcl, hdp, hf0, hf1, hfm, k⟩ := h
  obtain ⟨q, hqa, hm, hq⟩ := hh.m
  have ht := hh.ht
  have hi := hh.hk
  have hc := ht.cget hi
  have hln := hh.hst.len
  have n8 := ht.n1
  have hl := @dints_len t.cs
  have hl2 := @dints_len st
  have gne : 0 < Int.gcd (chOf t g.per g.ch i) (t.cs.getD i 0) := Int.gcd_pos_of_ne_zero_right _ (by omega)
  have gle := Int.gcd_le_right (chOf t g.per g.ch i) (show 0 < t.cs.getD i 0 by omega)
  have stp := fun inv hinv => hh.I.step ht hi hcl hdp hf0 hf1 rfl rfl rfl rfl hfm (inv := inv) hinv rfl
  have fp0 : 0 < t.cs.getD i 0 / (Int.gcd (chOf t g.per g.ch i) (t.cs.getD i 0) : Int) := Int.ediv_pos_of_pos_of_dvd (by omega) (by omega) (Int.gcd_dvd_right ..)
  have fp1 : t.cs.getD i 0 / (Int.gcd (chOf t g.per g.ch i) (t.cs.getD i 0) : Int) ≤ t.cs.getD i 0 := Int.ediv_le_self _ (by omega)
  dsimp only [pgF] at hm
  dsimp only [env0]
  walk_at "w"
  refine x_ixT rfl ?_
  walk_at "w"
  refine x_ixT (dints_at (by omega)) ?_
  walk_at "w"
  refine x_mth hm (by walk_at "fno") ?_
  walk_at "w"
  refine ⟨a, t, st, dp, i, g, rfl, hh, ?_⟩
  walk_at "w"
  refine x_ixT (dints_at (by omega)) ?_
  walk_at "w"
  refine ⟨t, st, _, rfl, ht, hh.hst, fun p hp => ?_⟩
  walk_at "w"
  refine x_ixM updM_same (dints_at (by rw [tot_len]; omega)) ?_
  walk_at "w"
  have hpa : a ≠ p := fun z => by rw [z, hp] at hm; cases hm
  have hpq : q ≠ p := fun z => by rw [z, hp] at hq; cases hq
  have hm1 : updM M p (.lst (dints (tot t st g.first))) a = some (.ins C (pgF t st g q)) := by rw [updM_ne hpa]; exact hm
  have hq1 : updM M p (.lst (dints (tot t st g.first))) q = some (.dK (encC g.ch)) := by rw [updM_ne hpq]; exact hq
  have hx1 : ExtB M (updM M p (.lst (dints (tot t st g.first)))) a := ExtB.refl.new hp
  generalize updM M p (.lst (dints (tot t st g.first))) = M1 at hm1 hq1 hx1
  dsimp only [pgF] at hm1
  refine ⟨_, _, rfl, by omega, ?_⟩
  walk_at "w"
  refine ⟨divS ⟨by omega, by omega⟩, ?_⟩
  walk_at "w"
  refine ⟨divS ⟨by omega, by omega⟩, ?_⟩
  walk_at "w"
  refine ⟨divS ⟨by omega, by omega⟩, ?_⟩
  walk_at "w"
  refine ⟨_, _, rfl, fp0, by omega, fun inv i0 i1 hinv => ?_⟩
  have st1 := stp inv hinv
  walk_at "w"
  refine ⟨mulR ⟨by omega, by omega⟩, ?_⟩
  walk_at "w"
  refine ⟨fp0, ?_⟩
  walk_at "w"
  generalize hF : t.cs.getD i 0 / (Int.gcd (chOf t g.per g.ch i) (t.cs.getD i 0) : Int) = fac at *
  rw [show (tot t st g.first).getD i 0 = tw t st g.first i from rfl]
  generalize hT : (fc - (st.getD i 0 + tw t st g.first i)) / (Int.gcd (chOf t g.per g.ch i) (t.cs.getD i 0) : Int) * inv % fac = turns at *
  have ht0 : 0 ≤ turns := by rw [← hT]; exact Int.emod_nonneg _ (by omega)
  have ht1 : turns < fac := by rw [← hT]; exact Int.emod_lt_of_pos _ fp0
  refine s_fldAdd cl n3 ?_
  walk_at "w"
  refine ⟨a, _, _, rfl, hm1, by walk_at "fat", ?_⟩
  walk_at "w"
  refine ⟨mulR ⟨by omega, by omega⟩, ?_⟩
  walk_at "w"
  refine ⟨_, _, _, rfl, hm1, Nat.le_of_ble_eq_true rfl, by walk_at "fput", ?_⟩
  refine ss_cons (s_fldMul cl n4 ?_)
  walk_at "w"
  refine ⟨a, _, _, rfl, updM_same, by walk_at "fat", ?_⟩
  walk_at "w"
  have hpb : g.per.natAbs < 2 ^ 100 := by
    have h1 := hh.I.pbig (by omega)
    have h2 := hh.I.p0
    omega
  refine ⟨_, _, _, rfl, wide_mul hpb (show fac.natAbs < 2 ^ 100 by omega) (by decide) (by decide) (by decide), updM_same, Nat.le_of_ble_eq_true rfl, by walk_at "fput", ?_⟩
  rw [updM_updM]
  have hq2 : ∀ fs, updM M1 a (.ins C fs) q = some (.dK (encC g.ch)) := fun fs => by rw [updM_ne hqa]; exact hq1
  have hlen8 : (encC g.ch).length = g.ch.length := by unfold encC; exact List.length_map _
  have hcl8 := hh.I.clen
  refine ss_cons (s_fld cl n5 (e_dcItems (own := [("driver", 9), ("steps", 10)]) (blkOk_by (N := N_Progression_require) (sc := defScope st_Progression_require) (by decide +kernel)) (show Drops _ ["driver", "steps"] _ from .cons (.cons .nil (by walk_at "drop")) (by walk_at "drop")) (hq2 _) (by omega) ?_))
  have hdel : ∀ fs, delM (updM M1 a (.ins C fs)) q a = some (.ins C fs) := fun fs => by rw [delM_ne hqa.symm]; exact updM_same
  walk_at "w"
  refine x_fld (hdel _) (by walk_at "fat") ⟨rfl, ?_⟩
  generalize hMd : delM (updM M1 a (.ins C [("train", enc t), ("start", .tup (dints st)), ("first", .int (g.first + g.per * turns)), ("period", .int (g.per * fac)), ("changes", .ref q)])) q = Md
  refine ⟨fun j acc M' => acc = encC ((g.ch.take j).map fun p => (p.1, p.2 * fac)) ∧ Md = M', ⟨rfl, rfl⟩, ?_, ?_⟩
  · rintro j hj acc M' ⟨rfl, rfl⟩ hal
    have hj' : j < g.ch.length := by unfold itD at hj; rw [List.length_map] at hj; omega
    have e1 : (itD (encC g.ch))[j] = .tup [.int g.ch[j].1, .int g.ch[j].2] := by simp only [itD_encC, List.getElem_map]
    rw [e1]
    intro s2 H2 C2 cl2 fp2
    refine gw_tup ⟨_, rfl, rfl, gws_cons (gw_name (by walk_at "put") (gws_cons (gw_name (by walk_at "put") (gws_nil ?_) ⟨10, by decide, rfl⟩)) ⟨9, by decide, rfl⟩)⟩
    intro s3 H3 C3 cl3 fp3
    walk_at "w"
    refine ⟨Sum.inl _, rfl, ?_⟩
    intro s4 H4 C4 cl4 fp4
    walk_at "w"
    refine ⟨mulR ⟨by omega, by omega⟩, ?_, rfl⟩
    rw [putC, List.take_succ_eq_append_getElem hj', List.map_append]
    · rfl
    · intro p hp
      rw [List.mem_map] at hp
      obtain ⟨x, hx, rfl⟩ := hp
      exact hh.I.key_take hj' x hx
  rintro acc M' ⟨rfl, rfl⟩ p2 hp2
  rw [hlen8, List.take_length]
  have hMa : updM Md q (.dK (encC g.ch)) a = some (.ins C [("train", enc t), ("start", .tup (dints st)), ("first", .int (g.first + g.per * turns)), ("period", .int (g.per * fac)), ("changes", .ref q)]) := by
    rw [updM_ne hqa.symm, ← hMd]; exact hdel _
  have hap2 : a ≠ p2 := fun z => by rw [← z, hMa] at hp2; cases hp2
  have hx2 : ExtB M1 (updM Md q (.dK (encC g.ch))) a := fun b c hb e => by
    by_cases hbq : b = q
    · subst hbq; rw [updM_same, ← e]; exact hq1.symm
    · rw [updM_ne hbq, ← hMd, delM_ne hbq, updM_ne hb]; exact e
  generalize updM Md q (.dK (encC g.ch)) = M2 at *
  walk_at "w"
  refine ⟨a, _, _, rfl, by rw [updM_ne hap2]; exact hMa, Nat.le_of_ble_eq_true rfl, by walk_at "fput", ?_⟩
  refine ss_cons (s_dput (hu1 hr) ?_)
  walk_at "w"
  refine ⟨mulR ⟨by omega, by omega⟩, ?_⟩
  walk_at "w"
  refine x_fld updM_same (by walk_at "fat") ?_
  walk_at "w"
  refine ⟨p2, _, Sum.inl (i : Int), rfl, rfl, by rw [updM_ne hap2.symm]; exact updM_same, ?_, ?_⟩
  · unfold encC; rw [List.length_map, List.length_map]; omega
  rw [putC (fun p hp => by
    rw [List.mem_map] at hp
    obtain ⟨x, hx, rfl⟩ := hp
    exact hh.I.key_ne x hx)]
  walk_at "w"
  refine k _ (g.next t i turns fac) ?_ ⟨p2, hap2.symm, ?_, updM_same⟩ st1.2.2.2
  · intro b c hb e
    have e2 := hx2 b c hb (hx1 b c hb e)
    have hbp : b ≠ p2 := fun z => by rw [z, hp2] at e2; cases e2
    rw [updM_ne hbp, updM_ne hb, updM_ne hbp]; exact e2
  · rw [updM_ne hap2]; exact updM_same
theorem ok_follow {C : Addr} (F : Fun K "follow" "follow" st_follow f fd) (cl : Cls K C) (mi : mg "int" = none) (me : mg "enumerate" = none) (D1 : CDef P w K mg base "Progression" C 1 (spPInit C)) (D2 : MDef P w K mg base C "face_rest" 3 (spRest C)) (D3 : MDef P w K mg base C "require" 3 (spReq C)) : FnOk P w K mg base (L2.CX P w) 4 f fd ["train", "start", "display"] (lift K (spFollow C)) := by
  refine fn_ok F sc_follow (by rintro ds M R RX ⟨a, b, c, rfl, _⟩; rfl) (fun cdv A outer s H Ex ds M R RX hr h => ?_)
  obtain ⟨t, st, dp, rfl, ht, hst, hdp, hcl, k1, k2⟩ := h
  have hdl := hdp.1
  dsimp only [env0]
  walk_at "w"
  intro a ha
  refine ⟨a, t, st, rfl, updM_same, fun M1 hx1 hpg => ⟨rfl, ?_⟩⟩
  have hx : Ext M M1 := fun b c e => hx1 b c (fun z => by rw [z, ha] at e; cases e) (by rw [updM_ne (fun z => by rw [z, ha] at e; cases e)]; exact e)
  walk_at "w"
  refine s_for (i_enum (by assumption) ?_)
  walk_at "w"
  refine ⟨_, .tup _, (fun _ z => by cases z), fun i env' M' => ∃ o1 o2 o3 o4 g, env' = [nv "train" (enc t), nv "start" (.tup (dints st)), nv "display" (.tup (dp.map encO)), nv "progression" (.ref a), ("wheel", o1), ("face", o2), ("modulus", o3), ("rest", o4)] ∧ Ext M M' ∧ PgM C M' a t st g ∧ PgI t st (dpf dp) i g, ⟨_, _, _, _, _, rfl, hx, hpg, PgI.zero ..⟩, ?_, ?_⟩
  · rintro i hi env' M' ⟨o1, o2, o3, o4, g, rfl, hx, hpg, hI⟩
    have hi' : i < dp.length := by rw [enumD_len, List.length_map] at hi; exact hi
    have hg := List.getElem?_eq_getElem hi'
    rw [enumD_get (encs_get hg) hi]
    generalize dp[i] = o at hg
    have hdf : dpf dp i = o := by unfold dpf; rw [List.getD_eq_getElem?_getD, hg]; rfl
    cases o with
    | none =>
      dsimp only [encO]
      walk_at "w"
      refine br_f rfl ?_
      walk_at "w"
      exact ⟨_, _, _, _, g, rfl, hx, hpg, hI.skip hdf⟩
    | some fc =>
      have hfr := hdp.2 i fc hdf
      have hc := ht.cget (show i < t.cs.length by omega)
      have hdr : ∀ p ∈ t.ps, p.b = i → (dpf dp p.a).isSome = true := fun p hp hb => hcl p hp (by rw [hb, hdf]; rfl)
      have hh : Here C M' a t st (dpf dp) i g := ⟨ht, hst, by omega, hpg, hI, hdr⟩
      obtain ⟨q, hqa, hm, hq⟩ := hpg
      have gne : 0 < Int.gcd (chOf t g.per g.ch i) (t.cs.getD i 0) := Int.gcd_pos_of_ne_zero_right _ (by omega)
      have gm : 0 < modG t g i := by unfold modG; omega
      dsimp only [encO]
      walk_at "w"
      refine br_t rfl ?_
      walk_at "w"
      refine x_mth hm (by walk_at "fno") ?_
      walk_at "w"
      refine ⟨a, t, st, dpf dp, i, g, rfl, hh, fun M2 hx2 => ?_⟩
      have hh2 : Here C M2 a t st (dpf dp) i g := ⟨ht, hst, hh.hk, hh.m.ext hx2, hI, hdr⟩
      walk_at "w"
      refine t_neI ?_
      walk_at "w"
      refine ⟨gm, ?_⟩
      walk_at "w"
      refine ⟨fun z => ?_, fun z => ?_⟩
      · have z := of_decide_eq_true z
        walk_at "w"
        exact k1 _ _ g i fc (hx.trans hx2) ha hh2.m hI hh.hk hdf z
      · have z := of_decide_eq_false z
        have z := Decidable.not_not.mp z
        walk_at "w"
        refine x_mth (hx2 _ _ hm) (by walk_at "fno") ?_
        walk_at "w"
        refine ⟨a, t, st, dpf dp, i, g, fc, rfl, hh2, hcl, hdf, hfr.1, hfr.2, z, fun M3 g' hx3 hp3 hI3 => ?_⟩
        walk_at "w"
        exact ⟨_, _, _, _, g', rfl, Ext.extB (Ext.trans hx hx2) ha hx3, hp3, hI3⟩
  rintro env' M' ⟨o1, o2, o3, o4, g, rfl, hx, hpg, hI⟩
  rw [enumD_len, List.length_map, hdl] at hI
  walk_at "w"
  exact k2 _ _ g hx ha hpg hI
theorem ok_findm {C : Addr} (F : Fun K "find_moments" "find_moments" st_find_moments f fd) (cl : Cls K C) (n3 : NoAttr K C "first") (n4 : NoAttr K C "period") (D1 : Def P w K mg base "check_search" 4 spSearch) (D2 : Def P w K mg base "follow" 4 (spFollow C)) : FnOk P w K mg base (L2.CX P w) 5 f fd ["train", "start", "display"] (lift K spFindM) := by
  refine fn_ok F sc_find_moments (by rintro ds M R RX ⟨a, b, c, rfl, _⟩; rfl) (fun cdv A outer s H Ex ds M R RX hr h => ?_)
  obtain ⟨t, st, dp, rfl, ht, hst, hdp, hcl, k⟩ := h
  have k1 : ∀ M' g, Ext M M' → PgI t st (dpf dp) t.cs.length g → R (.tup [.int g.first, .int g.per]) M' := fun M' g hx hI => k _ M' hx (.inl ⟨g, rfl, hI⟩)
  have k2 : ∀ M', Ext M M' → NoMom t st dp → R .non M' := fun M' hx hn => k _ M' hx (.inr ⟨rfl, hn⟩)
  clear k
  dsimp only [env0]
  walk_at "w"
  refine ⟨t, st, dp, rfl, ht, hst, hdp, hcl, fun M1 hx1 => ?_⟩
  walk_at "w"
  refine ⟨t, st, dp, rfl, ht, hst, hdp, hcl, fun M2 a g k fc hx ha hpg hI hk hfc hne => ?_, fun M2 a g hx ha hpg hI => ?_⟩
  · walk_at "w"
    refine e_if ?_
    walk_at "w"
    refine br_f rfl ?_
    walk_at "w"
    have hfr := hdp.2 k fc hfc
    exact k2 _ (Ext.trans hx1 hx) fun m hm => hI.fail ht hk hcl hfc hfr.1 hfr.2 hne m fun w hw f hf => hm w (by omega) f hf
  · obtain ⟨q, hqa, hm, hq⟩ := hpg
    dsimp only [pgF] at hm
    walk_at "w"
    refine e_if ?_
    walk_at "w"
    refine br_t rfl ?_
    walk_at "w"
    exact k1 _ g (Ext.trans hx1 hx) hI
def ir_L_fits_1 : ISs := (.cons (.ret (.cmp .eq (.lc false [2] (.nm 2) (.rng1 (.bi .len (.v 1))) (.so (.and (.cons (.notN (.ix (.v 0) (.v 2))) (.cons (.cmp .ne (.ix (.v 0) (.v 2)) (.ix (.v 1) (.v 2))) .nil)))) (.v 2)) (.lst .nil))) .nil)
def ir_L_fits : ISs := ir_L_fits_1
abbrev G_L_fits : Gs' := { bi := ["range", "len"] }
abbrev Γ_L_fits : Gm := {  }
theorem c_L_fits : chkSS G_L_fits N_L_fits (defScope st_L_fits) ir_L_fits (defBody st_L_fits) = true := by decide +kernel
def spFits : DSp := fun ds M R _ => ∃ (fs : List Int) (dp : List (Option Int)), ds = [.tup (dp.map encO), .tup (dints fs)] ∧ dp.length = fs.length ∧ fs.length ≤ 8 ∧ ∀ b : Bool, (b = true ↔ ∀ w, w < fs.length → ∀ f, dpf dp w = some f → fs.getD w 0 = f) → R (.bl b) M
abbrev W_L_fits : Prop := ∀ ds M R RX, spFits ds M R RX → wSS (Γ_L_fits) RX R ir_L_fits (env0V 3 ds) M (kEnd R) kNo kNo
theorem w_L_fits : W_L_fits := by
  rintro ds M R RX ⟨fs, dp, rfl, hl, h8, k⟩
  have hlf := @dints_len fs
  refine ⟨⟨by rw [hlf]; omega, by rw [hlf]; omega⟩, by rw [rngD_len, hlf]; omega, fun i acc M' => M' = M ∧ ∃ vs, acc = dints vs ∧ (vs = [] ↔ ∀ w, w < i → ∀ f, dpf dp w = some f → fs.getD w 0 = f), ⟨rfl, [], rfl, Iff.intro (fun _ w z => by omega) (fun _ => rfl)⟩, ?_, ?_⟩
  · rintro i hi acc M' ⟨rfl, vs, rfl, hv⟩ _
    rw [rngD_len] at hi
    have hi' : i < fs.length := by rw [← hlf]; omega
    rw [rngD_get, show (0 : Int) + ((i : Nat) : Int) * 1 = ((i : Nat) : Int) by omega]
    refine wSome_i (dp_enc_at (by omega)) ?_
    have step : ∀ {c : Bool}, (c = true ↔ ¬ ∀ f, dpf dp i = some f → fs.getD i 0 = f) → wIf c (M' = M' ∧ ∃ us, dints vs ++ [D.int ((i : Nat) : Int)] = dints us ∧ (us = [] ↔ ∀ w, w < i + 1 → ∀ f, dpf dp w = some f → fs.getD w 0 = f)) (M' = M' ∧ ∃ us, dints vs = dints us ∧ (us = [] ↔ ∀ w, w < i + 1 → ∀ f, dpf dp w = some f → fs.getD w 0 = f)) := fun hc => by
      refine wIf_i (fun h => ?_) (fun h => ?_)
      · refine ⟨rfl, vs ++ [((i : Nat) : Int)], by rw [← dints_one]; exact (List.map_append ..).symm, Iff.intro (fun z => absurd z (by simp)) (fun z => absurd (z i (by omega)) (hc.mp h))⟩
      · refine ⟨rfl, vs, rfl, hv.trans ⟨fun z w hw => ?_, fun z w hw => z w (by omega)⟩⟩
        by_cases e : w = i
        · subst e
          by_cases g : ∀ f, dpf dp w = some f → fs.getD w 0 = f
          · exact g
          · rw [hc.mpr g] at h; cases h
        · exact z w (by omega)
    cases hx : dpf dp i with
    | none =>
      exact step (c := false) (by rw [hx]; exact ⟨(fun z => by cases z), (fun z => absurd (fun (f : Int) (y : none = some f) => nomatch y) z)⟩)
    | some f =>
      refine wSome_i (dp_enc_at (by omega)) ?_
      rw [hx]
      refine wSome_i (dints_at hi') ?_
      refine step (c := decide (f ≠ fs.getD i 0)) ?_
      rw [hx, decide_eq_true_eq]
      exact ⟨fun h z => h (z f rfl).symm, fun z h => z fun g y => by cases y; exact h.symm⟩
  rintro acc M' ⟨rfl, vs, rfl, hv⟩ _
  rw [rngD_len, hlf] at hv
  refine ⟨plains_dints _ 59, rfl, ?_⟩
  refine k _ ?_
  rw [if_neg Bool.false_ne_true]
  have : D.eqv (.lst (dints vs)) (.lst []) = decide (vs = []) := eqv_intsL vs []
  rw [this, decide_eq_true_eq, hv]
  exact Iff.rfl
theorem ok_L_fits (F : Fun K "_law_fits" "_law_fits" st_L_fits f fd) (b_range : mg "range" = none) (b_len : mg "len" = none) : FnOk P w K mg base (L2.CX P w) 1 f fd ["_law_display", "_law_faces"] (lift K spFits) :=
  wp_ok F sc_L_fits (Gn := G_L_fits) (Γ := Γ_L_fits) ⟨⟨b_range, b_len, trivial⟩, trivial, trivial, trivial, trivial, fun _ _ z => z.elim, trivial, trivial, trivial⟩ c_L_fits (fun ds M R RX h => by unfold spFits at h; repeat (first | (obtain ⟨e, _⟩ := h; (rw [e]; done)) | (obtain ⟨e, _⟩ := h; (rw [e]; rfl)) | (rw [h]; rfl) | (obtain ⟨_, h⟩ := h))) (w_L_fits)
theorem ok_nextm (F : Fun K "next_moment" "next_moment" st_next_moment f fd) (mi : mg "int" = none) (D1 : Def P w K mg base "find_moments" 5 spFindM) (D2 : Def P w K mg base "check_moment" 2 spMoment) : FnOk P w K mg base (L2.CX P w) 6 f fd ["train", "start", "display", "moment"] (lift K spNextM) := by
  refine fn_ok F sc_next_moment (by rintro ds M R RX ⟨a, b, c, d, rfl, _⟩; rfl) (fun cdv A outer s H Ex ds M R RX hr h => ?_)
  obtain ⟨t, st, dp, m, rfl, ht, hst, hdp, hcl, m0, m1, k⟩ := h
  have k1 : ∀ M' g, Ext M M' → PgI t st (dpf dp) t.cs.length g → R (.int (m + (g.first - m) % g.per)) M' := fun M' g hx hI => k _ M' hx (.inl ⟨g, rfl, hI⟩)
  have k2 : ∀ M', Ext M M' → NoMom t st dp → R .non M' := fun M' hx hn => k _ M' hx (.inr ⟨rfl, hn⟩)
  clear k
  dsimp only [env0]
  walk_at "w"
  refine ⟨t, st, dp, rfl, ht, hst, hdp, hcl, fun d M1 hx hd => ?_⟩
  rcases hd with ⟨g, rfl, hI⟩ | ⟨rfl, hn⟩
  · walk_at "w"
    refine ⟨m, rfl, m0, m1, ?_⟩
    walk_at "w"
    refine br_f rfl ?_
    walk_at "w"
    refine ⟨hI.p0, ?_⟩
    walk_at "w"
    exact k1 _ g hx hI
  · walk_at "w"
    refine ⟨m, rfl, m0, m1, ?_⟩
    walk_at "w"
    refine br_t rfl ?_
    walk_at "w"
    exact k2 _ hx hn
def ir_nth_moment_3 : ISs := (.cons (.rse 0) .nil)
def ir_nth_moment_4 : ISs := (.cons (.ret (.ite (.isN (.v 4)) .non (.op .add (.ix (.v 4) (.n 0)) (.op .mul (.ix (.v 4) (.n 1)) (.v 3))))) .nil)
def ir_nth_moment_2 : ISs := (.cons (.ifS (.not (.call 1 (.cons (.v 3) (.cons (.n 0) (.cons (.gl 0) .nil))))) ir_nth_moment_3 .nil) ir_nth_moment_4)
def ir_nth_moment_1 : ISs := (.cons (.asg (.t (.nm 4)) (.call 0 (.cons (.v 0) (.cons (.v 1) (.cons (.v 2) .nil))))) ir_nth_moment_2)
def ir_nth_moment : ISs := ir_nth_moment_1
abbrev G_nth_moment : Gs' := { gl := ["MAX_MOMENT"], df := ["find_moments", "is_integer"], rs := ["InvalidNumber"] }
abbrev Γ_nth_moment (X_InvalidNumber : Addr) : Gm := { df := [spFindM, spIsInt], gl := [1000000000000000000], rs := [X_InvalidNumber] }
theorem c_nth_moment : chkSS G_nth_moment N_nth_moment (defScope st_nth_moment) ir_nth_moment (defBody st_nth_moment) = true := by decide +kernel
def spNthX (CN : Addr) : DSp := fun ds M R RX => ∃ (t : Train) (st : List Int) (dp : List (Option Int)) (b : D), ds = [enc t, .tup (dints st), .tup (dp.map encO), b] ∧ t.ok ∧ StOk t st ∧ DpOk t dp ∧ Clo t (dpf dp) ∧ ((∃ m, b = .int m ∧ 0 ≤ m ∧ m ≤ 1000000000000000000 ∧ ∀ (d : D) (M' : Mem), Ext M M' → ((∃ g, d = .int (g.first + g.per * m) ∧ PgI t st (dpf dp) t.cs.length g) ∨ (d = .non ∧ NoMom t st dp)) → R d M') ∨ (b.tyn.isSome = true ∧ isInt b 0 1000000000000000000 = false ∧ ∀ M', Ext M M' → RX (.ref CN) [] M'))
abbrev W_nth_moment : Prop := ∀  (X_InvalidNumber : Addr)ds M R RX, (spNthX X_InvalidNumber) ds M R RX → wSS (Γ_nth_moment X_InvalidNumber) RX R ir_nth_moment (env0V 5 ds) M (kEnd R) kNo kNo
theorem w_nth_moment : W_nth_moment := by
  rintro CN ds M R RX ⟨t, st, dp, b, rfl, ht, hst, hdp, hcl, h⟩
  refine ⟨t, st, dp, rfl, ht, hst, hdp, hcl, fun d M' hx hd => ?_⟩
  rcases h with ⟨m, rfl, m0, m1, k⟩ | ⟨hb, hi, k⟩
  · refine ⟨_, _, _, rfl, rfl, ?_⟩
    refine wIf_f (by show (!isInt (.int m) 0 1000000000000000000) = false; show (!decide (0 ≤ m ∧ m ≤ 1000000000000000000)) = false; rw [decide_eq_true ⟨m0, m1⟩]; rfl) ?_
    rcases hd with ⟨g, rfl, hI⟩ | ⟨rfl, hN⟩
    · have hb := hI.pbig ht.n1
      have p0 := hI.p0
      refine ⟨fun d2 M2 => d2 = .int (g.first + g.per * m) ∧ M2 = M', ⟨mulS (nat_lt_pow (k := 50) 400000 (by omega) (by decide)) (nat_lt_pow (k := 70) 400000 (by omega) (by decide)), rfl, rfl⟩, ?_⟩
      rintro d2 M2 ⟨rfl, rfl⟩
      exact k _ _ hx (.inl ⟨g, rfl, hI⟩)
    · refine ⟨fun d2 M2 => d2 = .non ∧ M2 = M', ⟨rfl, rfl⟩, ?_⟩
      rintro d2 M2 ⟨rfl, rfl⟩
      exact k _ _ hx (.inr ⟨rfl, hN⟩)
  · refine ⟨_, _, _, rfl, hb, ?_⟩
    refine wIf_t (by rw [hi]; rfl) ?_
    exact k _ hx
theorem ok_nth_moment {X_InvalidNumber : Addr} (F : Fun K "nth_moment" "nth_moment" st_nth_moment f fd) (D1 : Def P w K mg base "find_moments" 5 spFindM) (D2 : Def P w K mg base "is_integer" 1 spIsInt) (g_MAX_MOMENT : ∃ u, mg "MAX_MOMENT" = some u ∧ RelV (.int 1000000000000000000) u) (r_InvalidNumber : RCl K mg "InvalidNumber" X_InvalidNumber) : FnOk P w K mg base (L2.CX P w) 6 f fd ["train", "start", "display", "number"] (lift K (spNthX X_InvalidNumber)) :=
  wp_ok F sc_nth_moment (Gn := G_nth_moment) (Γ := Γ_nth_moment X_InvalidNumber) ⟨trivial, ⟨g_MAX_MOMENT, trivial⟩, ⟨⟨_, by decide, D1⟩, ⟨_, by decide, D2⟩, trivial⟩, trivial, trivial, fun _ _ z => z.elim, trivial, trivial, ⟨r_InvalidNumber, trivial⟩⟩ c_nth_moment (fun ds M R RX h => by unfold spNthX at h; repeat (first | (obtain ⟨e, _⟩ := h; (rw [e]; done)) | (obtain ⟨e, _⟩ := h; (rw [e]; rfl)) | (rw [h]; rfl) | (obtain ⟨_, h⟩ := h))) (w_nth_moment X_InvalidNumber)
def ir_count_moments_5 : ISs := (.cons (.ret (.n 0)) .nil)
def ir_count_moments_7 : ISs := (.cons (.ret (.op .sub (.op .div (.op .sub (.op .sub (.v 4) (.n 1)) (.v 6)) (.v 7)) (.op .div (.op .sub (.op .sub (.v 3) (.n 1)) (.v 6)) (.v 7)))) .nil)
def ir_count_moments_6 : ISs := (.cons (.asg (.t (.tp (.cons (.nm 6) (.cons (.nm 7) .nil)))) (.v 5)) ir_count_moments_7)
def ir_count_moments_4 : ISs := (.cons (.ifS (.or (.cons (.isN (.v 5)) (.cons (.cmp .le (.v 4) (.v 3)) .nil))) ir_count_moments_5 .nil) ir_count_moments_6)
def ir_count_moments_3 : ISs := (.cons (.ex (.call 1 (.cons (.v 4) .nil))) ir_count_moments_4)
def ir_count_moments_2 : ISs := (.cons (.ex (.call 1 (.cons (.v 3) .nil))) ir_count_moments_3)
def ir_count_moments_1 : ISs := (.cons (.asg (.t (.nm 5)) (.call 0 (.cons (.v 0) (.cons (.v 1) (.cons (.v 2) .nil))))) ir_count_moments_2)
def ir_count_moments : ISs := ir_count_moments_1
abbrev G_count_moments : Gs' := { df := ["find_moments", "check_moment"] }
abbrev Γ_count_moments : Gm := { df := [spFindM, spMoment] }
theorem c_count_moments : chkSS G_count_moments N_count_moments (defScope st_count_moments) ir_count_moments (defBody st_count_moments) = true := by decide +kernel
def spCount : DSp := fun ds M R _ => ∃ (t : Train) (st : List Int) (dp : List (Option Int)) (b e : Int), ds = [enc t, .tup (dints st), .tup (dp.map encO), .int b, .int e] ∧ t.ok ∧ StOk t st ∧ DpOk t dp ∧ Clo t (dpf dp) ∧ -1000000000000000000 ≤ b ∧ b ≤ 1000000000000000000 ∧ -1000000000000000000 ≤ e ∧ e ≤ 1000000000000000000 ∧ ∀ (d : D) (M' : Mem), Ext M M' → ((∃ g, d = .int (if e ≤ b then 0 else (e - 1 - g.first) / g.per - (b - 1 - g.first) / g.per) ∧ PgI t st (dpf dp) t.cs.length g) ∨ (d = .int 0 ∧ NoMom t st dp)) → R d M'
abbrev W_count_moments : Prop := ∀ ds M R RX, spCount ds M R RX → wSS (Γ_count_moments) RX R ir_count_moments (env0V 8 ds) M (kEnd R) kNo kNo
theorem w_count_moments : W_count_moments := by
  rintro ds M R RX ⟨t, st, dp, b, e, rfl, ht, hst, hdp, hcl, b0, b1, e0, e1, k⟩
  refine ⟨t, st, dp, rfl, ht, hst, hdp, hcl, fun d M' hx hd => ?_⟩
  refine ⟨b, rfl, b0, b1, ?_⟩
  refine ⟨e, rfl, e0, e1, ?_⟩
  rcases hd with ⟨g, rfl, hI⟩ | ⟨rfl, hN⟩
  · have hb := hI.pbig ht.n1
    have p0 := hI.p0
    refine wIf_d (fun h => ?_) (fun h => ?_)
    · exact k _ _ hx (.inl ⟨g, by rw [if_pos h], hI⟩)
    · refine ⟨divN p0 (by have : g.per.natAbs ≤ 6553600000000 := by omega
                          exact Nat.lt_of_le_of_lt this (by decide)), divN p0 (by have : g.per.natAbs ≤ 6553600000000 := by omega
                                                                                  exact Nat.lt_of_le_of_lt this (by decide)), ?_⟩
      exact k _ _ hx (.inl ⟨g, by rw [if_neg h], hI⟩)
  · exact k _ _ hx (.inr ⟨rfl, hN⟩)
theorem ok_count_moments (F : Fun K "count_moments" "count_moments" st_count_moments f fd) (D1 : Def P w K mg base "find_moments" 5 spFindM) (D2 : Def P w K mg base "check_moment" 2 spMoment) : FnOk P w K mg base (L2.CX P w) 6 f fd ["train", "start", "display", "begin", "end"] (lift K spCount) :=
  wp_ok F sc_count_moments (Gn := G_count_moments) (Γ := Γ_count_moments) ⟨trivial, trivial, ⟨⟨_, by decide, D1⟩, ⟨_, by decide, D2⟩, trivial⟩, trivial, trivial, fun _ _ z => z.elim, trivial, trivial, trivial⟩ c_count_moments (fun ds M R RX h => by unfold spCount at h; repeat (first | (obtain ⟨e, _⟩ := h; (rw [e]; done)) | (obtain ⟨e, _⟩ := h; (rw [e]; rfl)) | (rw [h]; rfl) | (obtain ⟨_, h⟩ := h))) (w_count_moments)
def ir_L_pick_1 : ISs := (.cons (.ret (.ix (.v 1) (.call 0 (.cons (.v 0) (.cons (.bi .len (.v 1)) .nil))))) .nil)
def ir_L_pick : ISs := ir_L_pick_1
abbrev G_L_pick : Gs' := { df := ["_law_next"], bi := ["len"] }
abbrev Γ_L_pick : Gm := { df := [spNext] }
theorem c_L_pick : chkSS G_L_pick N_L_pick (defScope st_L_pick) ir_L_pick (defBody st_L_pick) = true := by decide +kernel
def spPickD : DSp := fun ds M R _ => ∃ (a : Addr) (l : List D), ds = [.ref a, .lst l] ∧ DiceM M a ∧ 0 < l.length ∧ l.length ≤ 1000 ∧ ∀ x c, x ∈ l → DiceC c → R x (updM M a c)
abbrev W_L_pick : Prop := ∀ ds M R RX, spPickD ds M R RX → wSS (Γ_L_pick) RX R ir_L_pick (env0V 2 ds) M (kEnd R) kNo kNo
theorem w_L_pick : W_L_pick := by
  rintro ds M R RX ⟨a, l, rfl, hM, l0, l1, k⟩
  refine ⟨a, _, rfl, hM, by omega, by omega, fun x c x0 x1 hc => ?_⟩
  obtain ⟨x, rfl⟩ := Int.eq_ofNat_of_zero_le x0
  have hx : x < l.length := by omega
  refine wSome_i (at_nat (List.getElem?_eq_getElem hx)) ?_
  exact k _ _ (List.getElem_mem hx) hc
theorem ok_L_pick (F : Fun K "_law_pick" "_law_pick" st_L_pick f fd) (D1 : Def P w K mg base "_law_next" 1 spNext) (b_len : mg "len" = none) : FnOk P w K mg base (L2.CX P w) 2 f fd ["_law_d", "_law_some"] (lift K spPickD) :=
  wp_ok F sc_L_pick (Gn := G_L_pick) (Γ := Γ_L_pick) ⟨⟨b_len, trivial⟩, trivial, ⟨⟨_, by decide, D1⟩, trivial⟩, trivial, trivial, fun _ _ z => z.elim, trivial, trivial, trivial⟩ c_L_pick (fun ds M R RX h => by unfold spPickD at h; repeat (first | (obtain ⟨e, _⟩ := h; (rw [e]; done)) | (obtain ⟨e, _⟩ := h; (rw [e]; rfl)) | (rw [h]; rfl) | (obtain ⟨_, h⟩ := h))) (w_L_pick)
theorem ok_L_told {X : Cx} {g CS A0 A1 A2 A3 A4 A5 A6 A7 A8 A9 A10 A11 : Addr} {cdg : Value} {l : List (Addr × Nat)} {q : Str} {k : Nat} (hr : Room (k + 2) X.A) (hTE : X.mg "TrainError" = some (.ref CS)) (hl : ∀ C j, (C, j) ∈ l → Knows X.K CS [A0, A1, A2, A3, A4, A5, A6, A7, A8, A9, A10, A11] C j)
    (mi : X.mg "isinstance" = none) (mv : X.mg "ValueError" = none) (m0 : X.mg "InvalidFaces" = some (.ref A0)) (m1 : X.mg "OpenDisplay" = some (.ref A1)) (m2 : X.mg "InvalidTrain" = some (.ref A2)) (m3 : X.mg "InvalidMoment" = some (.ref A3)) (m4 : X.mg "UnknownWheel" = some (.ref A4)) (m5 : X.mg "UnknownPin" = some (.ref A5))
    (m6 : X.mg "InvalidNumber" = some (.ref A6)) (m7 : X.mg "DifferentTrains" = some (.ref A7)) (m8 : X.mg "TooLong" = some (.ref A8)) (m9 : X.mg "TooManyCandidates" = some (.ref A9)) (m10 : X.mg "Contradiction" = some (.ref A10)) (m11 : X.mg "InvalidSpeed" = some (.ref A11)) :
    LamX.GivesTo X N_L_told "_law_told" (defScope st_L_told) g cdg (defBody st_L_told) "_law_work" q (TTd X.K (trOf l)) := by
  refine told_gives3 (Ng := N_L_told) (sg := defScope st_L_told) (ie := 1) (n := "e") (e := "TrainError") (by decide +kernel) hTE (by decide) (fun f => rfl) (by decide +kernel) rfl (by decide +kernel) (fun cls r h => ?_) ?_
  · obtain ⟨C, j, e1, e2, e3⟩ := trOf_e h
    exact ⟨C, e1, (hl _ _ e2).e, by rw [e1]; exact (hl _ _ e2).x⟩
  intro s H a oe pn Dc r M hr' hc
  obtain ⟨C, j, e0, hm, er⟩ := trOf_e hr'
  cases e0
  subst er
  have kn := hl _ _ hm
  have hu : (suiteX X N_L_told "_law_told" (defScope st_L_told) g cdg s H a oe pn).A.units + 65 < cLine := by
    have h := (hr.deeper (PyProof.Rows.envOfC "_law_told" (defScope st_L_told) s.heap.objs.size g cdg)).un
    exact Nat.lt_of_le_of_lt (Nat.le_trans (Nat.add_le_add_left (by decide : 65 ≤ 200) _) (Nat.add_le_add_right (Nat.le_add_right _ (16 * (k + 1))) 200)) h
  obtain ⟨k0, k1, k2, k3, k4, k5, k6, k7, k8, k9, k10, k11, _⟩ := kn.k
  show SS _ PX0 _ [nn "_law_work", nv "e" (.ref a), nn "_law_some", nn "_law_terms", nn "_law_k", nn "_law_head"] M _
  refine ss_cons (s_asg (e_lst (a_cons (e_isEC hc mi (by walk_at "at") m0 k0 (a_cons (e_isEC hc mi (by walk_at "at") m1 k1 (a_cons (e_isEC hc mi (by walk_at "at") m2 k2 (a_nil ⟨by show (3 : Nat) ≤ 1000; decide, ?_⟩))))))))) 
  refine g_name (by walk_at "put") ?_
  refine ss_cons (s_asg (e_wOp .add (e_name (by walk_at "at") ?_)))
  refine (e_lst (a_cons (e_isEC hc mi (by walk_at "at") m3 k3 (a_cons (e_isEC hc mi (by walk_at "at") m4 k4 (a_cons (e_isEC hc mi (by walk_at "at") m5 k5 (a_nil ⟨by show (3 : Nat) ≤ 1000; decide, by show (6 : Nat) ≤ 100000; decide, ?_⟩))))))))
  refine g_name (by walk_at "put") ?_
  refine ss_cons (s_asg (e_wOp .add (e_name (by walk_at "at") ?_)))
  refine (e_lst (a_cons (e_isEC hc mi (by walk_at "at") m6 k6 (a_cons (e_isEC hc mi (by walk_at "at") m7 k7 (a_cons (e_isEC hc mi (by walk_at "at") m8 k8 (a_nil ⟨by show (3 : Nat) ≤ 1000; decide, by show (9 : Nat) ≤ 100000; decide, ?_⟩))))))))
  refine g_name (by walk_at "put") ?_
  refine ss_cons (s_asg (e_wOp .add (e_name (by walk_at "at") ?_)))
  refine (e_lst (a_cons (e_isEC hc mi (by walk_at "at") m9 k9 (a_cons (e_isEC hc mi (by walk_at "at") m10 k10 (a_cons (e_isEC hc mi (by walk_at "at") m11 k11 (a_nil ⟨by show (3 : Nat) ≤ 1000; decide, by show (12 : Nat) ≤ 100000; decide, ?_⟩))))))))
  refine g_name (by walk_at "put") ?_
  refine ss_cons (s_asg (e_lst (a_cons (e_str (a_cons (e_str (a_cons (e_str (a_cons (e_str (a_cons (e_str (a_cons (e_str (a_nil ⟨by decide, ?_⟩))))))))))))))) 
  refine g_name (by walk_at "put") ?_
  refine ss_cons (s_asg (e_wOp .addM (e_name (by walk_at "at") ?_)))
  refine (e_lst (a_cons (e_str (a_cons (e_str (a_cons (e_str (a_cons (e_str (a_cons (e_str (a_nil ⟨by show (5 : Nat) ≤ 1000; decide, by show (11 : Nat) ≤ 100000; decide, fun p hp => ?_⟩))))))))))))
  refine g_name (by walk_at "put") ?_
  refine ss_cons (s_expr (e_append (e_name (by walk_at "at") ⟨p, _, rfl, updM_same, e_str ⟨_, updM_same, by decide, ?_⟩⟩)))
  refine SS.frz (i := 3) rfl rfl updM_same ?_
  rw [updM_updM, delM_updM hp]
  show SS _ PX0 _ [nn "_law_work", nv "e" (.ref a), nv "_law_some" (.lst (hot12 j)), nv "_law_terms" (.lst [D.str "InvalidFaces", .str "OpenDisplay", .str "InvalidTrain", .str "InvalidMoment", .str "UnknownWheel", .str "UnknownPin", .str "InvalidNumber", .str "DifferentTrains", .str "TooLong", .str "TooManyCandidates", .str "Contradiction", .str "InvalidSpeed"]), nn "_law_k", nn "_law_head"] M _
  have nz : ∀ i, i < 3 → (decide ((j : Int) = i)) = false := fun i hi => decide_eq_false (by have := kn.lo; omega)
  refine ss_cons (s_asg (e_if (t_w (w_and (t_eqI (e_cnt hu (e_name (by walk_at "at") ?_)))))))
  refine ⟨trivial, e_bl ?_⟩
  unfold wSeqL
  refine hot_cnt kn.hi ?_
  refine e_int ⟨1, 1, rfl, rfl, ?_⟩
  refine ⟨fun _ => w_and1 (t_val (e_isET hc mi (by walk_at "at") mv rfl kn.v ?_)), fun z => nomatch z⟩
  refine ⟨true, rfl, fun _ => e_idx hu (e_name (by walk_at "at") ?_) rfl rfl rfl rfl, fun z => nomatch z⟩
  refine ⟨trivial, e_bl ?_⟩
  unfold wSeqL
  refine hot_idx kn.hi ?_
  refine g_name (by walk_at "put") ?_
  refine ss_cons (s_asg (e_tup (a_cons (e_str (a_cons (e_if (t_lt (e_name (by walk_at "at") ?_))))))))
  refine e_int ⟨_, _, rfl, rfl, fun _ => e_wIx (e_name (by walk_at "at") ?_) (fun _ _ => rfl), fun z => ?_⟩
  refine e_name (by walk_at "at") ?_
  · refine wSome_i (show atI _ _ = some (D.str (nm12.getD j "")) from ?_) (a_nil ⟨by show (2 : Nat) ≤ 1000; decide, ?_⟩)
    · have h : ∀ j, j < 12 → atI [D.str "InvalidFaces", .str "OpenDisplay", .str "InvalidTrain", .str "InvalidMoment", .str "UnknownWheel", .str "UnknownPin", .str "InvalidNumber", .str "DifferentTrains", .str "TooLong", .str "TooManyCandidates", .str "Contradiction", .str "InvalidSpeed"] (j : Nat) = some (D.str (nm12.getD j "")) := by
        intro j hj
        match j, hj with
        | 0, _ | 1, _ | 2, _ | 3, _ | 4, _ | 5, _ | 6, _ | 7, _ | 8, _ | 9, _ | 10, _ | 11, _ => rfl
      exact h j kn.hi
    refine g_name (by walk_at "put") ?_
    refine ss_cons (s_if (t_eqI (e_name (by walk_at "at") ?_)))
    refine e_int ⟨_, _, rfl, rfl, fun z => ?_, fun _ => ss_nil ?_⟩
    · rw [nz 0 (by decide)] at z; cases z
    refine ss_cons (s_if (t_eqI (e_name (by walk_at "at") ?_)))
    refine e_int ⟨_, _, rfl, rfl, fun z => ?_, fun _ => ss_nil ?_⟩
    · rw [nz 1 (by decide)] at z; cases z
    refine ss_cons (s_ret (e_wOp .add (e_name (by walk_at "at") ?_)))
    refine e_if (t_eqI (e_name (by walk_at "at") ?_))
    refine e_int ⟨_, _, rfl, rfl, fun z => ?_, fun _ => e_tup (a_nil ⟨by decide, ?_, rfl, rfl⟩)⟩
    rotate_left
    · show (2 : Nat) ≤ 100000; decide
    rw [nz 2 (by decide)] at z; cases z
  · have := of_decide_eq_false z
    have := kn.hi
    omega
def ir_law_8 : ISs := (.cons (.ret (.b false)) .nil)
def ir_law_11 : ISs := (.cons (.ret (.b false)) .nil)
def ir_law_10 : ISs := (.cons (.ifS (.and (.cons (.cmp .le (.bi .abs (.v 9)) (.op .pow (.n 10) (.n 18))) (.cons (.not (.call 7 (.cons (.v 6) (.cons (.call 5 (.cons (.v 3) (.cons (.v 4) (.cons (.v 9) .nil)))) .nil)))) .nil))) ir_law_11 .nil) .nil)
def ir_law_15 : ISs := (.cons (.ret (.b false)) .nil)
def ir_law_14 : ISs := (.cons (.ifS (.and (.cons (.cmp .eq (.op .mod (.bi .int (.v 8)) (.v 10)) (.n 0)) (.cons (.call 7 (.cons (.v 6) (.cons (.call 5 (.cons (.v 3) (.cons (.v 4) (.cons (.v 11) .nil)))) .nil))) .nil))) ir_law_15 .nil) .nil)
def ir_law_13 : ISs := (.cons (.asg (.t (.nm 11)) (.op .add (.v 5) (.op .div (.v 8) (.v 10)))) ir_law_14)
def ir_law_19 : ISs := (.cons (.ret (.b false)) .nil)
def ir_law_21 : ISs := (.cons (.ret (.b false)) .nil)
def ir_law_25 : ISs := (.cons (.ret (.b false)) .nil)
def ir_law_27 : ISs := (.cons (.ret (.b false)) .nil)
def ir_law_30 : ISs := (.cons (.ret (.b false)) .nil)
def ir_law_29 : ISs := (.cons (.ifS (.cmp .ne (.told (.call 9 (.cons (.v 3) (.cons (.v 4) (.cons (.v 6) (.cons (.v 17) .nil)))))) (.tup (.cons (.s "error") (.cons (.s "InvalidNumber") .nil)))) ir_law_30 .nil) .nil)
def ir_law_28 : ISs := (.cons (.asg (.t (.nm 17)) (.call 11 (.cons (.v 1) (.cons (.lst (.cons (.neg (.n 1)) (.cons .non (.cons (.b true) (.cons (.op .add (.op .pow (.n 10) (.n 18)) (.n 1)) .nil))))) .nil)))) ir_law_29)
def ir_law_26 : ISs := (.cons (.ifS (.cmp .ne (.call 10 (.cons (.v 3) (.cons (.v 4) (.cons (.v 6) (.cons (.v 15) (.cons (.v 12) .nil)))))) (.n 0)) ir_law_27 .nil) ir_law_28)
def ir_law_24 : ISs := (.cons (.ifS (.cmp .ne (.call 10 (.cons (.v 3) (.cons (.v 4) (.cons (.v 6) (.cons (.v 12) (.cons (.v 15) .nil)))))) (.v 16)) ir_law_25 .nil) ir_law_26)
def ir_law_23 : ISs := (.cons (.asg (.t (.nm 16)) (.ite (.cmp .gt (.v 15) (.v 14)) (.op .div (.op .sub (.op .add (.op .sub (.v 15) (.v 14)) (.v 8)) (.n 1)) (.v 8)) (.n 0))) ir_law_24)
def ir_law_22 : ISs := (.cons (.asg (.t (.nm 15)) (.op .add (.v 12) (.call 3 (.cons (.v 1) (.cons (.op .mul (.n 5) (.v 8)) .nil))))) ir_law_23)
def ir_law_20 : ISs := (.cons (.ifS (.cmp .ne (.call 9 (.cons (.v 3) (.cons (.v 4) (.cons (.v 6) (.cons (.v 13) .nil))))) (.op .add (.v 7) (.op .mul (.v 13) (.v 8)))) ir_law_21 .nil) ir_law_22)
def ir_law_18 : ISs := (.cons (.ifS (.cmp .ne (.call 8 (.cons (.v 3) (.cons (.v 4) (.cons (.v 6) (.cons (.v 12) .nil))))) (.v 14)) ir_law_19 .nil) ir_law_20)
def ir_law_17 : ISs := (.cons (.asg (.t (.nm 14)) (.op .add (.v 12) (.op .mod (.op .sub (.v 7) (.v 12)) (.v 8)))) ir_law_18)
def ir_law_16 : ISs := (.cons (.par 12 13 (.op .sub (.v 5) (.call 3 (.cons (.v 1) (.cons (.op .mul (.n 2) (.v 8)) .nil)))) (.call 3 (.cons (.v 1) (.cons (.n 1000) .nil)))) ir_law_17)
def ir_law_12 : ISs := (.cons (.for_ (.nm 10) (.seq (.lst (.cons (.n 2) (.cons (.n 3) (.cons (.n 5) (.cons (.n 7) (.cons (.n 11) (.cons (.n 13) (.cons (.n 17) (.cons (.n 19) (.cons (.n 23) (.cons (.n 29) (.cons (.n 31) (.cons (.n 37) .nil)))))))))))))) ir_law_13) ir_law_16)
def ir_law_9 : ISs := (.cons (.for_ (.nm 9) (.seq (.tup (.cons (.v 7) (.cons (.op .add (.v 7) (.v 8)) (.cons (.op .sub (.v 5) (.v 8)) (.cons (.op .add (.v 5) (.op .mul (.call 3 (.cons (.v 1) (.cons (.n 99) .nil))) (.v 8))) .nil)))))) ir_law_10) ir_law_12)
def ir_law_7 : ISs := (.cons (.ifS (.or (.cons (.not (.chn .le .lt (.n 0) (.v 7) (.v 8))) (.cons (.cmp .ne (.op .mod (.op .sub (.v 5) (.v 7)) (.v 8)) (.n 0)) .nil))) ir_law_8 .nil) ir_law_9)
def ir_law_6 : ISs := (.cons (.asg (.t (.tp (.cons (.nm 7) (.cons (.nm 8) .nil)))) (.call 6 (.cons (.v 3) (.cons (.v 4) (.cons (.v 6) .nil))))) ir_law_7)
def ir_law_5 : ISs := (.cons (.asg (.t (.nm 6)) (.call 4 (.cons (.v 1) (.cons (.v 3) (.cons (.call 5 (.cons (.v 3) (.cons (.v 4) (.cons (.v 5) .nil)))) .nil))))) ir_law_6)
def ir_law_4 : ISs := (.cons (.asg (.t (.tp (.cons (.nm 4) (.cons (.nm 5) .nil)))) (.tup (.cons (.call 2 (.cons (.v 1) (.cons (.v 3) .nil))) (.cons (.op .sub (.op .mul (.call 3 (.cons (.v 1) (.cons (.op .pow (.n 10) (.n 9)) .nil))) (.call 3 (.cons (.v 1) (.cons (.op .pow (.n 10) (.n 8)) .nil)))) (.call 3 (.cons (.v 1) (.cons (.op .pow (.n 10) (.n 9)) .nil)))) .nil)))) ir_law_5)
def ir_law_3 : ISs := (.cons (.asg (.t (.nm 3)) (.call 1 (.cons (.v 1) (.cons (.n 8) (.cons (.n 39) (.cons (.n 14) (.cons (.n 9) .nil))))))) ir_law_4)
def ir_law_31 : ISs := (.cons (.ret (.b true)) .nil)
def ir_law_2 : ISs := (.cons (.for_ (.nm 2) (.rng1 (.n 3)) ir_law_3) ir_law_31)
def ir_law_1 : ISs := (.cons (.asg (.t (.nm 1)) (.call 0 (.cons (.v 0) .nil))) ir_law_2)
def ir_law : ISs := ir_law_1
abbrev G_law : Gs' := { df := ["_law_dice", "_law_train", "_law_start", "_law_next", "_law_closed", "faces_at", "find_moments", "_law_fits", "next_moment", "nth_moment", "count_moments", "_law_pick"], bi := ["range", "abs", "int"], told := some "_law_told" }
abbrev Γ_law (X_InvalidNumber : Addr) (X_Pt : Addr) : Gm := { df := [spDice, spLTrain, spLStart, spNext, spDispC, spFacesAt, spFindM, spFits, spNextM, (spNthX X_InvalidNumber), spCount, spPickD], tb := some (X_Pt, "law.<locals>.<lambda>"), tr := trOf [(X_InvalidNumber, 6)] }
theorem c_law : chkSS G_law N_law (defScope st_law) ir_law (defBody st_law) = true := by decide +kernel
/-- the dice and the table of code objects -/
def DT (M : Mem) (a P : Addr) (q : Str) : Prop := DiceM M a ∧ M P = some (.tbl q)
theorem DT.set {M : Mem} {a P : Addr} {q : Str} {c : Cell} (h : DT M a P q) (hc : DiceC c) : DT (updM M a c) a P q := by
  obtain ⟨⟨c0, h1, h2⟩, h3⟩ := h
  refine ⟨.set hc, ?_⟩
  rw [updM_ne (fun z => ?_)]
  · exact h3
  · subst z
    obtain ⟨_, _, _, _, rfl, _⟩ := h2
    rw [h3] at h1; cases h1
theorem DT.ext {M M' : Mem} {a P : Addr} {q : Str} (h : DT M a P q) (e : Ext M M') : DT M' a P q := ⟨h.1.ext e, e _ _ h.2⟩
theorem tr_one {C : Addr} {j : Nat} : trOf [(C, j)] (.ref C) = some (.tup [.str "error", .str (nm12.getD j "")]) := by
  show (List.lookup C [(C, j)]).map _ = _
  rw [List.lookup_cons, show (C == C) = true from beq_self_eq_true C]; rfl
theorem mulB {i j : Int} (a b : Nat) (h : i.natAbs < 2 ^ a) (h' : j.natAbs < 2 ^ b) (ha : a ≤ 400000) (hb : b ≤ 400000) : CMul i j ∨ CMulW i j := mulS (nat_lt_pow 400000 h ha) (nat_lt_pow 400000 h' hb)
/-- the law's turn, behind the two loops -/
theorem turn_law {CN Pt : Addr} {R : QD} {RX : PXT} {ns : List Int} {a : Addr} {t : Train} {st : List Int} {th : Int} {dp : List (Option Int)} {g : Pg} {o2 o9 o10 o11 o12 o13 o14 o15 o16 o17 : Option D} {M : Mem} {nx bk ct : DL.KV} (ht : t.ok) (hst : StOk t st) (hdp : DpOk t dp) (hcl : Clo t (dpf dp)) (hI : PgI t st (dpf dp) t.cs.length g)
    (hM : DT M a Pt "law.<locals>.<lambda>") (th0 : -200000000000000000 ≤ th) (th1 : th ≤ 200000000000000000) (k : ∀ o12 o13 o14 o15 o16 o17 M', DT M' a Pt "law.<locals>.<lambda>" → nx [some (.rol (dints ns)), some (.ref a), o2, some (enc t), some (.tup (dints st)), some (.int th), some (.tup (dp.map encO)), some (.int g.first), some (.int g.per), o9, o10, o11, o12, o13, o14, o15, o16, o17] M') :
    wSS (Γ_law CN Pt) RX R ir_law_16 [some (.rol (dints ns)), some (.ref a), o2, some (enc t), some (.tup (dints st)), some (.int th), some (.tup (dp.map encO)), some (.int g.first), some (.int g.per), o9, o10, o11, o12, o13, o14, o15, o16, o17] M nx bk ct := by
  have p0 := hI.p0
  have hb := hI.pbig ht.n1
  have f0 := hI.f0
  have f1 := hI.f1
  have hN : ¬ NoMom t st dp := pg_mom hI
  refine ⟨mulL (by omega), a, _, rfl, hM.1, by omega, by omega, fun x c x0 x1 hc => ?_⟩
  have hM := hM.set hc
  generalize updM M a c = M1 at hM ⊢
  refine ⟨a, _, rfl, hM.1, by decide, by decide, fun y c y0 y1 hc => ?_⟩
  have hM := hM.set hc
  generalize updM M1 a c = M2 at hM ⊢
  obtain ⟨mo, hmo⟩ : ∃ mo, mo = th - x := ⟨_, rfl⟩
  rw [← hmo]
  have q0 := Int.emod_nonneg (g.first - mo) (show g.per ≠ 0 by omega)
  have q1 := Int.emod_lt_of_pos (g.first - mo) p0
  refine ⟨p0, ?_⟩
  obtain ⟨F, hF⟩ : ∃ F, F = mo + (g.first - mo) % g.per := ⟨_, rfl⟩
  have hdv : g.per ∣ F - g.first := by
    have := Int.dvd_self_sub_emod (x := g.first - mo) (m := g.per)
    have := Int.dvd_neg.mpr this
    rwa [show -(g.first - mo - (g.first - mo) % g.per) = F - g.first by omega] at this
  show wSS (Γ_law CN Pt) RX R ir_law_18 [some (.rol (dints ns)), some (.ref a), o2, some (enc t), some (.tup (dints st)), some (.int th), some (.tup (dp.map encO)), some (.int g.first), some (.int g.per), o9, o10, o11, some (.int mo), some (.int y), some (.int (mo + (g.first - mo) % g.per)), o15, o16, o17] M2 nx bk ct
  rw [← hF]
  refine ⟨t, st, dp, mo, rfl, ht, hst, hdp, hcl, by omega, by omega, fun d M3 hx3 hd => ?_⟩
  have hM := hM.ext hx3
  rcases hd with ⟨g', rfl, hI'⟩ | ⟨_, hz⟩
  rotate_left
  · exact absurd hz hN
  obtain ⟨e1, e2⟩ := hI.same hI' fun _ _ => rfl
  rw [← e1, ← e2, ← hF]
  refine wIf_df (fun z => z rfl) ?_
  refine ⟨t, st, dp, .int y, rfl, ht, hst, hdp, hcl, .inl ⟨y, rfl, by omega, by omega, fun d M4 hx4 hd => ?_⟩⟩
  have hM := hM.ext hx4
  rcases hd with ⟨g', rfl, hI'⟩ | ⟨_, hz⟩
  rotate_left
  · exact absurd hz hN
  obtain ⟨e1, e2⟩ := hI.same hI' fun _ _ => rfl
  rw [← e1, ← e2]
  refine ⟨mulL (by omega), ?_⟩
  refine wIf_df (fun z => z (by rw [Int.mul_comm])) ?_
  refine ⟨mulL (by decide), a, _, rfl, hM.1, by omega, by omega, fun z c z0 z1 hc => ?_⟩
  have hM := hM.set hc
  generalize updM M4 a c = M5 at hM ⊢
  obtain ⟨en, hen⟩ : ∃ en, en = mo + z := ⟨_, rfl⟩
  show wSS (Γ_law CN Pt) RX R ir_law_23 [some (.rol (dints ns)), some (.ref a), o2, some (enc t), some (.tup (dints st)), some (.int th), some (.tup (dp.map encO)), some (.int g.first), some (.int g.per), o9, o10, o11, some (.int mo), some (.int y), some (.int F), some (.int (mo + z)), o16, o17] M5 nx bk ct
  rw [← hen]
  refine ⟨fun d M6 => M6 = M5 ∧ d = .int (if F < en then (en - F + g.per - 1) / g.per else 0), wIf_d (fun h => ?_) (fun h => ?_), ?_⟩
  · refine ⟨divN p0 (nat_lt_pow (k := 60) 5000 (by omega) (by decide)), rfl, ?_⟩
    rw [if_pos h]
  · refine ⟨rfl, ?_⟩
    rw [if_neg h]
  rintro d M6 ⟨rfl, rfl⟩
  have hcnt : (if en ≤ mo then 0 else (en - 1 - g.first) / g.per - (mo - 1 - g.first) / g.per) = (if F < en then (en - F + g.per - 1) / g.per else 0) := by
    obtain ⟨q, hq⟩ := hdv
    have h2 : (mo - 1 - g.first) / g.per = q - 1 := ((Int.ediv_emod_unique (r := mo - 1 - g.first - g.per * (q - 1)) p0).mpr ⟨by omega, by rw [Int.mul_sub, Int.mul_one]; omega, by rw [Int.mul_sub, Int.mul_one]; omega⟩).1
    by_cases h : F < en
    · rw [if_pos h, if_neg (by omega), h2]
      have e3 : en - 1 - g.first = (en - F + g.per - 1) + g.per * (q - 1) := by rw [Int.mul_sub, Int.mul_one]; omega
      rw [e3, Int.add_mul_ediv_left _ _ (by omega)]
      omega
    · rw [if_neg h]
      by_cases h3 : en ≤ mo
      · rw [if_pos h3]
      · rw [if_neg h3, h2]
        have h4 : (en - 1 - g.first) / g.per = q - 1 := ((Int.ediv_emod_unique (r := en - 1 - g.first - g.per * (q - 1)) p0).mpr ⟨by omega, by rw [Int.mul_sub, Int.mul_one]; omega, by rw [Int.mul_sub, Int.mul_one]; omega⟩).1
        omega
  refine ⟨t, st, dp, mo, en, rfl, ht, hst, hdp, hcl, by omega, by omega, by omega, by omega, fun d M7 hx7 hd => ?_⟩
  have hM := hM.ext hx7
  rcases hd with ⟨g', rfl, hI'⟩ | ⟨_, hz⟩
  rotate_left
  · exact absurd hz hN
  obtain ⟨e1, e2⟩ := hI.same hI' fun _ _ => rfl
  rw [← e1, ← e2, hcnt]
  refine wIf_df (fun z => z rfl) ?_
  refine ⟨t, st, dp, en, mo, rfl, ht, hst, hdp, hcl, by omega, by omega, by omega, by omega, fun d M8 hx8 hd => ?_⟩
  have hM := hM.ext hx8
  rcases hd with ⟨g', rfl, hI'⟩ | ⟨_, hz⟩
  rotate_left
  · exact absurd hz hN
  rw [if_pos (show mo ≤ en by omega)]
  refine ⟨⟨by decide, by decide, by decide⟩, a, _, rfl, hM.1, (by show (0 : Nat) < 4; decide), (by show (4 : Nat) ≤ 1000; decide), fun b c hbm hc => ?_⟩
  have hM := hM.set hc
  generalize updM M8 a c = M9 at hM ⊢
  have hbad : b.tyn.isSome = true ∧ isInt b 0 1000000000000000000 = false := by
    simp only [List.mem_cons, List.not_mem_nil, or_false] at hbm
    rcases hbm with rfl | rfl | rfl | rfl
    · exact ⟨rfl, by decide⟩
    · exact ⟨rfl, by decide⟩
    · exact ⟨rfl, by decide⟩
    · exact ⟨rfl, by decide⟩
  refine ⟨⟨Pt, _, rfl, hM.2⟩, t, st, dp, b, rfl, ht, hst, hdp, hcl, .inr ⟨hbad.1, hbad.2, fun M10 hx10 => ?_⟩⟩
  have hM := hM.ext hx10
  refine ⟨_, tr_one, rfl, ?_⟩
  refine ⟨by decide +kernel, by decide +kernel, wIf_f (neT (by decide +kernel)) ?_⟩
  exact k _ _ _ _ _ _ _ hM
abbrev W_law : Prop := ∀  (X_InvalidNumber : Addr) (X_Pt : Addr)ds M R RX, (spLawT X_Pt "law.<locals>.<lambda>") ds M R RX → wSS (Γ_law X_InvalidNumber X_Pt) RX R ir_law (env0V 18 ds) M (kEnd R) kNo kNo
theorem w_law : W_law := by
  rintro CN Pt ds M R RX ⟨ns, rfl, hT, k⟩
  refine ⟨ns, rfl, fun a c ha hc => ?_⟩
  have hM : DT (updM M a c) a Pt "law.<locals>.<lambda>" := ⟨.set hc, by rw [updM_ne (fun z => by subst z; rw [ha] at hT; cases hT)]; exact hT⟩
  generalize updM M a c = M0 at hM ⊢
  refine ⟨⟨by decide, by decide⟩, fun i env' M' => (∃ o2 o3 o4 o5 o6 o7 o8 o9 o10 o11 o12 o13 o14 o15 o16 o17 : Option D, env' = [some (.rol (dints ns)), some (.ref a), o2, o3, o4, o5, o6, o7, o8, o9, o10, o11, o12, o13, o14, o15, o16, o17]) ∧ DT M' a Pt "law.<locals>.<lambda>", ⟨⟨_, _, _, _, _, _, _, _, _, _, _, _, _, _, _, _, rfl⟩, hM⟩, ?_, ?_⟩
  · clear hM hc
    rintro turn hi env' M1 ⟨⟨o2, o3, o4, o5, o6, o7, o8, o9, o10, o11, o12, o13, o14, o15, o16, o17, rfl⟩, hM⟩
    refine ⟨a, 8, 39, 14, 9, rfl, hM.1, by decide, by decide, by decide, by decide, by decide, by decide, by decide, by decide, fun t c hT hc => ?_⟩
    have ht := hT.ok
    have n8 := ht.n1
    have hM := hM.set hc
    generalize updM M1 a c = M2 at hM ⊢
    refine ⟨a, t, rfl, hM.1, ht, fun st c hst hc => ?_⟩
    have hM := hM.set hc
    generalize updM M2 a c = M3 at hM ⊢
    refine ⟨⟨by decide, by decide, by decide⟩, a, _, rfl, hM.1, by decide, by decide, fun x c x0 x1 hc => ?_⟩
    have x1 : x < 1000000000 := x1
    have hM := hM.set hc
    generalize updM M3 a c = M4 at hM ⊢
    refine ⟨⟨by decide, by decide, by decide⟩, a, _, rfl, hM.1, by decide, by decide, fun y c y0 y1 hc => ?_⟩
    have y1 : y < 100000000 := y1
    have hM := hM.set hc
    generalize updM M4 a c = M5 at hM ⊢
    refine ⟨mulL (by omega), ⟨by decide, by decide, by decide⟩, a, _, rfl, hM.1, by decide, by decide, fun z c z0 z1 hc => ?_⟩
    have z1 : z < 1000000000 := z1
    have hM := hM.set hc
    generalize updM M5 a c = M6 at hM ⊢
    have xy : 0 ≤ x * y ∧ x * y ≤ 1000000000 * 100000000 := ⟨Int.mul_nonneg x0 y0, Int.mul_le_mul (by omega) (by omega) y0 (by decide)⟩
    obtain ⟨th, hth⟩ : ∃ th, th = x * y - z := ⟨_, rfl⟩
    show wSS (Γ_law CN Pt) RX R ir_law_5 [some (.rol (dints ns)), some (.ref a), _, some (enc t), some (.tup (dints st)), some (.int (x * y - z)), o6, o7, o8, o9, o10, o11, o12, o13, o14, o15, o16, o17] M6 _ _ _
    rw [← hth]
    have th0 : -1000000000 ≤ th := by omega
    have th1 : th ≤ 100000000000000000 := by omega
    refine ⟨t, st, th, rfl, ht, hst, by omega, by omega, ?_⟩
    refine ⟨a, t, facesL t st th, rfl, hM.1, ht, facesL_ok ht _ _, fun dp c hdp hcl hag hc => ?_⟩
    have hM := hM.set hc
    generalize updM M6 a c = M7 at hM ⊢
    have hth : ∀ w, w < t.cs.length → ∀ f, dpf dp w = some f → face t st th w = f := fun w hw f hf => by rw [hag w f hf, facesL_get hw]
    refine ⟨t, st, dp, rfl, ht, hst, hdp, hcl, fun d M8 hx8 hd => ?_⟩
    have hM := hM.ext hx8
    rcases hd with ⟨g, rfl, hI⟩ | ⟨_, hz⟩
    rotate_left
    · exact absurd hth (hz th)
    have p0 := hI.p0
    have hb := hI.pbig n8
    have f0 := hI.f0
    have f1 := hI.f1
    have hdv := (hI.mom th).mp hth
    refine wIf_dt (show (0 : Int) ≤ g.first from f0) ?_
    refine wIf_f (by show (!decide (g.first < g.per)) = false; rw [decide_eq_true f1]; rfl) ?_
    refine ⟨p0, ?_⟩
    refine wIf_df (fun z => z (Int.emod_eq_zero_of_dvd hdv)) ?_
    refine ⟨a, _, rfl, hM.1, by decide, by decide, fun u c u0 u1 hc => ?_⟩
    have hM := hM.set hc
    generalize updM M8 a c = M9 at hM ⊢
    refine ⟨mulL (by omega), fun i env' M' => (∃ o2 o9 o10 o11 o12 o13 o14 o15 o16 o17 : Option D, env' = [some (.rol (dints ns)), some (.ref a), o2, some (enc t), some (.tup (dints st)), some (.int th), some (.tup (dp.map encO)), some (.int g.first), some (.int g.per), o9, o10, o11, o12, o13, o14, o15, o16, o17]) ∧ DT M' a Pt "law.<locals>.<lambda>", ⟨⟨_, _, _, _, _, _, _, _, _, _, rfl⟩, hM⟩, ?_, ?_⟩
    · clear hM
      rintro i hi env' M10 ⟨⟨o2, o9, o10, o11, o12, o13, o14, o15, o16, o17, rfl⟩, hM⟩
      have hk : ∀ (i : Nat) (hi : i < [D.int g.first, .int (g.first + g.per), .int (th - g.per), .int (th + u * g.per)].length), ∃ m, [D.int g.first, .int (g.first + g.per), .int (th - g.per), .int (th + u * g.per)][i] = .int m ∧ g.per ∣ m - g.first := by
        intro i hi
        match i, hi with
        | 0, _ => exact ⟨_, rfl, by rw [Int.sub_self]; exact Int.dvd_zero _⟩
        | 1, _ => exact ⟨_, rfl, by rw [show g.first + g.per - g.first = g.per by omega]; exact Int.dvd_refl _⟩
        | 2, _ => exact ⟨_, rfl, by rw [show th - g.per - g.first = th - g.first - g.per by omega]; exact Int.dvd_sub hdv (Int.dvd_refl _)⟩
        | 3, _ => exact ⟨_, rfl, by rw [show th + u * g.per - g.first = th - g.first + u * g.per by omega]; exact Int.dvd_add hdv (Int.dvd_mul_left _ _)⟩
        | i + 4, hi => exact absurd hi (by show ¬ i + 4 < 4; omega)
      obtain ⟨m, hm, hmd⟩ := hk i hi
      show wTg _ ([D.int g.first, .int (g.first + g.per), .int (th - g.per), .int (th + u * g.per)][i]) _ _
      rw [hm]
      refine ⟨⟨by decide, by decide, by decide⟩, ?_⟩
      refine wIf_d (fun h => ?_) (fun h => ⟨⟨_, _, _, _, _, _, _, _, _, _, rfl⟩, hM⟩)
      have h : ((m.natAbs : Nat) : Int) ≤ 1000000000000000000 := h
      refine ⟨t, st, m, rfl, ht, hst, by omega, by omega, ?_⟩
      refine ⟨facesL t st m, dp, rfl, by rw [facesL_len]; exact hdp.1, by rw [facesL_len]; exact n8, fun b hbb => ?_⟩
      have hbt : b = true := hbb.mpr fun w hw f hf => by
        rw [facesL_len] at hw
        rw [facesL_get hw]
        exact (hI.mom m).mpr hmd w hw f hf
      subst hbt
      exact ⟨⟨_, _, _, _, _, _, _, _, _, _, rfl⟩, hM⟩
    · clear hM
      rintro env' M10 ⟨⟨o2, o9, o10, o11, o12, o13, o14, o15, o16, o17, rfl⟩, hM⟩
      refine ⟨fun i env' M' => (∃ o2 o9 o10 o11 o12 o13 o14 o15 o16 o17 : Option D, env' = [some (.rol (dints ns)), some (.ref a), o2, some (enc t), some (.tup (dints st)), some (.int th), some (.tup (dp.map encO)), some (.int g.first), some (.int g.per), o9, o10, o11, o12, o13, o14, o15, o16, o17]) ∧ DT M' a Pt "law.<locals>.<lambda>", ⟨⟨_, _, _, _, _, _, _, _, _, _, rfl⟩, hM⟩, ?_, ?_⟩
      · clear hM
        rintro i hi env' M11 ⟨⟨o2, o9, o10, o11, o12, o13, o14, o15, o16, o17, rfl⟩, hM⟩
        have hk : ∀ (i : Nat) (hi : i < [D.int 2, .int 3, .int 5, .int 7, .int 11, .int 13, .int 17, .int 19, .int 23, .int 29, .int 31, .int 37].length), ∃ m : Int, [D.int 2, .int 3, .int 5, .int 7, .int 11, .int 13, .int 17, .int 19, .int 23, .int 29, .int 31, .int 37][i] = .int m ∧ 2 ≤ m ∧ m ≤ 37 := by
          intro i hi
          match i, hi with
          | 0, _ | 1, _ | 2, _ | 3, _ | 4, _ | 5, _ | 6, _ | 7, _ | 8, _ | 9, _ | 10, _ | 11, _ => exact ⟨_, rfl, by decide, by decide⟩
          | i + 12, hi => exact absurd hi (by show ¬ i + 12 < 12; omega)
        obtain ⟨m, hm, m0, m1⟩ := hk i hi
        show wTg _ ([D.int 2, .int 3, .int 5, .int 7, .int 11, .int 13, .int 17, .int 19, .int 23, .int 29, .int 31, .int 37][i]) _ _
        rw [hm]
        refine ⟨divS ⟨by omega, by omega⟩, ⟨by omega, ?_⟩⟩
        refine wIf_d (fun h => ?_) (fun h => ⟨⟨_, _, _, _, _, _, _, _, _, _, rfl⟩, hM⟩)
        have h : g.per % m = 0 := h
        obtain ⟨Q, hQ⟩ := Int.dvd_of_emod_eq_zero h
        have eQ : g.per / m = Q := by rw [hQ]; exact Int.mul_ediv_cancel_left _ (by omega)
        have Q0 : 0 < Q := by
          rcases Int.lt_or_le 0 Q with h | h
          · exact h
          · have := Int.mul_le_mul_of_nonneg_left h (show 0 ≤ m by omega)
            omega
        have Q1 : 2 * Q ≤ g.per := by rw [hQ]; exact Int.mul_le_mul_of_nonneg_right m0 (by omega)
        rw [eQ]
        refine ⟨t, st, th + Q, rfl, ht, hst, by omega, by omega, ?_⟩
        refine ⟨facesL t st (th + Q), dp, rfl, by rw [facesL_len]; exact hdp.1, by rw [facesL_len]; exact n8, fun b hbb => ?_⟩
        have hbf : b = false := Bool.eq_false_iff.mpr fun z => by
          have z := hbb.mp z
          have z2 := (hI.mom (th + Q)).mp fun w hw f hf => by
            rw [← facesL_get hw]
            exact z w (by rw [facesL_len]; exact hw) f hf
          have z3 := Int.dvd_sub z2 hdv
          rw [show th + Q - g.first - (th - g.first) = Q by omega] at z3
          have := Int.le_of_dvd Q0 z3
          omega
        subst hbf
        exact ⟨⟨_, _, _, _, _, _, _, _, _, _, rfl⟩, hM⟩
      · clear hM
        rintro env' M11 ⟨⟨o2, o9, o10, o11, o12, o13, o14, o15, o16, o17, rfl⟩, hM⟩
        exact turn_law ht hst hdp hcl hI hM (by omega) (by omega) fun _ _ _ _ _ _ M' hM => ⟨⟨_, _, _, _, _, _, _, _, _, _, _, _, _, _, _, _, rfl⟩, hM⟩
  · rintro env' M' ⟨⟨o2, o3, o4, o5, o6, o7, o8, o9, o10, o11, o12, o13, o14, o15, o16, o17, rfl⟩, hM⟩
    exact k _
theorem ok_law {X_InvalidNumber X_Pt c : Addr} {oc dV kV doc pm ct : Value} {od an : Option Addr} {osl : Array (Option Value)} (l : K.lookup f = some ⟨oc, od, .func (PySem.W.fnOf "law" "law" (defArgs st_law) (defBody st_law) (defScope st_law) dV kV doc pm an (.ref c) ct), osl⟩) (hcd : PySem.W.codeIn K (.ref c) "law" = true) (TB : LamX.TabB base mg c X_Pt) (D1 : Def P w K mg base "_law_dice" 1 spDice) (D2 : Def P w K mg base "_law_train" 3 spLTrain) (D3 : Def P w K mg base "_law_start" 2 spLStart) (D4 : Def P w K mg base "_law_next" 1 spNext) (D5 : Def P w K mg base "_law_closed" 2 spDispC) (D6 : Def P w K mg base "faces_at" 5 spFacesAt) (D7 : Def P w K mg base "find_moments" 5 spFindM) (D8 : Def P w K mg base "_law_fits" 1 spFits) (D9 : Def P w K mg base "next_moment" 6 spNextM) (D10 : Def P w K mg base "nth_moment" 6 (spNthX X_InvalidNumber)) (D11 : Def P w K mg base "count_moments" 6 spCount) (D12 : Def P w K mg base "_law_pick" 2 spPickD) (b_range : mg "range" = none) (b_abs : mg "abs" = none) (b_int : mg "int" = none) (T : ∀ X : Cx, X.prog = P → X.w = w → X.K = K → X.mg = mg → X.base = base → Teller X "_law_told" 6 (trOf [(X_InvalidNumber, 6)]) "law.<locals>.<lambda>") : FnOk P w K mg base (L2.CX P w) (6 + 2 + 1) f (PySem.W.fnOf "law" "law" (defArgs st_law) (defBody st_law) (defScope st_law) dV kV doc pm an (.ref c) ct) ["_law_script"] (lift K (spLawT X_Pt "law.<locals>.<lambda>")) :=
  wp_okT l hcd sc_law TB (Gn := G_law) (Γ := Γ_law X_InvalidNumber X_Pt) ⟨⟨b_range, b_abs, b_int, trivial⟩, trivial, ⟨⟨_, by decide, D1⟩, ⟨_, by decide, D2⟩, ⟨_, by decide, D3⟩, ⟨_, by decide, D4⟩, ⟨_, by decide, D5⟩, ⟨_, by decide, D6⟩, ⟨_, by decide, D7⟩, ⟨_, by decide, D8⟩, ⟨_, by decide, D9⟩, ⟨_, by decide, D10⟩, ⟨_, by decide, D11⟩, ⟨_, by decide, D12⟩, trivial⟩, trivial, trivial, fun _ _ z => z.elim, trivial, trivial, trivial⟩ rfl rfl (by decide +kernel) T c_law (fun ds M R RX h => by unfold spLawT at h; repeat (first | (obtain ⟨e, _⟩ := h; (rw [e]; done)) | (obtain ⟨e, _⟩ := h; (rw [e]; rfl)) | (rw [h]; rfl) | (obtain ⟨_, h⟩ := h))) (w_law X_InvalidNumber X_Pt)
end
/-! ### the end -/
theorem all_mk {l : PySem.W.OpenLaw} {w : World} {K : PySem.W.Frag} {h : Heap} {mg : Str → Option Value} {lv : List (Str × PySem.W.WData)} {fa C_Progression f1 f2 f3 f4 f5 f6 f7 f8 f9 f10 f11 f12 f13 f14 f15 f16 f17 f18 f19 f20 f21 f22 f23 f24 f25 f26 f27 f28 f29 f30 f31 f32 f33 f34 f35 : Addr} (X : K.In h) (G : h.Ns mainGlobals mg) (L : PySem.W.LooseAre lv mg h) (hfa : mg "law" = some (.ref fa)) {ts : List Addr} (hTs : ∀ P ∈ ts, h.get? P = some (PySem.W.tabObj #[])) {X_Pt cq : Addr}
    {X_Contradiction X_DifferentTrains X_InvalidFaces X_InvalidMoment X_InvalidNumber X_InvalidSpeed X_InvalidTrain X_OpenDisplay X_TooLong X_TooManyCandidates X_TrainError X_UnknownPin X_UnknownWheel : Addr}
    {od1 an1 od2 an2 od3 an3 od4 an4 od5 an5 od6 an6 od7 an7 od8 an8 od9 an9 od10 an10 od11 an11 od12 an12 od13 an13 od14 an14 od15 an15 od16 an16 od17 an17 od18 an18 od19 an19 od20 an20 od21 an21 od22 an22 od23 an23 od24 an24 od25 an25 od26 an26 od27 an27 od28 an28 od29 an29 od30 an30 od31 an31 od32 an32 od33 an33 od34 an34 od35 an35 : Option Addr} {sl1 sl2 sl3 sl4 sl5 sl6 sl7 sl8 sl9 sl10 sl11 sl12 sl13 sl14 sl15 sl16 sl17 sl18 sl19 sl20 sl21 sl22 sl23 sl24 sl25 sl26 sl27 sl28 sl29 sl30 sl31 sl32 sl33 sl34 sl35 : Array (Option Value)} {oc1 kV1 dc1 pm1 cd1 ct1 oc2 kV2 dc2 pm2 cd2 ct2 oc3 kV3 dc3 pm3 cd3 ct3 oc4 kV4 dc4 pm4 cd4 ct4 oc5 kV5 dc5 pm5 cd5 ct5 oc6 kV6 dc6 pm6 cd6 ct6 oc7 kV7 dc7 pm7 cd7 ct7 oc8 kV8 dc8 pm8 cd8 ct8 oc9 kV9 dc9 pm9 cd9 ct9 oc10 kV10 dc10 pm10 cd10 ct10 oc11 kV11 dc11 pm11 cd11 ct11 oc12 kV12 dc12 pm12 cd12 ct12 oc13 kV13 dc13 pm13 cd13 ct13 oc14 kV14 dc14 pm14 cd14 ct14 oc15 kV15 dc15 pm15 cd15 ct15 oc16 kV16 dc16 pm16 cd16 ct16 oc17 kV17 dc17 pm17 cd17 ct17 oc18 kV18 dc18 pm18 cd18 ct18 oc19 kV19 dc19 pm19 cd19 ct19 oc20 kV20 dc20 pm20 cd20 ct20 oc21 kV21 dc21 pm21 cd21 ct21 oc22 kV22 dc22 pm22 cd22 ct22 oc23 kV23 dc23 pm23 cd23 ct23 oc24 kV24 dc24 pm24 cd24 ct24 oc25 kV25 dc25 pm25 cd25 ct25 oc26 kV26 dc26 pm26 cd26 ct26 oc27 kV27 dc27 pm27 cd27 ct27 oc28 kV28 dc28 pm28 cd28 ct28 oc29 kV29 dc29 pm29 cd29 ct29 oc30 kV30 dc30 pm30 cd30 ct30 oc31 kV31 dc31 pm31 cd31 ct31 oc32 kV32 dc32 pm32 cd32 ct32 oc33 kV33 dc33 pm33 cd33 ct33 oc34 kV34 dc34 pm34 cd34 ct34 oc35 kV35 dc35 pm35 ct35 : Value}
    (x_Contradiction : PySem.W.nsIn K mainGlobals "Contradiction" = some (some (.ref X_Contradiction)))
    (x_DifferentTrains : PySem.W.nsIn K mainGlobals "DifferentTrains" = some (some (.ref X_DifferentTrains)))
    (x_InvalidFaces : PySem.W.nsIn K mainGlobals "InvalidFaces" = some (some (.ref X_InvalidFaces)))
    (x_InvalidMoment : PySem.W.nsIn K mainGlobals "InvalidMoment" = some (some (.ref X_InvalidMoment)))
    (x_InvalidNumber : PySem.W.nsIn K mainGlobals "InvalidNumber" = some (some (.ref X_InvalidNumber)))
    (x_InvalidSpeed : PySem.W.nsIn K mainGlobals "InvalidSpeed" = some (some (.ref X_InvalidSpeed)))
    (x_InvalidTrain : PySem.W.nsIn K mainGlobals "InvalidTrain" = some (some (.ref X_InvalidTrain)))
    (x_OpenDisplay : PySem.W.nsIn K mainGlobals "OpenDisplay" = some (some (.ref X_OpenDisplay)))
    (x_TooLong : PySem.W.nsIn K mainGlobals "TooLong" = some (some (.ref X_TooLong)))
    (x_TooManyCandidates : PySem.W.nsIn K mainGlobals "TooManyCandidates" = some (some (.ref X_TooManyCandidates)))
    (x_TrainError : PySem.W.nsIn K mainGlobals "TrainError" = some (some (.ref X_TrainError)))
    (x_UnknownPin : PySem.W.nsIn K mainGlobals "UnknownPin" = some (some (.ref X_UnknownPin)))
    (x_UnknownWheel : PySem.W.nsIn K mainGlobals "UnknownWheel" = some (some (.ref X_UnknownWheel)))
    (xq_InvalidNumber : PySem.W.excIn K X_InvalidNumber bmVE "ValueError.__new__" = true) (xk_InvalidNumber : PySem.W.keepIn K (.ref X_InvalidNumber) = true) (xb_InvalidNumber : PySem.W.subIn K (.ref X_InvalidNumber) (.type "BaseException") = some true) (xt_InvalidNumber : PySem.W.typeIn K (.ref X_InvalidNumber) = some (.type "type"))
    (y0_InvalidNumber : PySem.W.kitOne K (.ref X_InvalidNumber) (.ref X_InvalidFaces) = some false)
    (y1_InvalidNumber : PySem.W.kitOne K (.ref X_InvalidNumber) (.ref X_OpenDisplay) = some false)
    (y2_InvalidNumber : PySem.W.kitOne K (.ref X_InvalidNumber) (.ref X_InvalidTrain) = some false)
    (y3_InvalidNumber : PySem.W.kitOne K (.ref X_InvalidNumber) (.ref X_InvalidMoment) = some false)
    (y4_InvalidNumber : PySem.W.kitOne K (.ref X_InvalidNumber) (.ref X_UnknownWheel) = some false)
    (y5_InvalidNumber : PySem.W.kitOne K (.ref X_InvalidNumber) (.ref X_UnknownPin) = some false)
    (y6_InvalidNumber : PySem.W.kitOne K (.ref X_InvalidNumber) (.ref X_InvalidNumber) = some true)
    (y7_InvalidNumber : PySem.W.kitOne K (.ref X_InvalidNumber) (.ref X_DifferentTrains) = some false)
    (y8_InvalidNumber : PySem.W.kitOne K (.ref X_InvalidNumber) (.ref X_TooLong) = some false)
    (y9_InvalidNumber : PySem.W.kitOne K (.ref X_InvalidNumber) (.ref X_TooManyCandidates) = some false)
    (y10_InvalidNumber : PySem.W.kitOne K (.ref X_InvalidNumber) (.ref X_Contradiction) = some false)
    (y11_InvalidNumber : PySem.W.kitOne K (.ref X_InvalidNumber) (.ref X_InvalidSpeed) = some false)
    (yv_InvalidNumber : PySem.W.kitOne K (.ref X_InvalidNumber) (.type "ValueError") = some true) (yx_InvalidNumber : PySem.W.exmOne K (.ref X_InvalidNumber) (.ref X_TrainError) = some true)
    (e1_InvalidNumber : PySem.W.findIn K (.ref X_InvalidNumber) "__getattribute__" = some (some (.builtin "BaseException.__getattribute__"))) (e2_InvalidNumber : PySem.W.findIn K (.ref X_InvalidNumber) "__getattr__" = some none) (e3_InvalidNumber : PySem.W.hasDictIn K X_InvalidNumber = true) (e4_InvalidNumber : PySem.W.findIn K (.ref X_InvalidNumber) "__class__" = some (some (.builtin "object.__class__"))) (e5_InvalidNumber : PySem.W.mroIn K X_InvalidNumber (.type "object") = some true)
    (e6 : PySem.W.specialIn K (.builtin "object.__class__") "__get__" = some (some (.builtin "getset_descriptor.__get__"))) (e7 : PySem.W.takesIn K (.builtin "object.__class__") = some true) (mPt : X_Pt ∈ ts) (nPt : K.lookup X_Pt = none) (cPt : PySem.W.codeHdIn K cq X_Pt = true)
    {t_MAX_FACES t_MAX_PINS t_MAX_STEPS t_MAX_WHEELS t_MIN_FACES : Tok}
    (aC_Progression : PySem.W.nsIn K mainGlobals "Progression" = some (some (.ref C_Progression))) (pg_Progression : PySem.W.plainGet K C_Progression Str.empty = true) (hd_Progression : PySem.W.hasDictIn K C_Progression = true) (po_Progression : PySem.W.plainOver K C_Progression = true) (sa_Progression : PySem.W.findIn K (.ref C_Progression) "__setattr__" = some (some (.builtin "object.__setattr__"))) (mk_Progression : PySem.W.makesIn K C_Progression = true) (kc_Progression : PySem.W.keepIn K (.ref C_Progression) = true)
    (nA_Progression_changes : PySem.W.findIn K (.ref C_Progression) "changes" = some none)
    (nA_Progression_first : PySem.W.findIn K (.ref C_Progression) "first" = some none)
    (nA_Progression_period : PySem.W.findIn K (.ref C_Progression) "period" = some none)
    (nA_Progression_start : PySem.W.findIn K (.ref C_Progression) "start" = some none)
    (nA_Progression_train : PySem.W.findIn K (.ref C_Progression) "train" = some none)
    (a1 : PySem.W.nsIn K mainGlobals "_law_dice" = some (some (.ref f1)))
    (l1 : K.lookup f1 = some ⟨oc1, od1, .func (PySem.W.fnOf "_law_dice" "_law_dice" (defArgs st_L_dice) (defBody st_L_dice) (defScope st_L_dice) .none kV1 dc1 pm1 an1 cd1 ct1), sl1⟩) (c1 : PySem.W.codeIn K cd1 "_law_dice" = true) (k1 : PySem.W.keepIn K (.ref f1) = true)
    (a2 : PySem.W.nsIn K mainGlobals "_law_next" = some (some (.ref f2)))
    (l2 : K.lookup f2 = some ⟨oc2, od2, .func (PySem.W.fnOf "_law_next" "_law_next" (defArgs st_L_next) (defBody st_L_next) (defScope st_L_next) .none kV2 dc2 pm2 an2 cd2 ct2), sl2⟩) (c2 : PySem.W.codeIn K cd2 "_law_next" = true) (k2 : PySem.W.keepIn K (.ref f2) = true)
    (a3 : PySem.W.nsIn K mainGlobals "_law_pin" = some (some (.ref f3)))
    (l3 : K.lookup f3 = some ⟨oc3, od3, .func (PySem.W.fnOf "_law_pin" "_law_pin" (defArgs st_L_pin) (defBody st_L_pin) (defScope st_L_pin) .none kV3 dc3 pm3 an3 cd3 ct3), sl3⟩) (c3 : PySem.W.codeIn K cd3 "_law_pin" = true) (k3 : PySem.W.keepIn K (.ref f3) = true)
    (a4 : PySem.W.nsIn K mainGlobals "_law_train" = some (some (.ref f4)))
    (l4 : K.lookup f4 = some ⟨oc4, od4, .func (PySem.W.fnOf "_law_train" "_law_train" (defArgs st_L_train) (defBody st_L_train) (defScope st_L_train) .none kV4 dc4 pm4 an4 cd4 ct4), sl4⟩) (c4 : PySem.W.codeIn K cd4 "_law_train" = true) (k4 : PySem.W.keepIn K (.ref f4) = true)
    (a5 : PySem.W.nsIn K mainGlobals "_law_start" = some (some (.ref f5)))
    (l5 : K.lookup f5 = some ⟨oc5, od5, .func (PySem.W.fnOf "_law_start" "_law_start" (defArgs st_L_start) (defBody st_L_start) (defScope st_L_start) .none kV5 dc5 pm5 an5 cd5 ct5), sl5⟩) (c5 : PySem.W.codeIn K cd5 "_law_start" = true) (k5 : PySem.W.keepIn K (.ref f5) = true)
    (a6 : PySem.W.nsIn K mainGlobals "_law_closed" = some (some (.ref f6)))
    (l6 : K.lookup f6 = some ⟨oc6, od6, .func (PySem.W.fnOf "_law_closed" "_law_closed" (defArgs st_L_closed) (defBody st_L_closed) (defScope st_L_closed) .none kV6 dc6 pm6 an6 cd6 ct6), sl6⟩) (c6 : PySem.W.codeIn K cd6 "_law_closed" = true) (k6 : PySem.W.keepIn K (.ref f6) = true)
    (a7 : PySem.W.nsIn K mainGlobals "is_integer" = some (some (.ref f7)))
    (l7 : K.lookup f7 = some ⟨oc7, od7, .func (PySem.W.fnOf "is_integer" "is_integer" (defArgs st_is_integer) (defBody st_is_integer) (defScope st_is_integer) .none kV7 dc7 pm7 an7 cd7 ct7), sl7⟩) (c7 : PySem.W.codeIn K cd7 "is_integer" = true) (k7 : PySem.W.keepIn K (.ref f7) = true)
    (a8 : PySem.W.nsIn K mainGlobals "is_pin" = some (some (.ref f8)))
    (l8 : K.lookup f8 = some ⟨oc8, od8, .func (PySem.W.fnOf "is_pin" "is_pin" (defArgs st_is_pin) (defBody st_is_pin) (defScope st_is_pin) .none kV8 dc8 pm8 an8 cd8 ct8), sl8⟩) (c8 : PySem.W.codeIn K cd8 "is_pin" = true) (k8 : PySem.W.keepIn K (.ref f8) = true)
    (a9 : PySem.W.nsIn K mainGlobals "check_train" = some (some (.ref f9)))
    (l9 : K.lookup f9 = some ⟨oc9, od9, .func (PySem.W.fnOf "check_train" "check_train" (defArgs st_check_train) (defBody st_check_train) (defScope st_check_train) .none kV9 dc9 pm9 an9 cd9 ct9), sl9⟩) (c9 : PySem.W.codeIn K cd9 "check_train" = true) (k9 : PySem.W.keepIn K (.ref f9) = true)
    (a10 : PySem.W.nsIn K mainGlobals "check_display" = some (some (.ref f10)))
    (l10 : K.lookup f10 = some ⟨oc10, od10, .func (PySem.W.fnOf "check_display" "check_display" (defArgs st_check_display) (defBody st_check_display) (defScope st_check_display) .none kV10 dc10 pm10 an10 cd10 ct10), sl10⟩) (c10 : PySem.W.codeIn K cd10 "check_display" = true) (k10 : PySem.W.keepIn K (.ref f10) = true)
    (a11 : PySem.W.nsIn K mainGlobals "check_faces" = some (some (.ref f11)))
    (l11 : K.lookup f11 = some ⟨oc11, od11, .func (PySem.W.fnOf "check_faces" "check_faces" (defArgs st_check_faces) (defBody st_check_faces) (defScope st_check_faces) .none kV11 dc11 pm11 an11 cd11 ct11), sl11⟩) (c11 : PySem.W.codeIn K cd11 "check_faces" = true) (k11 : PySem.W.keepIn K (.ref f11) = true)
    (a12 : PySem.W.nsIn K mainGlobals "check_moment" = some (some (.ref f12)))
    (l12 : K.lookup f12 = some ⟨oc12, od12, .func (PySem.W.fnOf "check_moment" "check_moment" (defArgs st_check_moment) (defBody st_check_moment) (defScope st_check_moment) .none kV12 dc12 pm12 an12 cd12 ct12), sl12⟩) (c12 : PySem.W.codeIn K cd12 "check_moment" = true) (k12 : PySem.W.keepIn K (.ref f12) = true)
    (a13 : PySem.W.nsIn K mainGlobals "check_all" = some (some (.ref f13)))
    (l13 : K.lookup f13 = some ⟨oc13, od13, .func (PySem.W.fnOf "check_all" "check_all" (defArgs st_check_all) (defBody st_check_all) (defScope st_check_all) .none kV13 dc13 pm13 an13 cd13 ct13), sl13⟩) (c13 : PySem.W.codeIn K cd13 "check_all" = true) (k13 : PySem.W.keepIn K (.ref f13) = true)
    (a14 : PySem.W.nsIn K mainGlobals "passes" = some (some (.ref f14)))
    (l14 : K.lookup f14 = some ⟨oc14, od14, .func (PySem.W.fnOf "passes" "passes" (defArgs st_passes) (defBody st_passes) (defScope st_passes) .none kV14 dc14 pm14 an14 cd14 ct14), sl14⟩) (c14 : PySem.W.codeIn K cd14 "passes" = true) (k14 : PySem.W.keepIn K (.ref f14) = true)
    (a15 : PySem.W.nsIn K mainGlobals "total_steps" = some (some (.ref f15)))
    (l15 : K.lookup f15 = some ⟨oc15, od15, .func (PySem.W.fnOf "total_steps" "total_steps" (defArgs st_total_steps) (defBody st_total_steps) (defScope st_total_steps) .none kV15 dc15 pm15 an15 cd15 ct15), sl15⟩) (c15 : PySem.W.codeIn K cd15 "total_steps" = true) (k15 : PySem.W.keepIn K (.ref f15) = true)
    (a16 : PySem.W.nsIn K mainGlobals "faces_after" = some (some (.ref f16)))
    (l16 : K.lookup f16 = some ⟨oc16, od16, .func (PySem.W.fnOf "faces_after" "faces_after" (defArgs st_faces_after) (defBody st_faces_after) (defScope st_faces_after) .none kV16 dc16 pm16 an16 cd16 ct16), sl16⟩) (c16 : PySem.W.codeIn K cd16 "faces_after" = true) (k16 : PySem.W.keepIn K (.ref f16) = true)
    (a17 : PySem.W.nsIn K mainGlobals "faces_at" = some (some (.ref f17)))
    (l17 : K.lookup f17 = some ⟨oc17, od17, .func (PySem.W.fnOf "faces_at" "faces_at" (defArgs st_faces_at) (defBody st_faces_at) (defScope st_faces_at) .none kV17 dc17 pm17 an17 cd17 ct17), sl17⟩) (c17 : PySem.W.codeIn K cd17 "faces_at" = true) (k17 : PySem.W.keepIn K (.ref f17) = true)
    (a18 : PySem.W.nsIn K mainGlobals "drivers_of" = some (some (.ref f18)))
    (l18 : K.lookup f18 = some ⟨oc18, od18, .func (PySem.W.fnOf "drivers_of" "drivers_of" (defArgs st_drivers_of) (defBody st_drivers_of) (defScope st_drivers_of) .none kV18 dc18 pm18 an18 cd18 ct18), sl18⟩) (c18 : PySem.W.codeIn K cd18 "drivers_of" = true) (k18 : PySem.W.keepIn K (.ref f18) = true)
    (a19 : PySem.W.nsIn K mainGlobals "check_closed" = some (some (.ref f19)))
    (l19 : K.lookup f19 = some ⟨oc19, od19, .func (PySem.W.fnOf "check_closed" "check_closed" (defArgs st_check_closed) (defBody st_check_closed) (defScope st_check_closed) .none kV19 dc19 pm19 an19 cd19 ct19), sl19⟩) (c19 : PySem.W.codeIn K cd19 "check_closed" = true) (k19 : PySem.W.keepIn K (.ref f19) = true)
    (a20 : PySem.W.nsIn K mainGlobals "check_search" = some (some (.ref f20)))
    (l20 : K.lookup f20 = some ⟨oc20, od20, .func (PySem.W.fnOf "check_search" "check_search" (defArgs st_check_search) (defBody st_check_search) (defScope st_check_search) .none kV20 dc20 pm20 an20 cd20 ct20), sl20⟩) (c20 : PySem.W.codeIn K cd20 "check_search" = true) (k20 : PySem.W.keepIn K (.ref f20) = true)
    (a21 : PySem.W.findIn K (.ref C_Progression) "__init__" = some (some (.ref f21))) (i21 : PySem.W.isFn K (.ref f21) = true)
    (l21 : K.lookup f21 = some ⟨oc21, od21, .func (PySem.W.fnOf "__init__" "Progression.__init__" (defArgs st_Progression_init) (defBody st_Progression_init) (defScope st_Progression_init) .none kV21 dc21 pm21 an21 cd21 ct21), sl21⟩) (c21 : PySem.W.codeIn K cd21 "Progression.__init__" = true) (k21 : PySem.W.keepIn K (.ref f21) = true)
    (a22 : PySem.W.nsIn K mainGlobals "greatest_divisor" = some (some (.ref f22)))
    (l22 : K.lookup f22 = some ⟨oc22, od22, .func (PySem.W.fnOf "greatest_divisor" "greatest_divisor" (defArgs st_greatest_divisor) (defBody st_greatest_divisor) (defScope st_greatest_divisor) .none kV22 dc22 pm22 an22 cd22 ct22), sl22⟩) (c22 : PySem.W.codeIn K cd22 "greatest_divisor" = true) (k22 : PySem.W.keepIn K (.ref f22) = true)
    (a23 : PySem.W.findIn K (.ref C_Progression) "change_of" = some (some (.ref f23))) (i23 : PySem.W.isFn K (.ref f23) = true)
    (l23 : K.lookup f23 = some ⟨oc23, od23, .func (PySem.W.fnOf "change_of" "Progression.change_of" (defArgs st_Progression_change_of) (defBody st_Progression_change_of) (defScope st_Progression_change_of) .none kV23 dc23 pm23 an23 cd23 ct23), sl23⟩) (c23 : PySem.W.codeIn K cd23 "Progression.change_of" = true) (k23 : PySem.W.keepIn K (.ref f23) = true)
    (a24 : PySem.W.findIn K (.ref C_Progression) "face_rest" = some (some (.ref f24))) (i24 : PySem.W.isFn K (.ref f24) = true)
    (l24 : K.lookup f24 = some ⟨oc24, od24, .func (PySem.W.fnOf "face_rest" "Progression.face_rest" (defArgs st_Progression_face_rest) (defBody st_Progression_face_rest) (defScope st_Progression_face_rest) .none kV24 dc24 pm24 an24 cd24 ct24), sl24⟩) (c24 : PySem.W.codeIn K cd24 "Progression.face_rest" = true) (k24 : PySem.W.keepIn K (.ref f24) = true)
    (a25 : PySem.W.nsIn K mainGlobals "inverse_modulo" = some (some (.ref f25)))
    (l25 : K.lookup f25 = some ⟨oc25, od25, .func (PySem.W.fnOf "inverse_modulo" "inverse_modulo" (defArgs st_inverse_modulo) (defBody st_inverse_modulo) (defScope st_inverse_modulo) .none kV25 dc25 pm25 an25 cd25 ct25), sl25⟩) (c25 : PySem.W.codeIn K cd25 "inverse_modulo" = true) (k25 : PySem.W.keepIn K (.ref f25) = true)
    (a26 : PySem.W.findIn K (.ref C_Progression) "require" = some (some (.ref f26))) (i26 : PySem.W.isFn K (.ref f26) = true)
    (l26 : K.lookup f26 = some ⟨oc26, od26, .func (PySem.W.fnOf "require" "Progression.require" (defArgs st_Progression_require) (defBody st_Progression_require) (defScope st_Progression_require) .none kV26 dc26 pm26 an26 cd26 ct26), sl26⟩) (c26 : PySem.W.codeIn K cd26 "Progression.require" = true) (k26 : PySem.W.keepIn K (.ref f26) = true)
    (a27 : PySem.W.nsIn K mainGlobals "follow" = some (some (.ref f27)))
    (l27 : K.lookup f27 = some ⟨oc27, od27, .func (PySem.W.fnOf "follow" "follow" (defArgs st_follow) (defBody st_follow) (defScope st_follow) .none kV27 dc27 pm27 an27 cd27 ct27), sl27⟩) (c27 : PySem.W.codeIn K cd27 "follow" = true) (k27 : PySem.W.keepIn K (.ref f27) = true)
    (a28 : PySem.W.nsIn K mainGlobals "find_moments" = some (some (.ref f28)))
    (l28 : K.lookup f28 = some ⟨oc28, od28, .func (PySem.W.fnOf "find_moments" "find_moments" (defArgs st_find_moments) (defBody st_find_moments) (defScope st_find_moments) .none kV28 dc28 pm28 an28 cd28 ct28), sl28⟩) (c28 : PySem.W.codeIn K cd28 "find_moments" = true) (k28 : PySem.W.keepIn K (.ref f28) = true)
    (a29 : PySem.W.nsIn K mainGlobals "_law_fits" = some (some (.ref f29)))
    (l29 : K.lookup f29 = some ⟨oc29, od29, .func (PySem.W.fnOf "_law_fits" "_law_fits" (defArgs st_L_fits) (defBody st_L_fits) (defScope st_L_fits) .none kV29 dc29 pm29 an29 cd29 ct29), sl29⟩) (c29 : PySem.W.codeIn K cd29 "_law_fits" = true) (k29 : PySem.W.keepIn K (.ref f29) = true)
    (a30 : PySem.W.nsIn K mainGlobals "next_moment" = some (some (.ref f30)))
    (l30 : K.lookup f30 = some ⟨oc30, od30, .func (PySem.W.fnOf "next_moment" "next_moment" (defArgs st_next_moment) (defBody st_next_moment) (defScope st_next_moment) .none kV30 dc30 pm30 an30 cd30 ct30), sl30⟩) (c30 : PySem.W.codeIn K cd30 "next_moment" = true) (k30 : PySem.W.keepIn K (.ref f30) = true)
    (a31 : PySem.W.nsIn K mainGlobals "nth_moment" = some (some (.ref f31)))
    (l31 : K.lookup f31 = some ⟨oc31, od31, .func (PySem.W.fnOf "nth_moment" "nth_moment" (defArgs st_nth_moment) (defBody st_nth_moment) (defScope st_nth_moment) .none kV31 dc31 pm31 an31 cd31 ct31), sl31⟩) (c31 : PySem.W.codeIn K cd31 "nth_moment" = true) (k31 : PySem.W.keepIn K (.ref f31) = true)
    (a32 : PySem.W.nsIn K mainGlobals "count_moments" = some (some (.ref f32)))
    (l32 : K.lookup f32 = some ⟨oc32, od32, .func (PySem.W.fnOf "count_moments" "count_moments" (defArgs st_count_moments) (defBody st_count_moments) (defScope st_count_moments) .none kV32 dc32 pm32 an32 cd32 ct32), sl32⟩) (c32 : PySem.W.codeIn K cd32 "count_moments" = true) (k32 : PySem.W.keepIn K (.ref f32) = true)
    (a33 : PySem.W.nsIn K mainGlobals "_law_pick" = some (some (.ref f33)))
    (l33 : K.lookup f33 = some ⟨oc33, od33, .func (PySem.W.fnOf "_law_pick" "_law_pick" (defArgs st_L_pick) (defBody st_L_pick) (defScope st_L_pick) .none kV33 dc33 pm33 an33 cd33 ct33), sl33⟩) (c33 : PySem.W.codeIn K cd33 "_law_pick" = true) (k33 : PySem.W.keepIn K (.ref f33) = true)
    (a34 : PySem.W.nsIn K mainGlobals "_law_told" = some (some (.ref f34)))
    (l34 : K.lookup f34 = some ⟨oc34, od34, .func (PySem.W.fnOf "_law_told" "_law_told" (defArgs st_L_told) (defBody st_L_told) (defScope st_L_told) .none kV34 dc34 pm34 an34 cd34 ct34), sl34⟩) (c34 : PySem.W.codeIn K cd34 "_law_told" = true) (k34 : PySem.W.keepIn K (.ref f34) = true)
    (a35 : PySem.W.nsIn K mainGlobals "law" = some (some (.ref f35)))
    (l35 : K.lookup f35 = some ⟨oc35, od35, .func (PySem.W.fnOf "law" "law" (defArgs st_law) (defBody st_law) (defScope st_law) .none kV35 dc35 pm35 an35 (.ref cq) ct35), sl35⟩) (c35 : PySem.W.codeIn K (.ref cq) "law" = true) (k35 : PySem.W.keepIn K (.ref f35) = true)
    (z_ValueError : PySem.W.nsIn K mainGlobals "ValueError" = some none)
    (z_abs : PySem.W.nsIn K mainGlobals "abs" = some none)
    (z_bool : PySem.W.nsIn K mainGlobals "bool" = some none)
    (z_enumerate : PySem.W.nsIn K mainGlobals "enumerate" = some none)
    (z_int : PySem.W.nsIn K mainGlobals "int" = some none)
    (z_isinstance : PySem.W.nsIn K mainGlobals "isinstance" = some none)
    (z_len : PySem.W.nsIn K mainGlobals "len" = some none)
    (z_range : PySem.W.nsIn K mainGlobals "range" = some none)
    (z_sorted : PySem.W.nsIn K mainGlobals "sorted" = some none)
    (z_tuple : PySem.W.nsIn K mainGlobals "tuple" = some none)
    (z_zip : PySem.W.nsIn K mainGlobals "zip" = some none)
    (g_MAX_FACES : PySem.W.nsIn K mainGlobals "MAX_FACES" = some (some (.int 40 t_MAX_FACES)))
    (g_MAX_PINS : PySem.W.nsIn K mainGlobals "MAX_PINS" = some (some (.int 24 t_MAX_PINS)))
    (g_MAX_STEPS : PySem.W.nsIn K mainGlobals "MAX_STEPS" = some (some (.int 9 t_MAX_STEPS)))
    (g_MAX_WHEELS : PySem.W.nsIn K mainGlobals "MAX_WHEELS" = some (some (.int 8 t_MAX_WHEELS)))
    (g_MIN_FACES : PySem.W.nsIn K mainGlobals "MIN_FACES" = some (some (.int 2 t_MIN_FACES)))
    (m_MAX_MOMENT : (("MAX_MOMENT" : Str), PySem.W.WData.int 1000000000000000000) ∈ lv)
    : ∃ (fd : FuncData) (c Pt : Addr) (qn : Str), h.get? Pt = some { cls := .none, data := .fields #[] } ∧ K.lookup Pt = none ∧ PySem.W.CodeHd h c Pt ∧ (∀ (s : Shared) (v : Value), BindsTo s fd ⟨[v], []⟩ [("_law_script", v)]) ∧ ∀ base : Heap, K.In base → base.Ns mainGlobals mg → LamX.TabB base mg c Pt → FnOk l.prog w K mg base (L2.CX l.prog w) 9 fa fd ["_law_script"] (lift K (spLawT Pt qn)) := by
  have e := hfa.symm.trans (PySem.W.mg_of X G a35)
  cases e
  have cl_Progression : Cls K C_Progression := ⟨pg_Progression, hd_Progression, po_Progression, sa_Progression⟩
  have r_InvalidNumber : RCl K mg "InvalidNumber" X_InvalidNumber := ⟨PySem.W.mg_of X G x_InvalidNumber, xq_InvalidNumber, xk_InvalidNumber, xb_InvalidNumber, xt_InvalidNumber⟩
  have b_ValueError := PySem.W.mg_none_of X G z_ValueError
  have b_abs := PySem.W.mg_none_of X G z_abs
  have b_bool := PySem.W.mg_none_of X G z_bool
  have b_enumerate := PySem.W.mg_none_of X G z_enumerate
  have b_int := PySem.W.mg_none_of X G z_int
  have b_isinstance := PySem.W.mg_none_of X G z_isinstance
  have b_len := PySem.W.mg_none_of X G z_len
  have b_range := PySem.W.mg_none_of X G z_range
  have b_sorted := PySem.W.mg_none_of X G z_sorted
  have b_tuple := PySem.W.mg_none_of X G z_tuple
  have b_zip := PySem.W.mg_none_of X G z_zip
  have v_MAX_FACES : ∃ u, mg "MAX_FACES" = some u ∧ RelV (.int 40) u := ⟨_, PySem.W.mg_of X G g_MAX_FACES, _, rfl⟩
  have v_MAX_PINS : ∃ u, mg "MAX_PINS" = some u ∧ RelV (.int 24) u := ⟨_, PySem.W.mg_of X G g_MAX_PINS, _, rfl⟩
  have v_MAX_STEPS : ∃ u, mg "MAX_STEPS" = some u ∧ RelV (.int 9) u := ⟨_, PySem.W.mg_of X G g_MAX_STEPS, _, rfl⟩
  have v_MAX_WHEELS : ∃ u, mg "MAX_WHEELS" = some u ∧ RelV (.int 8) u := ⟨_, PySem.W.mg_of X G g_MAX_WHEELS, _, rfl⟩
  have v_MIN_FACES : ∃ u, mg "MIN_FACES" = some u ∧ RelV (.int 2) u := ⟨_, PySem.W.mg_of X G g_MIN_FACES, _, rfl⟩
  have v_MAX_MOMENT : ∃ u, mg "MAX_MOMENT" = some u ∧ RelV (.int 1000000000000000000) u := loose_int L m_MAX_MOMENT
  have F1 := fun_mk (st := st_L_dice) l1 c1 k1
  have B1 := F1.binds (ps := ["_law_script"]) fun _ _ _ _ _ _ us hl => match us, hl with | [_], _ => rfl
  have D1 : ∀ base : Heap, Def l.prog w K mg base "_law_dice" 1 spDice := fun base => def_mk (ok_dice F1 b_int b_len) (PySem.W.mg_of X G a1) k1 B1
  have F2 := fun_mk (st := st_L_next) l2 c2 k2
  have B2 := F2.binds (ps := ["_law_dice_here", "_law_many"]) fun _ _ _ _ _ _ us hl => match us, hl with | [_, _], _ => rfl
  have D2 : ∀ base : Heap, Def l.prog w K mg base "_law_next" 1 spNext := fun base => def_mk (ok_next F2 b_int b_len) (PySem.W.mg_of X G a2) k2 B2
  have F3 := fun_mk (st := st_L_pin) l3 c3 k3
  have B3 := F3.binds (ps := ["_law_d", "_law_faces", "_law_most"]) fun _ _ _ _ _ _ us hl => match us, hl with | [_, _, _], _ => rfl
  have D3 : ∀ base : Heap, Def l.prog w K mg base "_law_pin" 2 spLPin := fun base => def_mk (ok_lpin F3 (D2 base) b_len) (PySem.W.mg_of X G a3) k3 B3
  have F4 := fun_mk (st := st_L_train) l4 c4 k4
  have B4 := F4.binds (ps := ["_law_d", "_law_wheels", "_law_faces", "_law_pins", "_law_most"]) fun _ _ _ _ _ _ us hl => match us, hl with | [_, _, _, _, _], _ => rfl
  have D4 : ∀ base : Heap, Def l.prog w K mg base "_law_train" 3 spLTrain := fun base => def_mk (ok_ltrain F4 (D2 base) (D3 base) b_len b_range b_tuple) (PySem.W.mg_of X G a4) k4 B4
  have F5 := fun_mk (st := st_L_start) l5 c5 k5
  have B5 := F5.binds (ps := ["_law_d", "_law_train_here"]) fun _ _ _ _ _ _ us hl => match us, hl with | [_, _], _ => rfl
  have D5 : ∀ base : Heap, Def l.prog w K mg base "_law_start" 2 spLStart := fun base => def_mk (ok_lstart F5 (D2 base) b_tuple) (PySem.W.mg_of X G a5) k5 B5
  have F6 := fun_mk (st := st_L_closed) l6 c6 k6
  have B6 := F6.binds (ps := ["_law_d", "_law_train_here", "_law_faces"]) fun _ _ _ _ _ _ us hl => match us, hl with | [_, _, _], _ => rfl
  have D6 : ∀ base : Heap, Def l.prog w K mg base "_law_closed" 2 spDispC := fun base => def_mk (ok_L_closed F6 (D2 base) b_range b_len b_int b_tuple) (PySem.W.mg_of X G a6) k6 B6
  have F7 := fun_mk (st := st_is_integer) l7 c7 k7
  have B7 := F7.binds (ps := ["value", "low", "high"]) fun _ _ _ _ _ _ us hl => match us, hl with | [_, _, _], _ => rfl
  have D7 : ∀ base : Heap, Def l.prog w K mg base "is_integer" 1 spIsInt := fun base => def_mk (ok_isint F7 b_int b_bool b_isinstance) (PySem.W.mg_of X G a7) k7 B7
  have F8 := fun_mk (st := st_is_pin) l8 c8 k8
  have B8 := F8.binds (ps := ["faces", "pin"]) fun _ _ _ _ _ _ us hl => match us, hl with | [_, _], _ => rfl
  have D8 : ∀ base : Heap, Def l.prog w K mg base "is_pin" 2 spIsPin := fun base => def_mk (ok_ispin F8 (D7 base) b_len b_tuple b_isinstance v_MAX_STEPS) (PySem.W.mg_of X G a8) k8 B8
  have F9 := fun_mk (st := st_check_train) l9 c9 k9
  have B9 := F9.binds (ps := ["train"]) fun _ _ _ _ _ _ us hl => match us, hl with | [_], _ => rfl
  have D9 : ∀ base : Heap, Def l.prog w K mg base "check_train" 3 spTrain := fun base => def_mk (ok_ctrain F9 (D7 base) (D8 base) b_len b_tuple b_isinstance b_enumerate v_MAX_WHEELS v_MIN_FACES v_MAX_FACES v_MAX_PINS) (PySem.W.mg_of X G a9) k9 B9
  have F10 := fun_mk (st := st_check_display) l10 c10 k10
  have B10 := F10.binds (ps := ["train", "display"]) fun _ _ _ _ _ _ us hl => match us, hl with | [_, _], _ => rfl
  have D10 : ∀ base : Heap, Def l.prog w K mg base "check_display" 2 spDisp := fun base => def_mk (ok_cdisp F10 (D7 base) b_len b_tuple b_isinstance b_enumerate) (PySem.W.mg_of X G a10) k10 B10
  have F11 := fun_mk (st := st_check_faces) l11 c11 k11
  have B11 := F11.binds (ps := ["train", "display"]) fun _ _ _ _ _ _ us hl => match us, hl with | [_, _], _ => rfl
  have D11 : ∀ base : Heap, Def l.prog w K mg base "check_faces" 3 spFaces := fun base => def_mk (ok_cfaces F11 (D10 base)) (PySem.W.mg_of X G a11) k11 B11
  have F12 := fun_mk (st := st_check_moment) l12 c12 k12
  have B12 := F12.binds (ps := ["moment"]) fun _ _ _ _ _ _ us hl => match us, hl with | [_], _ => rfl
  have D12 : ∀ base : Heap, Def l.prog w K mg base "check_moment" 2 spMoment := fun base => def_mk (ok_cmom F12 (D7 base) v_MAX_MOMENT) (PySem.W.mg_of X G a12) k12 B12
  have F13 := fun_mk (st := st_check_all) l13 c13 k13
  have B13 := F13.binds (ps := ["train", "start", "moment"]) fun _ _ _ _ _ _ us hl => match us, hl with | [_, _, _], _ => rfl
  have D13 : ∀ base : Heap, Def l.prog w K mg base "check_all" 4 spAll := fun base => def_mk (ok_call F13 (D9 base) (D11 base) (D12 base)) (PySem.W.mg_of X G a13) k13 B13
  have F14 := fun_mk (st := st_passes) l14 c14 k14
  have B14 := F14.binds (ps := ["count", "start", "face", "steps"]) fun _ _ _ _ _ _ us hl => match us, hl with | [_, _, _, _], _ => rfl
  have D14 : ∀ base : Heap, Def l.prog w K mg base "passes" 1 spPasses := fun base => def_mk (ok_pas F14 ) (PySem.W.mg_of X G a14) k14 B14
  have F15 := fun_mk (st := st_total_steps) l15 c15 k15
  have B15 := F15.binds (ps := ["train", "start", "moment"]) fun _ _ _ _ _ _ us hl => match us, hl with | [_, _, _], _ => rfl
  have D15 : ∀ base : Heap, Def l.prog w K mg base "total_steps" 2 spTotal := fun base => def_mk (ok_total F15 (D14 base) b_len b_range) (PySem.W.mg_of X G a15) k15 B15
  have F16 := fun_mk (st := st_faces_after) l16 c16 k16
  have B16 := F16.binds (ps := ["train", "start", "moment"]) fun _ _ _ _ _ _ us hl => match us, hl with | [_, _, _], _ => rfl
  have D16 : ∀ base : Heap, Def l.prog w K mg base "faces_after" 3 spAfter := fun base => def_mk (ok_after F16 (D15 base) b_int b_zip b_tuple) (PySem.W.mg_of X G a16) k16 B16
  have F17 := fun_mk (st := st_faces_at) l17 c17 k17
  have B17 := F17.binds (ps := ["train", "start", "moment"]) fun _ _ _ _ _ _ us hl => match us, hl with | [_, _, _], _ => rfl
  have D17 : ∀ base : Heap, Def l.prog w K mg base "faces_at" 5 spFacesAt := fun base => def_mk (ok_facesat F17 (D13 base) (D16 base)) (PySem.W.mg_of X G a17) k17 B17
  have F18 := fun_mk (st := st_drivers_of) l18 c18 k18
  have B18 := F18.binds (ps := ["train", "wheel"]) fun _ _ _ _ _ _ us hl => match us, hl with | [_, _], _ => rfl
  have D18 : ∀ base : Heap, Def l.prog w K mg base "drivers_of" 1 spDrv := fun base => def_mk (ok_drv F18 b_sorted) (PySem.W.mg_of X G a18) k18 B18
  have F19 := fun_mk (st := st_check_closed) l19 c19 k19
  have B19 := F19.binds (ps := ["train", "display"]) fun _ _ _ _ _ _ us hl => match us, hl with | [_, _], _ => rfl
  have D19 : ∀ base : Heap, Def l.prog w K mg base "check_closed" 2 spClosed := fun base => def_mk (ok_closed F19 (D18 base) b_enumerate) (PySem.W.mg_of X G a19) k19 B19
  have F20 := fun_mk (st := st_check_search) l20 c20 k20
  have B20 := F20.binds (ps := ["train", "start", "display"]) fun _ _ _ _ _ _ us hl => match us, hl with | [_, _, _], _ => rfl
  have D20 : ∀ base : Heap, Def l.prog w K mg base "check_search" 4 spSearch := fun base => def_mk (ok_search F20 (D9 base) (D11 base) (D10 base) (D19 base)) (PySem.W.mg_of X G a20) k20 B20
  have F21 := fun_mk (st := st_Progression_init) l21 c21 k21
  have B21 := F21.binds (ps := ["self", "train", "start"]) fun _ _ _ _ _ _ us hl => match us, hl with | [_, _, _], _ => rfl
  have D21 : ∀ base : Heap, CDef l.prog w K mg base "Progression" C_Progression 1 (spPInit C_Progression) := fun base => ⟨_, _, _, ok_pinit F21 cl_Progression nA_Progression_train nA_Progression_start nA_Progression_first nA_Progression_period nA_Progression_changes, ⟨mk_Progression, a21, i21, kc_Progression⟩, B21, PySem.W.mg_of X G aC_Progression⟩
  have F22 := fun_mk (st := st_greatest_divisor) l22 c22 k22
  have B22 := F22.binds (ps := ["one", "other"]) fun _ _ _ _ _ _ us hl => match us, hl with | [_, _], _ => rfl
  have D22 : ∀ base : Heap, Def l.prog w K mg base "greatest_divisor" 1 spGcd := fun base => def_mk (ok_gcd F22 b_int b_abs) (PySem.W.mg_of X G a22) k22 B22
  have F23 := fun_mk (st := st_Progression_change_of) l23 c23 k23
  have B23 := F23.binds (ps := ["self", "wheel"]) fun _ _ _ _ _ _ us hl => match us, hl with | [_, _], _ => rfl
  have D23 : ∀ base : Heap, MDef l.prog w K mg base C_Progression "change_of" 1 (spChg C_Progression) := fun base => ⟨_, _, _, ok_pchg F23 cl_Progression nA_Progression_train nA_Progression_period nA_Progression_changes, ⟨a23, i23, k23⟩, B23⟩
  have F24 := fun_mk (st := st_Progression_face_rest) l24 c24 k24
  have B24 := F24.binds (ps := ["self", "wheel"]) fun _ _ _ _ _ _ us hl => match us, hl with | [_, _], _ => rfl
  have D24 : ∀ base : Heap, MDef l.prog w K mg base C_Progression "face_rest" 3 (spRest C_Progression) := fun base => ⟨_, _, _, ok_prest F24 cl_Progression nA_Progression_train nA_Progression_start nA_Progression_first b_int (D22 base) (D15 base) (D23 base), ⟨a24, i24, k24⟩, B24⟩
  have F25 := fun_mk (st := st_inverse_modulo) l25 c25 k25
  have B25 := F25.binds (ps := ["number", "modulus"]) fun _ _ _ _ _ _ us hl => match us, hl with | [_, _], _ => rfl
  have D25 : ∀ base : Heap, Def l.prog w K mg base "inverse_modulo" 1 spInv := fun base => def_mk (ok_inv F25 b_int) (PySem.W.mg_of X G a25) k25 B25
  have F26 := fun_mk (st := st_Progression_require) l26 c26 k26
  have B26 := F26.binds (ps := ["self", "wheel", "face"]) fun _ _ _ _ _ _ us hl => match us, hl with | [_, _, _], _ => rfl
  have D26 : ∀ base : Heap, MDef l.prog w K mg base C_Progression "require" 3 (spReq C_Progression) := fun base => ⟨_, _, _, ok_preq F26 cl_Progression nA_Progression_train nA_Progression_start nA_Progression_first nA_Progression_period nA_Progression_changes b_int (D22 base) (D15 base) (D25 base) (D23 base), ⟨a26, i26, k26⟩, B26⟩
  have F27 := fun_mk (st := st_follow) l27 c27 k27
  have B27 := F27.binds (ps := ["train", "start", "display"]) fun _ _ _ _ _ _ us hl => match us, hl with | [_, _, _], _ => rfl
  have D27 : ∀ base : Heap, Def l.prog w K mg base "follow" 4 (spFollow C_Progression) := fun base => def_mk (ok_follow F27 cl_Progression b_int b_enumerate (D21 base) (D24 base) (D26 base)) (PySem.W.mg_of X G a27) k27 B27
  have F28 := fun_mk (st := st_find_moments) l28 c28 k28
  have B28 := F28.binds (ps := ["train", "start", "display"]) fun _ _ _ _ _ _ us hl => match us, hl with | [_, _, _], _ => rfl
  have D28 : ∀ base : Heap, Def l.prog w K mg base "find_moments" 5 spFindM := fun base => def_mk (ok_findm F28 cl_Progression nA_Progression_first nA_Progression_period (D20 base) (D27 base)) (PySem.W.mg_of X G a28) k28 B28
  have F29 := fun_mk (st := st_L_fits) l29 c29 k29
  have B29 := F29.binds (ps := ["_law_display", "_law_faces"]) fun _ _ _ _ _ _ us hl => match us, hl with | [_, _], _ => rfl
  have D29 : ∀ base : Heap, Def l.prog w K mg base "_law_fits" 1 spFits := fun base => def_mk (ok_L_fits F29 b_range b_len) (PySem.W.mg_of X G a29) k29 B29
  have F30 := fun_mk (st := st_next_moment) l30 c30 k30
  have B30 := F30.binds (ps := ["train", "start", "display", "moment"]) fun _ _ _ _ _ _ us hl => match us, hl with | [_, _, _, _], _ => rfl
  have D30 : ∀ base : Heap, Def l.prog w K mg base "next_moment" 6 spNextM := fun base => def_mk (ok_nextm F30 b_int (D28 base) (D12 base)) (PySem.W.mg_of X G a30) k30 B30
  have F31 := fun_mk (st := st_nth_moment) l31 c31 k31
  have B31 := F31.binds (ps := ["train", "start", "display", "number"]) fun _ _ _ _ _ _ us hl => match us, hl with | [_, _, _, _], _ => rfl
  have D31 : ∀ base : Heap, Def l.prog w K mg base "nth_moment" 6 (spNthX X_InvalidNumber) := fun base => def_mk (ok_nth_moment F31 (D28 base) (D7 base) v_MAX_MOMENT r_InvalidNumber) (PySem.W.mg_of X G a31) k31 B31
  have F32 := fun_mk (st := st_count_moments) l32 c32 k32
  have B32 := F32.binds (ps := ["train", "start", "display", "begin", "end"]) fun _ _ _ _ _ _ us hl => match us, hl with | [_, _, _, _, _], _ => rfl
  have D32 : ∀ base : Heap, Def l.prog w K mg base "count_moments" 6 spCount := fun base => def_mk (ok_count_moments F32 (D28 base) (D12 base)) (PySem.W.mg_of X G a32) k32 B32
  have F33 := fun_mk (st := st_L_pick) l33 c33 k33
  have B33 := F33.binds (ps := ["_law_d", "_law_some"]) fun _ _ _ _ _ _ us hl => match us, hl with | [_, _], _ => rfl
  have D33 : ∀ base : Heap, Def l.prog w K mg base "_law_pick" 2 spPickD := fun base => def_mk (ok_L_pick F33 (D2 base) b_len) (PySem.W.mg_of X G a33) k33 B33
  have F34 := fun_mk (st := st_L_told) l34 c34 k34
  have B34 := F34.binds (ps := ["_law_work"]) fun _ _ _ _ _ _ us hl => match us, hl with | [_], _ => rfl
  refine ⟨PySem.W.fnOf "law" "law" (defArgs st_law) (defBody st_law) (defScope st_law) .none kV35 dc35 pm35 an35 (.ref cq) ct35, cq, X_Pt, "law.<locals>.<lambda>", hTs _ mPt, nPt, PySem.W.codeHd_of_K X cPt, fun s v => .of_eq rfl, ?_⟩
  · intro base kb nb TB
    have hK : ∀ C j, (C, j) ∈ [(X_InvalidNumber, 6)] → Knows K X_TrainError [X_InvalidFaces, X_OpenDisplay, X_InvalidTrain, X_InvalidMoment, X_UnknownWheel, X_UnknownPin, X_InvalidNumber, X_DifferentTrains, X_TooLong, X_TooManyCandidates, X_Contradiction, X_InvalidSpeed] C j := by
      intro C j hm; simp only [List.mem_cons, List.not_mem_nil, or_false, Prod.mk.injEq] at hm
      rcases hm with ⟨rfl, rfl⟩
      · exact ⟨by decide, by decide, ⟨y0_InvalidNumber, y1_InvalidNumber, y2_InvalidNumber, y3_InvalidNumber, y4_InvalidNumber, y5_InvalidNumber, y6_InvalidNumber, y7_InvalidNumber, y8_InvalidNumber, y9_InvalidNumber, y10_InvalidNumber, y11_InvalidNumber, trivial⟩, yv_InvalidNumber, ⟨e1_InvalidNumber, e2_InvalidNumber, xb_InvalidNumber, e3_InvalidNumber, e4_InvalidNumber, e6, e7, e5_InvalidNumber⟩, yx_InvalidNumber⟩
    have T : ∀ X : Cx, X.prog = l.prog → X.w = w → X.K = K → X.mg = mg → X.base = base → Teller X "_law_told" 6 (trOf [(X_InvalidNumber, 6)]) "law.<locals>.<lambda>" := by
      intro Z e1 e2 e3 e4 e5
      refine ⟨_, _, _, _, _, _, _, _, _, _, _, _, _, _, N_L_told, "_law_work", e4 ▸ PySem.W.mg_of X G a34, e3 ▸ k34, e3 ▸ l34, e3 ▸ c34, e3 ▸ B34, sc_L_told, rfl, .inl (by decide +kernel), by decide, by decide, fun hr => ok_L_told hr (e4 ▸ PySem.W.mg_of X G x_TrainError) (e3 ▸ hK) (e4 ▸ b_isinstance) (e4 ▸ b_ValueError) (e4 ▸ PySem.W.mg_of X G x_InvalidFaces) (e4 ▸ PySem.W.mg_of X G x_OpenDisplay) (e4 ▸ PySem.W.mg_of X G x_InvalidTrain) (e4 ▸ PySem.W.mg_of X G x_InvalidMoment) (e4 ▸ PySem.W.mg_of X G x_UnknownWheel) (e4 ▸ PySem.W.mg_of X G x_UnknownPin) (e4 ▸ PySem.W.mg_of X G x_InvalidNumber) (e4 ▸ PySem.W.mg_of X G x_DifferentTrains) (e4 ▸ PySem.W.mg_of X G x_TooLong) (e4 ▸ PySem.W.mg_of X G x_TooManyCandidates) (e4 ▸ PySem.W.mg_of X G x_Contradiction) (e4 ▸ PySem.W.mg_of X G x_InvalidSpeed)⟩
    exact ok_law l35 c35 TB (D1 base) (D4 base) (D5 base) (D2 base) (D6 base) (D17 base) (D28 base) (D29 base) (D30 base) (D31 base) (D32 base) (D33 base) b_range b_abs b_int T
end K04
open PySem PySem.W PyProof.Rows in
set_option maxRecDepth 100000 in
set_option maxHeartbeats 0 in
set_option pp.maxSteps 40 in
set_option pp.deepTerms false in
theorem PySem.Challenge.cw_pintrain_k04_far_moments_holds : PySem.Challenge.rw_pintrain_k04_far_moments.Holds := by
  w_on; o_law; k_head; (case hw => w_witness2)
  k_fill
  refine DL.walk_ofT (l := PySem.Challenge.rw_pintrain_k04_far_moments) (k := 9) (x := "_law_script") rfl rfl ⟨rfl, by decide, by decide⟩ (fun w h Y => PySem.W.km_in_of Y) ?F
  case F =>
    intro w mg fa h Y KX G L hmg
    refine' K04.all_mk KX G L hmg (PySem.W.km_tabs_of Y) ?x_Contradiction ?x_DifferentTrains ?x_InvalidFaces ?x_InvalidMoment ?x_InvalidNumber ?x_InvalidSpeed ?x_InvalidTrain ?x_OpenDisplay ?x_TooLong ?x_TooManyCandidates ?x_TrainError ?x_UnknownPin ?x_UnknownWheel ?xq_InvalidNumber ?xk_InvalidNumber ?xb_InvalidNumber ?xt_InvalidNumber ?y0_InvalidNumber ?y1_InvalidNumber ?y2_InvalidNumber ?y3_InvalidNumber ?y4_InvalidNumber ?y5_InvalidNumber ?y6_InvalidNumber ?y7_InvalidNumber ?y8_InvalidNumber ?y9_InvalidNumber ?y10_InvalidNumber ?y11_InvalidNumber ?yv_InvalidNumber ?yx_InvalidNumber ?e1_InvalidNumber ?e2_InvalidNumber ?e3_InvalidNumber ?e4_InvalidNumber ?e5_InvalidNumber ?e6 ?e7 ?mPt ?nPt ?cPt ?aC_Progression ?pg_Progression ?hd_Progression ?po_Progression ?sa_Progression ?mk_Progression ?kc_Progression ?nA_Progression_changes ?nA_Progression_first ?nA_Progression_period ?nA_Progression_start ?nA_Progression_train ?a1 ?l1 ?c1 ?k1 ?a2 ?l2 ?c2 ?k2 ?a3 ?l3 ?c3 ?k3 ?a4 ?l4 ?c4 ?k4 ?a5 ?l5 ?c5 ?k5 ?a6 ?l6 ?c6 ?k6 ?a7 ?l7 ?c7 ?k7 ?a8 ?l8 ?c8 ?k8 ?a9 ?l9 ?c9 ?k9 ?a10 ?l10 ?c10 ?k10 ?a11 ?l11 ?c11 ?k11 ?a12 ?l12 ?c12 ?k12 ?a13 ?l13 ?c13 ?k13 ?a14 ?l14 ?c14 ?k14 ?a15 ?l15 ?c15 ?k15 ?a16 ?l16 ?c16 ?k16 ?a17 ?l17 ?c17 ?k17 ?a18 ?l18 ?c18 ?k18 ?a19 ?l19 ?c19 ?k19 ?a20 ?l20 ?c20 ?k20 ?a21 ?i21 ?l21 ?c21 ?k21 ?a22 ?l22 ?c22 ?k22 ?a23 ?i23 ?l23 ?c23 ?k23 ?a24 ?i24 ?l24 ?c24 ?k24 ?a25 ?l25 ?c25 ?k25 ?a26 ?i26 ?l26 ?c26 ?k26 ?a27 ?l27 ?c27 ?k27 ?a28 ?l28 ?c28 ?k28 ?a29 ?l29 ?c29 ?k29 ?a30 ?l30 ?c30 ?k30 ?a31 ?l31 ?c31 ?k31 ?a32 ?l32 ?c32 ?k32 ?a33 ?l33 ?c33 ?k33 ?a34 ?l34 ?c34 ?k34 ?a35 ?l35 ?c35 ?k35 ?z_ValueError ?z_abs ?z_bool ?z_enumerate ?z_int ?z_isinstance ?z_len ?z_range ?z_sorted ?z_tuple ?z_zip ?g_MAX_FACES ?g_MAX_PINS ?g_MAX_STEPS ?g_MAX_WHEELS ?g_MIN_FACES ?m_MAX_MOMENT
    (case x_Contradiction => first | k_is | rfl | kernel_rfl)
    (case x_DifferentTrains => first | k_is | rfl | kernel_rfl)
    (case x_InvalidFaces => first | k_is | rfl | kernel_rfl)
    (case x_InvalidMoment => first | k_is | rfl | kernel_rfl)
    (case x_InvalidNumber => first | k_is | rfl | kernel_rfl)
    (case x_InvalidSpeed => first | k_is | rfl | kernel_rfl)
    (case x_InvalidTrain => first | k_is | rfl | kernel_rfl)
    (case x_OpenDisplay => first | k_is | rfl | kernel_rfl)
    (case x_TooLong => first | k_is | rfl | kernel_rfl)
    (case x_TooManyCandidates => first | k_is | rfl | kernel_rfl)
    (case x_TrainError => first | k_is | rfl | kernel_rfl)
    (case x_UnknownPin => first | k_is | rfl | kernel_rfl)
    (case x_UnknownWheel => first | k_is | rfl | kernel_rfl)
    (case xq_InvalidNumber => k_exc)
    (case xk_InvalidNumber => first | k_is | rfl | kernel_rfl)
    (case xb_InvalidNumber => first | k_is | rfl | kernel_rfl)
    (case xt_InvalidNumber => first | k_is | rfl | kernel_rfl)
    (case y0_InvalidNumber => first | k_is | rfl | kernel_rfl)
    (case y1_InvalidNumber => first | k_is | rfl | kernel_rfl)
    (case y2_InvalidNumber => first | k_is | rfl | kernel_rfl)
    (case y3_InvalidNumber => first | k_is | rfl | kernel_rfl)
    (case y4_InvalidNumber => first | k_is | rfl | kernel_rfl)
    (case y5_InvalidNumber => first | k_is | rfl | kernel_rfl)
    (case y6_InvalidNumber => first | k_is | rfl | kernel_rfl)
    (case y7_InvalidNumber => first | k_is | rfl | kernel_rfl)
    (case y8_InvalidNumber => first | k_is | rfl | kernel_rfl)
    (case y9_InvalidNumber => first | k_is | rfl | kernel_rfl)
    (case y10_InvalidNumber => first | k_is | rfl | kernel_rfl)
    (case y11_InvalidNumber => first | k_is | rfl | kernel_rfl)
    (case yv_InvalidNumber => first | k_is | rfl | kernel_rfl)
    (case yx_InvalidNumber => first | k_is | rfl | kernel_rfl)
    (case e1_InvalidNumber => first | k_is | rfl | kernel_rfl)
    (case e2_InvalidNumber => first | k_is | rfl | kernel_rfl)
    (case e3_InvalidNumber => first | k_is | rfl | kernel_rfl)
    (case e4_InvalidNumber => first | k_is | rfl | kernel_rfl)
    (case e5_InvalidNumber => first | k_is | rfl | kernel_rfl)
    (case e6 => first | k_is | rfl | kernel_rfl)
    (case e7 => first | k_is | rfl | kernel_rfl)
    (case mPt => exact List.mem_singleton.mpr rfl)
    (case nPt => first | rfl | kernel_rfl | decide +kernel)
    (case cPt => first | kernel_rfl | k_is)
    (case aC_Progression => k_is)
    (case pg_Progression => k_is)
    (case hd_Progression => k_is)
    (case po_Progression => k_is)
    (case sa_Progression => k_is)
    (case mk_Progression => k_is)
    (case kc_Progression => k_is)
    (case nA_Progression_changes => k_is)
    (case nA_Progression_first => k_is)
    (case nA_Progression_period => k_is)
    (case nA_Progression_start => k_is)
    (case nA_Progression_train => k_is)
    (case a1 => k_is)
    (case l1 => k_is)
    (case c1 => k_is)
    (case k1 => k_is)
    (case a2 => k_is)
    (case l2 => k_is)
    (case c2 => k_is)
    (case k2 => k_is)
    (case a3 => k_is)
    (case l3 => k_is)
    (case c3 => k_is)
    (case k3 => k_is)
    (case a4 => k_is)
    (case l4 => k_is)
    (case c4 => k_is)
    (case k4 => k_is)
    (case a5 => k_is)
    (case l5 => k_is)
    (case c5 => k_is)
    (case k5 => k_is)
    (case a6 => k_is)
    (case l6 => k_is)
    (case c6 => k_is)
    (case k6 => k_is)
    (case a7 => k_is)
    (case l7 => k_is)
    (case c7 => k_is)
    (case k7 => k_is)
    (case a8 => k_is)
    (case l8 => k_is)
    (case c8 => k_is)
    (case k8 => k_is)
    (case a9 => k_is)
    (case l9 => k_is)
    (case c9 => k_is)
    (case k9 => k_is)
    (case a10 => k_is)
    (case l10 => k_is)
    (case c10 => k_is)
    (case k10 => k_is)
    (case a11 => k_is)
    (case l11 => k_is)
    (case c11 => k_is)
    (case k11 => k_is)
    (case a12 => k_is)
    (case l12 => k_is)
    (case c12 => k_is)
    (case k12 => k_is)
    (case a13 => k_is)
    (case l13 => k_is)
    (case c13 => k_is)
    (case k13 => k_is)
    (case a14 => k_is)
    (case l14 => k_is)
    (case c14 => k_is)
    (case k14 => k_is)
    (case a15 => k_is)
    (case l15 => k_is)
    (case c15 => k_is)
    (case k15 => k_is)
    (case a16 => k_is)
    (case l16 => k_is)
    (case c16 => k_is)
    (case k16 => k_is)
    (case a17 => k_is)
    (case l17 => k_is)
    (case c17 => k_is)
    (case k17 => k_is)
    (case a18 => k_is)
    (case l18 => k_is)
    (case c18 => k_is)
    (case k18 => k_is)
    (case a19 => k_is)
    (case l19 => k_is)
    (case c19 => k_is)
    (case k19 => k_is)
    (case a20 => k_is)
    (case l20 => k_is)
    (case c20 => k_is)
    (case k20 => k_is)
    (case a21 => k_is)
    (case i21 => k_is)
    (case l21 => k_is)
    (case c21 => k_is)
    (case k21 => k_is)
    (case a22 => k_is)
    (case l22 => k_is)
    (case c22 => k_is)
    (case k22 => k_is)
    (case a23 => k_is)
    (case i23 => k_is)
    (case l23 => k_is)
    (case c23 => k_is)
    (case k23 => k_is)
    (case a24 => k_is)
    (case i24 => k_is)
    (case l24 => k_is)
    (case c24 => k_is)
    (case k24 => k_is)
    (case a25 => k_is)
    (case l25 => k_is)
    (case c25 => k_is)
    (case k25 => k_is)
    (case a26 => k_is)
    (case i26 => k_is)
    (case l26 => k_is)
    (case c26 => k_is)
    (case k26 => k_is)
    (case a27 => k_is)
    (case l27 => k_is)
    (case c27 => k_is)
    (case k27 => k_is)
    (case a28 => k_is)
    (case l28 => k_is)
    (case c28 => k_is)
    (case k28 => k_is)
    (case a29 => k_is)
    (case l29 => k_is)
    (case c29 => k_is)
    (case k29 => k_is)
    (case a30 => k_is)
    (case l30 => k_is)
    (case c30 => k_is)
    (case k30 => k_is)
    (case a31 => k_is)
    (case l31 => k_is)
    (case c31 => k_is)
    (case k31 => k_is)
    (case a32 => k_is)
    (case l32 => k_is)
    (case c32 => k_is)
    (case k32 => k_is)
    (case a33 => k_is)
    (case l33 => k_is)
    (case c33 => k_is)
    (case k33 => k_is)
    (case a34 => k_is)
    (case l34 => k_is)
    (case c34 => k_is)
    (case k34 => k_is)
    (case a35 => k_is)
    (case l35 => k_is)
    (case c35 => k_is)
    (case k35 => k_is)
    (case z_ValueError => k_is)
    (case z_abs => k_is)
    (case z_bool => k_is)
    (case z_enumerate => k_is)
    (case z_int => k_is)
    (case z_isinstance => k_is)
    (case z_len => k_is)
    (case z_range => k_is)
    (case z_sorted => k_is)
    (case z_tuple => k_is)
    (case z_zip => k_is)
    (case g_MAX_FACES => k_is)
    (case g_MAX_PINS => k_is)
    (case g_MAX_STEPS => k_is)
    (case g_MAX_WHEELS => k_is)
    (case g_MIN_FACES => k_is)
    (case m_MAX_MOMENT => exact List.mem_singleton.mpr rfl)
