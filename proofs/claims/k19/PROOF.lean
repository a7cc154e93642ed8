import PyProof.Rows.All
import Wide.All
import OpenK.AllK
import Wide.FinOn
import HandS.ForMost
import HandS.Deep
import HandS.TupAny
import HandS.TupSets
import HandS.Defaults
import HandS.Lambda
import KE.SortKeyHeap
import HandS.Conv
import KE.KStateDown
import HandS.Ends
import HandS.More
import HandS.Head0
import HandS.Head1
import HandS.Head2
import HandS.HeadEnd
import HandS.HeadHook1
import HandS.HeadHook2
import HandS.HeadHook3
import HandS.HeadHook4
import HandS.HeadWalk
import PySem.Challenge.RW_foldkeep_k19_whole_devices_come_to_know
set_option Elab.async false
set_option linter.all false
set_option maxRecDepth 100000
set_option maxHeartbeats 0
/-! The data layer: values as trees of data (Da), mutable cells in a store (Mem); judgements over the hand layer. -/
namespace DL
open PySem L2
/-- data: immutable trees; loc a: the mutable cell at a -/
inductive Da where
  | non | bl (b : Bool) | int (i : Int) | str (s : Str) | tup (xs : List Da) | lst (xs : List Da) | loc (a : Addr) | seq (K : PySem.W.Frag) (ns : List Int)
mutual
/-- v stands for the data d in the heap H -/
def Dr (H : Hp) : Da → V → Prop
  | .non, v => v = .non
  | .bl b, v => v = .bl b
  | .int i, v => v = .int i
  | .str s, v => v = .str s
  | .tup ds, v => ∃ a vs, v = .ref a ∧ H a = some (.tup vs) ∧ DrAll H ds vs
  | .lst ds, v => ∃ a vs, v = .ref a ∧ H a = some (.lst vs) ∧ DrAll H ds vs
  | .loc a, v => v = .ref a
  | .seq K ns, v => ∃ a, v = .ref a ∧ (SqL K H a (ns.map V.int) ∨ SqT K H a (ns.map V.int))
def DrAll (H : Hp) : List Da → List V → Prop
  | [], vs => vs = []
  | d :: ds, vs => ∃ v r, vs = v :: r ∧ Dr H d v ∧ DrAll H ds r
end
theorem same_T {K : PySem.W.Frag} {H H' : Hp} {a : Addr} {xs : List V} (e : Same H H') (h : SqT K H a xs) : SqT K H' a xs :=
  h.imp (fun z => z.imp (e _ _) fun ⟨o, q⟩ => ⟨o, e _ _ q⟩) id
mutual
theorem Dr.mono {H H' : Hp} (e : Same H H') : ∀ {d : Da} {v : V}, Dr H d v → Dr H' d v
  | .non, _, h => h
  | .bl _, _, h => h
  | .int _, _, h => h
  | .str _, _, h => h
  | .tup _, _, ⟨a, vs, h1, h2, h3⟩ => ⟨a, vs, h1, e _ _ h2, DrAll.mono e h3⟩
  | .lst _, _, ⟨a, vs, h1, h2, h3⟩ => ⟨a, vs, h1, e _ _ h2, DrAll.mono e h3⟩
  | .loc _, _, h => h
  | .seq _ _, _, ⟨a, h1, h2⟩ => ⟨a, h1, h2.imp e.seq (same_T e)⟩
theorem DrAll.mono {H H' : Hp} (e : Same H H') : ∀ {ds : List Da} {vs : List V}, DrAll H ds vs → DrAll H' ds vs
  | [], _, h => h
  | _ :: _, _, ⟨v, r, h1, h2, h3⟩ => ⟨v, r, h1, Dr.mono e h2, DrAll.mono e h3⟩
end
theorem DrAll.length {H : Hp} : ∀ {ds : List Da} {vs : List V}, DrAll H ds vs → vs.length = ds.length
  | [], _, h => by cases h; rfl
  | _ :: _, _, ⟨v, r, h1, _, h3⟩ => by subst h1; simp [DrAll.length h3]
theorem DrAll.get {H : Hp} : ∀ {ds : List Da} {vs : List V} {i : Nat} {d : Da}, DrAll H ds vs → ds[i]? = some d → ∃ v, vs[i]? = some v ∧ Dr H d v
  | [], _, _, _, _, e => by simp at e
  | _ :: _, _, 0, _, ⟨v, r, h1, h2, _⟩, e => by
    subst h1; simp at e; subst e; exact ⟨v, rfl, h2⟩
  | _ :: _, _, i + 1, _, ⟨v, r, h1, _, h3⟩, e => by
    subst h1
    obtain ⟨w, e1, e2⟩ := DrAll.get (i := i) h3 (by simpa using e)
    exact ⟨w, by simpa using e1, e2⟩
theorem DrAll.app {H : Hp} : ∀ {ds es : List Da} {vs ws : List V}, DrAll H ds vs → DrAll H es ws → DrAll H (ds ++ es) (vs ++ ws)
  | [], _, _, _, h, k => by cases h; exact k
  | _ :: _, _, _, _, ⟨v, r, h1, h2, h3⟩, k => by subst h1; exact ⟨v, _, rfl, h2, DrAll.app h3 k⟩
theorem DrAll.one {H : Hp} {d : Da} {v : V} (h : Dr H d v) : DrAll H [d] [v] := ⟨v, [], rfl, h, rfl⟩
theorem DrAll.set {H : Hp} : ∀ {ds : List Da} {vs : List V} {d : Da} {v : V} (i : Nat), DrAll H ds vs → Dr H d v → DrAll H (ds.set i d) (vs.set i v)
  | [], _, _, _, _, h, _ => by cases h; rfl
  | _ :: _, _, _, _, 0, ⟨w, r, h1, _, h3⟩, k => by subst h1; exact ⟨_, _, rfl, k, h3⟩
  | _ :: _, _, _, _, i + 1, ⟨w, r, h1, h2, h3⟩, k => by subst h1; exact ⟨_, _, rfl, h2, DrAll.set i h3 k⟩
theorem DrAll.drop {H : Hp} : ∀ {ds : List Da} {vs : List V} (n : Nat), DrAll H ds vs → DrAll H (ds.drop n) (vs.drop n)
  | _, _, 0, h => h
  | [], _, _ + 1, h => by cases h; rfl
  | _ :: _, _, n + 1, ⟨w, r, h1, _, h3⟩ => by subst h1; exact DrAll.drop n h3
theorem DrAll.take {H : Hp} : ∀ {ds : List Da} {vs : List V} (n : Nat), DrAll H ds vs → DrAll H (ds.take n) (vs.take n)
  | _, _, 0, h => by simp [DrAll]
  | [], _, _ + 1, h => by cases h; rfl
  | _ :: _, _, n + 1, ⟨w, r, h1, h2, h3⟩ => by subst h1; exact ⟨_, _, rfl, h2, DrAll.take n h3⟩
/-! ### the store -/
inductive Cell where
  | lst (ds : List Da)
  | ins (C : Addr) (fs : List (Str × Da))
  | tab (q : Str)
abbrev Mem := Addr → Option Cell
def Mem.put (m : Mem) (a : Addr) (c : Cell) : Mem := fun b => if b = a then some c else m b
def Mem.del (m : Mem) (a : Addr) : Mem := fun b => if b = a then none else m b
theorem Mem.put_same {m : Mem} {a : Addr} {c : Cell} : m.put a c a = some c := if_pos rfl
theorem Mem.put_ne {m : Mem} {a b : Addr} {c : Cell} (h : b ≠ a) : m.put a c b = m b := if_neg h
theorem Mem.put_put {m : Mem} {a : Addr} {c c' : Cell} : (m.put a c).put a c' = m.put a c' := by
  funext b; unfold Mem.put; split <;> rfl
theorem Mem.del_put {m : Mem} {a : Addr} {c : Cell} (h : m a = none) : (m.put a c).del a = m := by
  funext b; unfold Mem.put Mem.del
  by_cases e : b = a
  · rw [if_pos e, e, h]
  · rw [if_neg e]; exact if_neg e
theorem Mem.put_self {m : Mem} {a : Addr} {c : Cell} (h : m a = some c) : m.put a c = m := by
  funext b; unfold Mem.put; split
  · rename_i e; rw [e, h]
  · rfl
theorem Mem.put_comm {m : Mem} {a b : Addr} {c d : Cell} (h : a ≠ b) : (m.put a c).put b d = (m.put b d).put a c := by
  funext x; unfold Mem.put
  by_cases h1 : x = b
  · by_cases h2 : x = a
    · exact absurd (h2.symm.trans h1) h
    · rw [if_pos h1, if_neg h2, if_pos h1]
  · rw [if_neg h1]
    by_cases h2 : x = a
    · rw [if_pos h2, if_pos h2]
    · rw [if_neg h2, if_neg h2, if_neg h1]
/-- the heap without the cells -/
def hide (m : Mem) (H : Hp) : Hp := fun b => match m b with
  | some _ => none
  | none => H b
theorem hide_none {m : Mem} {H : Hp} {b : Addr} (h : m b = none) : hide m H b = H b := by unfold hide; rw [h]
theorem hide_some {m : Mem} {H : Hp} {b : Addr} {c : Cell} (h : m b = some c) : hide m H b = none := by unfold hide; rw [h]
theorem hide_sub {m : Mem} {H : Hp} : Same (hide m H) H := fun b o e => by
  cases h : m b with
  | none => rw [hide_none h] at e; exact e
  | some c => rw [hide_some h] at e; cases e
theorem hide_put_ex {m : Mem} {H : Hp} {a : Addr} {c c' : Cell} (h : m a = some c') : hide (m.put a c) H = hide m H := by
  funext b
  by_cases e : b = a
  · subst e; rw [hide_some Mem.put_same, hide_some h]
  · unfold hide; rw [Mem.put_ne e]
theorem hide_upd {m : Mem} {H : Hp} {a : Addr} {c : Cell} {o : HO} (h : m a = some c) : hide m (upd H a o) = hide m H := by
  funext b
  by_cases e : b = a
  · subst e; rw [hide_some h, hide_some h]
  · unfold hide; rw [upd_ne e]
theorem hide_new {m : Mem} {H : Hp} {p : Addr} {o : HO} (h : H p = none) : Same (hide m H) (hide m (upd H p o)) := fun b u e => by
  cases q : m b with
  | some c => rw [hide_some q] at e; cases e
  | none =>
    rw [hide_none q] at e ⊢
    rw [upd_ne (ne_of_none e h)]; exact e
theorem hide_put_new {m : Mem} {H : Hp} {p : Addr} {o : HO} {c : Cell} (h : H p = none) : Same (hide m H) (hide (m.put p c) (upd H p o)) := fun b u e => by
  cases q : m b with
  | some c => rw [hide_some q] at e; cases e
  | none =>
    rw [hide_none q] at e
    have ne := ne_of_none e h
    rw [hide_none (by rw [Mem.put_ne ne]; exact q), upd_ne ne]; exact e
theorem hide_del {m : Mem} {H : Hp} {a : Addr} : Same (hide m H) (hide (m.del a) H) := fun b u e => by
  cases q : m b with
  | some c => rw [hide_some q] at e; cases e
  | none =>
    rw [hide_none q] at e
    rw [hide_none (by unfold Mem.del; split <;> first | rfl | exact q)]; exact e
def DrF (H : Hp) : List (Str × Da) → List (Str × V) → Prop
  | [], gs => gs = []
  | (x, d) :: fs, gs => ∃ v r, gs = (x, v) :: r ∧ Dr H d v ∧ DrF H fs r
theorem DrF.mono {H H' : Hp} (e : Same H H') : ∀ {fs : List (Str × Da)} {gs : List (Str × V)}, DrF H fs gs → DrF H' fs gs
  | [], _, h => h
  | _ :: _, _, ⟨v, r, h1, h2, h3⟩ => ⟨v, r, h1, h2.mono e, DrF.mono e h3⟩
theorem DrF.length {H : Hp} : ∀ {fs : List (Str × Da)} {gs : List (Str × V)}, DrF H fs gs → gs.length = fs.length
  | [], _, h => by cases h; rfl
  | _ :: _, _, ⟨v, r, h1, _, h3⟩ => by subst h1; simp [DrF.length h3]
theorem DrF.look {H : Hp} {f : Str} : ∀ {fs : List (Str × Da)} {gs : List (Str × V)} {d : Da}, DrF H fs gs → fs.lookup f = some d → ∃ v, gs.lookup f = some v ∧ Dr H d v
  | [], _, _, _, e => by simp [List.lookup] at e
  | (x, d0) :: fs, _, d, ⟨v, r, h1, h2, h3⟩, e => by
    subst h1
    by_cases q : (f == x) = true
    · simp only [List.lookup, q] at e ⊢
      cases e
      exact ⟨v, rfl, h2⟩
    · have q' : (f == x) = false := by simpa using q
      simp only [List.lookup, q'] at e ⊢
      exact DrF.look h3 e
theorem DrF.nolook {H : Hp} {f : Str} : ∀ {fs : List (Str × Da)} {gs : List (Str × V)}, DrF H fs gs → fs.lookup f = none → gs.lookup f = none
  | [], _, h, _ => by cases h; rfl
  | (x, d0) :: fs, _, ⟨v, r, h1, h2, h3⟩, e => by
    subst h1
    by_cases q : (f == x) = true
    · simp only [List.lookup, q] at e; cases e
    · have q' : (f == x) = false := by simpa using q
      simp only [List.lookup, q'] at e ⊢
      exact DrF.nolook h3 e
/-- the field f becomes d -/
def putD (f : Str) (d : Da) : List (Str × Da) → List (Str × Da)
  | [] => [(f, d)]
  | (g, x) :: r => if g = f then (g, d) :: r else (g, x) :: putD f d r
theorem DrF.put {H : Hp} {f : Str} {d : Da} {v : V} (k : Dr H d v) : ∀ {fs : List (Str × Da)} {gs : List (Str × V)}, DrF H fs gs → DrF H (putD f d fs) (putF f v gs)
  | [], _, h => by cases h; exact ⟨v, [], rfl, k, rfl⟩
  | (x, d0) :: fs, _, ⟨w, r, h1, h2, h3⟩ => by
    subst h1
    show DrF H (if x = f then (x, d) :: fs else (x, d0) :: putD f d fs) (if x = f then (x, v) :: r else (x, w) :: putF f v r)
    by_cases q : x = f
    · rw [if_pos q, if_pos q]; exact ⟨v, r, rfl, k, h3⟩
    · rw [if_neg q, if_neg q]; exact ⟨w, _, rfl, h2, DrF.put k h3⟩
/-- the cell c stands at a: its data in G -/
def CellOk (G H : Hp) (a : Addr) : Cell → Prop
  | .lst ds => ∃ vs, H a = some (.lst vs) ∧ DrAll G ds vs
  | .ins C fs => ∃ dx gs, H a = some (.ins C dx gs) ∧ DrF G fs gs
  | .tab q => ∃ ps : Array Value, H a = some (.tbl ps) ∧ TriplesOk ps.toList ∧ ∀ (pos : Pos) (cv : Value), codeAmong pos ps.toList = some cv → ∃ c, cv = .ref c ∧ G c = some (LamX.CodeO c q)
theorem CellOk.mono {G G' H H' : Hp} {a : Addr} {c : Cell} (h : CellOk G H a c) (e : Same G G') (q : H' a = H a) : CellOk G' H' a c := by
  cases c with
  | lst ds => obtain ⟨vs, h1, h2⟩ := h; exact ⟨vs, q.trans h1, h2.mono e⟩
  | ins C fs => obtain ⟨dx, gs, h1, h2⟩ := h; exact ⟨dx, gs, q.trans h1, h2.mono e⟩
  | tab w => obtain ⟨ps, h1, h2, h3⟩ := h; exact ⟨ps, q.trans h1, h2, fun p cv k => let ⟨c, e1, e2⟩ := h3 p cv k; ⟨c, e1, e _ _ e2⟩⟩
theorem CellOk.there {G H : Hp} {a : Addr} {c : Cell} (h : CellOk G H a c) : ∃ o, H a = some o := by
  cases c with
  | lst ds => obtain ⟨vs, h1, h2⟩ := h; exact ⟨_, h1⟩
  | ins C fs => obtain ⟨dx, gs, h1, h2⟩ := h; exact ⟨_, h1⟩
  | tab w => obtain ⟨ps, h1, h2, h3⟩ := h; exact ⟨_, h1⟩
def MemOk (m : Mem) (H : Hp) : Prop := ∀ a c, m a = some c → CellOk (hide m H) H a c
theorem MemOk.free {m : Mem} {H : Hp} {p : Addr} (h : MemOk m H) (n : H p = none) : m p = none := by
  cases q : m p with
  | none => rfl
  | some c =>
    obtain ⟨o, e⟩ := (h p c q).there
    rw [n] at e; cases e
/-- a new immutable object -/
theorem MemOk.new {m : Mem} {H : Hp} {p : Addr} {o : HO} (h : MemOk m H) (n : H p = none) : MemOk m (upd H p o) := fun a c e =>
  (h a c e).mono (hide_new n) (upd_ne (by obtain ⟨o', e'⟩ := (h a c e).there; exact ne_of_none e' n))
/-- a new cell -/
theorem MemOk.cell {m : Mem} {H : Hp} {p : Addr} {o : HO} {c : Cell} (h : MemOk m H) (n : H p = none) (k : CellOk (hide (m.put p c) (upd H p o)) (upd H p o) p c) : MemOk (m.put p c) (upd H p o) := fun a d e => by
  by_cases q : a = p
  · subst q; rw [Mem.put_same] at e; cases e; exact k
  · rw [Mem.put_ne q] at e
    exact (h a d e).mono (hide_put_new n) (upd_ne q)
/-- a cell written -/
theorem MemOk.write {m : Mem} {H : Hp} {p : Addr} {o : HO} {c c' : Cell} (h : MemOk m H) (n : m p = some c') (k : CellOk (hide m H) (upd H p o) p c) : MemOk (m.put p c) (upd H p o) := fun a d e => by
  rw [hide_put_ex n, hide_upd n]
  by_cases q : a = p
  · subst q; rw [Mem.put_same] at e; cases e; exact k
  · rw [Mem.put_ne q] at e
    exact (h a d e).mono (Same.refl _) (upd_ne q)
/-- a cell is a cell no more -/
theorem MemOk.del {m : Mem} {H : Hp} {p : Addr} (h : MemOk m H) : MemOk (m.del p) H := fun a d e => by
  unfold Mem.del at e
  split at e
  · cases e
  · exact (h a d e).mono hide_del rfl
/-! ### slots -/
abbrev Rho := List (Option Da)
def Holds (r : Rho) (m : Mem) (σ : St) (H : Hp) : Prop :=
  MemOk m H ∧ σ.length = r.length ∧ ∀ (i : Nat) (d : Da), r[i]? = some (some d) → ∃ v, σ[i]? = some (some v) ∧ Dr (hide m H) d v
theorem Holds.mem {r : Rho} {m : Mem} {σ : St} {H : Hp} (h : Holds r m σ H) : MemOk m H := h.1
theorem Holds.mono {r : Rho} {m m' : Mem} {σ : St} {H H' : Hp} (h : Holds r m σ H) (k : MemOk m' H') (e : Same (hide m H) (hide m' H')) : Holds r m' σ H' :=
  ⟨k, h.2.1, fun i d q => let ⟨v, e1, e2⟩ := h.2.2 i d q; ⟨v, e1, e2.mono e⟩⟩
theorem Holds.set {r : Rho} {m : Mem} {σ : St} {H : Hp} {d : Da} {v : V} (h : Holds r m σ H) (i : Nat) (k : Dr (hide m H) d v) : Holds (r.set i (some d)) m (σ.set i (some v)) H := by
  refine ⟨h.1, by rw [List.length_set, List.length_set]; exact h.2.1, fun j e q => ?_⟩
  by_cases hj : i = j
  · subst hj
    have hlt : i < r.length := by
      have := (List.getElem?_eq_some_iff.mp q).1
      rwa [List.length_set] at this
    rw [List.getElem?_set_self hlt] at q
    cases q
    exact ⟨v, List.getElem?_set_self (by rw [h.2.1]; exact hlt), k⟩
  · rw [List.getElem?_set_ne hj] at q
    rw [List.getElem?_set_ne hj]
    exact h.2.2 j e q
/-- fewer slots are known -/
def RLe (r' r : Rho) : Prop := r'.length = r.length ∧ ∀ (i : Nat) (d : Da), r'[i]? = some (some d) → r[i]? = some (some d)
theorem Holds.weak {r r' : Rho} {m : Mem} {σ : St} {H : Hp} (h : Holds r m σ H) (k : RLe r' r) : Holds r' m σ H :=
  ⟨h.1, h.2.1.trans k.1.symm, fun i d q => h.2.2 i d (k.2 i d q)⟩
theorem RLe.refl (r : Rho) : RLe r r := ⟨rfl, fun _ _ q => q⟩
theorem RLe.nil : RLe [] [] := RLe.refl []
theorem RLe.keep {x : Option Da} {r r' : Rho} (h : RLe r' r) : RLe (x :: r') (x :: r) := ⟨by simp [h.1], fun i d q => by
  cases i with
  | zero => exact q
  | succ i => exact h.2 i d q⟩
theorem RLe.drop {x : Option Da} {r r' : Rho} (h : RLe r' r) : RLe (none :: r') (x :: r) := ⟨by simp [h.1], fun i d q => by
  cases i with
  | zero => simp at q
  | succ i => exact h.2 i d q⟩
/-- a list's cell becomes data: the slot that named it -/
theorem Holds.freeze {r : Rho} {m : Mem} {σ : St} {H : Hp} {a : Addr} {ds : List Da} (h : Holds r m σ H) (i : Nat) (hi : r[i]? = some (some (.loc a))) (hm : m a = some (.lst ds)) : Holds (r.set i (some (.lst ds))) (m.del a) σ H := by
  refine ⟨h.1.del, by rw [List.length_set]; exact h.2.1, fun j e q => ?_⟩
  have sub : Same (hide m H) (hide (m.del a) H) := hide_del
  by_cases hj : i = j
  · subst hj
    have hlt : i < r.length := (List.getElem?_eq_some_iff.mp hi).1
    rw [List.getElem?_set_self hlt] at q
    cases q
    obtain ⟨v, e1, e2⟩ := h.2.2 i _ hi
    obtain ⟨vs, h1, h2⟩ := h.1 a _ hm
    exact ⟨v, e1, a, vs, e2, by rw [hide_none (by unfold Mem.del; exact if_pos rfl)]; exact h1, h2.mono sub⟩
  · rw [List.getElem?_set_ne hj] at q
    obtain ⟨v, e1, e2⟩ := h.2.2 j e q
    exact ⟨v, e1, e2.mono sub⟩
/-! ### judgements -/
/-- the expression's reading: it gives d and leaves m' -/
def tD (r : Rho) (m : Mem) (d : Da) (m' : Mem) : TE := fun σ H Q => Holds r m σ H ∧ ∀ v H', MemOk m' H' → Same (hide m H) (hide m' H') → Dr (hide m' H') d v → Q v H'
def EvD (X : Cx) (e : Expr) (r : Rho) (m : Mem) (d : Da) (m' : Mem) : Prop := PE X e (tD r m d m')
def tDA (r : Rho) (m : Mem) (ds : List Da) (m' : Mem) : TA := fun σ H Q => Holds r m σ H ∧ ∀ vs H', MemOk m' H' → Same (hide m H) (hide m' H') → DrAll (hide m' H') ds vs → Q vs H'
def EvA (X : Cx) (es : List Expr) (r : Rho) (m : Mem) (ds : List Da) (m' : Mem) : Prop := PA X es (tDA r m ds m')
def tDT (r : Rho) (m : Mem) (b : Bool) (m' : Mem) : TT := fun σ H Q => Holds r m σ H ∧ ∀ H', MemOk m' H' → Same (hide m H) (hide m' H') → Q b H'
def EvT (X : Cx) (e : Expr) (r : Rho) (m : Mem) (b : Bool) (m' : Mem) : Prop := PT X e (tDT r m b m')
/-- a chain of and, or: a test whatever its whole is -/
def EvP (X : Cx) (e : Expr) (r : Rho) (m : Mem) (b : Bool) (m' : Mem) : Prop := PW X e (tDT r m b m')
structure DE where
  nx : Rho → Mem → Prop
  rt : Da → Mem → Prop
  bk : Rho → Mem → Prop := fun _ _ => False
  ct : Rho → Mem → Prop := fun _ _ => False
def tW (r : Rho) (m : Mem) (D : DE) : TS := fun E σ H => Holds r m σ H ∧
  (∀ r' m' σ' H', D.nx r' m' → Holds r' m' σ' H' → Same (hide m H) (hide m' H') → E.nx σ' H') ∧
  (∀ d m' v H', D.rt d m' → MemOk m' H' → Same (hide m H) (hide m' H') → Dr (hide m' H') d v → E.rt v H') ∧
  (∀ r' m' σ' H', D.bk r' m' → Holds r' m' σ' H' → Same (hide m H) (hide m' H') → E.bk σ' H') ∧
  (∀ r' m' σ' H', D.ct r' m' → Holds r' m' σ' H' → Same (hide m H) (hide m' H') → E.ct σ' H')
def ExW (X : Cx) (ss : List Stmt) (r : Rho) (m : Mem) (D : DE) : Prop := PSs X ss (tW r m D)
def ExS (X : Cx) (st : Stmt) (r : Rho) (m : Mem) (D : DE) : Prop := PS X st (tW r m D)
section
variable {X : Cx} {r : Rho} {m m1 m2 m3 : Mem}
theorem ev_of {e : Expr} {t : TE} {d : Da} (h : PE X e t) (k : ∀ σ H (Q : VK), Holds r m σ H → (∀ v H', MemOk m1 H' → Same (hide m H) (hide m1 H') → Dr (hide m1 H') d v → Q v H') → t σ H Q) : EvD X e r m d m1 :=
  ⟨fun pins s σ H Q I q => h.run pins s σ H Q I (k σ H Q q.1 q.2)⟩
theorem ea_of {e : List Expr} {t : TA} {d : List Da} (h : PA X e t) (k : ∀ σ H (Q : List V → Hp → Prop), Holds r m σ H → (∀ v H', MemOk m1 H' → Same (hide m H) (hide m1 H') → DrAll (hide m1 H') d v → Q v H') → t σ H Q) : EvA X e r m d m1 :=
  ⟨fun pos pins s σ H Q I q => h.run pos pins s σ H Q I (k σ H Q q.1 q.2)⟩
theorem et_of {e : Expr} {t : TT} {b : Bool} (h : PT X e t) (k : ∀ σ H (Q : Bool → Hp → Prop), Holds r m σ H → (∀ H', MemOk m1 H' → Same (hide m H) (hide m1 H') → Q b H') → t σ H Q) : EvT X e r m b m1 :=
  ⟨fun pins s σ H Q I q => h.run pins s σ H Q I (k σ H Q q.1 q.2)⟩
theorem ep_of {e : Expr} {t : TT} {b : Bool} (h : PW X e t) (k : ∀ σ H (Q : Bool → Hp → Prop), Holds r m σ H → (∀ H', MemOk m1 H' → Same (hide m H) (hide m1 H') → Q b H') → t σ H Q) : EvP X e r m b m1 :=
  ⟨fun whole pins s σ H Q I q => h.run whole pins s σ H Q I (k σ H Q q.1 q.2)⟩
/-- the end's way, taken -/
structure Endd (r : Rho) (m : Mem) (D : DE) (E : Ends) (H : Hp) : Prop where
  nx : ∀ r' m' σ' H', D.nx r' m' → Holds r' m' σ' H' → Same (hide m H) (hide m' H') → E.nx σ' H'
  rt : ∀ d m' v H', D.rt d m' → MemOk m' H' → Same (hide m H) (hide m' H') → Dr (hide m' H') d v → E.rt v H'
  bk : ∀ r' m' σ' H', D.bk r' m' → Holds r' m' σ' H' → Same (hide m H) (hide m' H') → E.bk σ' H'
  ct : ∀ r' m' σ' H', D.ct r' m' → Holds r' m' σ' H' → Same (hide m H) (hide m' H') → E.ct σ' H'
theorem es_of {st : Stmt} {t : TS} {D : DE} (h : PS X st t) (k : ∀ E σ H, Holds r m σ H → Endd r m D E H → t E σ H) : ExS X st r m D :=
  ⟨fun pins s σ H E I q => h.run pins s σ H E I (k E σ H q.1 ⟨q.2.1, q.2.2.1, q.2.2.2.1, q.2.2.2.2⟩)⟩
theorem ew_of {st : List Stmt} {t : TS} {D : DE} (h : PSs X st t) (k : ∀ E σ H, Holds r m σ H → Endd r m D E H → t E σ H) : ExW X st r m D :=
  ⟨fun pins s σ H E I q => h.run pins s σ H E I (k E σ H q.1 ⟨q.2.1, q.2.2.1, q.2.2.2.1, q.2.2.2.2⟩)⟩
theorem Endd.to {D : DE} {E : Ends} {σ : St} {H : Hp} (e : Endd r m D E H) (h : Holds r m σ H) : tW r m D E σ H := ⟨h, e.nx, e.rt, e.bk, e.ct⟩
/-- further on -/
theorem Endd.on {D : DE} {E : Ends} {H H' : Hp} {r' : Rho} (e : Endd r m D E H) (s : Same (hide m H) (hide m1 H')) : Endd r' m1 D E H' :=
  ⟨fun r2 m2 σ' H2 a b c => e.nx r2 m2 σ' H2 a b (s.trans c), fun d m2 v H2 a b c f => e.rt d m2 v H2 a b (s.trans c) f, fun r2 m2 σ' H2 a b c => e.bk r2 m2 σ' H2 a b (s.trans c), fun r2 m2 σ' H2 a b c => e.ct r2 m2 σ' H2 a b (s.trans c)⟩
/-! ### blocks -/
theorem w_nil {D : DE} (h : D.nx r m) : ExW X [] r m D := ew_of pss_nil fun E σ H a e => e.nx r m σ H h a (Same.refl _)
theorem w_cons {st : Stmt} {rest : List Stmt} {D : DE} (h : ExS X st r m { D with nx := fun r1 m1 => ExW X rest r1 m1 D }) : ExW X (st :: rest) r m D := by
  have h2 : PSs X rest (fun E σ H => ∃ t, PSs X rest t ∧ t E σ H) := ⟨fun pins s σ H E I ⟨t, a, b⟩ => a.run pins s σ H E I b⟩
  refine ew_of (pss_cons h h2) fun E σ H a e => ?_
  refine ⟨a, fun r' m' σ' H' n hh ss => ?_, e.rt, e.bk, e.ct⟩
  exact ⟨_, n, hh, fun r2 m2 σ2 H2 a b c => e.nx r2 m2 σ2 H2 a b (ss.trans c), fun d m2 v H2 a b c f => e.rt d m2 v H2 a b (ss.trans c) f, fun r2 m2 σ2 H2 a b c => e.bk r2 m2 σ2 H2 a b (ss.trans c), fun r2 m2 σ2 H2 a b c => e.ct r2 m2 σ2 H2 a b (ss.trans c)⟩
theorem w_one {st : Stmt} {D : DE} (h : ExS X st r m D) : ExW X [st] r m D := ⟨fun pins s σ H E I q => (pss_one h).run pins s σ H E I q⟩
/-- more is wanted -/
theorem DE.imp_aux {D D' : DE} {E : Ends} {H : Hp} (h1 : ∀ r' m', D.nx r' m' → D'.nx r' m') (h2 : ∀ d m', D.rt d m' → D'.rt d m') (h3 : ∀ r' m', D.bk r' m' → D'.bk r' m') (h4 : ∀ r' m', D.ct r' m' → D'.ct r' m') (e : Endd r m D' E H) : Endd r m D E H :=
  ⟨fun r' m' σ' H' a => e.nx r' m' σ' H' (h1 _ _ a), fun d m' v H' a => e.rt d m' v H' (h2 _ _ a), fun r' m' σ' H' a => e.bk r' m' σ' H' (h3 _ _ a), fun r' m' σ' H' a => e.ct r' m' σ' H' (h4 _ _ a)⟩
theorem w_imp {ss : List Stmt} {D D' : DE} (h : ExW X ss r m D) (h1 : ∀ r' m', D.nx r' m' → D'.nx r' m') (h2 : ∀ d m', D.rt d m' → D'.rt d m') (h3 : ∀ r' m', D.bk r' m' → D'.bk r' m' := by intro _ _ h; exact h) (h4 : ∀ r' m', D.ct r' m' → D'.ct r' m' := by intro _ _ h; exact h) : ExW X ss r m D' :=
  ew_of h fun E σ H a e => (DE.imp_aux h1 h2 h3 h4 e).to a
/-- fewer slots known -/
theorem w_weak {ss : List Stmt} {r' : Rho} {D : DE} (k : RLe r' r) (h : ExW X ss r' m D) : ExW X ss r m D :=
  ew_of h fun E σ H a e => ⟨a.weak k, e.nx, e.rt, e.bk, e.ct⟩
/-- a list's cell, named by a slot, becomes data -/
theorem w_freeze {ss : List Stmt} {D : DE} {a : Addr} {ds : List Da} (i : Nat) (hi : r[i]? = some (some (.loc a))) (hm : m a = some (.lst ds)) (h : ExW X ss (r.set i (some (.lst ds))) (m.del a) D) : ExW X ss r m D :=
  ew_of h fun E σ H a e => (e.on (r' := r.set i (some (.lst ds))) hide_del).to (a.freeze i hi hm)
/-! ### small statements -/
theorem s_ret {e : Expr} {pos : Pos} {d : Da} {D : DE} (he : EvD X e r m d m1) (h : D.rt d m1) : ExS X (.Return (some e) pos) r m D :=
  es_of (ps_ret he) fun E σ H a e => ⟨a, fun v H' b c f => e.rt d m1 v H' h b c f⟩
theorem s_expr {e : Expr} {pos : Pos} {d : Da} {D : DE} (he : EvD X e r m d m1) (h : D.nx r m1) (hs : swapsWith e none pos.line X.env = pure false := by rfl) : ExS X (.Expr e pos) r m D :=
  es_of (ps_expr he hs) fun E σ H a e => ⟨a, fun v H' b c f => e.nx r m1 σ H' h (a.mono b c) c⟩
theorem s_cont {pos : Pos} {D : DE} (h : D.ct r m) : ExS X (.Continue pos) r m D := es_of ps_continue fun E σ H a e => e.ct r m σ H h a (Same.refl _)
theorem s_break {pos : Pos} {D : DE} (h : D.bk r m) : ExS X (.Break pos) r m D := es_of ps_break fun E σ H a e => e.bk r m σ H h a (Same.refl _)
theorem s_pass {pos : Pos} {D : DE} (h : D.nx r m) : ExS X (.Pass pos) r m D := es_of ps_pass fun E σ H a e => e.nx r m σ H h a (Same.refl _)
theorem s_set {i : Nat} {x : Str} {e : Expr} {d : Da} {pos pos' : Pos} {D : DE} (he : EvD X e r m d m1) (h : D.nx (r.set i (some d)) m1) (hN : X.N.Nodup) (hi : X.N[i]? = some x := by rfl) (hx : Loc X.env.scope x := by first | exact Or.inl rfl | exact Or.inr rfl)
    (hs : swapsWith e (some (.Name x pos')) pos.line X.env = pure false := by rfl) (hf : X.fn x = true ∨ X.env.scope.names.lookup x = some .local := by first | exact .inl rfl | exact .inr rfl | assumption) : ExS X (.Assign [.Name x pos'] e pos) r m D :=
  es_of (ps_set (i := i) hN hi hx he hs hf) fun E σ H a e => ⟨a, fun v H' b c f => e.nx _ m1 _ H' h ((a.mono b c).set i f) c⟩
theorem s_if {c : Expr} {A B : List Stmt} {pos : Pos} {b : Bool} {D : DE} (hc : EvT X c r m b m1) (h1 : b = true → ExW X A r m1 D) (h2 : b = false → ExW X B r m1 D) : ExS X (.If c A B pos) r m D := by
  have sA : PSs X A (fun E σ H => ∃ t, PSs X A t ∧ t E σ H) := ⟨fun pins s σ H E I ⟨t, a, b⟩ => a.run pins s σ H E I b⟩
  have sB : PSs X B (fun E σ H => ∃ t, PSs X B t ∧ t E σ H) := ⟨fun pins s σ H E I ⟨t, a, b⟩ => a.run pins s σ H E I b⟩
  refine es_of (ps_if hc sA sB) fun E σ H a e => ⟨a, fun H' k ss => ?_⟩
  cases b with
  | true => rw [if_pos rfl]; exact ⟨_, h1 rfl, (e.on ss).to (a.mono k ss)⟩
  | false => rw [if_neg Bool.false_ne_true]; exact ⟨_, h2 rfl, (e.on ss).to (a.mono k ss)⟩
end
end DL
/-! Rules of expressions over data. -/
namespace DL
open PySem L2 PySem.Spec PyProof.Rows
section
variable {X : Cx} {r : Rho} {m m1 m2 m3 : Mem}
/-! ### names, constants, displays -/
theorem ev_name (i : Nat) {x : Str} {pos : Pos} {d : Da} (hr : r[i]? = some (some d) := by rfl) (hN : X.N[i]? = some x := by rfl) (hv : Vis X.env.scope x := by first | exact Or.inl rfl | exact Or.inr (Or.inl rfl) | exact Or.inr (Or.inr rfl)) (hd : (x == ("__debug__" : Str)) = false := by decide)
    (hcd : (x == ("__classdict__" : Str)) = false := by decide) : EvD X (.Name x pos) r m d m :=
  ev_of (pe_var (i := i) hN hv hd hcd) fun σ H Q a q => let ⟨v, e1, e2⟩ := a.2.2 i d hr; ⟨v, e1, q v H a.1 (Same.refl _) e2⟩
theorem ev_int {i : Int} {j pos} : EvD X (.Constant (.int i) j pos) r m (.int i) m := ev_of pe_int fun σ H Q a q => q _ H a.1 (Same.refl _) rfl
theorem ev_bl {b : Bool} {j pos} : EvD X (.Constant (.bool b) j pos) r m (.bl b) m := ev_of pe_bl fun σ H Q a q => q _ H a.1 (Same.refl _) rfl
theorem ev_non {j pos} : EvD X (.Constant .none j pos) r m .non m := ev_of pe_non fun σ H Q a q => q _ H a.1 (Same.refl _) rfl
theorem ev_str {x : Str} {j pos} : EvD X (.Constant (.str x) j pos) r m (.str x) m := ev_of pe_str fun σ H Q a q => q _ H a.1 (Same.refl _) rfl
theorem ev_globI {x : Str} {i : Int} {u : Value} {pos : Pos} (hg : Gl X x) (hm : X.mg x = some u) (h : RelV (.int i) u) (hd : (x == ("__debug__" : Str)) = false := by decide) : EvD X (.Name x pos) r m (.int i) m :=
  ev_of (pe_glob hg hm h hd) fun σ H Q a q => q _ H a.1 (Same.refl _) rfl
theorem ea_nil : EvA X [] r m [] m := ea_of pa_nil fun σ H Q a q => q [] H a.1 (Same.refl _) rfl
theorem ea_cons {e : Expr} {es : List Expr} {d : Da} {ds : List Da} (h : EvD X e r m d m1) (h2 : EvA X es r m1 ds m2) (hs : starEach (e :: es) X.env = (false, eval e X.env) :: starEach es X.env := by rfl) : EvA X (e :: es) r m (d :: ds) m2 :=
  ea_of (pa_cons h h2 hs) fun σ H Q a q => ⟨a, fun v H1 k1 s1 r1 => ⟨a.mono k1 s1, fun vs H2 k2 s2 r2 => q _ H2 k2 (s1.trans s2) ⟨v, vs, rfl, r1.mono s2, r2⟩⟩⟩
theorem ev_tup {es : List Expr} {ds : List Da} {k : Nat} {pos : Pos} (h : EvA X es r m ds m1) (hl : ds.length ≤ 1000 := by exact Nat.le_of_ble_eq_true rfl) : EvD X (.Tuple es k pos) r m (.tup ds) m1 :=
  ev_of (pe_tup h) fun σ H Q a q => ⟨a, fun vs H1 k1 s1 r1 => ⟨Nat.le_of_lt (small1000 (by rw [r1.length]; exact hl)), fun p hp => q _ _ (k1.new hp) (s1.trans (hide_new hp)) ⟨p, vs, rfl, by rw [hide_none (k1.free hp), upd_same], r1.mono (hide_new hp)⟩⟩⟩
theorem ev_lst {es : List Expr} {ds : List Da} {pos : Pos} (h : EvA X es r m ds m1) (hl : ds.length ≤ 1000 := by exact Nat.le_of_ble_eq_true rfl) : EvD X (.List es pos) r m (.lst ds) m1 :=
  ev_of (pe_lst h) fun σ H Q a q => ⟨a, fun vs H1 k1 s1 r1 => ⟨Nat.le_of_lt (small1000 (by rw [r1.length]; exact hl)), fun p hp => q _ _ (k1.new hp) (s1.trans (hide_new hp)) ⟨p, vs, rfl, by rw [hide_none (k1.free hp), upd_same], r1.mono (hide_new hp)⟩⟩⟩
/-! ### operators, by values -/
/-- the operator's reading over data: x op y gives d -/
def rD (x y : Da) (m : Mem) (d : Da) : R2 := fun v u H Q => MemOk m H ∧ Dr (hide m H) x v ∧ Dr (hide m H) y u ∧ ∀ w H', MemOk m H' → Same (hide m H) (hide m H') → Dr (hide m H') d w → Q w H'
def OpD (X : Cx) (f : Value → Value → Sem Value) (x y : Da) (m : Mem) (d : Da) : Prop := OpR X f (rD x y m d)
theorem od_of {f : Value → Value → Sem Value} {t : R2} {x y d : Da} (h : OpR X f t) (k : ∀ v u H (Q : VK), MemOk m H → Dr (hide m H) x v → Dr (hide m H) y u → (∀ w H', MemOk m H' → Same (hide m H) (hide m H') → Dr (hide m H') d w → Q w H') → t v u H Q) : OpD X f x y m d :=
  fun pins s σ H v u vv uu Q I rv ru q => h pins s σ H v u vv uu Q I rv ru (k v u H Q q.1 q.2.1 q.2.2.1 q.2.2.2)
theorem ev_bin {a b : Expr} {op : Operator} {x y d : Da} {pos : Pos} (ha : EvD X a r m x m1) (hb : EvD X b r m1 y m2) (ho : OpD X (binaryOp op) x y m2 d) : EvD X (.BinOp a op b pos) r m d m2 :=
  ev_of (pe_op ho ha hb) fun σ H Q h q => ⟨h, fun v H1 k1 s1 r1 => ⟨h.mono k1 s1, fun u H2 k2 s2 r2 => ⟨k2, r1.mono s2, r2, fun w H3 k3 s3 r3 => q w H3 k3 ((s1.trans s2).trans s3) r3⟩⟩⟩
theorem ev_cmp {a b : Expr} {op : CmpOp} {x y d : Da} {pos : Pos} (ha : EvD X a r m x m1) (hb : EvD X b r m1 y m2) (ho : OpD X (compareOp op) x y m2 d) (hm : behindInMarks op b = false := by first | exact nomark _ | rfl) : EvD X (.Compare a [op] [b] pos) r m d m2 :=
  ev_of (pe_cmpR ho ha hb hm) fun σ H Q h q => ⟨h, fun v H1 k1 s1 r1 => ⟨h.mono k1 s1, fun u H2 k2 s2 r2 => ⟨k2, r1.mono s2, r2, fun w H3 k3 s3 r3 => q w H3 k3 ((s1.trans s2).trans s3) r3⟩⟩⟩
theorem et_cmp {a b : Expr} {op : CmpOp} {x y : Da} {k : Bool} {pos : Pos} (ha : EvD X a r m x m1) (hb : EvD X b r m1 y m2) (ho : OpD X (compareOp op) x y m2 (.bl k)) (hm : behindInMarks op b = false := by first | exact nomark _ | rfl) : EvT X (.Compare a [op] [b] pos) r m k m2 :=
  et_of (pt_cmpR ho ha hb hm) fun σ H Q h q => ⟨h, fun v H1 k1 s1 r1 => ⟨h.mono k1 s1, fun u H2 k2 s2 r2 => ⟨k2, r1.mono s2, r2, fun w H3 k3 s3 r3 => ⟨k, r3, q H3 k3 ((s1.trans s2).trans s3)⟩⟩⟩⟩
/-- an operator on two ints -/
theorem od_I {f : Value → Value → Sem Value} {C : Int → Int → Prop} {g : Int → Int → Int} {i j : Int} (h : OpR X f (rI C fun i j => .int (g i j))) (c : C i j) : OpD X f (.int i) (.int j) m (.int (g i j)) :=
  od_of h fun v u H Q k a b q => ⟨i, j, a, b, c, q _ H k (Same.refl _) rfl⟩
theorem od_I0 {f : Value → Value → Sem Value} {g : Int → Int → Int} {i j : Int} (h : OpR X f (rI0 fun i j => .int (g i j))) : OpD X f (.int i) (.int j) m (.int (g i j)) :=
  od_of h fun v u H Q k a b q => ⟨i, j, a, b, q _ H k (Same.refl _) rfl⟩
theorem od_IB {f : Value → Value → Sem Value} {g : Int → Int → Bool} {i j : Int} (h : OpR X f (rI0 fun i j => .bl (g i j))) : OpD X f (.int i) (.int j) m (.bl (g i j)) :=
  od_of h fun v u H Q k a b q => ⟨i, j, a, b, q _ H k (Same.refl _) rfl⟩
theorem od_add {i j : Int} : OpD X (binaryOp .Add) (.int i) (.int j) m (.int (i + j)) := od_I0 op_add
theorem od_sub {i j : Int} : OpD X (binaryOp .Sub) (.int i) (.int j) m (.int (i - j)) := od_I0 op_sub
theorem od_mul {i j : Int} (h : CMul i j) : OpD X (binaryOp .Mult) (.int i) (.int j) m (.int (i * j)) := od_I op_mul h
theorem od_fdiv {i j : Int} (h : 0 < j ∧ j < 1073741824) : OpD X (binaryOp .FloorDiv) (.int i) (.int j) m (.int (i / j)) := od_I op_fdiv h
theorem od_mod {i j : Int} (h : 0 < j) : OpD X (binaryOp .Mod) (.int i) (.int j) m (.int (i % j)) := od_I op_mod h
theorem od_lt {i j : Int} : OpD X (compareOp .Lt) (.int i) (.int j) m (.bl (decide (i < j))) := od_IB op_lt
theorem od_le {i j : Int} : OpD X (compareOp .LtE) (.int i) (.int j) m (.bl (decide (i ≤ j))) := od_IB op_le
theorem od_gt {i j : Int} : OpD X (compareOp .Gt) (.int i) (.int j) m (.bl (decide (j < i))) := od_IB op_gt
theorem od_ge {i j : Int} : OpD X (compareOp .GtE) (.int i) (.int j) m (.bl (decide (j ≤ i))) := od_IB op_ge
theorem od_eqI {i j : Int} : OpD X (compareOp .Eq) (.int i) (.int j) m (.bl (decide (i = j))) :=
  od_of op_eq fun v u H Q k a b q => by
    cases a; cases b
    refine ⟨rfl, ?_⟩
    have e : decide (V.int i = V.int j) = decide (i = j) := by rw [dec_int, Bool.beq_eq_decide_eq]
    rw [e]
    exact q _ H k (Same.refl _) rfl
theorem od_neI {i j : Int} : OpD X (compareOp .NotEq) (.int i) (.int j) m (.bl (!decide (i = j))) :=
  od_of op_ne fun v u H Q k a b q => by
    cases a; cases b
    refine ⟨rfl, ?_⟩
    have e : decide (V.int i = V.int j) = decide (i = j) := by rw [dec_int, Bool.beq_eq_decide_eq]
    rw [e]
    exact q _ H k (Same.refl _) rfl
theorem od_eqS {x y : Str} : OpD X (compareOp .Eq) (.str x) (.str y) m (.bl (decide (x = y))) :=
  od_of op_eq fun v u H Q k a b q => by
    cases a; cases b
    refine ⟨rfl, ?_⟩
    have e : decide (V.str x = V.str y) = decide (x = y) := by
      by_cases h : x = y
      · rw [h]; simp
      · rw [decide_eq_false h, decide_eq_false (fun z => h (V.str.inj z))]
    rw [e]
    exact q _ H k (Same.refl _) rfl
theorem od_eqS_T {x y : Str} (h : x = y) : OpD X (compareOp .Eq) (.str x) (.str y) m (.bl true) := by
  have z := od_eqS (X := X) (m := m) (x := x) (y := y)
  rw [decide_eq_true h] at z; exact z
theorem od_eqS_F {x y : Str} (h : x ≠ y) : OpD X (compareOp .Eq) (.str x) (.str y) m (.bl false) := by
  have z := od_eqS (X := X) (m := m) (x := x) (y := y)
  rw [decide_eq_false h] at z; exact z
theorem od_to {f : Value → Value → Sem Value} {x y : Da} {k k' : Bool} (h : OpD X f x y m (.bl k)) (e : k = k') : OpD X f x y m (.bl k') := by
  rw [← e]; exact h
/-- is it None -/
def Da.isN : Da → Bool
  | .non => true
  | _ => false
theorem Dr.isN {H : Hp} : ∀ {d : Da} {v : V}, Dr H d v → decide (v = .non) = d.isN
  | .non, _, h => by cases h; rfl
  | .bl _, _, h => by cases h; rfl
  | .int _, _, h => by cases h; rfl
  | .str _, _, h => by cases h; rfl
  | .tup _, _, ⟨a, vs, h, _⟩ => by subst h; rfl
  | .lst _, _, ⟨a, vs, h, _⟩ => by subst h; rfl
  | .loc _, _, h => by cases h; rfl
  | .seq _ _, _, ⟨a, h, _⟩ => by subst h; rfl
theorem od_isN {x : Da} : OpD X (compareOp .Is) x .non m (.bl x.isN) :=
  od_of op_isN fun v u H Q k a b q => ⟨b, by rw [a.isN]; exact q _ H k (Same.refl _) rfl⟩
theorem od_notN {x : Da} : OpD X (compareOp .IsNot) x .non m (.bl (!x.isN)) :=
  od_of op_notN fun v u H Q k a b q => ⟨b, by rw [a.isN]; exact q _ H k (Same.refl _) rfl⟩
/-! ### data as PyData -/
mutual
def Da.py : Da → PyData
  | .non => .none
  | .bl b => .bool b
  | .int i => .int i
  | .str s => .str s
  | .tup ds => .tuple (pyAll ds)
  | .lst ds => .list (pyAll ds)
  | .loc _ => .dict []
  | .seq _ _ => .dict []
def pyAll : List Da → List PyData
  | [] => []
  | d :: ds => d.py :: pyAll ds
end
mutual
theorem Dr.dp {K : PySem.W.Frag} {H : Hp} : ∀ {d : Da} {v : V}, Dr H d v → d.py.canLay0 = true → Dp K H v d.py
  | .non, _, h, _ => by cases h; exact .non
  | .bl b, _, h, _ => by cases h; exact .bl b
  | .int i, _, h, _ => by cases h; exact .int i
  | .str x, _, h, _ => by cases h; exact .str x
  | .tup ds, _, ⟨a, vs, h1, h2, h3⟩, c => by
    subst h1
    exact .tup (SqT.of h2) (DrAll.dp h3 (by simpa [Da.py, PyData.canLay0] using c))
  | .lst ds, _, ⟨a, vs, h1, h2, h3⟩, c => by
    subst h1
    exact .lst (SqL.of h2) (DrAll.dp h3 (by simpa [Da.py, PyData.canLay0] using c))
  | .loc _, _, _, c => by simp [Da.py, PyData.canLay0] at c
  | .seq _ _, _, _, c => by simp [Da.py, PyData.canLay0] at c
theorem DrAll.dp {K : PySem.W.Frag} {H : Hp} : ∀ {ds : List Da} {vs : List V}, DrAll H ds vs → PyData.canLayAll0 (pyAll ds) = true → DpAll K H vs (pyAll ds)
  | [], _, h, _ => by cases h; exact .nil
  | d :: ds, _, ⟨v, w, h1, h2, h3⟩, c => by
    subst h1
    have c' : (d.py.canLay0 && PyData.canLayAll0 (pyAll ds)) = true := by simpa [pyAll, PyData.canLayAll0] using c
    rw [Bool.and_eq_true] at c'
    exact .cons (Dr.dp h2 c'.1) (DrAll.dp h3 c'.2)
end
def Da.shp (d : Da) : Prop := SeqAt.shaped d.py = true
theorem Da.shp.lay {d : Da} (h : d.shp) : d.py.canLay0 = true := SeqAt.canLay_of_shaped h
theorem od_eqD {x y : Da} (hu : X.A.units + 64 < cLine) (hx : x.shp) (hy : y.shp) : OpD X (compareOp .Eq) x y m (.bl (PyData.eqv x.py y.py)) :=
  od_of (op_eqD hu) fun v u H Q k a b q => ⟨_, _, (a.mono hide_sub).dp hx.lay, (b.mono hide_sub).dp hy.lay, hx, hy, q _ H k (Same.refl _) rfl⟩
theorem od_neD {x y : Da} (hu : X.A.units + 64 < cLine) (hx : x.shp) (hy : y.shp) : OpD X (compareOp .NotEq) x y m (.bl (!PyData.eqv x.py y.py)) :=
  od_of (op_neD hu) fun v u H Q k a b q => ⟨_, _, (a.mono hide_sub).dp hx.lay, (b.mono hide_sub).dp hy.lay, hx, hy, q _ H k (Same.refl _) rfl⟩
/-! ### tuples, lists -/
theorem od_catT {xs ys : List Da} (hl : xs.length + ys.length ≤ sizeLine) : OpD X (binaryOp .Add) (.tup xs) (.tup ys) m (.tup (xs ++ ys)) :=
  od_of op_catA fun v u H Q k ⟨a, vs, h1, h2, h3⟩ ⟨b, us, g1, g2, g3⟩ q => by
    refine ⟨a, b, vs, us, h1, g1, SqT.of (hide_sub _ _ h2), SqT.of (hide_sub _ _ g2), by rw [h3.length, g3.length]; exact hl, fun e => ?_, fun e e2 => ?_, fun e e2 p hp => ?_⟩
    · have : xs = [] := List.length_eq_zero_iff.mp (by rw [← h3.length, e]; rfl)
      subst this
      exact q _ H k (Same.refl _) ⟨b, us, rfl, g2, g3⟩
    · have : ys = [] := List.length_eq_zero_iff.mp (by rw [← g3.length, e2]; rfl)
      subst this
      rw [List.append_nil] at q
      exact q _ H k (Same.refl _) ⟨a, vs, rfl, h2, h3⟩
    · exact q _ _ (k.new hp) (hide_new hp) ⟨p, _, rfl, by rw [hide_none (k.free hp), upd_same], (h3.mono (hide_new hp)).app (g3.mono (hide_new hp))⟩
theorem od_cat {xs ys : List Da} (hl : xs.length + ys.length ≤ sizeLine) : OpD X (binaryOp .Add) (.lst xs) (.lst ys) m (.lst (xs ++ ys)) :=
  od_of op_cat fun v u H Q k ⟨a, vs, h1, h2, h3⟩ ⟨b, us, g1, g2, g3⟩ q => by
    refine ⟨a, b, vs, us, h1, g1, hide_sub _ _ h2, hide_sub _ _ g2, by rw [h3.length, g3.length]; exact hl, fun p hp => ?_⟩
    exact q _ _ (k.new hp) (hide_new hp) ⟨p, _, rfl, by rw [hide_none (k.free hp), upd_same], (h3.mono (hide_new hp)).app (g3.mono (hide_new hp))⟩
/-- a list's cell and a list -/
theorem od_catC {a : Addr} {xs ys : List Da} (hm : m a = some (.lst xs)) (hl : xs.length + ys.length ≤ sizeLine) : OpD X (binaryOp .Add) (.loc a) (.lst ys) m (.lst (xs ++ ys)) :=
  od_of op_cat fun v u H Q k h1 ⟨b, us, g1, g2, g3⟩ q => by
    obtain ⟨vs, h2, h3⟩ := k a _ hm
    refine ⟨a, b, vs, us, h1, g1, h2, hide_sub _ _ g2, by rw [h3.length, g3.length]; exact hl, fun p hp => ?_⟩
    exact q _ _ (k.new hp) (hide_new hp) ⟨p, _, rfl, by rw [hide_none (k.free hp), upd_same], (h3.mono (hide_new hp)).app (g3.mono (hide_new hp))⟩
theorem od_ltT {ns ms : List Int} (hu : X.A.units < cLine) : OpD X (compareOp .Lt) (.tup (ns.map .int)) (.tup (ms.map .int)) m (.bl (HT.lexLt ns ms)) := by
  have allI : ∀ {H : Hp} (ns : List Int) {vs : List V}, DrAll H (ns.map .int) vs → vs = ns.map V.int := by
    intro H ns
    induction ns with
    | nil => intro vs h; cases h; rfl
    | cons n ns ih => intro vs ⟨v, w, h1, h2, h3⟩; subst h1; rw [ih h3, (show v = .int n from h2)]; rfl
  refine od_of (op_ltT hu) fun v u H Q k ⟨a, vs, h1, h2, h3⟩ ⟨b, us, g1, g2, g3⟩ q => ?_
  rw [allI ns h3] at h2
  rw [allI ms g3] at g2
  exact ⟨a, b, ns, ms, h1, g1, SqT.of (hide_sub _ _ h2), SqT.of (hide_sub _ _ g2), q _ H k (Same.refl _) rfl⟩
/-- the items of a list or tuple, or of a list's cell -/
def itemsOf (m : Mem) : Da → Option (List Da)
  | .tup ds => some ds
  | .lst ds => some ds
  | .loc a => match m a with
    | some (.lst ds) => some ds
    | _ => none
  | _ => none
theorem items_read {K : PySem.W.Frag} {H : Hp} {x : Da} {v : V} {ds : List Da} (k : MemOk m H) (h : Dr (hide m H) x v) (e : itemsOf m x = some ds) : ∃ a vs, v = .ref a ∧ (SqL K H a vs ∨ SqT K H a vs) ∧ DrAll (hide m H) ds vs := by
  cases x with
  | tup es => cases e; obtain ⟨a, vs, h1, h2, h3⟩ := h; exact ⟨a, vs, h1, .inr (SqT.of (hide_sub _ _ h2)), h3⟩
  | lst es => cases e; obtain ⟨a, vs, h1, h2, h3⟩ := h; exact ⟨a, vs, h1, .inl (SqL.of (hide_sub _ _ h2)), h3⟩
  | loc a =>
    simp only [itemsOf] at e
    split at e
    · rename_i es q
      cases e
      obtain ⟨vs, h2, h3⟩ := k a _ q
      exact ⟨a, vs, h, .inl (SqL.of h2), h3⟩
    · cases e
  | _ => cases e
theorem ev_ix {a b : Expr} {x d : Da} {ds : List Da} {i : Int} {pos : Pos} (ha : EvD X a r m x m1) (hb : EvD X b r m1 (.int i) m2) (e : itemsOf m2 x = some ds) (h0 : 0 ≤ i) (hd : ds[i.toNat]? = some d) (hs : PlainIx b := by exact fun _ _ => rfl) : EvD X (.Subscript a b pos) r m d m2 :=
  ev_of (pe_ix ix_seq ha hb hs) fun σ H Q h q => ⟨h, fun v H1 k1 s1 r1 => ⟨h.mono k1 s1, fun u H2 k2 s2 r2 => by
    obtain ⟨p, vs, rfl, rd, ra⟩ := items_read (K := X.K) k2 (r1.mono s2) e
    obtain ⟨w, hw, rw'⟩ := ra.get hd
    have at_ : atI vs i = some w := by
      have z := atI_nat hw
      rwa [Int.toNat_of_nonneg h0] at z
    have fin := q w H2 k2 (s1.trans s2) rw'
    rcases rd with rd | rd
    · exact .inl ⟨p, vs, i, w, rfl, r2, rd, at_, fin⟩
    · exact .inr (.inl ⟨p, vs, i, w, rfl, r2, rd, at_, fin⟩)⟩⟩
/-- an item of the script -/
theorem ev_ixS {a b : Expr} {ns : List Int} {i : Int} {n : Int} {pos : Pos} (ha : EvD X a r m (.seq X.K ns) m1) (hb : EvD X b r m1 (.int i) m2) (h0 : 0 ≤ i) (hd : ns[i.toNat]? = some n) (hs : PlainIx b := by exact fun _ _ => rfl) : EvD X (.Subscript a b pos) r m (.int n) m2 :=
  ev_of (pe_ix ix_seq ha hb hs) fun σ H Q h q => ⟨h, fun v H1 k1 s1 ⟨t, h1, h2⟩ => ⟨h.mono k1 s1, fun u H2 k2 s2 r2 => by
    have at_ : atI (ns.map V.int) i = some (.int n) := by
      have z := atI_nat (xs := ns.map V.int) (j := i.toNat) (v := .int n) (by rw [List.getElem?_map, hd]; rfl)
      rwa [Int.toNat_of_nonneg h0] at z
    rcases h2 with h2 | h2
    · exact .inl ⟨t, _, i, _, h1, r2, hide_sub.seq (s2.seq h2), at_, q _ H2 k2 (s1.trans s2) rfl⟩
    · exact .inr (.inl ⟨t, _, i, _, h1, r2, same_T hide_sub (same_T s2 h2), at_, q _ H2 k2 (s1.trans s2) rfl⟩)⟩⟩
/-- t[i:] of a tuple -/
theorem ev_cutT {a b : Expr} {ds : List Da} {i : Nat} {p2 pos : Pos} (ha : EvD X a r m (.tup ds) m1) (hb : EvD X b r m1 (.int (i : Int)) m2) : EvD X (.Subscript a (.Slice (some b) none none p2) pos) r m (.tup (ds.drop i)) m2 :=
  ev_of (pe_slice sl_tupA ha (po_some hb) po_none) fun σ H Q h q => ⟨h, fun v H1 k1 s1 ⟨t, vs, h1, h2, h3⟩ => ⟨h.mono k1 s1, fun u H2 k2 s2 r2 => by
    have h2' := s2 _ _ h2
    have h3' := h3.mono s2
    have ln := h3.length
    have cut : cutV vs (some (i : Int)) none = vs.drop i := by
      unfold cutV
      rw [HT.sIx_nat, HT.sIx_none]
      by_cases hi : i ≤ vs.length
      · rw [Nat.min_eq_left hi, List.take_of_length_le (by rw [List.length_drop]; omega)]
      · rw [Nat.min_eq_right (by omega), List.drop_of_length_le (Nat.le_refl _), List.drop_of_length_le (by omega)]; simp
    refine ⟨(i : Int), r2, t, vs, h1, SqT.of (hide_sub _ _ h2'), fun hw => ?_, fun hw p hp => ?_⟩
    · refine q _ H2 k2 (s1.trans s2) ⟨t, vs, rfl, h2', ?_⟩
      have h0 := hw.1
      rw [HT.sIx_nat] at h0
      have hd : ds.drop i = ds := by
        by_cases hi : i = 0
        · rw [hi]; rfl
        · have : vs.length = 0 := by omega
          have e : ds = [] := List.length_eq_zero_iff.mp (by rw [← ln]; exact this)
          rw [e, List.drop_nil]
      rw [hd]; exact h3'
    · rw [cut]
      exact q _ _ (k2.new hp) ((s1.trans s2).trans (hide_new hp)) ⟨p, _, rfl, by rw [hide_none (k2.free hp), upd_same], (h3'.mono (hide_new hp)).drop i⟩⟩⟩
/-! ### attributes -/
theorem ev_fld {o : Expr} {a C : Addr} {fs : List (Str × Da)} {f : Str} {d : Da} {pos : Pos} (ho : EvD X o r m (.loc a) m1) (hm : m1 a = some (.ins C fs)) (hf : fs.lookup f = some d) (c : Cls X.K C) (n : NoAttr X.K C f) (hb : attributeBase o f X.env (eval o X.env) = eval o X.env := by rfl) :
    EvD X (.Attribute o f pos) r m d m1 :=
  ev_of (pe_fld ho hb) fun σ H Q h q => ⟨h, fun v H1 k1 s1 r1 => by
    obtain ⟨dx, gs, h1, h2⟩ := k1 a _ hm
    obtain ⟨w, e1, e2⟩ := h2.look hf
    exact ⟨a, C, dx, gs, w, r1, h1, c, n, e1, q w H1 k1 s1 e2⟩⟩
/-! ### tests -/
theorem et_val {e : Expr} {k : Bool} (h : EvD X e r m (.bl k) m1) (he : ∀ whole, isTrue e X.env whole = (do let v ← whole; standAt e.pos; holding [v] (truthy v)) := by intro _; rfl) : EvT X e r m k m1 :=
  et_of (pt_val h he) fun σ H Q a q => ⟨a, fun v H1 k1 s1 r1 => ⟨k, r1, q H1 k1 s1⟩⟩
theorem ep_and1 {a : Expr} {k : Bool} {pos : Pos} (h : EvT X a r m k m1) : EvP X (.BoolOp .And [a] pos) r m k m1 := ep_of (pw_and1 h) fun σ H Q a q => ⟨a, q⟩
theorem ep_or1 {a : Expr} {k : Bool} {pos : Pos} (h : EvT X a r m k m1) : EvP X (.BoolOp .Or [a] pos) r m k m1 := ep_of (pw_or1 h) fun σ H Q a q => ⟨a, q⟩
theorem ep_andT {a b : Expr} {rest : List Expr} {k : Bool} {pos : Pos} (h : EvT X a r m true m1) (h2 : EvP X (.BoolOp .And (b :: rest) pos) r m1 k m2) : EvP X (.BoolOp .And (a :: b :: rest) pos) r m k m2 :=
  ep_of (pw_and h h2) fun σ H Q a q => ⟨a, fun H1 k1 s1 => iteT ⟨a.mono k1 s1, fun H2 k2 s2 => q H2 k2 (s1.trans s2)⟩⟩
theorem pw_andF {a b : Expr} {rest : List Expr} {pos : Pos} {t : TT} (ha : PT X a t) (h : ∀ σ H Q, t σ H Q → t σ H fun c H1 => c = false ∧ Q false H1) : PW X (.BoolOp .And (a :: b :: rest) pos) (fun σ H Q => t σ H fun c H1 => c = false ∧ Q false H1) := by
  refine ⟨fun wh pins s σ H Q I q => ?_⟩
  refine isTrue_and (thn (ha.run pins s σ H _ I q) fun c s1 ⟨H1, I1, hc, q1⟩ => ?_)
  subst hc
  exact ⟨H1, I1, q1⟩
theorem ep_andF {a b : Expr} {rest : List Expr} {pos : Pos} (h : EvT X a r m false m1) : EvP X (.BoolOp .And (a :: b :: rest) pos) r m false m1 := by
  refine ⟨fun wh pins s σ H Q I q => ?_⟩
  refine isTrue_and (thn (h.run pins s σ H (fun c H1 => c = false ∧ Q false H1) I ⟨q.1, fun H1 k1 s1 => ⟨rfl, q.2 H1 k1 s1⟩⟩) fun c s1 ⟨H1, I1, hc, q1⟩ => ?_)
  subst hc
  exact ⟨H1, I1, q1⟩
theorem ep_orT {a b : Expr} {rest : List Expr} {pos : Pos} (h : EvT X a r m true m1) : EvP X (.BoolOp .Or (a :: b :: rest) pos) r m true m1 := by
  refine ⟨fun wh pins s σ H Q I q => ?_⟩
  refine isTrue_or (thn (h.run pins s σ H (fun c H1 => c = true ∧ Q true H1) I ⟨q.1, fun H1 k1 s1 => ⟨rfl, q.2 H1 k1 s1⟩⟩) fun c s1 ⟨H1, I1, hc, q1⟩ => ?_)
  subst hc
  exact ⟨H1, I1, q1⟩
theorem ep_orF {a b : Expr} {rest : List Expr} {k : Bool} {pos : Pos} (h : EvT X a r m false m1) (h2 : EvP X (.BoolOp .Or (b :: rest) pos) r m1 k m2) : EvP X (.BoolOp .Or (a :: b :: rest) pos) r m k m2 :=
  ep_of (pw_or h h2) fun σ H Q a q => ⟨a, fun H1 k1 s1 => iteF ⟨a.mono k1 s1, fun H2 k2 s2 => q H2 k2 (s1.trans s2)⟩⟩
theorem et_p {e : Expr} {k : Bool} (h : EvP X e r m k m1) : EvT X e r m k m1 := ⟨h.run _⟩
/-- a and b, by the first's answer -/
theorem ep_and {a b : Expr} {k j : Bool} {pos : Pos} (h : EvT X a r m k m) (h2 : k = true → EvT X b r m j m) : EvP X (.BoolOp .And [a, b] pos) r m (k && j) m := by
  cases k with
  | true => exact ep_andT h (ep_and1 (h2 rfl))
  | false => exact ep_andF h
theorem ep_or {a b : Expr} {k j : Bool} {pos : Pos} (h : EvT X a r m k m) (h2 : k = false → EvT X b r m j m) : EvP X (.BoolOp .Or [a, b] pos) r m (k || j) m := by
  cases k with
  | true => exact ep_orT h
  | false => exact ep_orF h (ep_or1 (h2 rfl))
theorem et_not {a : Expr} {k : Bool} {pos : Pos} (h : EvT X a r m k m1) : EvT X (.UnaryOp .Not a pos) r m (!k) m1 := et_of (pt_not h) fun σ H Q a q => ⟨a, q⟩
/-- a and b as a value of two bools -/
theorem ev_and {a b : Expr} {k j : Bool} {pos : Pos} (h : EvD X a r m (.bl k) m) (h2 : k = true → EvD X b r m (.bl j) m) : EvD X (.BoolOp .And [a, b] pos) r m (.bl (k && j)) m := by
  cases k with
  | true =>
    refine ev_of (pe_and h (pe_one (h2 rfl))) fun σ H Q a q => ⟨a, fun v H1 k1 s1 r1 => ⟨true, r1, ?_⟩⟩
    rw [if_pos rfl]
    exact ⟨a.mono k1 s1, fun w H2 k2 s2 r2 => q w H2 k2 (s1.trans s2) r2⟩
  | false =>
    have never : PE X (.BoolOp .And [b] pos) (fun _ _ _ => False) := ⟨fun _ _ _ _ _ _ z => z.elim⟩
    refine ev_of (pe_and h never) fun σ H Q a q => ⟨a, fun v H1 k1 s1 r1 => ⟨false, r1, ?_⟩⟩
    rw [if_neg (Bool.false_ne_true)]
    exact q _ H1 k1 s1 rfl
theorem ev_if {c a b : Expr} {k : Bool} {d : Da} {pos : Pos} (hc : EvT X c r m k m1) (h1 : k = true → EvD X a r m1 d m2) (h2 : k = false → EvD X b r m1 d m2) : EvD X (.IfExp c a b pos) r m d m2 := by
  have sA : PE X a (fun σ H Q => ∃ t, PE X a t ∧ t σ H Q) := ⟨fun pins s σ H Q I ⟨t, x, y⟩ => x.run pins s σ H Q I y⟩
  have sB : PE X b (fun σ H Q => ∃ t, PE X b t ∧ t σ H Q) := ⟨fun pins s σ H Q I ⟨t, x, y⟩ => x.run pins s σ H Q I y⟩
  refine ev_of (pe_ifExp hc sA sB) fun σ H Q h q => ⟨h, fun H1 k1 s1 => ?_⟩
  cases k with
  | true => rw [if_pos rfl]; exact ⟨_, h1 rfl, h.mono k1 s1, fun w H2 k2 s2 r2 => q w H2 k2 (s1.trans s2) r2⟩
  | false => rw [if_neg Bool.false_ne_true]; exact ⟨_, h2 rfl, h.mono k1 s1, fun w H2 k2 s2 r2 => q w H2 k2 (s1.trans s2) r2⟩
end
end DL
/-! Calls, stores, loops, comprehensions over data. -/
namespace DL
open PySem L2 PySem.Spec PyProof.Rows
section
variable {X : Cx} {r : Rho} {m m1 m2 m3 : Mem}
/-- an if whose ways meet: I holds behind it -/
theorem s_ifj {c : Expr} {A B : List Stmt} {pos : Pos} {b : Bool} {D : DE} (I : Rho → Mem → Prop) (hc : EvT X c r m b m1) (h1 : b = true → ExW X A r m1 { D with nx := I }) (h2 : b = false → ExW X B r m1 { D with nx := I }) (h3 : ∀ r' m', I r' m' → D.nx r' m') : ExS X (.If c A B pos) r m D :=
  s_if hc (fun e => w_imp (h1 e) h3 (fun _ _ z => z)) (fun e => w_imp (h2 e) h3 (fun _ _ z => z))
/-! ### built-ins called, by values -/
def rC (ds : List Da) (m : Mem) (d : Da) (m' : Mem) : List V → Hp → VK → Prop := fun vs H Q => MemOk m H ∧ DrAll (hide m H) ds vs ∧ ∀ w H', MemOk m' H' → Same (hide m H) (hide m' H') → Dr (hide m' H') d w → Q w H'
def CaD (X : Cx) (f : Value) (ds : List Da) (m : Mem) (d : Da) (m' : Mem) : Prop := CallR X f (rC ds m d m')
theorem cd_of {f : Value} {t : List V → Hp → VK → Prop} {ds : List Da} {d : Da} (h : CallR X f t) (k : ∀ vs H (Q : VK), MemOk m H → DrAll (hide m H) ds vs → (∀ w H', MemOk m1 H' → Same (hide m H) (hide m1 H') → Dr (hide m1 H') d w → Q w H') → t vs H Q) : CaD X f ds m d m1 :=
  fun pins s σ H vs us Q I rv q => h pins s σ H vs us Q I rv (k vs H Q q.1 q.2.1 q.2.2)
theorem ev_callB {x : Str} {p pos : Pos} {e : Expr} {es : List Expr} {ds : List Da} {d : Da} {id : String} (ha : EvA X (e :: es) r m ds m1) (hc : CaD X (.builtin id) ds m1 d m2) (hm : X.mg x = none) (hv : bootBuiltins x = some (.builtin id)) (hg : Gl X x := by rfl)
    (hn : x ≠ "__name__" := by decide) (hdb : (x == ("__debug__" : Str)) = false := by decide) (he : starEach (e :: es) X.env = (false, eval e X.env) :: starEach es X.env := by rfl) (hpl : (backTo pos (starEach es X.env)).any (·.1) = false := by rfl) : EvD X (.Call (.Name x p) (e :: es) [] pos) r m d m2 := by
  refine ev_of (pe_callB hc hg hm hv ha hn hdb he hpl) fun σ H Q h q => ⟨h, fun vs H1 k1 s1 r1 => ⟨k1, r1, fun w H2 k2 s2 r2 => q w H2 k2 (s1.trans s2) r2⟩⟩
theorem ev_callTy {x : Str} {p pos : Pos} {e : Expr} {es : List Expr} {ds : List Da} {d : Da} {T : String} (ha : EvA X (e :: es) r m ds m1) (hc : CaD X (.type T) ds m1 d m2) (hm : X.mg x = none) (hv : bootBuiltins x = some (.type T)) (hg : Gl X x := by rfl)
    (hn : x ≠ "__name__" := by decide) (hdb : (x == ("__debug__" : Str)) = false := by decide) (he : starEach (e :: es) X.env = (false, eval e X.env) :: starEach es X.env := by rfl) (hpl : (backTo pos (starEach es X.env)).any (·.1) = false := by rfl) : EvD X (.Call (.Name x p) (e :: es) [] pos) r m d m2 := by
  refine ev_of (pe_callTy hc hg hm hv ha hn hdb he hpl) fun σ H Q h q => ⟨h, fun vs H1 k1 s1 r1 => ⟨k1, r1, fun w H2 k2 s2 r2 => q w H2 k2 (s1.trans s2) r2⟩⟩
theorem DrAll.one_of {H : Hp} {d : Da} {vs : List V} (h : DrAll H [d] vs) : ∃ v, vs = [v] ∧ Dr H d v := by
  obtain ⟨v, w, h1, h2, h3⟩ := h
  cases h3
  exact ⟨v, h1, h2⟩
theorem DrAll.two_of {H : Hp} {d e : Da} {vs : List V} (h : DrAll H [d, e] vs) : ∃ v u, vs = [v, u] ∧ Dr H d v ∧ Dr H e u := by
  obtain ⟨v, w, h1, h2, h3⟩ := h
  obtain ⟨u, rfl, h4⟩ := h3.one_of
  exact ⟨v, u, h1, h2, h4⟩
theorem cd_len {x : Da} {ds : List Da} (e : itemsOf m x = some ds) : CaD X (.builtin "len") [x] m (.int ds.length) m :=
  cd_of call_len fun vs H Q k h q => by
    obtain ⟨v, rfl, hv⟩ := h.one_of
    obtain ⟨a, ws, rfl, rd, ra⟩ := items_read (K := X.K) k hv e
    refine ⟨.ref a, ds.length, rfl, ?_, q _ H k (Same.refl _) rfl⟩
    rcases rd with rd | rd
    · exact .inl ⟨ws, rd, ra.length.symm⟩
    · exact .inr ⟨ws, rd, ra.length.symm⟩
theorem cd_lenS {ns : List Int} : CaD X (.builtin "len") [.seq X.K ns] m (.int ns.length) m :=
  cd_of call_len fun vs H Q k h q => by
    obtain ⟨v, rfl, a, hv, hs⟩ := h.one_of
    subst hv
    rcases hs with hs | hs
    · exact ⟨.ref a, ns.length, rfl, .inl ⟨_, hide_sub.seq hs, by rw [List.length_map]⟩, q _ H k (Same.refl _) rfl⟩
    · exact ⟨.ref a, ns.length, rfl, .inr ⟨_, same_T hide_sub hs, by rw [List.length_map]⟩, q _ H k (Same.refl _) rfl⟩
/-- list() of the text's own empty tuple, or of the script -/
theorem ints_all {G : Hp} : ∀ ns : List Int, DrAll G (ns.map Da.int) (ns.map V.int)
  | [] => rfl
  | n :: ns => ⟨.int n, ns.map V.int, rfl, rfl, ints_all ns⟩
theorem cd_listS {ns : List Int} : CaD X (.type "list") [.seq X.K ns] m (.lst (ns.map .int)) m :=
  cd_of call_list_of fun vs H Q k h q => by
    obtain ⟨v, rfl, a, hv, hs⟩ := h.one_of
    subst hv
    exact ⟨a, ns.map V.int, rfl, hs.imp hide_sub.seq (same_T hide_sub), fun l hl => q _ _ (k.new hl) (hide_new hl) ⟨l, _, rfl, by rw [hide_none (k.free hl), upd_same], ints_all ns⟩⟩
theorem cd_list {x : Da} {ds : List Da} (e : itemsOf m x = some ds) : CaD X (.type "list") [x] m (.lst ds) m :=
  cd_of call_list_of fun vs H Q k h q => by
    obtain ⟨v, rfl, hv⟩ := h.one_of
    obtain ⟨a, ws, rfl, rd, ra⟩ := items_read (K := X.K) k hv e
    exact ⟨a, ws, rfl, rd, fun l hl => q _ _ (k.new hl) (hide_new hl) ⟨l, ws, rfl, by rw [hide_none (k.free hl), upd_same], ra.mono (hide_new hl)⟩⟩
theorem cd_tuple {x : Da} {ds : List Da} (e : itemsOf m x = some ds) : CaD X (.type "tuple") [x] m (.tup ds) m :=
  cd_of call_tuple_of fun vs H Q k h q => by
    obtain ⟨v, rfl, hv⟩ := h.one_of
    cases x with
    | tup es =>
      cases e
      obtain ⟨a, ws, h1, h2, h3⟩ := hv
      subst h1
      exact ⟨a, ws, rfl, .inr ⟨SqT.of (hide_sub _ _ h2), q _ H k (Same.refl _) ⟨a, ws, rfl, h2, h3⟩⟩⟩
    | lst es =>
      cases e
      obtain ⟨a, ws, h1, h2, h3⟩ := hv
      subst h1
      exact ⟨a, ws, rfl, .inl ⟨SqL.of (hide_sub _ _ h2), fun l hl => q _ _ (k.new hl) (hide_new hl) ⟨l, ws, rfl, by rw [hide_none (k.free hl), upd_same], h3.mono (hide_new hl)⟩⟩⟩
    | loc a =>
      simp only [itemsOf] at e
      split at e
      · rename_i es qm
        cases e
        obtain ⟨ws, h2, h3⟩ := k a _ qm
        have hv' : v = .ref a := hv
        subst hv'
        exact ⟨a, ws, rfl, .inl ⟨SqL.of h2, fun l hl => q _ _ (k.new hl) (hide_new hl) ⟨l, ws, rfl, by rw [hide_none (k.free hl), upd_same], h3.mono (hide_new hl)⟩⟩⟩
      · cases e
    | _ => cases e
theorem cd_int {i : Int} : CaD X (.type "int") [.int i] m (.int i) m :=
  cd_of call_int1 fun vs H Q k h q => by
    obtain ⟨v, rfl, hv⟩ := h.one_of
    cases hv
    exact .inl ⟨i, rfl, q _ H k (Same.refl _) rfl⟩
theorem cd_max2 {i j : Int} (hc : X.calm = true) : CaD X (.builtin "max") [.int i, .int j] m (.int (if j > i then j else i)) m :=
  cd_of (call_max2 hc) fun vs H Q k h q => by
    obtain ⟨v, u, rfl, hv, hu⟩ := h.two_of
    cases hv; cases hu
    exact ⟨i, j, rfl, q _ H k (Same.refl _) rfl⟩
theorem cd_min2 {i j : Int} (hc : X.calm = true) : CaD X (.builtin "min") [.int i, .int j] m (.int (if j < i then j else i)) m :=
  cd_of (call_min2 hc) fun vs H Q k h q => by
    obtain ⟨v, u, rfl, hv, hu⟩ := h.two_of
    cases hv; cases hu
    exact ⟨i, j, rfl, q _ H k (Same.refl _) rfl⟩
theorem DrAll.allInts {H : Hp} : ∀ {ns : List Int} {vs : List V}, DrAll H (ns.map .int) vs → vs = ns.map V.int
  | [], _, h => by cases h; rfl
  | n :: ns, _, ⟨v, w, h1, h2, h3⟩ => by subst h1; rw [DrAll.allInts h3, (show v = .int n from h2)]; rfl
theorem DrAll.allBls {H : Hp} : ∀ {ns : List Bool} {vs : List V}, DrAll H (ns.map .bl) vs → vs = ns.map V.bl
  | [], _, h => by cases h; rfl
  | n :: ns, _, ⟨v, w, h1, h2, h3⟩ => by subst h1; rw [DrAll.allBls h3, (show v = .bl n from h2)]; rfl
theorem cd_minL {ns : List Int} {n : Int} (hc : X.calm = true) (h1 : n ∈ ns) (h2 : ∀ y ∈ ns, n ≤ y) : CaD X (.builtin "min") [.lst (ns.map .int)] m (.int n) m :=
  cd_of (cr_min hc) fun vs H Q k h q => by
    obtain ⟨v, rfl, a, ws, g1, g2, g3⟩ := h.one_of
    rw [g3.allInts] at g2
    refine ⟨a, ns, by rw [g1], SqL.of (hide_sub _ _ g2), List.length_pos_of_mem h1, fun k' hk hle => ?_⟩
    have e : k' = n := Int.le_antisymm (hle n h1) (h2 k' hk)
    rw [e]
    exact q _ H k (Same.refl _) rfl
theorem cd_all {bs : List Bool} (hc : X.calm = true) : CaD X (.builtin "all") [.lst (bs.map .bl)] m (.bl (bs.all id)) m :=
  cd_of (cr_all hc) fun vs H Q k h q => by
    obtain ⟨v, rfl, a, ws, g1, g2, g3⟩ := h.one_of
    rw [g3.allBls] at g2
    exact ⟨a, bs, by rw [g1], SqL.of (hide_sub _ _ g2), q _ H k (Same.refl _) rfl⟩
/-! ### defs: the contract over data -/
/-- what a def does with data: R ds m Q' says that called with ds in m it ends, with Q' of what it gives -/
abbrev Con' := List Da → Mem → (Da → Mem → Prop) → Prop
def spD (n : Nat) (R : Con') : Sp := fun vs H Q _ => ∃ ds m Q', ds.length = n ∧ R ds m Q' ∧ MemOk m H ∧ DrAll (hide m H) ds vs ∧ ∀ d m' v H', Q' d m' → MemOk m' H' → Same (hide m H) (hide m' H') → Dr (hide m' H') d v → Q v H'
theorem spD_len {n : Nat} {R : Con'} {ps : List Str} (hn : n = ps.length) : ∀ vs H Q E, spD n R vs H Q E → vs.length = ps.length := by
  rintro vs H Q E ⟨ds, m, Q', hl, _, _, h, _⟩
  rw [h.length, hl, hn]
def rho0 (N : List Str) (ds : List Da) : Rho := ds.map some ++ List.replicate (N.length - ds.length) none
theorem holds_start {N : List Str} {ds : List Da} {vs : List V} {H : Hp} (k : MemOk m H) (h : DrAll (hide m H) ds vs) : Holds (rho0 N ds) m (L2.start N vs) H := by
  have ln := h.length
  refine ⟨k, by unfold rho0 L2.start; simp [ln], fun i d e => ?_⟩
  unfold rho0 at e
  unfold L2.start
  by_cases hi : i < ds.length
  · rw [List.getElem?_append_left (by simpa using hi)] at e
    rw [List.getElem?_append_left (by simpa [ln] using hi)]
    rw [List.getElem?_map] at e ⊢
    cases q : ds[i]? with
    | none => rw [q] at e; cases e
    | some d' =>
      rw [q] at e
      cases e
      obtain ⟨v, e1, e2⟩ := h.get q
      exact ⟨v, by rw [e1]; rfl, e2⟩
  · rw [List.getElem?_append_right (by simpa using hi)] at e
    rw [List.getElem?_replicate] at e
    split at e <;> cases e
section
variable {P : Program} {w : World} {K : PySem.W.Frag} {mg : Str → Option Value} {base : Heap}
/-- THE RULE for a def: its body, walked over data -/
theorem fn_ok {x qual : Str} {st : Stmt} {f : Addr} {fd : FuncData} {N ps : List Str} {k n : Nat} {R : Con'} (F : Fun K x qual st f fd) (S : FnScope N ps (defScope st)) (hn : n = ps.length)
    (hb : ∀ (cdv : Value) (A : Around) (outer : List Env) (s : Shared) (H : Hp) (E : XK) (ds : List Da) (m : Mem) (Q' : Da → Mem → Prop), Room k (A.deeper (envOfC qual (defScope st) s.heap.objs.size f cdv)) → R ds m Q' →
      ExW (cxOf CX0 P w K mg base N qual (defScope st) f cdv A outer s H E).nox (defBody st) (rho0 N ds) m { nx := fun _ m' => Q' .non m', rt := Q' }) : FnOk P w K mg base CX0 (k + 1) f fd ps (spD n R) := by
  refine F.ok S (spD_len hn) fun cdv A outer s H vs Q E hr h => ?_
  obtain ⟨ds, m, Q', hl, hR, k0, hd, hq⟩ := h
  refine ⟨_, hb cdv A outer s H E ds m Q' hr hR, holds_start k0 hd, fun r' m' σ' H' a b c => hq .non m' .non H' a b.1 c rfl, fun d m' v H' a b c e => hq d m' v H' a b c e, fun _ _ _ _ z => z.elim, fun _ _ _ _ z => z.elim⟩
end
theorem ev_call {f : Addr} {fd : FuncData} {ps : List Str} {k n : Nat} {R : Con'} {x : Str} {e : Expr} {es : List Expr} {p pos : Pos} {ds : List Da} {d : Da} (F : FnOk X.prog X.w X.K X.mg X.base CX0 k f fd ps (spD n R)) (hr : Room k X.A) (hm : X.mg x = some (.ref f)) (hk : PySem.W.keepIn X.K (.ref f) = true) (hb : Binds X.K fd ps [])
    (ha : EvA X (e :: es) r m ds m1) (hn : ds.length = n) (hR : R ds m1 fun d' m' => d' = d ∧ m' = m2) (hg : Gl X x := by rfl) (hdb : (x == ("__debug__" : Str)) = false := by decide) (he : starEach (e :: es) X.env = (false, eval e X.env) :: starEach es X.env := by rfl) (hpl : (backTo pos (starEach es X.env)).any (·.1) = false := by rfl) : EvD X (.Call (.Name x p) (e :: es) [] pos) r m d m2 :=
  ev_of (pe_call F hr hg hm hk hb .nil pass0 ha hdb he hpl) fun σ H Q h q => ⟨h, fun vs H1 k1 s1 r1 => ⟨ds, m1, _, hn, hR, k1, by rw [List.append_nil]; exact r1, fun d' m' v H' ⟨e1, e2⟩ k2 s2 r2 => by
    subst e1 e2
    exact q v H' k2 (s1.trans s2) r2⟩⟩
theorem ev_meth {f C a : Addr} {fd : FuncData} {ps : List Str} {k n : Nat} {R : Con'} {y : Str} {o e : Expr} {es : List Expr} {apos pos : Pos} {ds : List Da} {d : Da} {fs : List (Str × Da)} {pl : Sem Bool} (ho : EvD X o r m (.loc a) m1) (hm : m1 a = some (.ins C fs)) (hno : fs.lookup y = none)
    (c : Cls X.K C) (hM : Meth X.K C y f) (F : FnOk X.prog X.w X.K X.mg X.base CX0 k f fd ps (spD n R)) (hr : Room k X.A) (hb : Binds X.K fd ps [])
    (ha : EvA X (e :: es) r m1 ds m2) (hn : ds.length + 1 = n) (hR : R (.loc a :: ds) m2 fun d' m' => d' = d ∧ m' = m3) (hst : starEach (e :: es) X.env = (false, eval e X.env) :: starEach es X.env := by rfl) (hpl : (backTo pos (starEach es X.env)).any (·.1) = false := by rfl)
    (ht : eval (.Call (.Attribute o y apos) (e :: es) [] pos) X.env = (do let ov ← eval o X.env; standAt apos.atName; let (f, first) ← holding [ov] (getMethod ov y pl); callWith pos f first (backTo pos (starEach (e :: es) X.env)) (backToKw pos (keywordEach [] X.env))) := by rfl) :
    EvD X (.Call (.Attribute o y apos) (e :: es) [] pos) r m d m3 :=
  ev_of (pe_meth ho c hM F hr hb .nil pass0 ha hst hpl ht) fun σ H Q h q => ⟨h, fun v H1 k1 s1 r1 => by
    obtain ⟨dx, gs, h1, h2⟩ := k1 a _ hm
    refine ⟨a, dx, gs, r1, h1, h2.nolook hno, h.mono k1 s1, fun vs H2 k2 s2 r2 => ⟨.loc a :: ds, m2, _, hn, hR, k2, by rw [List.append_nil]; exact ⟨v, vs, rfl, r1, r2⟩, fun d' m' w H' ⟨e1, e2⟩ k3 s3 r3 => ?_⟩⟩
    subst e1 e2
    exact q w H' k3 ((s1.trans s2).trans s3) r3⟩
theorem ev_meth0 {f C a : Addr} {fd : FuncData} {ps : List Str} {k n : Nat} {R : Con'} {y : Str} {o : Expr} {apos pos : Pos} {d : Da} {fs : List (Str × Da)} {pl : Sem Bool} (ho : EvD X o r m (.loc a) m1) (hm : m1 a = some (.ins C fs)) (hno : fs.lookup y = none)
    (c : Cls X.K C) (hM : Meth X.K C y f) (F : FnOk X.prog X.w X.K X.mg X.base CX0 k f fd ps (spD n R)) (hr : Room k X.A) (hb : Binds X.K fd ps []) (hn : 1 = n) (hR : R [.loc a] m1 fun d' m' => d' = d ∧ m' = m3)
    (ht : eval (.Call (.Attribute o y apos) [] [] pos) X.env = (do let ov ← eval o X.env; standAt apos.atName; let (f, first) ← holding [ov] (getMethod ov y pl); callWith pos f first (backTo pos (starEach [] X.env)) (backToKw pos (keywordEach [] X.env))) := by rfl) :
    EvD X (.Call (.Attribute o y apos) [] [] pos) r m d m3 :=
  ev_of (pe_meth0 ho c hM F hr hb .nil pass0 ht) fun σ H Q h q => ⟨h, fun v H1 k1 s1 r1 => by
    obtain ⟨dx, gs, h1, h2⟩ := k1 a _ hm
    refine ⟨a, dx, gs, r1, h1, h2.nolook hno, ⟨[.loc a], m1, _, hn, hR, k1, ⟨v, [], rfl, r1, rfl⟩, fun d' m' w H' ⟨e1, e2⟩ k3 s3 r3 => ?_⟩⟩
    subst e1 e2
    exact q w H' k3 (s1.trans s3) r3⟩
/-! ### stores -/
/-- x = [] where the list is to be a cell -/
theorem s_newlist {i : Nat} {x : Str} {pos pos' ppos : Pos} {D : DE} (hN : X.N.Nodup) (h : ∀ p, m p = none → D.nx (r.set i (some (.loc p))) (m.put p (.lst []))) (hi : X.N[i]? = some x := by rfl) (hx : Loc X.env.scope x := by first | exact Or.inl rfl | exact Or.inr rfl)
    (hs : swapsWith (.List [] ppos) (some (.Name x pos')) pos.line X.env = pure false := by rfl) (hf : X.fn x = true ∨ X.env.scope.names.lookup x = some .local := by first | exact .inl rfl | exact .inr rfl | assumption) : ExS X (.Assign [.Name x pos'] (.List [] ppos) pos) r m D :=
  es_of (ps_set (i := i) hN hi hx (pe_lst pa_nil) hs hf) fun E σ H a e => ⟨Nat.zero_le _, fun p hp => by
    have k := a.1.cell (c := .lst []) (o := .lst []) hp ⟨[], upd_same, rfl⟩
    exact e.nx _ _ _ _ (h p (a.1.free hp)) ((a.mono k (hide_put_new hp)).set i rfl) (hide_put_new hp)⟩
/-- x.append(e) to a cell -/
theorem s_append {o e : Expr} {apos cpos pos : Pos} {a : Addr} {d : Da} {ds : List Da} {D : DE} (ho : EvD X o r m (.loc a) m1) (he : EvD X e r m1 d m2) (hm1 : ∃ ds, m1 a = some (.lst ds)) (hm : m2 a = some (.lst ds)) (hl : ds.length < 1000) (h : D.nx r (m2.put a (.lst (ds ++ [d]))))
    (hs : swapsWith (.Call (.Attribute o "append" apos) [e] [] cpos) none pos.line X.env = pure false := by rfl) (hst : starEach [e] X.env = (false, eval e X.env) :: starEach [] X.env := by rfl) (hbase : attributeBase o "append" X.env (eval o X.env) = eval o X.env := by rfl) (hfew : ((backTo cpos (starEach [e] X.env)).all (fun x => !x.1) && (backToKw cpos (keywordEach [] X.env)).all (fun x => x.1.isSome) && decide ([e].length + ([] : List Keyword).length + (if ([] : List Keyword).isEmpty then 0 else 1) < 30)) = true := by rfl)
    (hline : (apos.endLine == cpos.line) = true := by rfl) : ExS X (.Expr (.Call (.Attribute o "append" apos) [e] [] cpos) pos) r m D :=
  es_of (ps_expr (pe_bm PySem.F.plainAttrs_list PySem.F.slot_list_append PySem.F.type_list_append mt_append ho (pa_cons he pa_nil hst) hbase hfew hline hst rfl) hs) fun E σ H hh en => ⟨hh, fun v H1 k1 s1 r1 => by
    obtain ⟨ds1, hm1⟩ := hm1
    obtain ⟨vs1, g1, _⟩ := k1 a _ hm1
    refine ⟨by rw [r1]; exact .inl ⟨rfl, _, SqL.of g1⟩, hh.mono k1 s1, fun u H2 k2 s2 r2 => ?_⟩
    obtain ⟨vs, g2, g3⟩ := k2 a _ hm
    refine ⟨a, vs, u, r1, rfl, g2, small1000 (by rw [g3.length]; omega), ?_⟩
    have k3 := k2.write (p := a) (o := .lst (vs ++ [u])) (c := .lst (ds ++ [d])) hm ⟨_, upd_same, g3.app (DrAll.one r2)⟩
    have e3 : hide (m2.put a (.lst (ds ++ [d]))) (upd H2 a (.lst (vs ++ [u]))) = hide m2 H2 := by rw [hide_put_ex hm, hide_upd hm]
    have s3 : Same (hide m2 H2) (hide (m2.put a (.lst (ds ++ [d]))) (upd H2 a (.lst (vs ++ [u])))) := by rw [e3]; exact Same.refl _
    exact en.nx _ _ _ _ h (hh.mono k3 ((s1.trans s2).trans s3)) ((s1.trans s2).trans s3)⟩
/-- o.f = e -/
theorem s_fld {o e : Expr} {f : Str} {pos pos' : Pos} {a C : Addr} {fs : List (Str × Da)} {d : Da} {D : DE} (he : EvD X e r m d m1) (ho : EvD X o r m1 (.loc a) m2) (hm : m2 a = some (.ins C fs)) (c : Cls X.K C) (n : NoAttr X.K C f) (hl : fs.length < 1000) (h : D.nx r (m2.put a (.ins C (putD f d fs))))
    (hs : swapsWith e (some (.Attribute o f pos')) pos.line X.env = pure false := by rfl) : ExS X (.Assign [.Attribute o f pos'] e pos) r m D :=
  es_of (ps_fld ho he hs) fun E σ H hh en => ⟨hh, fun u H1 k1 s1 r1 => ⟨hh.mono k1 s1, fun v H2 k2 s2 r2 => by
    obtain ⟨dx, gs, g1, g2⟩ := k2 a _ hm
    refine ⟨a, C, dx, gs, r2, g1, c, n, by rw [g2.length]; exact hl, ?_⟩
    have k3 := k2.write (p := a) (o := .ins C dx (putF f u gs)) (c := .ins C (putD f d fs)) hm ⟨dx, _, upd_same, g2.put (r1.mono s2)⟩
    have e3 : hide (m2.put a (.ins C (putD f d fs))) (upd H2 a (.ins C dx (putF f u gs))) = hide m2 H2 := by rw [hide_put_ex hm, hide_upd hm]
    have s3 : Same (hide m2 H2) (hide (m2.put a (.ins C (putD f d fs))) (upd H2 a (.ins C dx (putF f u gs)))) := by rw [e3]; exact Same.refl _
    exact en.nx _ _ _ _ h (hh.mono k3 ((s1.trans s2).trans s3)) ((s1.trans s2).trans s3)⟩⟩
/-- o[i] = e, o a list's cell -/
theorem s_sub {o i e : Expr} {pos pos' : Pos} {a : Addr} {j : Int} {ds : List Da} {d : Da} {D : DE} {m4 : Mem} (he : EvD X e r m d m1) (ho : EvD X o r m1 (.loc a) m2) (hi : EvD X i r m2 (.int j) m4) (hm : m4 a = some (.lst ds)) (h0 : 0 ≤ j) (h1 : j.toNat < ds.length) (h : D.nx r (m4.put a (.lst (ds.set j.toNat d))))
    (hs : swapsWithSole [.Subscript o i pos'] e pos.line X.env = pure false := by rfl) (hw : swappedStores [.Subscript o i pos'] e X.env = pure none := by rfl)
    (h2 : (assignEach [.Subscript o i pos'] X.env).map (·.2) = [assign (.Subscript o i pos') X.env] := by rfl)
    (ha : ∀ v, assign (.Subscript o i pos') X.env v = (do let ov ← holding [v] (eval o X.env); let iv ← holding [v, ov] (eval i X.env); standAt pos'; holding [v, ov, iv] (setItem ov iv v); release [v, ov, iv] []) := by intro _; rfl) : ExS X (.Assign [.Subscript o i pos'] e pos) r m D :=
  es_of (ps_asg he (pg_sub ho hi set_list ha) hs hw h2) fun E σ H hh en => ⟨hh, fun u H1 k1 s1 r1 => ⟨hh.mono k1 s1, fun v H2 k2 s2 r2 => ⟨(hh.mono k1 s1).mono k2 s2, fun w H4 k4 s4 r4 => by
    obtain ⟨vs, g1, g2⟩ := k4 a _ hm
    have ix : ixN vs.length j = some j.toNat := by
      unfold ixN
      rw [if_pos h0, if_pos (by rw [g2.length]; omega)]
    refine ⟨a, vs, j, j.toNat, r2, r4, g1, ix, ?_⟩
    have k5 := k4.write (p := a) (o := .lst (vs.set j.toNat u)) (c := .lst (ds.set j.toNat d)) hm ⟨_, upd_same, g2.set _ (r1.mono (s2.trans s4))⟩
    have e3 : hide (m4.put a (.lst (ds.set j.toNat d))) (upd H4 a (.lst (vs.set j.toNat u))) = hide m4 H4 := by rw [hide_put_ex hm, hide_upd hm]
    have s3 : Same (hide m4 H4) (hide (m4.put a (.lst (ds.set j.toNat d))) (upd H4 a (.lst (vs.set j.toNat u)))) := by rw [e3]; exact Same.refl _
    exact en.nx _ _ _ _ h (hh.mono k5 (((s1.trans s2).trans s4).trans s3)) (((s1.trans s2).trans s4).trans s3)⟩⟩⟩
/-! ### targets: a name, a tuple of names -/
inductive Tg where
  | nm (i : Nat)
  | tp (is : List Nat)
def setAll (r : Rho) : List Nat → List Da → Rho
  | i :: is, d :: ds => setAll (r.set i (some d)) is ds
  | _, _ => r
def Tg.put : Tg → Da → Rho → Option Rho
  | .nm i, d, r => some (r.set i (some d))
  | .tp is, .tup ds, r => if ds.length = is.length then some (setAll r is ds) else none
  | .tp _, _, _ => none
def Tg.own : Tg → List Nat
  | .nm i => [i]
  | .tp is => is
/-- the target's reading: only its own slots change -/
def gD (t : Tg) : TG := fun v σ H Q => ∃ r m d r', t.put d r = some r' ∧ Holds r m σ H ∧ Dr (hide m H) d v ∧ ∀ σ', Holds r' m σ' H → (∀ i, i ∉ t.own → σ'[i]? = σ[i]?) → Q σ' H
def TgD (X : Cx) (tg : Expr) (t : Tg) : Prop := PG X tg (gD t)
theorem tg_nm {i : Nat} {x : Str} {pos : Pos} (hN : X.N.Nodup) (hi : X.N[i]? = some x := by rfl) (hx : Loc X.env.scope x := by first | exact Or.inl rfl | exact Or.inr rfl) (hf : X.fn x = true ∨ X.env.scope.names.lookup x = some .local := by first | exact .inl rfl | exact .inr rfl | assumption) : TgD X (.Name x pos) (.nm i) :=
  ⟨fun pins s σ H v u Q I rv ⟨r, m, d, r', e, h, k, q⟩ => (pg_name hN hi hx hf).run pins s σ H v u Q I rv (by
    cases e
    exact q _ (h.set i k) fun j hj => List.getElem?_set_ne (fun z => hj (by rw [← z]; exact List.mem_cons_self)))⟩
def gDs (is : List Nat) : TGs := fun vs σ H Q => ∃ r m ds, ds.length = is.length ∧ Holds r m σ H ∧ DrAll (hide m H) ds vs ∧ ∀ σ', Holds (setAll r is ds) m σ' H → (∀ i, i ∉ is → σ'[i]? = σ[i]?) → Q σ' H
def TgsD (X : Cx) (ts : List Expr) (is : List Nat) : Prop := PGs X ts (gDs is)
theorem tgs_nil : TgsD X [] [] := ⟨fun pins s σ H vs us Q I rv ⟨r, m, ds, e, h, k, q⟩ => by
  have e0 : ds = [] := List.length_eq_zero_iff.mp e
  subst e0
  cases k
  exact pgs_nil.run pins s σ H [] us Q I rv ⟨rfl, q σ h fun _ _ => rfl⟩⟩
theorem tgs_cons {i : Nat} {x : Str} {pos : Pos} {ts : List Expr} {is : List Nat} (hN : X.N.Nodup) (h2 : TgsD X ts is) (hi : X.N[i]? = some x := by rfl) (hx : Loc X.env.scope x := by first | exact Or.inl rfl | exact Or.inr rfl) (hf : X.fn x = true ∨ X.env.scope.names.lookup x = some .local := by first | exact .inl rfl | exact .inr rfl | assumption)
    (hs : (assignEach (.Name x pos :: ts) X.env).map (·.2) = assign (.Name x pos) X.env :: (assignEach ts X.env).map (·.2) := by rfl) : TgsD X (.Name x pos :: ts) (i :: is) :=
  ⟨fun pins s σ H vs us Q I rv ⟨r, m, ds, e, h, k, q⟩ => (pgs_cons (pg_name hN hi hx hf) h2 hs).run pins s σ H vs us Q I rv (by
    cases ds with
    | nil => cases e
    | cons d ds =>
      obtain ⟨v, w, h1, h2', h3⟩ := k
      refine ⟨v, w, h1, r.set i (some d), m, ds, by simpa using e, h.set i h2', h3, fun σ' hh hk => q σ' hh fun j hj => ?_⟩
      have hj1 : j ≠ i := fun z => hj (by rw [z]; exact List.mem_cons_self)
      have hj2 : j ∉ is := fun z => hj (List.mem_cons_of_mem _ z)
      rw [hk j hj2, List.getElem?_set_ne (Ne.symm hj1)])⟩
theorem tg_tp {es : List Expr} {is : List Nat} {k : Nat} {pos : Pos} {n : Nat} (hc : X.calm = true) (h : TgsD X es is) (hl : n = is.length := by rfl)
    (hn : (assignEach es X.env).length = n := by rfl) (hst : (assignEach es X.env).findIdx? (·.1) = none := by rfl) : TgD X (.Tuple es k pos) (.tp is) :=
  ⟨fun pins s σ H v u Q I rv ⟨r, m, d, r', e, hh, kk, q⟩ => (pg_tup (n := n) hc h hn hst).run pins s σ H v u Q I rv (by
    cases d with
    | tup ds =>
      have e' : (if ds.length = is.length then some (setAll r is ds) else none) = some r' := e
      by_cases hle : ds.length = is.length
      · rw [if_pos hle] at e'
        cases e'
        obtain ⟨a, vs, h1, h2, h3⟩ := kk
        exact ⟨a, vs, h1, SqT.of (hide_sub _ _ h2), by rw [h3.length, hle, hl], r, m, ds, hle, hh, h3, fun σ' x y => q σ' x y⟩
      · rw [if_neg hle] at e'
        cases e'
    | _ => cases e)⟩
/-- a, b = e -/
theorem s_untup {es : List Expr} {e : Expr} {k : Nat} {pos pos' : Pos} {t : Tg} {d : Da} {r' : Rho} {D : DE} (he : EvD X e r m d m1) (hg : TgD X (.Tuple es k pos') t) (hp : t.put d r = some r') (h : D.nx r' m1)
    (hs : swapsWithSole [.Tuple es k pos'] e pos.line X.env = pure false := by rfl) (hw : swappedStores [.Tuple es k pos'] e X.env = pure none := by rfl)
    (h1 : (assignEach [.Tuple es k pos'] X.env).map (·.2) = [assign (.Tuple es k pos') X.env] := by rfl) : ExS X (.Assign [.Tuple es k pos'] e pos) r m D :=
  es_of (ps_asg he hg hs hw h1) fun E σ H hh en => ⟨hh, fun v H1 k1 s1 r1 => ⟨r, m1, d, r', hp, hh.mono k1 s1, r1, fun σ' x y => en.nx _ _ _ _ h x s1⟩⟩
/-! ### what is walked -/
/-- at turn i of these items; inv: what of the store must stand at each turn -/
structure Walks' (K : PySem.W.Frag) (J : It) (ds : List Da) (G : Hp) (inv : Mem → Prop) : Prop where
  go : ∀ i m H, i < ds.length → MemOk m H → Same G (hide m H) → inv m → J.go i H
  yld : ∀ i m H x H', i < ds.length → MemOk m H → Same G (hide m H) → inv m → J.yld i H x H' → H' = H ∧ ∃ d, ds[i]? = some d ∧ Dr (hide m H) d x
  stop : ∀ m H, MemOk m H → Same G (hide m H) → inv m → J.stop ds.length H
def tI (K : PySem.W.Frag) (r : Rho) (m : Mem) (ds : List Da) (m' : Mem) (inv : Mem → Prop) : TI := fun σ H R => Holds r m σ H ∧ ∀ J H', MemOk m' H' → Same (hide m H) (hide m' H') → Walks' K J ds (hide m' H') inv → R J H'
def ItD (X : Cx) (tg iter : Expr) (r : Rho) (m : Mem) (ds : List Da) (m' : Mem) (inv : Mem → Prop) : Prop := PI X tg iter (tI X.K r m ds m' inv)
theorem it_of {tg iter : Expr} {wi : TI} {ds : List Da} {inv : Mem → Prop} (h : PI X tg iter wi) (k : ∀ σ H R, Holds r m σ H → (∀ J H', MemOk m1 H' → Same (hide m H) (hide m1 H') → Walks' X.K J ds (hide m1 H') inv → R J H') → wi σ H R) : ItD X tg iter r m ds m1 inv :=
  ⟨fun pins s σ H R I q => h.run pins s σ H R I (k σ H R q.1 q.2)⟩
theorem it_lst {tg e : Expr} {ds : List Da} (he : EvD X e r m (.lst ds) m1) : ItD X tg e r m ds m1 fun _ => True :=
  it_of (pi_list he) fun σ H R h q => ⟨h, fun v H1 k1 s1 ⟨a, vs, h1, h2, h3⟩ => by
    refine ⟨a, h1, ⟨vs, SqL.of (hide_sub _ _ h2)⟩, q _ H1 k1 s1 ⟨fun i m' H' hi k' s' _ => ?_, fun i m' H' x H'' _ k' s' _ y => ?_, fun m' H' k' s' _ => ?_⟩⟩
    · have hlt : i < vs.length := by rw [h3.length]; exact hi
      exact ⟨vs, vs[i], SqL.of (hide_sub _ _ (s' _ _ h2)), List.getElem?_eq_getElem hlt⟩
    · obtain ⟨e1, e2⟩ := y
      have hx := e2 vs (SqL.of (hide_sub _ _ (s' _ _ h2)))
      have hlt : i < vs.length := (List.getElem?_eq_some_iff.mp hx).1
      have hlt' : i < ds.length := by rw [← h3.length]; exact hlt
      obtain ⟨w, hw, hr⟩ := h3.get (List.getElem?_eq_getElem hlt')
      rw [hx] at hw
      cases hw
      exact ⟨e1, _, List.getElem?_eq_getElem hlt', hr.mono s'⟩
    · exact ⟨vs, SqL.of (hide_sub _ _ (s' _ _ h2)), by rw [h3.length]; exact Nat.le_refl _⟩⟩
theorem it_tup {tg e : Expr} {ds : List Da} (he : EvD X e r m (.tup ds) m1) : ItD X tg e r m ds m1 fun _ => True :=
  it_of (pi_tup he) fun σ H R h q => ⟨h, fun v H1 k1 s1 ⟨a, vs, h1, h2, h3⟩ => by
    refine ⟨a, h1, ⟨vs, SqT.of (hide_sub _ _ h2)⟩, q _ H1 k1 s1 ⟨fun i m' H' hi k' s' _ => ?_, fun i m' H' x H'' _ k' s' _ y => ?_, fun m' H' k' s' _ => ?_⟩⟩
    · have hlt : i < vs.length := by rw [h3.length]; exact hi
      exact ⟨vs, vs[i], SqT.of (hide_sub _ _ (s' _ _ h2)), List.getElem?_eq_getElem hlt⟩
    · obtain ⟨e1, e2⟩ := y
      have hx := e2 vs (SqT.of (hide_sub _ _ (s' _ _ h2)))
      have hlt : i < vs.length := (List.getElem?_eq_some_iff.mp hx).1
      have hlt' : i < ds.length := by rw [← h3.length]; exact hlt
      obtain ⟨w, hw, hr⟩ := h3.get (List.getElem?_eq_getElem hlt')
      rw [hx] at hw
      cases hw
      exact ⟨e1, _, List.getElem?_eq_getElem hlt', hr.mono s'⟩
    · exact ⟨vs, SqT.of (hide_sub _ _ (s' _ _ h2)), by rw [h3.length]; exact Nat.le_refl _⟩⟩
/-- over a list's cell that stays as it is -/
theorem it_cell {tg e : Expr} {a : Addr} {ds : List Da} (he : EvD X e r m (.loc a) m1) (hm : m1 a = some (.lst ds)) : ItD X tg e r m ds m1 fun m' => m' a = some (.lst ds) :=
  it_of (pi_list he) fun σ H R h q => ⟨h, fun v H1 k1 s1 r1 => by
    obtain ⟨vs, h2, h3⟩ := k1 a _ hm
    refine ⟨a, r1, ⟨vs, SqL.of h2⟩, q _ H1 k1 s1 ⟨fun i m' H' hi k' s' hv => ?_, fun i m' H' x H'' _ k' s' hv y => ?_, fun m' H' k' s' hv => ?_⟩⟩
    · obtain ⟨ws, g2, g3⟩ := k' a _ hv
      have hlt : i < ws.length := by rw [g3.length]; exact hi
      exact ⟨ws, ws[i], SqL.of g2, List.getElem?_eq_getElem hlt⟩
    · obtain ⟨ws, g2, g3⟩ := k' a _ hv
      obtain ⟨e1, e2⟩ := y
      have hx := e2 ws (SqL.of g2)
      have hlt : i < ws.length := (List.getElem?_eq_some_iff.mp hx).1
      have hlt' : i < ds.length := by rw [← g3.length]; exact hlt
      obtain ⟨w, hw, hr⟩ := g3.get (List.getElem?_eq_getElem hlt')
      rw [hx] at hw
      cases hw
      exact ⟨e1, _, List.getElem?_eq_getElem hlt', hr⟩
    · obtain ⟨ws, g2, g3⟩ := k' a _ hv
      exact ⟨ws, SqL.of g2, by rw [g3.length]; exact Nat.le_refl _⟩⟩
/-- lo, lo + 1, .. -/
def rngD (lo : Int) (n : Nat) : List Da := (List.range n).map fun (i : Nat) => Da.int (lo + (i : Int))
theorem rngD_len {lo : Int} {n : Nat} : (rngD lo n).length = n := by simp [rngD]
theorem rngD_get {lo : Int} {n i : Nat} (h : i < n) : (rngD lo n)[i]? = some (.int (lo + (i : Int))) := by simp [rngD, h]
theorem walks_range {K : PySem.W.Frag} {lo : Int} {n : Nat} {G : Hp} : Walks' K (Itr lo n) (rngD lo n) G fun _ => True where
  go := fun i m H hi _ _ _ => by rw [rngD_len] at hi; exact hi
  yld := fun i m H x H' hi _ _ _ y => by
    obtain ⟨e1, e2⟩ := y
    rw [rngD_len] at hi
    exact ⟨e1, _, rngD_get hi, e2⟩
  stop := fun m H _ _ _ => by rw [rngD_len]; exact Nat.le_refl _
theorem it_range1 {tg a : Expr} {p pos : Pos} {j : Int} (ha : EvD X a r m (.int j) m1) (hm : X.mg "range" = none) (h1 : -(2 ^ 62) ≤ j) (h2 : j < 2 ^ 62) (hg : Gl X "range" := by rfl) (hs : starEach [a] X.env = [(false, eval a X.env)] := by rfl) :
    ItD X tg (.Call (.Name "range" p) [a] [] pos) r m (rngD 0 j.toNat) m1 fun _ => True :=
  it_of (pi_range1 hg hm (ea_cons ha ea_nil (by rw [hs]; rfl)) hs) fun σ H R h q => ⟨h, fun vs H1 k1 s1 r1 => by
    obtain ⟨v, rfl, hv⟩ := r1.one_of
    cases hv
    exact ⟨j, rfl, h1, h2, q _ H1 k1 s1 walks_range⟩⟩
theorem it_range2 {tg a b : Expr} {p pos : Pos} {i j : Int} (ha : EvD X a r m (.int i) m1) (hb : EvD X b r m1 (.int j) m2) (hm : X.mg "range" = none) (h1 : -(2 ^ 62) ≤ i ∧ i < 2 ^ 62 ∧ -(2 ^ 62) ≤ j ∧ j < 2 ^ 62) (hg : Gl X "range" := by rfl) (hs : starEach [a, b] X.env = [(false, eval a X.env), (false, eval b X.env)] := by rfl) (hs2 : starEach [b] X.env = [(false, eval b X.env)] := by rfl) :
    ItD X tg (.Call (.Name "range" p) [a, b] [] pos) r m (rngD i (j - i).toNat) m2 fun _ => True :=
  it_of (pi_range2 hg hm (ea_cons ha (ea_cons hb ea_nil (by rw [hs2]; rfl)) (by rw [hs, hs2])) hs hs2) fun σ H R h q => ⟨h, fun vs H1 k1 s1 r1 => by
    obtain ⟨v, u, rfl, hv, hu⟩ := r1.two_of
    cases hv; cases hu
    exact ⟨i, j, rfl, h1, q _ H1 k1 s1 walks_range⟩⟩
/-! ### for -/
/-- the loop over these items -/
def ForW (X : Cx) (t : Tg) (body : List Stmt) (inv : Mem → Prop) : List Da → Rho → Mem → DE → Prop
  | [], r, m, D => inv m ∧ D.nx r m
  | d :: ds, r, m, D => inv m ∧ ∃ r', t.put d r = some r' ∧ ExW X body r' m { D with nx := fun r2 m2 => ForW X t body inv ds r2 m2 D, ct := fun r2 m2 => ForW X t body inv ds r2 m2 D, bk := D.nx }
theorem s_for {tg iter : Expr} {t : Tg} {body : List Stmt} {ds : List Da} {inv : Mem → Prop} {pos : Pos} {D : DE} (hi : ItD X tg iter r m ds m1 inv) (hg : TgD X tg t) (h : ForW X t body inv ds r m1 D) (hp : PassesOwn (model X.prog X.w) X.A X.env X.xe := by exact PassesOwn.never) (hc : X.calm = true := by rfl)
    (hs : ∀ x, foldedSetIterable iter X.env x = pure x := by intro _; rfl) : ExS X (.For tg iter body [] pos) r m D := by
  have hb : PSs X body (fun E σ H => ∃ t, PSs X body t ∧ t E σ H) := ⟨fun pins s σ H E I ⟨t, a, b⟩ => a.run pins s σ H E I b⟩
  refine es_of (ps_for hp hc hi hg hb hs) fun E σ H hh en => ⟨hh, fun J H1 k1 s1 wk => ?_⟩
  refine ⟨fun i n σ' H' => n = ds.length - i ∧ i ≤ ds.length ∧ ∃ r' m', Holds r' m' σ' H' ∧ Same (hide m1 H1) (hide m' H') ∧ ForW X t body inv (ds.drop i) r' m' D, ⟨_, rfl, Nat.zero_le _, r, m1, hh.mono k1 s1, Same.refl _, h⟩, ?_⟩
  rintro i n σ' H' ⟨rfl, hle, r', m', h2, s2, fw⟩
  by_cases hlt : i < ds.length
  · right
    have ed : ds.drop i = ds[i] :: ds.drop (i + 1) := by rw [List.drop_eq_getElem_cons hlt]
    rw [ed] at fw
    obtain ⟨iv, r2, hput, hbody⟩ := fw
    refine ⟨wk.go i m' H' hlt h2.1 s2 iv, fun σ3 H3 => i + 1 ≤ ds.length ∧ ∃ r3 m3, Holds r3 m3 σ3 H3 ∧ Same (hide m1 H1) (hide m3 H3) ∧ ForW X t body inv (ds.drop (i + 1)) r3 m3 D, fun σ3 H3 ⟨a, b⟩ => ⟨ds.length - (i + 1), by omega, rfl, a, b⟩, fun x H3 y => ?_⟩
    obtain ⟨e3, d, hd, hr⟩ := wk.yld i m' H' x H3 hlt h2.1 s2 iv y
    subst e3
    rw [List.getElem?_eq_getElem hlt] at hd
    cases hd
    refine ⟨r', m', _, r2, hput, h2, hr, fun σ4 h4 _ => ⟨_, hbody, h4, fun r5 m5 σ5 H5 a b c => ⟨hlt, r5, m5, b, s2.trans c, a⟩, fun d' m5 v H5 a b c f => en.rt d' m5 v H5 a b ((s1.trans s2).trans c) f, fun r5 m5 σ5 H5 a b c => en.nx r5 m5 σ5 H5 a b ((s1.trans s2).trans c), fun r5 m5 σ5 H5 a b c => ⟨hlt, r5, m5, b, s2.trans c, a⟩⟩⟩
  · left
    have e : i = ds.length := by omega
    subst e
    rw [List.drop_length] at fw
    exact ⟨wk.stop m' H' h2.1 s2 fw.1, en.nx r' m' σ' H' fw.2 h2 (s1.trans s2)⟩
theorem for_nil {t : Tg} {body : List Stmt} {inv : Mem → Prop} {D : DE} (hv : inv m) (h : D.nx r m) : ForW X t body inv [] r m D := ⟨hv, h⟩
theorem for_cons {t : Tg} {body : List Stmt} {inv : Mem → Prop} {d : Da} {ds : List Da} {r' : Rho} {D : DE} (hv : inv m) (hp : t.put d r = some r') (h : ExW X body r' m { D with nx := fun r2 m2 => ForW X t body inv ds r2 m2 D, ct := fun r2 m2 => ForW X t body inv ds r2 m2 D, bk := D.nx }) : ForW X t body inv (d :: ds) r m D := ⟨hv, r', hp, h⟩
theorem for_weak {t : Tg} {body : List Stmt} {inv : Mem → Prop} {D D' : DE} (h1 : ∀ r' m', D.nx r' m' → D'.nx r' m') (h2 : ∀ d m', D.rt d m' → D'.rt d m') : ∀ {ds : List Da} {r : Rho} {m : Mem}, ForW X t body inv ds r m D → ForW X t body inv ds r m D'
  | [], _, _, h => ⟨h.1, h1 _ _ h.2⟩
  | _ :: _, _, _, ⟨hv, r', hp, h⟩ => ⟨hv, r', hp, w_imp h (fun _ _ z => for_weak h1 h2 z) h2 h1 (fun _ _ z => for_weak h1 h2 z)⟩
/-- the loop by what holds ahead of the items that are left -/
theorem for_ind {A : Type} {enc : A → Da} {t : Tg} {body : List Stmt} {inv : Mem → Prop} {D : DE} (I : List A → Rho → Mem → Prop) {xs : List A} (h0 : I xs r m) (hn : ∀ r m, I [] r m → inv m ∧ D.nx r m)
    (hc : ∀ x xs r m, I (x :: xs) r m → inv m ∧ ∃ r', t.put (enc x) r = some r' ∧ ExW X body r' m { D with nx := I xs, ct := I xs, bk := D.nx }) : ForW X t body inv (xs.map enc) r m D := by
  have go : ∀ (xs : List A) (r : Rho) (m : Mem), I xs r m → ForW X t body inv (xs.map enc) r m D := by
    intro xs
    induction xs with
    | nil => exact fun r m h => hn r m h
    | cons x xs ih =>
      intro r m h
      obtain ⟨hv, r', hp, hb⟩ := hc x xs r m h
      exact ⟨hv, r', hp, w_imp hb (fun _ _ z => ih _ _ z) (fun _ _ z => z) (fun _ _ z => z) (fun _ _ z => ih _ _ z)⟩
  exact go xs r m h0
/-- .. over a range -/
theorem for_rng {t : Tg} {body : List Stmt} {inv : Mem → Prop} {D : DE} {lo : Int} {n : Nat} (I : Nat → Rho → Mem → Prop) (h0 : I 0 r m) (hn : ∀ r m, I n r m → inv m ∧ D.nx r m)
    (hc : ∀ i r m, i < n → I i r m → inv m ∧ ∃ r', t.put (.int (lo + (i : Int))) r = some r' ∧ ExW X body r' m { D with nx := I (i + 1), ct := I (i + 1), bk := D.nx }) : ForW X t body inv (rngD lo n) r m D := by
  have go : ∀ (k i : Nat) (r : Rho) (m : Mem), i + k = n → I i r m → ForW X t body inv ((List.range' i k).map fun (i : Nat) => Da.int (lo + (i : Int))) r m D := by
    intro k
    induction k with
    | zero =>
      intro i r m e h
      have e' : i = n := by omega
      subst e'
      exact hn r m h
    | succ k ih =>
      intro i r m e h
      obtain ⟨hv, r', hp, hb⟩ := hc i r m (by omega) h
      exact ⟨hv, r', hp, w_imp hb (fun _ _ z => ih (i + 1) _ _ (by omega) z) (fun _ _ z => z) (fun _ _ z => z) (fun _ _ z => ih (i + 1) _ _ (by omega) z)⟩
  have q := go n 0 r m (by omega) h0
  rw [← List.range_eq_range'] at q
  exact q
/-! ### while -/
/-- the loop by a measure: WhW n: within n turns it ends -/
def WhW (X : Cx) (c : Expr) (body : List Stmt) : Nat → Rho → Mem → DE → Prop
  | 0, _, _, _ => False
  | n + 1, r, m, D => ∃ b m1, EvT X c r m b m1 ∧ (b = true → ExW X body r m1 { D with nx := fun r2 m2 => WhW X c body n r2 m2 D, ct := fun r2 m2 => WhW X c body n r2 m2 D, bk := D.nx }) ∧ (b = false → D.nx r m1)
theorem s_while {c : Expr} {body : List Stmt} {pos : Pos} {D : DE} (n : Nat) (h : WhW X c body n r m D) (hp : PassesOwn (model X.prog X.w) X.A X.env X.xe := by exact PassesOwn.never) : ExS X (.While c body [] pos) r m D := by
  have hb : PSs X body (fun E σ H => ∃ t, PSs X body t ∧ t E σ H) := ⟨fun pins s σ H E I ⟨t, a, b⟩ => a.run pins s σ H E I b⟩
  have hc : PT X c (fun σ H Q => ∃ t, PT X c t ∧ t σ H Q) := ⟨fun pins s σ H E I ⟨t, a, b⟩ => a.run pins s σ H E I b⟩
  refine es_of (ps_while hp hc hb) fun E σ H hh en => ?_
  refine ⟨fun n' σ' H' => ∃ r' m', Holds r' m' σ' H' ∧ Same (hide m H) (hide m' H') ∧ WhW X c body n' r' m' D, ⟨n, r, m, hh, Same.refl _, h⟩, ?_⟩
  rintro n' σ' H' ⟨r', m', h2, s2, wh⟩
  cases n' with
  | zero => exact wh.elim
  | succ n' =>
    obtain ⟨b, m3, ec, ht, hf⟩ := wh
    refine ⟨_, ec, h2, fun H3 k3 s3 => ?_⟩
    cases b with
    | true =>
      refine iteT ⟨fun σ4 H4 => ∃ r4 m4, Holds r4 m4 σ4 H4 ∧ Same (hide m H) (hide m4 H4) ∧ WhW X c body n' r4 m4 D, fun σ4 H4 z => ⟨n', Nat.lt_succ_self _, z⟩, ?_⟩
      refine ⟨_, ht rfl, h2.mono k3 s3, fun r5 m5 σ5 H5 a b c => ⟨r5, m5, b, (s2.trans s3).trans c, a⟩, fun d' m5 v H5 a b c f => en.rt d' m5 v H5 a b ((s2.trans s3).trans c) f, fun r5 m5 σ5 H5 a b c => en.nx r5 m5 σ5 H5 a b ((s2.trans s3).trans c), fun r5 m5 σ5 H5 a b c => ⟨r5, m5, b, (s2.trans s3).trans c, a⟩⟩
    | false => exact iteF (en.nx r' m3 σ' H3 (hf rfl) (h2.mono k3 s3) (s2.trans s3))
/-! ### comprehensions -/
def wipeR (r : Rho) : List Nat → Rho
  | [] => r
  | v :: vs => (wipeR r vs).set v none
theorem wipeR_length (r : Rho) : ∀ vs : List Nat, (wipeR r vs).length = r.length
  | [] => rfl
  | v :: vs => by unfold wipeR; rw [List.length_set, wipeR_length r vs]
theorem wipeR_some {r : Rho} {i : Nat} {d : Da} : ∀ {vs : List Nat}, (wipeR r vs)[i]? = some (some d) → r[i]? = some (some d) ∧ i ∉ vs
  | [], h => ⟨h, List.not_mem_nil⟩
  | v :: vs, h => by
    have h : ((wipeR r vs).set v none)[i]? = some (some d) := h
    by_cases vi : v = i
    · rw [vi, List.getElem?_set] at h
      rw [if_pos rfl] at h
      split at h <;> cases h
    · rw [List.getElem?_set_ne vi] at h
      have k := wipeR_some h
      refine ⟨k.1, fun z => ?_⟩
      rcases List.mem_cons.mp z with y | y
      · exact vi y.symm
      · exact k.2 y
theorem Holds.wipe {σ : L2.St} {H : Hp} (h : Holds r m σ H) (vs : List Nat) : Holds (wipeR r vs) m (L2.wipe σ vs) H :=
  ⟨h.1, by rw [wipe_length, wipeR_length]; exact h.2.1, fun i d e => by
    obtain ⟨e1, e2⟩ := wipeR_some e
    rw [wipe_out e2]
    exact h.2.2 i d e1⟩
theorem wipe_at {σ : L2.St} {i : Nat} : ∀ {vs : List Nat}, i ∈ vs → i < σ.length → (L2.wipe σ vs)[i]? = some none
  | [], h, _ => by simp at h
  | v :: vs, h, hl => by
    unfold L2.wipe
    by_cases hv : v = i
    · subst hv
      rw [List.getElem?_set_self (by rw [wipe_length]; exact hl)]
    · rw [List.getElem?_set_ne hv]
      have h' : i ∈ vs := by
        rcases List.mem_cons.mp h with z | z
        · exact absurd z.symm hv
        · exact z
      exact wipe_at h' hl
theorem wipe_same {σ σ' : L2.St} {vs ws : List Nat} (hl : σ'.length = σ.length) (hs : ∀ i, i ∉ ws → σ'[i]? = σ[i]?) (hw : ∀ i ∈ ws, i ∈ vs) : L2.wipe σ' vs = L2.wipe σ vs := by
  apply List.ext_getElem?
  intro i
  by_cases hi : i ∈ vs
  · by_cases hlt : i < σ.length
    · rw [wipe_at hi (by rw [hl]; exact hlt), wipe_at hi hlt]
    · rw [List.getElem?_eq_none (by rw [wipe_length]; omega), List.getElem?_eq_none (by rw [wipe_length]; omega)]
  · rw [wipe_out hi, wipe_out hi]
    exact hs i fun z => hi (hw i z)
theorem wipe_wipe {σ : L2.St} {vs : List Nat} : L2.wipe (L2.wipe σ vs) vs = L2.wipe σ vs := by
  apply List.ext_getElem?
  intro i
  by_cases hi : i ∈ vs
  · by_cases hlt : i < σ.length
    · rw [wipe_at hi (by rw [wipe_length]; exact hlt), wipe_at hi hlt]
    · rw [List.getElem?_eq_none (by rw [wipe_length, wipe_length]; omega), List.getElem?_eq_none (by rw [wipe_length]; omega)]
  · rw [wipe_out hi]
/-- m with more cells -/
def MLe (m m' : Mem) : Prop := ∀ a c, m a = some c → m' a = some c
/-- the blocks of a comprehension of X -/
def Blk (X : Cx) (scope : Scope) (Y : Cx) : Prop := ∃ (s : Shared) (H : Hp) (C : Addr) (cl : List (Str × Addr)) (fp : List Addr), Y = X.blk s H scope (compEnvC scope cl C X.env) fp
/-- what one item makes: nothing, or g's value -/
def LcTurn (X : Cx) (scope : Scope) (t : Tg) (ifs : List Expr) (elt : Expr) (rw : Rho) (m : Mem) (d : Da) (g : Option Da) : Prop :=
  ∃ r', t.put d rw = some r' ∧ ∃ b : Bool, (∀ m', MLe m m' → ∃ tt, (∀ Y, Blk X scope Y → PTs Y ifs tt) ∧ ∀ σ H (Q : Bool → Hp → Prop), Holds r' m' σ H → (∀ H', MemOk m' H' → Same (hide m' H) (hide m' H') → Q b H') → tt σ H Q) ∧
    (b = false → g = none) ∧ (b = true → ∃ e, g = some e ∧ ∀ m', MLe m m' → ∀ Y, Blk X scope Y → EvD Y elt r' m' e m')
theorem lc_read {A : Type} {enc : A → Da} {elt : Expr} {ifs : List Expr} {scope : Scope} {t : Tg} {xs : List A} {inv : Mem → Prop} {g : A → Option Da} {vs : List Nat} {σ : L2.St} {H : Hp} {Q : VK} (hw : ∀ i ∈ t.own, i ∈ vs) (hi : ∀ m', MLe m1 m' → inv m')
    (hl : xs.length < 1000) (ht : ∀ x ∈ xs, LcTurn X scope t ifs elt (wipeR r vs) m1 (enc x) (g x)) (hh : Holds r m σ H)
    (q : ∀ v H', MemOk m1 H' → Same (hide m H) (hide m1 H') → Dr (hide m1 H') (.lst (xs.filterMap g)) v → Q v H') :
    tLc (tI X.K r m (xs.map enc) m1 inv) (gD t) (fun σ H Q => ∃ tt, (∀ Y, Blk X scope Y → PTs Y ifs tt) ∧ tt σ H Q) (fun σ H Q => ∃ te, (∀ Y, Blk X scope Y → PE Y elt te) ∧ te σ H Q) vs σ H Q := by
  refine ⟨hh, fun J H1 k1 s1 wk D hD => ?_⟩
  have mD : m1 D = none := k1.free hD
  have grow : ∀ c : Cell, MLe m1 (m1.put D c) := fun c a b e => by
    rw [Mem.put_ne (fun z => by rw [z, mD] at e; cases e)]
    exact e
  refine ⟨fun i n H' => n = xs.length - i ∧ i ≤ xs.length ∧ ∃ acc : List Da, acc = (xs.take i).filterMap g ∧ MemOk (m1.put D (.lst acc)) H' ∧ Same (hide m1 H1) (hide (m1.put D (.lst acc)) H'), ⟨_, rfl, Nat.zero_le _, [], rfl, k1.cell hD ⟨[], upd_same, rfl⟩, hide_put_new hD⟩, ?_⟩
  rintro i n H' ⟨rfl, hle, acc, eacc, k2, s2⟩
  have s2' : Same (hide m1 H1) (hide (m1.put D (.lst acc)) H') := s2
  by_cases hlt : i < xs.length
  · right
    refine ⟨wk.go i _ H' (by rw [List.length_map]; exact hlt) k2 s2 (hi _ (grow _)), fun H3 => i + 1 ≤ xs.length ∧ ∃ acc' : List Da, acc' = (xs.take (i + 1)).filterMap g ∧ MemOk (m1.put D (.lst acc')) H3 ∧ Same (hide m1 H1) (hide (m1.put D (.lst acc')) H3), fun H3 ⟨a, b⟩ => ⟨xs.length - (i + 1), by omega, rfl, a, b⟩, fun x H3 y => ?_⟩
    obtain ⟨e3, d, hd0, hr⟩ := wk.yld i _ H' x H3 (by rw [List.length_map]; exact hlt) k2 s2 (hi _ (grow _)) y
    subst e3
    have hx : xs[i]? = some xs[i] := List.getElem?_eq_getElem hlt
    rw [List.getElem?_map, hx] at hd0
    have ed : enc xs[i] = d := Option.some.inj hd0
    subst ed
    generalize xs[i] = z at *
    have hdm : z ∈ xs := List.mem_of_getElem? hx
    obtain ⟨r', hput, b, htest, hbf, hbt⟩ := ht z hdm
    have tk : xs.take (i + 1) = xs.take i ++ [z] := by rw [List.take_add_one, hx]; rfl
    have hw0 : Holds (wipeR r vs) (m1.put D (.lst acc)) (L2.wipe σ vs) H3 := (hh.wipe vs).mono k2 (s1.trans s2)
    refine ⟨wipeR r vs, m1.put D (.lst acc), enc z, r', hput, hw0, hr, fun σ4 h4 hs4 => ?_⟩
    have l4 : σ4.length = (L2.wipe σ vs).length := by
      rw [h4.2.1, hw0.2.1]
      cases t with
      | nm j =>
        cases hput
        rw [List.length_set]
      | tp is =>
        generalize enc z = d at hput
        cases d with
        | tup es =>
          have e' : (if es.length = is.length then some (setAll (wipeR r vs) is es) else none) = some r' := hput
          have sl : ∀ (is : List Nat) (es : List Da) (r : Rho), (setAll r is es).length = r.length := by
            intro is
            induction is with
            | nil => intro es r; cases es <;> rfl
            | cons j is ih =>
              intro es r
              cases es with
              | nil => rfl
              | cons e es => show (setAll (r.set j (some e)) is es).length = r.length; rw [ih, List.length_set]
          by_cases hle' : es.length = is.length
          · rw [if_pos hle'] at e'; cases e'; exact sl _ _ _
          · rw [if_neg hle'] at e'; cases e'
        | _ => cases hput
    refine ⟨by rw [wipe_same l4 hs4 hw, wipe_wipe], ?_⟩
    obtain ⟨tt, htt, hread⟩ := htest _ (grow (.lst acc))
    refine ⟨tt, htt, hread σ4 H3 _ h4 fun H5 k5 s5 => ?_⟩
    cases b with
    | true =>
      obtain ⟨e, eg, he⟩ := hbt rfl
      refine iteT ⟨_, he _ (grow (.lst acc)), h4.mono k5 s5, fun v H6 k6 s6 r6 => ?_⟩
      obtain ⟨ws, g1, g2⟩ := k6 D _ Mem.put_same
      have eacc' : acc ++ [e] = (xs.take (i + 1)).filterMap g := by rw [tk, List.filterMap_append, ← eacc]; simp [eg]
      have hlen : acc.length ≤ i := by
        rw [eacc]
        refine Nat.le_trans (List.length_filterMap_le _ _) ?_
        rw [List.length_take]; omega
      refine ⟨ws, g1, small1000 (by rw [g2.length]; omega), hlt, acc ++ [e], eacc', ?_⟩
      have k7 := k6.write (p := D) (o := .lst (ws ++ [v])) (c := .lst (acc ++ [e])) Mem.put_same ⟨_, upd_same, g2.app (DrAll.one r6)⟩
      have e7 : hide ((m1.put D (.lst acc)).put D (.lst (acc ++ [e]))) (upd H6 D (.lst (ws ++ [v]))) = hide (m1.put D (.lst acc)) H6 := by rw [hide_put_ex Mem.put_same, hide_upd Mem.put_same]
      rw [Mem.put_put] at k7 e7
      exact ⟨k7, by rw [e7]; exact (s2.trans s5).trans s6⟩
    | false =>
      refine iteF ⟨hlt, acc, ?_, k5, s2.trans s5⟩
      rw [tk, List.filterMap_append, ← eacc]
      simp [hbf rfl]
  · left
    have e : i = xs.length := by omega
    rw [e, List.take_length] at eacc
    refine ⟨by rw [e]; have z := wk.stop _ _ k2 s2 (hi _ (grow _)); rw [List.length_map] at z; exact z, ?_⟩
    obtain ⟨ws, g1, g2⟩ := k2 D _ Mem.put_same
    have sub : Same (hide (m1.put D (.lst acc)) H') (hide ((m1.put D (.lst acc)).del D) H') := hide_del
    have k3 := k2.del (p := D)
    rw [Mem.del_put mD] at sub k3
    refine q _ H' k3 (s1.trans (s2.trans sub)) ⟨D, ws, rfl, by rw [hide_none mD]; exact g1, ?_⟩
    rw [← eacc]
    exact g2.mono sub
theorem ev_lc {A : Type} {enc : A → Da} {elt tg iter : Expr} {ifs : List Expr} {scope : Scope} (own : List (Str × Nat)) {pos : Pos} {t : Tg} {xs : List A} {inv : Mem → Prop} (g : A → Option Da) (hN : X.N.Nodup) (hi : ItD X tg iter r m (xs.map enc) m1 inv) (hg : ∀ Y, Blk X scope Y → TgD Y tg t)
    (hl : xs.length < 1000) (ht : ∀ x ∈ xs, LcTurn X scope t ifs elt (wipeR r (own.map (·.2))) m1 (enc x) (g x)) (hiv : ∀ m', MLe m1 m' → inv m' := by exact fun _ _ => trivial) (ok : BlkOk X.N X.env.scope scope own := by exact blkOk_by (by kernel_rfl)) (hw : ∀ i ∈ t.own, i ∈ own.map (·.2) := by decide +kernel) (hc : X.calm = true := by rfl)
    (hs : ∀ x, foldedSetIterable iter X.env x = pure x := by intro _; rfl) : EvD X (.ListComp elt [⟨tg, iter, ifs, 0⟩] scope pos) r m (.lst (xs.filterMap g)) m1 :=
  ev_of (pe_lc hc hN hi ok (fun s H C cl fp => hg _ ⟨s, H, C, cl, fp, rfl⟩)
    (fun s H C cl fp => ⟨fun pins s' σ H' Q I ⟨tt, a, b⟩ => (a _ ⟨s, H, C, cl, fp, rfl⟩).run pins s' σ H' Q I b⟩)
    (fun s H C cl fp => ⟨fun pins s' σ H' Q I ⟨te, a, b⟩ => (a _ ⟨s, H, C, cl, fp, rfl⟩).run pins s' σ H' Q I b⟩) hs) fun σ H Q h q => lc_read hw hiv hl ht h q
theorem s_setLc {A : Type} {enc : A → Da} {i : Nat} {y : Str} {py : Pos} {elt tg iter : Expr} {ifs : List Expr} {scope : Scope} (own : List (Str × Nat)) {pos spos : Pos} {t : Tg} {xs : List A} {inv : Mem → Prop} {D : DE} (g : A → Option Da) (hN : X.N.Nodup)
    (hi : ItD X tg iter r m (xs.map enc) m1 inv) (hg : ∀ Y, Blk X scope Y → TgD Y tg t) (hl : xs.length < 1000) (ht : ∀ x ∈ xs, LcTurn X scope t ifs elt (wipeR r (own.map (·.2))) m1 (enc x) (g x)) (h : D.nx (r.set i (some (.lst (xs.filterMap g)))) m1)
    (hy : X.N[i]? = some y := by rfl) (hyl : X.env.scope.names.lookup y = some .local := by rfl) (hsw : swapsWith (.ListComp elt [⟨tg, iter, ifs, 0⟩] scope pos) (some (.Name y py)) spos.line X.env = pure true := by exact sw_true rfl rfl rfl (by kernel_rfl))
    (hiv : ∀ m', MLe m1 m' → inv m' := by exact fun _ _ => trivial) (ok : BlkOk X.N X.env.scope scope own := by exact blkOk_by (by kernel_rfl)) (hw : ∀ i ∈ t.own, i ∈ own.map (·.2) := by decide +kernel) (hc : X.calm = true := by rfl)
    (hs : ∀ x, foldedSetIterable iter X.env x = pure x := by intro _; rfl) : ExS X (.Assign [.Name y py] (.ListComp elt [⟨tg, iter, ifs, 0⟩] scope pos) spos) r m D :=
  es_of (ps_setLc hc hN hy hyl hsw hi ok (fun s H C cl fp => hg _ ⟨s, H, C, cl, fp, rfl⟩)
    (fun s H C cl fp => ⟨fun pins s' σ H' Q I ⟨tt, a, b⟩ => (a _ ⟨s, H, C, cl, fp, rfl⟩).run pins s' σ H' Q I b⟩)
    (fun s H C cl fp => ⟨fun pins s' σ H' Q I ⟨te, a, b⟩ => (a _ ⟨s, H, C, cl, fp, rfl⟩).run pins s' σ H' Q I b⟩) hs) fun E σ H hh en => lc_read hw hiv hl ht hh fun v H' k s rr => en.nx _ _ _ _ h ((hh.mono k s).set i rr) s
/-- a turn without tests -/
theorem lct_map {elt : Expr} {scope : Scope} {t : Tg} {rw r' : Rho} {d e : Da} (hp : t.put d rw = some r') (he : ∀ m', MLe m m' → ∀ Y, Blk X scope Y → EvD Y elt r' m' e m') : LcTurn X scope t [] elt rw m d (some e) :=
  ⟨r', hp, true, fun m' _ => ⟨tYes, fun _ _ => pts_nil, fun σ H Q h q => q H h.1 (Same.refl _)⟩, fun z => (by cases z), fun _ => ⟨e, rfl, he⟩⟩
/-- a turn with one test -/
theorem lct_if {elt c : Expr} {scope : Scope} {t : Tg} {rw r' : Rho} {d e : Da} {b : Bool} (hp : t.put d rw = some r') (hc : ∀ m', MLe m m' → ∀ Y, Blk X scope Y → EvT Y c r' m' b m') (he : b = true → ∀ m', MLe m m' → ∀ Y, Blk X scope Y → EvD Y elt r' m' e m') : LcTurn X scope t [c] elt rw m d (if b = true then some e else none) :=
  ⟨r', hp, b, fun m' hm => ⟨tDT r' m' b m', fun Y hY => pts_one (hc m' hm Y hY), fun σ H Q h q => ⟨h, q⟩⟩, fun z => (by rw [z]; rfl), fun z => ⟨e, (by rw [z]; rfl), he z⟩⟩
theorem fm_map {A : Type} (xs : List A) (h : A → Da) : xs.filterMap (fun x => some (h x)) = xs.map h := by
  induction xs with
  | nil => rfl
  | cons x xs ih => simp
theorem fm_filter {A : Type} (xs : List A) (p : A → Bool) (h : A → Da) : xs.filterMap (fun x => if p x = true then some (h x) else none) = (xs.filter p).map h := by
  induction xs with
  | nil => rfl
  | cons x xs ih =>
    by_cases c : p x = true
    · rw [List.filter_cons_of_pos c, List.filterMap_cons_some (by rw [if_pos c]), ih, List.map_cons]
    · rw [List.filter_cons_of_neg c, List.filterMap_cons_none (by rw [if_neg c]), ih]
/-- [h of each] -/
theorem ev_lcM {A : Type} {enc : A → Da} {elt tg iter : Expr} {scope : Scope} (own : List (Str × Nat)) {pos : Pos} (t : Tg) {xs : List A} {inv : Mem → Prop} (h : A → Da) (hN : X.N.Nodup) (hi : ItD X tg iter r m (xs.map enc) m1 inv) (hg : ∀ Y, Blk X scope Y → TgD Y tg t)
    (hl : xs.length < 1000) (ht : ∀ x ∈ xs, ∃ r', t.put (enc x) (wipeR r (own.map (·.2))) = some r' ∧ ∀ m', MLe m1 m' → ∀ Y, Blk X scope Y → EvD Y elt r' m' (h x) m') (hiv : ∀ m', MLe m1 m' → inv m' := by exact fun _ _ => trivial) (ok : BlkOk X.N X.env.scope scope own := by exact blkOk_by (by kernel_rfl)) (hw : ∀ i ∈ t.own, i ∈ own.map (·.2) := by decide +kernel) (hc : X.calm = true := by rfl)
    (hs : ∀ x, foldedSetIterable iter X.env x = pure x := by intro _; rfl) : EvD X (.ListComp elt [⟨tg, iter, [], 0⟩] scope pos) r m (.lst (xs.map h)) m1 := by
  rw [← fm_map]
  exact ev_lc own (fun x => some (h x)) hN hi hg hl (fun x hx => let ⟨r', a, b⟩ := ht x hx; lct_map a b) hiv ok hw hc hs
theorem s_setLcM {A : Type} {enc : A → Da} {i : Nat} {y : Str} {py : Pos} {elt tg iter : Expr} {scope : Scope} (own : List (Str × Nat)) {pos spos : Pos} (t : Tg) {xs : List A} {inv : Mem → Prop} {D : DE} (h : A → Da) (hN : X.N.Nodup)
    (hi : ItD X tg iter r m (xs.map enc) m1 inv) (hg : ∀ Y, Blk X scope Y → TgD Y tg t) (hl : xs.length < 1000) (ht : ∀ x ∈ xs, ∃ r', t.put (enc x) (wipeR r (own.map (·.2))) = some r' ∧ ∀ m', MLe m1 m' → ∀ Y, Blk X scope Y → EvD Y elt r' m' (h x) m') (hn : D.nx (r.set i (some (.lst (xs.map h)))) m1)
    (hy : X.N[i]? = some y := by rfl) (hyl : X.env.scope.names.lookup y = some .local := by rfl) (hsw : swapsWith (.ListComp elt [⟨tg, iter, [], 0⟩] scope pos) (some (.Name y py)) spos.line X.env = pure true := by exact sw_true rfl rfl rfl (by kernel_rfl))
    (hiv : ∀ m', MLe m1 m' → inv m' := by exact fun _ _ => trivial) (ok : BlkOk X.N X.env.scope scope own := by exact blkOk_by (by kernel_rfl)) (hw : ∀ i ∈ t.own, i ∈ own.map (·.2) := by decide +kernel) (hc : X.calm = true := by rfl)
    (hs : ∀ x, foldedSetIterable iter X.env x = pure x := by intro _; rfl) : ExS X (.Assign [.Name y py] (.ListComp elt [⟨tg, iter, [], 0⟩] scope pos) spos) r m D :=
  s_setLc own (fun x => some (h x)) hN hi hg hl (fun x hx => let ⟨r', a, b⟩ := ht x hx; lct_map a b) (by rw [fm_map]; exact hn) hy hyl hsw hiv ok hw hc hs
/-- [each if p] -/
theorem ev_lcF {A : Type} {enc : A → Da} {elt c tg iter : Expr} {scope : Scope} (own : List (Str × Nat)) {pos : Pos} (t : Tg) {xs : List A} {inv : Mem → Prop} (p : A → Bool) (h : A → Da) (hN : X.N.Nodup) (hi : ItD X tg iter r m (xs.map enc) m1 inv) (hg : ∀ Y, Blk X scope Y → TgD Y tg t)
    (hl : xs.length < 1000) (ht : ∀ x ∈ xs, ∃ r', t.put (enc x) (wipeR r (own.map (·.2))) = some r' ∧ (∀ m', MLe m1 m' → ∀ Y, Blk X scope Y → EvT Y c r' m' (p x) m') ∧ ∀ m', MLe m1 m' → ∀ Y, Blk X scope Y → EvD Y elt r' m' (h x) m') (hiv : ∀ m', MLe m1 m' → inv m' := by exact fun _ _ => trivial) (ok : BlkOk X.N X.env.scope scope own := by exact blkOk_by (by kernel_rfl)) (hw : ∀ i ∈ t.own, i ∈ own.map (·.2) := by decide +kernel) (hc : X.calm = true := by rfl)
    (hs : ∀ x, foldedSetIterable iter X.env x = pure x := by intro _; rfl) : EvD X (.ListComp elt [⟨tg, iter, [c], 0⟩] scope pos) r m (.lst ((xs.filter p).map h)) m1 := by
  rw [← fm_filter]
  exact ev_lc own (fun x => if p x = true then some (h x) else none) hN hi hg hl (fun x hx => let ⟨r', a, b, d⟩ := ht x hx; lct_if a b fun _ => d) hiv ok hw hc hs
theorem s_setLcF {A : Type} {enc : A → Da} {i : Nat} {y : Str} {py : Pos} {elt c tg iter : Expr} {scope : Scope} (own : List (Str × Nat)) {pos spos : Pos} (t : Tg) {xs : List A} {inv : Mem → Prop} {D : DE} (p : A → Bool) (h : A → Da) (hN : X.N.Nodup)
    (hi : ItD X tg iter r m (xs.map enc) m1 inv) (hg : ∀ Y, Blk X scope Y → TgD Y tg t) (hl : xs.length < 1000) (ht : ∀ x ∈ xs, ∃ r', t.put (enc x) (wipeR r (own.map (·.2))) = some r' ∧ (∀ m', MLe m1 m' → ∀ Y, Blk X scope Y → EvT Y c r' m' (p x) m') ∧ ∀ m', MLe m1 m' → ∀ Y, Blk X scope Y → EvD Y elt r' m' (h x) m') (hn : D.nx (r.set i (some (.lst ((xs.filter p).map h)))) m1)
    (hy : X.N[i]? = some y := by rfl) (hyl : X.env.scope.names.lookup y = some .local := by rfl) (hsw : swapsWith (.ListComp elt [⟨tg, iter, [c], 0⟩] scope pos) (some (.Name y py)) spos.line X.env = pure true := by exact sw_true rfl rfl rfl (by kernel_rfl))
    (hiv : ∀ m', MLe m1 m' → inv m' := by exact fun _ _ => trivial) (ok : BlkOk X.N X.env.scope scope own := by exact blkOk_by (by kernel_rfl)) (hw : ∀ i ∈ t.own, i ∈ own.map (·.2) := by decide +kernel) (hc : X.calm = true := by rfl)
    (hs : ∀ x, foldedSetIterable iter X.env x = pure x := by intro _; rfl) : ExS X (.Assign [.Name y py] (.ListComp elt [⟨tg, iter, [c], 0⟩] scope pos) spos) r m D :=
  s_setLc own (fun x => if p x = true then some (h x) else none) hN hi hg hl (fun x hx => let ⟨r', a, b, d⟩ := ht x hx; lct_if a b fun _ => d) (by rw [fm_filter]; exact hn) hy hyl hsw hiv ok hw hc hs
end
end DL
/-! The mirror: the program's defs as plain functions over typed data. Core Lean alone. -/
namespace FK
abbrev Id := Int × Int
abbrev Path := List (Fin 4)
structure Place where
  inside : Option Id
  below : Path
  seen : Path
structure Line where
  id : Id
  head : Id
  inside : Option Id
  below : Path
  content : Option Int
inductive Edit where
  | write (id : Id) (p : Place) (content : Option Int) (meant : Option Id) (reps : List Id)
  | drop (id : Id) (reps : List Id)
  | move (id : Id) (moved : List (Id × Id × Place))
def Edit.id : Edit → Id
  | .write i _ _ _ _ => i
  | .drop i _ => i
  | .move i _ => i
abbrev Clocks := List (Int × Int)
/-! ### lines.py -/
def findLine : List Line → Id → Option Line
  | [], _ => none
  | l :: ls, i => if l.id = i then some l else findLine ls i
def findHead : List Line → Id → Option Line
  | [], _ => none
  | l :: ls, i => if l.head = i then some l else findHead ls i
def findFolder (ls : List Line) (i : Id) : Option Line := match findLine ls i with
  | some l => if l.content = none then some l else none
  | none => none
def settle (ls : List Line) (p : Place) : Option Id × Path := match p.inside with
  | some i => if (findFolder ls i).isSome then (some i, p.below) else (none, p.seen)
  | none => (none, p.seen)
def standsIn (ls : List Line) : Nat → Option Id → Id → Bool
  | 0, _, _ => false
  | _ + 1, none, _ => false
  | n + 1, some i, t => if i = t then true else match findFolder ls i with
    | none => false
    | some f => standsIn ls n f.inside t
def endOne (gone : Line) (l : Line) : Line := if l.inside = some gone.id then { l with inside := gone.inside, below := gone.below ++ l.below } else l
def endLine : List Line → Line → List Line
  | [], _ => []
  | l :: ls, gone => if l.id = gone.id then endLine ls gone else endOne gone l :: endLine ls gone
def endHead (ls : List Line) (h : Id) : List Line := match findHead ls h with
  | some l => endLine ls l
  | none => ls
def endHeads : List Line → List Id → List Line
  | ls, [] => ls
  | ls, h :: hs => endHeads (endHead ls h) hs
def newLine (ls : List Line) (id : Id) (p : Place) (content : Option Int) (meant : Option Id) : Line := match meant.bind (findLine ls) with
  | some l => ⟨id, id, l.inside, l.below, content⟩
  | none => ⟨id, id, (settle ls p).1, (settle ls p).2, content⟩
def continued : List Line → List Id → Option Id
  | [], _ => none
  | l :: ls, reps => if l.content ≠ none ∧ l.head ∈ reps then some l.id else continued ls reps
def goOne (g : Option Id) (id : Id) (content : Option Int) (l : Line) : Line := if some l.id = g then { l with head := id, content := content } else l
def goingOn (ls : List Line) (content : Option Int) (reps : List Id) : Option Id := if content = none then none else continued ls reps
def writeBase (ls : List Line) (id : Id) (p : Place) (content : Option Int) (meant : Option Id) (reps : List Id) : List Line :=
  ls.map (goOne (goingOn ls content reps) id content) ++ (if goingOn ls content reps = none then [newLine ls id p content meant] else [])
def writeLines (ls : List Line) (id : Id) (p : Place) (content : Option Int) (meant : Option Id) (reps : List Id) : List Line :=
  endHeads (writeBase ls id p content meant reps) reps
def moveOne (t : Id) (s : Option Id × Path) (l : Line) : Line := if l.id = t then { l with inside := s.1, below := s.2 } else l
def foundLine (ls : List Line) (h i : Id) : Option Line := match findHead ls h with
  | some l => some l
  | none => findLine ls i
def moveLine (ls : List Line) (h i : Id) (p : Place) : List Line := match foundLine ls h i with
  | none => ls
  | some l => if standsIn ls (ls.length + 1) (settle ls p).1 l.id then ls else ls.map fun o => if o.id = l.id then ⟨l.id, l.head, (settle ls p).1, (settle ls p).2, l.content⟩ else o
def moveAll : List Line → List (Id × Id × Place) → List Line
  | ls, [] => ls
  | ls, (h, i, p) :: ms => moveAll (moveLine ls h i p) ms
def linesAfter (ls : List Line) : Edit → List Line
  | .write i p c mt rs => writeLines ls i p c mt rs
  | .drop _ rs => endHeads ls rs
  | .move _ ms => moveAll ls ms
def foldLines : List Line → List Edit → List Line
  | ls, [] => ls
  | ls, e :: es => foldLines (linesAfter ls e) es
/-! ### knowing.py -/
structure Know where
  clock : Int
  base : List Line
  upto : Int
  rest : List Edit
  knows : Clocks
def clockIn : Clocks → Int → Int
  | [], _ => 0
  | (o, c) :: ks, d => if o = d then c else clockIn ks d
def withClock (ks : Clocks) (d c : Int) : Clocks := ks.map fun p => (p.1, if p.1 = d then c else p.2)
def Know.lines (k : Know) : List Line := foldLines k.base k.rest
def Know.make (k : Know) (me : Int) (e : Edit) : Know := { k with clock := k.clock + 1, rest := k.rest ++ [e], knows := withClock k.knows me (k.clock + 1) }
/-! ### news.py -/
structure News where
  clock : Int
  base : List Line
  upto : Int
  rest : List Edit
  knows : Clocks
  since : Clocks
def idLt (a b : Id) : Bool := if a.1 = b.1 then decide (a.2 < b.2) else decide (a.1 < b.1)
/-- others behind those that are less than i -/
def skipLt : List Edit → Id → List Edit
  | [], _ => []
  | o :: os, i => if idLt o.id i then skipLt os i else o :: os
def takeLt : List Edit → Id → List Edit
  | [], _ => []
  | o :: os, i => if idLt o.id i then o :: takeLt os i else []
def skipEq : List Edit → Id → List Edit
  | [], _ => []
  | o :: os, i => if o.id = i then os else o :: os
def joined : List Edit → List Edit → List Edit
  | [], os => os
  | e :: es, os => takeLt os e.id ++ e :: joined es (skipEq (skipLt os e.id) e.id)
def imax (a b : Int) : Int := if b > a then b else a
def Know.hear (k : Know) (me : Int) (n : News) : Know :=
  let base := if k.upto < n.upto then n.base else k.base
  let upto := if k.upto < n.upto then n.upto else k.upto
  let clock := imax k.clock n.clock
  { clock := clock, base := base, upto := upto, rest := (joined k.rest n.rest).filter fun e => decide (upto < e.id.1),
    knows := withClock (k.knows.map fun p => (p.1, imax p.2 (clockIn n.knows p.1))) me clock }
def newsFor (k : Know) (since : Clocks) : News :=
  let all := k.knows.all fun p => decide (k.upto ≤ clockIn since p.1)
  { clock := k.clock, base := if all then [] else k.base, upto := if all then 0 else k.upto, rest := k.rest.filter fun e => decide (clockIn since e.id.2 < e.id.1), knows := k.knows, since := since }
def Know.forgetUpTo (k : Know) (c : Int) : Know :=
  { k with base := foldLines k.base (k.rest.filter fun e => decide (e.id.1 ≤ c)), rest := k.rest.filter fun e => decide (c < e.id.1), upto := imax k.upto c }
/-- the least clock -/
def minClock : Clocks → Int
  | [] => 0
  | [p] => p.2
  | p :: ps => if p.2 < minClock ps then p.2 else minClock ps
def Know.forget (k : Know) : Know := k.forgetUpTo (minClock k.knows)
/-! ### the law's own defs -/
def rowCell (ns : List Int) (i : Nat) : Int :=
  let c := if i < ns.length then ns.getD i 0 else 0
  if c < 0 then 1 - 2 * c else c
def rowMix (ns : List Int) (i : Nat) (mx : Int) : Int := (mx * 48271 + rowCell ns i * 69621 + 2 * (i : Int) + 1) % 1000000007
def rowOf (ns : List Int) (i : Nat) (mx : Int) : Int := if 1000000000 ≤ rowCell ns i then rowCell ns i else (rowMix ns i mx * 2862933555777941757 + 3037000493) % 18446744073709551557
def rowsGo (ns : List Int) : Nat → Nat → Int → List Int
  | 0, _, _ => []
  | n + 1, i, mx => rowOf ns i mx :: rowsGo ns n (i + 1) (rowMix ns i mx)
def lawRows (ns : List Int) (n : Nat) : List Int := rowsGo ns n 0 1
def pick (row : Int) (ids : List Id) : Option Id :=
  if ids.length = 0 ∨ row % 3 = 0 then none
  else if row / 7 % 2 = 0 then ids[(row / 3 % ids.length).toNat]?
  else ids[((ids.length : Int) - 1 - row / 3 % (if (ids.length : Int) < 3 then (ids.length : Int) else 3)).toNat]?
def toName (i : Int) : Fin 4 := ⟨(i % 4).toNat, by omega⟩
def path (row most : Int) : Path := (List.range (1 + row / 5 % most).toNat).map fun (j : Nat) => toName (row / (11 * (j : Int) + 3))
def place (row : Int) (ids : List Id) : Place := ⟨pick (row / 2) ids, path (row / 13) 2, path (row / 101) 3⟩
def heads (row : Int) (ids : List Id) : List Id := (List.range (row / 17 % 4).toNat).filterMap fun (j : Nat) => pick (row / (23 * (j : Int) + 5)) ids
def pickD (row : Int) (ids : List Id) : Id := (pick row ids).getD (0, 0)
def movedOf (row : Int) (ids : List Id) : List (Id × Id × Place) := (List.range (1 + row / 31 % 2).toNat).map fun (j : Nat) =>
  (pickD (1 + 3 * (row / (37 * (j : Int) + 2))) ids, pickD (1 + 3 * (row / (41 * (j : Int) + 3))) ids, place (row / (43 * (j : Int) + 7)) ids)
def lawEdit (row : Int) (id : Id) (ids : List Id) : Edit :=
  if row % 6 = 0 then .write id (place (row / 6) ids) none none (heads row ids)
  else if row % 6 ≤ 3 ∨ ids.length = 0 then .write id (place (row / 6) ids) (some (row / 19 % 3)) (pick (row / 29) ids) (heads row ids)
  else if row % 6 = 4 then .drop id (heads (row / 3) ids)
  else .move id (movedOf row ids)
def Edit.withId (e : Edit) (i : Id) : Edit := match e with
  | .write _ p c mt rs => .write i p c mt rs
  | .drop _ rs => .drop i rs
  | .move _ ms => .move i ms
def tellIds (k : Know) : List Id := k.lines.map (·.head) ++ k.rest.map Edit.id
/-- the edit that the law's tell makes -/
def tellEdit (k : Know) (me row : Int) : Edit := (lawEdit row (0, 0) (tellIds k)).withId (k.clock + 1, me)
end FK
/-! Lines stay sound. Core Lean alone. -/
namespace FK
/-! ### the order of ids -/
theorem idLt_iff {a b : Id} : idLt a b = true ↔ a.1 < b.1 ∨ (a.1 = b.1 ∧ a.2 < b.2) := by
  unfold idLt
  split <;> simp <;> omega
theorem idLt_trans {a b c : Id} (h : idLt a b = true) (k : idLt b c = true) : idLt a c = true := by
  rw [idLt_iff] at *; omega
theorem idLt_irrefl (a : Id) : idLt a a = false := by
  cases h : idLt a a with
  | false => rfl
  | true => rw [idLt_iff] at h; omega
theorem idLt_ne {a b : Id} (h : idLt a b = true) : a ≠ b := fun e => by rw [e, idLt_irrefl] at h; cases h
theorem idLt_or {a b : Id} : idLt a b = true ∨ a = b ∨ idLt b a = true := by
  rw [idLt_iff, idLt_iff]
  rcases Int.lt_trichotomy a.1 b.1 with h | h | h
  · exact .inl (.inl h)
  · rcases Int.lt_trichotomy a.2 b.2 with k | k | k
    · exact .inl (.inr ⟨h, k⟩)
    · exact .inr (.inl (Prod.ext h k))
    · exact .inr (.inr (.inr ⟨h.symm, k⟩))
  · exact .inr (.inr (.inl h))
/-! ### finding -/
theorem findLine_mem {ls : List Line} {i : Id} {l : Line} (h : findLine ls i = some l) : l ∈ ls ∧ l.id = i := by
  induction ls with
  | nil => cases h
  | cons z zs ih =>
    unfold findLine at h
    by_cases e : z.id = i
    · rw [if_pos e] at h; cases h; exact ⟨List.mem_cons_self, e⟩
    · rw [if_neg e] at h
      exact ⟨List.mem_cons_of_mem _ (ih h).1, (ih h).2⟩
theorem findLine_some {ls : List Line} {l : Line} (h : l ∈ ls) : ∃ f, findLine ls l.id = some f := by
  induction ls with
  | nil => cases h
  | cons z zs ih =>
    unfold findLine
    by_cases e : z.id = l.id
    · exact ⟨z, if_pos e⟩
    · rw [if_neg e]
      rcases List.mem_cons.mp h with q | q
      · exact absurd (by rw [q]) e
      · exact ih q
theorem findHead_mem {ls : List Line} {i : Id} {l : Line} (h : findHead ls i = some l) : l ∈ ls ∧ l.head = i := by
  induction ls with
  | nil => cases h
  | cons z zs ih =>
    unfold findHead at h
    by_cases e : z.head = i
    · rw [if_pos e] at h; cases h; exact ⟨List.mem_cons_self, e⟩
    · rw [if_neg e] at h
      exact ⟨List.mem_cons_of_mem _ (ih h).1, (ih h).2⟩
theorem findFolder_mem {ls : List Line} {i : Id} {l : Line} (h : findFolder ls i = some l) : l ∈ ls ∧ l.id = i ∧ l.content = none := by
  unfold findFolder at h
  cases q : findLine ls i with
  | none => rw [q] at h; cases h
  | some f =>
    rw [q] at h
    have h' : (if f.content = none then some f else none) = some l := h
    by_cases c : f.content = none
    · rw [if_pos c] at h'
      cases h'
      exact ⟨(findLine_mem q).1, (findLine_mem q).2, c⟩
    · rw [if_neg c] at h'; cases h'
theorem findLine_of {ls : List Line} (nd : (ls.map (·.id)).Nodup) {l : Line} (h : l ∈ ls) : findLine ls l.id = some l := by
  induction ls with
  | nil => cases h
  | cons z zs ih =>
    rw [List.map_cons, List.nodup_cons] at nd
    unfold findLine
    rcases List.mem_cons.mp h with q | q
    · rw [q, if_pos rfl]
    · have e : z.id ≠ l.id := fun e => nd.1 (by rw [e]; exact List.mem_map_of_mem q)
      rw [if_neg e]
      exact ih nd.2 q
theorem findFolder_of {ls : List Line} (nd : (ls.map (·.id)).Nodup) {l : Line} (h : l ∈ ls) (c : l.content = none) : findFolder ls l.id = some l := by
  unfold findFolder
  rw [findLine_of nd h]
  exact if_pos c
/-! ### sound lines -/
inductive Rooted (ls : List Line) : Option Id → Prop
  | none : Rooted ls none
  | some {i : Id} {f : Line} : findFolder ls i = some f → Rooted ls f.inside → Rooted ls (some i)
structure Sound (ls : List Line) : Prop where
  asc : ls.Pairwise fun a b => idLt a.id b.id = true
  hd : (ls.map (·.head)).Nodup
  ne : ∀ l ∈ ls, l.below ≠ []
  fold : ∀ l ∈ ls, l.content = none → l.head = l.id
  root : ∀ l ∈ ls, Rooted ls l.inside
theorem Sound.nd {ls : List Line} (s : Sound ls) : (ls.map (·.id)).Nodup := by
  unfold List.Nodup
  rw [List.pairwise_map]
  exact s.asc.imp fun h => idLt_ne h
def wsum (w : Option Id → Nat) (ls : List Line) : Nat := (ls.map fun l => w (some l.id)).sum
/-- sound, and of a bounded size: at most n lines, paths of at most q names -/
structure Good (n q : Nat) (ls : List Line) : Prop extends Sound ls where
  len : ls.length ≤ n
  pot : ∃ w : Option Id → Nat, (∀ l ∈ ls, l.below.length ≤ w l.inside) ∧ w none + wsum w ls ≤ q
def PlaceOk (p : Place) : Prop := p.below ≠ [] ∧ p.seen ≠ [] ∧ p.below.length ≤ 3 ∧ p.seen.length ≤ 3
def EditOk : Edit → Prop
  | .write i p _ _ rs => PlaceOk p ∧ (∀ h ∈ rs, idLt h i = true) ∧ rs.length ≤ 500
  | .drop i rs => (∀ h ∈ rs, idLt h i = true) ∧ rs.length ≤ 500
  | .move _ ms => (∀ q ∈ ms, PlaceOk q.2.2) ∧ ms.length ≤ 2
/-- all ids and heads are less than i -/
def Above (ls : List Line) (i : Id) : Prop := ∀ l ∈ ls, idLt l.id i = true ∧ idLt l.head i = true
theorem wsum_mem {w : Option Id → Nat} {ls : List Line} {l : Line} (h : l ∈ ls) : w (some l.id) ≤ wsum w ls := by
  induction ls with
  | nil => cases h
  | cons z zs ih =>
    have e : wsum w (z :: zs) = w (some z.id) + wsum w zs := by simp [wsum]
    rw [e]
    rcases List.mem_cons.mp h with q | q
    · rw [q]; omega
    · have := ih q; omega
theorem Good.short {n q : Nat} {ls : List Line} (g : Good n q ls) {l : Line} (h : l ∈ ls) : l.below.length ≤ q := by
  obtain ⟨w, h1, h2⟩ := g.pot
  have a := h1 l h
  cases e : l.inside with
  | none => rw [e] at a; omega
  | some i =>
    have r := g.root l h
    rw [e] at r a
    cases r with
    | some hf _ =>
      obtain ⟨m1, m2, _⟩ := findFolder_mem hf
      have := wsum_mem (w := w) m1
      rw [m2] at this
      omega
/-! ### a line's end -/
theorem endLine_eq (ls : List Line) (g : Line) : endLine ls g = (ls.filter fun l => decide (l.id ≠ g.id)).map (endOne g) := by
  induction ls with
  | nil => rfl
  | cons z zs ih =>
    unfold endLine
    by_cases h : z.id = g.id
    · rw [if_pos h, ih, List.filter_cons_of_neg (by simp [h])]
    · rw [if_neg h, ih, List.filter_cons_of_pos (by simp [h]), List.map_cons]
theorem endOne_id (g l : Line) : (endOne g l).id = l.id := by unfold endOne; split <;> rfl
theorem endOne_head (g l : Line) : (endOne g l).head = l.head := by unfold endOne; split <;> rfl
theorem endOne_content (g l : Line) : (endOne g l).content = l.content := by unfold endOne; split <;> rfl
theorem mem_endLine {ls : List Line} {g l : Line} : l ∈ endLine ls g ↔ ∃ z ∈ ls, z.id ≠ g.id ∧ endOne g z = l := by
  rw [endLine_eq, List.mem_map]
  constructor
  · rintro ⟨z, hz, e⟩
    rw [List.mem_filter] at hz
    exact ⟨z, hz.1, by simpa using hz.2, e⟩
  · rintro ⟨z, hz, h, e⟩
    exact ⟨z, List.mem_filter.mpr ⟨hz, by simpa using h⟩, e⟩
theorem endLine_ids (ls : List Line) (g : Line) : (endLine ls g).map (·.id) = (ls.map (·.id)).filter fun i => decide (i ≠ g.id) := by
  rw [endLine_eq, List.map_map, List.filter_map]
  congr 1
  funext l
  exact endOne_id g l
/-- from anywhere that is rooted, but g itself -/
theorem rooted_end {ls : List Line} (s : Sound ls) {g : Line} (hg : g ∈ ls) (s' : ((endLine ls g).map (·.id)).Nodup) : ∀ {o : Option Id}, Rooted ls o → (o ≠ some g.id → Rooted (endLine ls g) o) ∧ (o = some g.id → Rooted (endLine ls g) g.inside) := by
  intro o h
  induction h with
  | none => exact ⟨fun _ => .none, fun e => by cases e⟩
  | @some i f hf hr ih =>
    obtain ⟨m1, m2, m3⟩ := findFolder_mem hf
    refine ⟨fun hne => ?_, fun e => ?_⟩
    · have hi : f.id ≠ g.id := fun z => hne (by rw [← m2, z])
      have hm : endOne g f ∈ endLine ls g := mem_endLine.mpr ⟨f, m1, hi, rfl⟩
      have hff := findFolder_of s' hm (by rw [endOne_content]; exact m3)
      rw [endOne_id, m2] at hff
      refine .some hff ?_
      unfold endOne
      by_cases c : f.inside = some g.id
      · rw [if_pos c]; exact ih.2 c
      · rw [if_neg c]; exact ih.1 c
    · have e' : i = g.id := Option.some.inj e
      have fg : f = g := by
        have a := findLine_of s.nd m1
        have b := findLine_of s.nd hg
        rw [m2, e'] at a
        rw [a] at b
        exact Option.some.inj b
      rw [fg] at ih hr
      by_cases c : g.inside = some g.id
      · exact ih.2 c
      · exact ih.1 c
/-- a line does not stand inside itself -/
theorem not_self {ls : List Line} : ∀ {o : Option Id}, Rooted ls o → ∀ i f, o = some i → findFolder ls i = some f → f.inside ≠ some i := by
  intro o h
  induction h with
  | none => intro i f e; cases e
  | @some j f hf hr ih =>
    intro i f' e hf' c
    have e' : j = i := Option.some.inj e
    rw [e'] at hf
    rw [hf] at hf'
    have : f = f' := Option.some.inj hf'
    rw [this] at ih hf
    exact ih i f' c hf c
theorem Above.end_ {ls : List Line} {g : Line} {i : Id} (h : Above ls i) : Above (endLine ls g) i := fun l hl => by
  obtain ⟨z, hz, _, e⟩ := mem_endLine.mp hl
  rw [← e, endOne_id, endOne_head]
  exact h z hz
theorem wsum_filter {w : Option Id → Nat} {g : Line} : ∀ {ls : List Line}, g ∈ ls → (ls.map (·.id)).Nodup → wsum w (endLine ls g) + w (some g.id) = wsum w ls := by
  intro ls
  induction ls with
  | nil => intro h; cases h
  | cons z zs ih =>
    intro h nd
    rw [List.map_cons, List.nodup_cons] at nd
    have e : wsum w (z :: zs) = w (some z.id) + wsum w zs := by simp [wsum]
    rw [e]
    unfold endLine
    rcases List.mem_cons.mp h with q | q
    · rw [if_pos (by rw [q])]
      have none_ : ∀ ys : List Line, (∀ y ∈ ys, y.id ≠ g.id) → wsum w (endLine ys g) = wsum w ys := by
        intro ys
        induction ys with
        | nil => intro _; rfl
        | cons y ys ihy =>
          intro hy
          have e2 : wsum w (y :: ys) = w (some y.id) + wsum w ys := by simp [wsum]
          unfold endLine
          rw [if_neg (hy y List.mem_cons_self), e2, ← ihy fun u hu => hy u (List.mem_cons_of_mem _ hu)]
          simp [wsum, endOne_id]
      rw [none_ zs fun y hy e => nd.1 (by rw [← q, ← e]; exact List.mem_map_of_mem hy), q]
      omega
    · have hne : z.id ≠ g.id := fun e => nd.1 (by rw [e]; exact List.mem_map_of_mem q)
      rw [if_neg hne]
      have := ih q nd.2
      have e2 : wsum w (endOne g z :: endLine zs g) = w (some z.id) + wsum w (endLine zs g) := by simp [wsum, endOne_id]
      rw [e2]
      omega
/-- one line's weight raised -/
def raise (w : Option Id → Nat) (o : Option Id) (k : Nat) : Option Id → Nat := fun x => if x = o then w x + k else w x
theorem raise_sum {w : Option Id → Nat} {o : Option Id} {k : Nat} : ∀ {ls : List Line}, (ls.map (·.id)).Nodup → raise w o k none + wsum (raise w o k) ls ≤ w none + wsum w ls + k := by
  intro ls
  have aux : ∀ (ls : List Line), (ls.map (·.id)).Nodup → (wsum (raise w o k) ls ≤ wsum w ls + k) ∧ ((∀ l ∈ ls, some l.id ≠ o) → wsum (raise w o k) ls = wsum w ls) := by
    intro ls
    induction ls with
    | nil => intro _; exact ⟨Nat.le_add_right _ _, fun _ => rfl⟩
    | cons z zs ih =>
      intro nd
      rw [List.map_cons, List.nodup_cons] at nd
      obtain ⟨i1, i2⟩ := ih nd.2
      have e1 : wsum w (z :: zs) = w (some z.id) + wsum w zs := by simp [wsum]
      have e2 : wsum (raise w o k) (z :: zs) = raise w o k (some z.id) + wsum (raise w o k) zs := by simp [wsum]
      rw [e1, e2]
      by_cases c : some z.id = o
      · have r : raise w o k (some z.id) = w (some z.id) + k := if_pos c
        have no : ∀ l ∈ zs, some l.id ≠ o := fun l hl e => nd.1 (by
          rw [← e] at c
          rw [Option.some.inj c]
          exact List.mem_map_of_mem hl)
        rw [r, i2 no]
        refine ⟨by omega, fun h => absurd c (h z List.mem_cons_self)⟩
      · have r : raise w o k (some z.id) = w (some z.id) := if_neg c
        rw [r]
        refine ⟨by omega, fun h => by rw [i2 fun l hl => h l (List.mem_cons_of_mem _ hl)]⟩
  intro nd
  obtain ⟨i1, i2⟩ := aux ls nd
  by_cases c : (none : Option Id) = o
  · have r : raise w o k none = w none + k := if_pos c
    rw [r, i2 fun l _ => by rw [← c]; exact fun z => by cases z]
    omega
  · have r : raise w o k none = w none := if_neg c
    rw [r]
    omega
theorem good_end {n q : Nat} {ls : List Line} (G : Good n q ls) {g : Line} (hg : g ∈ ls) : Good n q (endLine ls g) := by
  have nd' : ((endLine ls g).map (·.id)).Nodup := by
    rw [endLine_ids]
    exact List.Pairwise.filter _ G.toSound.nd
  have rt := fun {o} => rooted_end (o := o) G.toSound hg nd'
  refine ⟨⟨?_, ?_, fun l hl => ?_, fun l hl c => ?_, fun l hl => ?_⟩, ?_, ?_⟩
  · rw [endLine_eq, List.pairwise_map]
    refine (G.asc.filter _).imp fun h => ?_
    rw [endOne_id, endOne_id]; exact h
  · have e : (endLine ls g).map (·.head) = (ls.filter fun l => decide (l.id ≠ g.id)).map (·.head) := by
      rw [endLine_eq, List.map_map]
      congr 1
      funext l
      exact endOne_head g l
    rw [e]
    have sub : ((ls.filter fun l => decide (l.id ≠ g.id)).map (·.head)).Sublist (ls.map (·.head)) := List.filter_sublist.map _
    exact G.hd.sublist sub
  · obtain ⟨z, hz, _, e⟩ := mem_endLine.mp hl
    rw [← e]
    unfold endOne
    split
    · intro c
      exact G.ne z hz (List.append_eq_nil_iff.mp c).2
    · exact G.ne z hz
  · obtain ⟨z, hz, _, e⟩ := mem_endLine.mp hl
    rw [← e, endOne_content] at c
    rw [← e, endOne_head, endOne_id]
    exact G.fold z hz c
  · obtain ⟨z, hz, _, e⟩ := mem_endLine.mp hl
    rw [← e]
    unfold endOne
    by_cases c : z.inside = some g.id
    · rw [if_pos c]; exact (rt (G.root z hz)).2 c
    · rw [if_neg c]; exact (rt (G.root z hz)).1 c
  · rw [endLine_eq, List.length_map]
    exact Nat.le_trans (List.length_filter_le _ _) G.len
  · obtain ⟨w, h1, h2⟩ := G.pot
    refine ⟨raise w g.inside (w (some g.id)), fun l hl => ?_, ?_⟩
    · obtain ⟨z, hz, _, e⟩ := mem_endLine.mp hl
      rw [← e]
      have hz1 := h1 z hz
      have hg1 := h1 g hg
      unfold endOne
      by_cases c : z.inside = some g.id
      · rw [if_pos c]
        show (g.below ++ z.below).length ≤ raise w g.inside (w (some g.id)) g.inside
        have r : raise w g.inside (w (some g.id)) g.inside = w g.inside + w (some g.id) := if_pos rfl
        rw [r, List.length_append]
        rw [c] at hz1
        omega
      · rw [if_neg c]
        unfold raise
        split <;> omega
    · have a := raise_sum (w := w) (o := g.inside) (k := w (some g.id)) nd'
      have b := wsum_filter (w := w) hg G.toSound.nd
      omega
theorem endHead_cases (ls : List Line) (h : Id) : endHead ls h = ls ∨ ∃ g ∈ ls, g.head = h ∧ endHead ls h = endLine ls g := by
  unfold endHead
  cases e : findHead ls h with
  | none => exact .inl rfl
  | some l => exact .inr ⟨l, (findHead_mem e).1, (findHead_mem e).2, rfl⟩
theorem good_endHead {n q : Nat} {ls : List Line} (G : Good n q ls) (h : Id) : Good n q (endHead ls h) := by
  rcases endHead_cases ls h with e | ⟨g, hg, _, e⟩
  · rw [e]; exact G
  · rw [e]; exact good_end G hg
theorem Above.endHead_ {ls : List Line} {i : Id} (a : Above ls i) (h : Id) : Above (endHead ls h) i := by
  rcases endHead_cases ls h with e | ⟨g, hg, _, e⟩
  · rw [e]; exact a
  · rw [e]; exact a.end_
theorem good_endHeads {n q : Nat} : ∀ {hs : List Id} {ls : List Line}, Good n q ls → Good n q (endHeads ls hs)
  | [], _, G => G
  | h :: hs, _, G => good_endHeads (hs := hs) (good_endHead G h)
theorem Above.endHeads_ {i : Id} : ∀ {hs : List Id} {ls : List Line}, Above ls i → Above (endHeads ls hs) i
  | [], _, a => a
  | h :: hs, _, a => Above.endHeads_ (hs := hs) (a.endHead_ h)
/-! ### a write -/
/-- the places that a list knows -/
theorem settle_rooted {ls : List Line} (s : Sound ls) (p : Place) : Rooted ls (settle ls p).1 ∧ ((settle ls p).2 = p.below ∨ (settle ls p).2 = p.seen) := by
  unfold settle
  cases p.inside with
  | none => exact ⟨.none, .inr rfl⟩
  | some i =>
    show Rooted ls (if (findFolder ls i).isSome then (some i, p.below) else (none, p.seen)).1 ∧ ((if (findFolder ls i).isSome then (some i, p.below) else (none, p.seen)).2 = p.below ∨ (if (findFolder ls i).isSome then (some i, p.below) else (none, p.seen)).2 = p.seen)
    cases e : findFolder ls i with
    | none => exact ⟨.none, .inr rfl⟩
    | some f => exact ⟨.some e (s.root f (findFolder_mem e).1), .inl rfl⟩
theorem settle_ok {ls : List Line} (s : Sound ls) {p : Place} (h : PlaceOk p) : (settle ls p).2 ≠ [] ∧ (settle ls p).2.length ≤ 3 := by
  rcases (settle_rooted s p).2 with e | e
  · rw [e]; exact ⟨h.1, h.2.2.1⟩
  · rw [e]; exact ⟨h.2.1, h.2.2.2⟩
/-- more lines behind: folders are found as before -/
theorem findFolder_app {ls ms : List Line} {i : Id} {f : Line} (h : findFolder ls i = some f) : findFolder (ls ++ ms) i = some f := by
  have aux : ∀ (ls : List Line) {l : Line}, findLine ls i = some l → findLine (ls ++ ms) i = some l := by
    intro ls
    induction ls with
    | nil => intro l h; cases h
    | cons z zs ih =>
      intro l h
      show (if z.id = i then some z else findLine (zs ++ ms) i) = some l
      have h' : (if z.id = i then some z else findLine zs i) = some l := h
      by_cases e : z.id = i
      · rw [if_pos e] at h' ⊢; exact h'
      · rw [if_neg e] at h' ⊢; exact ih h'
  unfold findFolder at h ⊢
  cases e : findLine ls i with
  | none => rw [e] at h; cases h
  | some l => rw [e] at h; rw [aux ls e]; exact h
theorem rooted_app {ls ms : List Line} : ∀ {o : Option Id}, Rooted ls o → Rooted (ls ++ ms) o := by
  intro o h
  induction h with
  | none => exact .none
  | some hf _ ih => exact .some (findFolder_app hf) ih
theorem Good.more {n q n' q' : Nat} {ls : List Line} (G : Good n q ls) (h1 : n ≤ n') (h2 : q ≤ q') : Good n' q' ls :=
  ⟨G.toSound, Nat.le_trans G.len h1, let ⟨w, a, b⟩ := G.pot; ⟨w, a, Nat.le_trans b h2⟩⟩
/-- a new line behind -/
theorem good_new {n q : Nat} {ls : List Line} (G : Good n q ls) {i : Id} (ab : Above ls i) {l : Line} (h1 : l.id = i) (h2 : l.head = i) (h3 : l.below ≠ []) (h4 : Rooted ls l.inside) (h5 : l.below.length ≤ 3 ∨ ∃ z ∈ ls, l.inside = z.inside ∧ l.below = z.below) : Good (n + 1) (q + 3) (ls ++ [l]) := by
  refine ⟨⟨?_, ?_, fun z hz => ?_, fun z hz c => ?_, fun z hz => ?_⟩, by rw [List.length_append]; exact Nat.add_le_add_right G.len 1, ?_⟩
  · rw [List.pairwise_append]
    refine ⟨G.asc, List.pairwise_singleton _ _, fun a ha b hb => ?_⟩
    rw [List.mem_singleton.mp hb, h1]
    exact (ab a ha).1
  · rw [List.map_append, List.nodup_append]
    refine ⟨G.hd, by simp, fun a ha b hb e => ?_⟩
    obtain ⟨z, hz, ez⟩ := List.mem_map.mp ha
    have hb' : b = l.head := by simpa using hb
    have := (ab z hz).2
    rw [ez, e, hb', h2, idLt_irrefl] at this
    cases this
  · rcases List.mem_append.mp hz with q | q
    · exact G.ne z q
    · rw [List.mem_singleton.mp q]; exact h3
  · rcases List.mem_append.mp hz with q | q
    · exact G.fold z q c
    · rw [List.mem_singleton.mp q, h1, h2]
  · rcases List.mem_append.mp hz with q | q
    · exact rooted_app (G.root z q)
    · rw [List.mem_singleton.mp q]; exact rooted_app h4
  · obtain ⟨w, a, b⟩ := G.pot
    -- the new line's own weight is 0
    have noi : ∀ z ∈ ls, z.inside ≠ some i := fun z hz e => by
      have r := G.root z hz
      rw [e] at r
      cases r with
      | some hf _ =>
        obtain ⟨m1, m2, _⟩ := findFolder_mem hf
        have := (ab _ m1).1
        rw [m2, idLt_irrefl] at this
        cases this
    have nol : l.inside ≠ some i := fun e => by
      rw [e] at h4
      cases h4 with
      | some hf _ =>
        obtain ⟨m1, m2, _⟩ := findFolder_mem hf
        have := (ab _ m1).1
        rw [m2, idLt_irrefl] at this
        cases this
    let w0 : Option Id → Nat := fun x => if x = some i then 0 else w x
    have s0 : wsum w0 ls = wsum w ls := by
      unfold wsum
      congr 1
      apply List.map_congr_left
      intro z hz
      show (if some z.id = some i then 0 else w (some z.id)) = w (some z.id)
      rw [if_neg]
      intro e
      have := (ab z hz).1
      rw [Option.some.inj e, idLt_irrefl] at this
      cases this
    have n0 : w0 none = w none := rfl
    have r3 := raise_sum (w := w0) (o := l.inside) (k := 3) G.toSound.nd
    refine ⟨raise w0 l.inside 3, fun z hz => ?_, ?_⟩
    · rcases List.mem_append.mp hz with q | q
      · have := a z q
        have e : w0 z.inside = w z.inside := if_neg (noi z q)
        unfold raise
        split <;> omega
      · rw [List.mem_singleton.mp q]
        have e : raise w0 l.inside 3 l.inside = w0 l.inside + 3 := if_pos rfl
        have e2 : w0 l.inside = w l.inside := if_neg nol
        rcases h5 with h5 | ⟨z, hz, z1, z2⟩
        · omega
        · have := a z hz
          rw [← z1, ← z2] at this
          omega
    · have e : wsum (raise w0 l.inside 3) (ls ++ [l]) = wsum (raise w0 l.inside 3) ls + raise w0 l.inside 3 (some l.id) := by simp [wsum]
      have e2 : raise w0 l.inside 3 (some l.id) = 0 := by
        unfold raise
        rw [h1, if_neg (fun z => nol z.symm)]
        exact if_pos rfl
      omega
theorem newLine_ok {n q : Nat} {ls : List Line} (G : Good n q ls) {i : Id} (ab : Above ls i) {p : Place} (hp : PlaceOk p) (c : Option Int) (mt : Option Id) : Good (n + 1) (q + 3) (ls ++ [newLine ls i p c mt]) := by
  unfold newLine
  cases e : mt.bind (findLine ls) with
  | none =>
    have st := settle_ok G.toSound hp
    exact good_new G ab rfl rfl st.1 (settle_rooted G.toSound p).1 (.inl st.2)
  | some l =>
    obtain ⟨j, _, hj⟩ := Option.bind_eq_some_iff.mp e
    have m := (findLine_mem hj).1
    exact good_new G ab rfl rfl (G.ne l m) (G.root l m) (.inr ⟨l, m, rfl, rfl⟩)
/-- a line goes on -/
theorem goOne_id (g : Option Id) (i : Id) (c : Option Int) (l : Line) : (goOne g i c l).id = l.id := by unfold goOne; split <;> rfl
theorem goOne_inside (g : Option Id) (i : Id) (c : Option Int) (l : Line) : (goOne g i c l).inside = l.inside := by unfold goOne; split <;> rfl
theorem goOne_below (g : Option Id) (i : Id) (c : Option Int) (l : Line) : (goOne g i c l).below = l.below := by unfold goOne; split <;> rfl
theorem continued_mem {ls : List Line} {rs : List Id} {g : Id} (h : continued ls rs = some g) : ∃ l ∈ ls, l.id = g ∧ l.content ≠ none := by
  induction ls with
  | nil => cases h
  | cons z zs ih =>
    unfold continued at h
    by_cases e : z.content ≠ none ∧ z.head ∈ rs
    · rw [if_pos e] at h
      exact ⟨z, List.mem_cons_self, Option.some.inj h, e.1⟩
    · rw [if_neg e] at h
      obtain ⟨l, a, b⟩ := ih h
      exact ⟨l, List.mem_cons_of_mem _ a, b⟩
theorem goOne_none (i : Id) (c : Option Int) (ls : List Line) : ls.map (goOne none i c) = ls := by
  have : goOne none i c = id := by
    funext l
    unfold goOne
    rw [if_neg (by intro e; cases e)]
    rfl
  rw [this, List.map_id]
theorem good_goon {n q : Nat} {ls : List Line} (G : Good n q ls) {i : Id} (ab : Above ls i) {g : Id} {c : Option Int} (hg : ∃ l ∈ ls, l.id = g ∧ l.content ≠ none) (hc : c ≠ none) : Good n q (ls.map (goOne (some g) i c)) := by
  have ids : (ls.map (goOne (some g) i c)).map (·.id) = ls.map (·.id) := by
    rw [List.map_map]
    congr 1
    funext l
    exact goOne_id _ _ _ l
  have nd' : ((ls.map (goOne (some g) i c)).map (·.id)).Nodup := by rw [ids]; exact G.toSound.nd
  have rt : ∀ {o : Option Id}, Rooted ls o → Rooted (ls.map (goOne (some g) i c)) o := by
    intro o h
    induction h with
    | none => exact .none
    | @some j f hf _ ih =>
      obtain ⟨m1, m2, m3⟩ := findFolder_mem hf
      have ne : f.id ≠ g := fun e => by
        obtain ⟨l, l1, l2, l3⟩ := hg
        have a := findLine_of G.toSound.nd m1
        have b := findLine_of G.toSound.nd l1
        rw [e] at a
        rw [l2, a] at b
        exact l3 (by rw [← Option.some.inj b]; exact m3)
      have same : goOne (some g) i c f = f := by
        unfold goOne
        rw [if_neg (fun z => ne (Option.some.inj z))]
      have hm : f ∈ ls.map (goOne (some g) i c) := by
        have := List.mem_map_of_mem (f := goOne (some g) i c) m1
        rw [same] at this
        exact this
      have := findFolder_of nd' hm m3
      rw [m2] at this
      exact .some this ih
  refine ⟨⟨?_, ?_, fun l hl => ?_, fun l hl hn => ?_, fun l hl => ?_⟩, by rw [List.length_map]; exact G.len, ?_⟩
  · rw [List.pairwise_map]
    refine G.asc.imp fun h => ?_
    rw [goOne_id, goOne_id]; exact h
  · rw [List.map_map]
    unfold List.Nodup
    rw [List.pairwise_map]
    have hp : ls.Pairwise fun a b => a.id ≠ b.id ∧ a.head ≠ b.head := by
      have h1 : ls.Pairwise fun a b => a.id ≠ b.id := G.asc.imp fun h => idLt_ne h
      have h2 : ls.Pairwise fun a b => a.head ≠ b.head := by
        have := G.hd
        unfold List.Nodup at this
        rwa [List.pairwise_map] at this
      exact h1.and h2
    refine hp.imp_of_mem fun {a b} ha hb ⟨h1, h2⟩ => ?_
    have na := (ab a ha).2
    have nb := (ab b hb).2
    show (goOne (some g) i c a).head ≠ (goOne (some g) i c b).head
    unfold goOne
    by_cases ca : some a.id = some g
    · rw [if_pos ca]
      by_cases cb : some b.id = some g
      · exact absurd ((Option.some.inj ca).trans (Option.some.inj cb).symm) h1
      · rw [if_neg cb]
        exact fun e => by
          have e' : i = b.head := e
          rw [← e', idLt_irrefl] at nb; cases nb
    · rw [if_neg ca]
      by_cases cb : some b.id = some g
      · rw [if_pos cb]
        exact fun e => by
          have e' : a.head = i := e
          rw [e', idLt_irrefl] at na; cases na
      · rw [if_neg cb]; exact h2
  · obtain ⟨z, hz, e⟩ := List.mem_map.mp hl
    rw [← e, goOne_below]; exact G.ne z hz
  · obtain ⟨z, hz, e⟩ := List.mem_map.mp hl
    rw [← e] at hn ⊢
    unfold goOne at hn ⊢
    split
    · rename_i q
      rw [if_pos q] at hn
      exact absurd hn hc
    · rename_i q
      rw [if_neg q] at hn
      exact G.fold z hz hn
  · obtain ⟨z, hz, e⟩ := List.mem_map.mp hl
    rw [← e, goOne_inside]; exact rt (G.root z hz)
  · obtain ⟨w, a, b⟩ := G.pot
    refine ⟨w, fun l hl => ?_, ?_⟩
    · obtain ⟨z, hz, e⟩ := List.mem_map.mp hl
      rw [← e, goOne_below, goOne_inside]; exact a z hz
    · have : wsum w (ls.map (goOne (some g) i c)) = wsum w ls := by
        unfold wsum
        rw [List.map_map]
        congr 1
        apply List.map_congr_left
        intro z _
        show w (some (goOne (some g) i c z).id) = w (some z.id)
        rw [goOne_id]
      omega
theorem good_writeBase {n q : Nat} {ls : List Line} (G : Good n q ls) {i : Id} (ab : Above ls i) {p : Place} (hp : PlaceOk p) (c : Option Int) (mt : Option Id) (rs : List Id) : Good (n + 1) (q + 3) (writeBase ls i p c mt rs) := by
  unfold writeBase
  cases e : goingOn ls c rs with
  | none =>
    rw [if_pos rfl, goOne_none]
    exact newLine_ok G ab hp c mt
  | some g =>
    rw [if_neg (by intro z; cases z), List.append_nil]
    unfold goingOn at e
    by_cases hc : c = none
    · rw [if_pos hc] at e; cases e
    · rw [if_neg hc] at e
      exact (good_goon G ab (continued_mem e) hc).more (Nat.le_succ _) (Nat.le_add_right _ _)
theorem good_write {n q : Nat} {ls : List Line} (G : Good n q ls) {i : Id} (ab : Above ls i) {p : Place} (hp : PlaceOk p) (c : Option Int) (mt : Option Id) (rs : List Id) : Good (n + 1) (q + 3) (writeLines ls i p c mt rs) := good_endHeads (good_writeBase G ab hp c mt rs)
/-- ids and heads have S -/
def Ids (S : Id → Prop) (ls : List Line) : Prop := ∀ l ∈ ls, S l.id ∧ S l.head
theorem ids_end {S : Id → Prop} {ls : List Line} (h : Ids S ls) (g : Line) : Ids S (endLine ls g) := fun l hl => by
  obtain ⟨z, hz, _, e⟩ := mem_endLine.mp hl
  rw [← e, endOne_id, endOne_head]
  exact h z hz
theorem ids_endHeads {S : Id → Prop} : ∀ {hs : List Id} {ls : List Line}, Ids S ls → Ids S (endHeads ls hs)
  | [], _, a => a
  | h :: hs, ls, a => ids_endHeads (hs := hs) (by
    rcases endHead_cases ls h with e | ⟨g, hg, _, e⟩
    · rw [e]; exact a
    · rw [e]; exact ids_end a g)
theorem ids_write {S : Id → Prop} {ls : List Line} {i : Id} (h : Ids S ls) (hi : S i) (p : Place) (c : Option Int) (mt : Option Id) (rs : List Id) : Ids S (writeLines ls i p c mt rs) := by
  refine ids_endHeads fun l hl => ?_
  rcases List.mem_append.mp hl with k | k
  · obtain ⟨z, hz, e⟩ := List.mem_map.mp k
    rw [← e, goOne_id]
    refine ⟨(h z hz).1, ?_⟩
    unfold goOne
    split
    · exact hi
    · exact (h z hz).2
  · split at k
    · rw [List.mem_singleton.mp k]
      unfold newLine
      split
      · exact ⟨hi, hi⟩
      · exact ⟨hi, hi⟩
    · cases k
/-! ### how deep a line stands -/
inductive Dep (ls : List Line) : Option Id → Nat → Prop
  | z : Dep ls none 0
  | s {i : Id} {f : Line} {k : Nat} : findFolder ls i = some f → Dep ls f.inside k → Dep ls (some i) (k + 1)
theorem dep_of {ls : List Line} {o : Option Id} (h : Rooted ls o) : ∃ k, Dep ls o k := by
  induction h with
  | none => exact ⟨0, .z⟩
  | some hf _ ih => obtain ⟨k, hk⟩ := ih; exact ⟨k + 1, .s hf hk⟩
theorem Dep.fn {ls : List Line} {o : Option Id} {j : Nat} (h : Dep ls o j) : ∀ {k : Nat}, Dep ls o k → j = k := by
  induction h with
  | z => intro k hk; cases hk; rfl
  | s hf _ ih =>
    intro k hk
    cases hk with
    | s hf' hk' =>
      rw [hf] at hf'
      cases hf'
      rw [ih hk']
theorem nodup_len {A : Type} [DecidableEq A] (l D : List A) (hn : l.Nodup) (hs : ∀ x ∈ l, x ∈ D) : l.length ≤ D.length := by
  induction D generalizing l with
  | nil =>
    cases l with
    | nil => exact Nat.le_refl 0
    | cons x l => exact absurd (hs x List.mem_cons_self) List.not_mem_nil
  | cons d D ih =>
    by_cases q : d ∈ l
    · have k := ih (l.erase d) (hn.erase d) fun x hx => by
        have w := (hn.mem_erase_iff).1 hx
        exact (List.mem_cons.mp (hs x w.2)).resolve_left w.1
      have e := List.length_erase_of_mem q
      have e2 : (d :: D).length = D.length + 1 := rfl
      omega
    · have k := ih l hn fun x hx => (List.mem_cons.mp (hs x hx)).resolve_left fun z => q (z ▸ hx)
      exact Nat.le_succ_of_le k
theorem Dep.chain {ls : List Line} {o : Option Id} {k : Nat} (h : Dep ls o k) : ∃ L : List Id, L.length = k ∧ L.Nodup ∧ (∀ j ∈ L, j ∈ ls.map (·.id)) ∧ ∀ j ∈ L, ∃ m, m ≤ k ∧ Dep ls (some j) m := by
  induction h with
  | z => exact ⟨[], rfl, List.nodup_nil, fun _ h => (by cases h), fun _ h => (by cases h)⟩
  | @s i f k hf hd ih =>
    obtain ⟨L, a, b, c, d⟩ := ih
    have di : Dep ls (some i) (k + 1) := .s hf hd
    refine ⟨i :: L, by simp [a], List.nodup_cons.mpr ⟨fun hm => ?_, b⟩, fun j hj => ?_, fun j hj => ?_⟩
    · obtain ⟨m, hm, dm⟩ := d i hm
      have := di.fn dm
      omega
    · rcases List.mem_cons.mp hj with e | hj
      · obtain ⟨m1, m2, _⟩ := findFolder_mem hf
        rw [e, ← m2]
        exact List.mem_map_of_mem m1
      · exact c j hj
    · rcases List.mem_cons.mp hj with e | hj
      · rw [e]; exact ⟨k + 1, Nat.le_refl _, di⟩
      · obtain ⟨m, hm, dm⟩ := d j hj
        exact ⟨m, Nat.le_succ_of_le hm, dm⟩
theorem Dep.le {ls : List Line} {o : Option Id} {k : Nat} (h : Dep ls o k) : k ≤ ls.length := by
  obtain ⟨L, a, b, c, _⟩ := h.chain
  have := nodup_len L (ls.map (·.id)) b c
  rw [List.length_map] at this
  omega
/-- the program's test of a root -/
def isRooted (ls : List Line) : Nat → Option Id → Bool
  | 0, _ => false
  | _ + 1, none => true
  | n + 1, some i => match findFolder ls i with
    | none => false
    | some f => isRooted ls n f.inside
theorem Dep.isRooted {ls : List Line} {o : Option Id} {k : Nat} (h : Dep ls o k) : ∀ {n : Nat}, k < n → isRooted ls n o = true := by
  induction h with
  | z =>
    intro n hn
    cases n with
    | zero => omega
    | succ n => rfl
  | @s i f k hf _ ih =>
    intro n hn
    cases n with
    | zero => omega
    | succ n =>
      show (match findFolder ls i with
        | none => false
        | some f => FK.isRooted ls n f.inside) = true
      rw [hf]
      exact ih (by omega)
theorem rooted_is {ls : List Line} {o : Option Id} (h : Rooted ls o) : isRooted ls (ls.length + 1) o = true := by
  obtain ⟨k, hk⟩ := dep_of h
  exact hk.isRooted (Nat.lt_succ_of_le hk.le)
/-! ### a move -/
/-- rooted by a way that does not meet t -/
inductive Av (ls : List Line) (t : Id) : Option Id → Prop
  | none : Av ls t none
  | some {i : Id} {f : Line} : i ≠ t → findFolder ls i = some f → Av ls t f.inside → Av ls t (some i)
theorem Dep.av {ls : List Line} {t : Id} {o : Option Id} {k : Nat} (h : Dep ls o k) : ∀ {n : Nat}, k < n → standsIn ls n o t = false → Av ls t o := by
  induction h with
  | z => intro _ _ _; exact .none
  | @s i f k hf _ ih =>
    intro n hn hs
    cases n with
    | zero => omega
    | succ n =>
      have hs' : (if i = t then true else match findFolder ls i with
        | none => false
        | some f => standsIn ls n f.inside t) = false := hs
      by_cases e : i = t
      · rw [if_pos e] at hs'; cases hs'
      · rw [if_neg e, hf] at hs'
        exact .some e hf (ih (by omega) hs')
def moveTo (l : Line) (s : Option Id × Path) (o : Line) : Line := if o.id = l.id then ⟨l.id, l.head, s.1, s.2, l.content⟩ else o
theorem moveTo_id (l : Line) (s : Option Id × Path) (o : Line) : (moveTo l s o).id = o.id := by
  unfold moveTo
  split
  · rename_i e; exact e.symm
  · rfl
theorem good_moved {n q : Nat} {ls : List Line} (G : Good n q ls) {l : Line} (hl : l ∈ ls) {s : Option Id × Path} (h1 : s.2 ≠ []) (h2 : s.2.length ≤ 3) (hr : Rooted ls s.1) (hs : standsIn ls (ls.length + 1) s.1 l.id = false) : Good n (q + 3) (ls.map (moveTo l s)) := by
  have same : ∀ z ∈ ls, z.id = l.id → z = l := fun z hz e => by
    have a := findLine_of G.toSound.nd hz
    have b := findLine_of G.toSound.nd hl
    rw [e, b] at a
    exact (Option.some.inj a).symm
  have hd : ∀ z ∈ ls, (moveTo l s z).head = z.head := fun z hz => by
    unfold moveTo
    split
    · rename_i e; rw [same z hz e]
    · rfl
  have ct : ∀ z ∈ ls, (moveTo l s z).content = z.content := fun z hz => by
    unfold moveTo
    split
    · rename_i e; rw [same z hz e]
    · rfl
  have ids : (ls.map (moveTo l s)).map (·.id) = ls.map (·.id) := by
    rw [List.map_map]
    congr 1
    funext z
    exact moveTo_id l s z
  have nd' : ((ls.map (moveTo l s)).map (·.id)).Nodup := by rw [ids]; exact G.toSound.nd
  have av : Av ls l.id s.1 := by
    obtain ⟨k, hk⟩ := dep_of hr
    exact hk.av (Nat.lt_succ_of_le hk.le) hs
  have ff : ∀ {i : Id} {f : Line}, findFolder ls i = some f → findFolder (ls.map (moveTo l s)) i = some (moveTo l s f) := fun {i f} hf => by
    obtain ⟨m1, m2, m3⟩ := findFolder_mem hf
    have := findFolder_of nd' (List.mem_map_of_mem (f := moveTo l s) m1) (by rw [ct f m1]; exact m3)
    rw [moveTo_id, m2] at this
    exact this
  have r0 : ∀ {o : Option Id}, Av ls l.id o → Rooted (ls.map (moveTo l s)) o := by
    intro o h
    induction h with
    | none => exact .none
    | @some i f hi hf _ ih =>
      refine .some (ff hf) ?_
      have : moveTo l s f = f := by
        unfold moveTo
        rw [if_neg]
        intro e
        exact hi (by rw [← (findFolder_mem hf).2.1, e])
      rw [this]
      exact ih
  have rt : ∀ {o : Option Id}, Rooted ls o → Rooted (ls.map (moveTo l s)) o := by
    intro o h
    induction h with
    | none => exact .none
    | @some i f hf _ ih =>
      refine .some (ff hf) ?_
      by_cases e : f.id = l.id
      · have : (moveTo l s f).inside = s.1 := by unfold moveTo; rw [if_pos e]
        rw [this]; exact r0 av
      · have : moveTo l s f = f := by unfold moveTo; rw [if_neg e]
        rw [this]; exact ih
  refine ⟨⟨?_, ?_, fun z hz => ?_, fun z hz c => ?_, fun z hz => ?_⟩, by rw [List.length_map]; exact G.len, ?_⟩
  · rw [List.pairwise_map]
    refine G.asc.imp fun h => ?_
    rw [moveTo_id, moveTo_id]; exact h
  · have e : (ls.map (moveTo l s)).map (·.head) = ls.map (·.head) := by
      rw [List.map_map]
      exact List.map_congr_left hd
    rw [e]; exact G.hd
  · obtain ⟨y, hy, e⟩ := List.mem_map.mp hz
    rw [← e]
    unfold moveTo
    split
    · exact h1
    · exact G.ne y hy
  · obtain ⟨y, hy, e⟩ := List.mem_map.mp hz
    rw [← e, ct y hy] at c
    rw [← e, hd y hy, moveTo_id]
    exact G.fold y hy c
  · obtain ⟨y, hy, e⟩ := List.mem_map.mp hz
    rw [← e]
    by_cases c : y.id = l.id
    · have : (moveTo l s y).inside = s.1 := by unfold moveTo; rw [if_pos c]
      rw [this]; exact r0 av
    · have : moveTo l s y = y := by unfold moveTo; rw [if_neg c]
      rw [this]; exact rt (G.root y hy)
  · obtain ⟨w, a, b⟩ := G.pot
    have r3 := raise_sum (w := w) (o := s.1) (k := 3) G.toSound.nd
    refine ⟨raise w s.1 3, fun z hz => ?_, ?_⟩
    · obtain ⟨y, hy, e⟩ := List.mem_map.mp hz
      rw [← e]
      by_cases c : y.id = l.id
      · have e1 : moveTo l s y = ⟨l.id, l.head, s.1, s.2, l.content⟩ := by unfold moveTo; rw [if_pos c]
        rw [e1]
        have e2 : raise w s.1 3 s.1 = w s.1 + 3 := if_pos rfl
        show s.2.length ≤ raise w s.1 3 s.1
        omega
      · have e1 : moveTo l s y = y := by unfold moveTo; rw [if_neg c]
        rw [e1]
        have := a y hy
        unfold raise
        split <;> omega
    · have : wsum (raise w s.1 3) (ls.map (moveTo l s)) = wsum (raise w s.1 3) ls := by
        unfold wsum
        rw [List.map_map]
        congr 1
        apply List.map_congr_left
        intro z _
        show raise w s.1 3 (some (moveTo l s z).id) = _
        rw [moveTo_id]
      omega
theorem moveLine_cases (ls : List Line) (h i : Id) (p : Place) : moveLine ls h i p = ls ∨ ∃ l ∈ ls, standsIn ls (ls.length + 1) (settle ls p).1 l.id = false ∧ moveLine ls h i p = ls.map (moveTo l (settle ls p)) := by
  unfold moveLine
  split
  · exact .inl rfl
  · rename_i l e
    have hm : l ∈ ls := by
      unfold foundLine at e
      split at e
      · rename_i z q
        rw [← Option.some.inj e]; exact (findHead_mem q).1
      · exact (findLine_mem e).1
    cases c : standsIn ls (ls.length + 1) (settle ls p).1 l.id with
    | true => rw [if_pos rfl]; exact .inl rfl
    | false => rw [if_neg Bool.false_ne_true]; exact .inr ⟨l, hm, c, rfl⟩
theorem good_move {n q : Nat} {ls : List Line} (G : Good n q ls) (h i : Id) {p : Place} (hp : PlaceOk p) : Good n (q + 3) (moveLine ls h i p) := by
  rcases moveLine_cases ls h i p with e | ⟨l, hl, hs, e⟩
  · rw [e]; exact G.more (Nat.le_refl _) (Nat.le_add_right _ _)
  · rw [e]
    have st := settle_ok G.toSound hp
    exact good_moved G hl st.1 st.2 (settle_rooted G.toSound p).1 hs
theorem ids_move {S : Id → Prop} {ls : List Line} (k : Ids S ls) (h i : Id) (p : Place) : Ids S (moveLine ls h i p) := by
  rcases moveLine_cases ls h i p with e | ⟨l, hl, hs, e⟩
  · rw [e]; exact k
  · rw [e]
    intro z hz
    obtain ⟨y, hy, ey⟩ := List.mem_map.mp hz
    rw [← ey, moveTo_id]
    refine ⟨(k y hy).1, ?_⟩
    unfold moveTo
    split
    · exact (k l hl).2
    · exact (k y hy).2
theorem good_moveAll {n : Nat} : ∀ {ms : List (Id × Id × Place)} {q : Nat} {ls : List Line}, Good n q ls → (∀ x ∈ ms, PlaceOk x.2.2) → Good n (q + 3 * ms.length) (moveAll ls ms)
  | [], q, _, G, _ => G
  | (h, i, p) :: ms, q, _, G, hp => by
    have := good_moveAll (ms := ms) (good_move G h i (hp _ List.mem_cons_self)) fun x hx => hp x (List.mem_cons_of_mem _ hx)
    refine this.more (Nat.le_refl _) ?_
    rw [List.length_cons]; omega
theorem ids_moveAll {S : Id → Prop} : ∀ {ms : List (Id × Id × Place)} {ls : List Line}, Ids S ls → Ids S (moveAll ls ms)
  | [], _, k => k
  | (h, i, p) :: ms, _, k => ids_moveAll (ms := ms) (ids_move k h i p)
/-! ### edits, one after another -/
theorem above_ids {ls : List Line} {i : Id} : Above ls i ↔ Ids (fun j => idLt j i = true) ls := Iff.rfl
theorem ids_after {S : Id → Prop} {ls : List Line} (k : Ids S ls) {e : Edit} (h : S e.id) : Ids S (linesAfter ls e) := by
  cases e with
  | write i p c mt rs => exact ids_write k h p c mt rs
  | drop i rs => exact ids_endHeads k
  | move i ms => exact ids_moveAll k
theorem good_after {n q : Nat} {ls : List Line} (G : Good n q ls) {e : Edit} (ab : Above ls e.id) (ok : EditOk e) : Good (n + 1) (q + 6) (linesAfter ls e) := by
  cases e with
  | write i p c mt rs => exact (good_write G ab ok.1 c mt rs).more (Nat.le_refl _) (by omega)
  | drop i rs => exact (good_endHeads (hs := rs) G).more (Nat.le_succ _) (by omega)
  | move i ms => exact (good_moveAll G ok.1).more (Nat.le_succ _) (by have := ok.2; omega)
/-- edits that may be applied to these lines -/
structure EdsOk (ls : List Line) (es : List Edit) : Prop where
  asc : es.Pairwise fun a b => idLt a.id b.id = true
  ok : ∀ e ∈ es, EditOk e
  ab : ∀ e ∈ es, Above ls e.id
theorem EdsOk.tail {ls : List Line} {e : Edit} {es : List Edit} (h : EdsOk ls (e :: es)) : EdsOk (linesAfter ls e) es := by
  have hp := List.pairwise_cons.mp h.asc
  exact ⟨hp.2, fun x hx => h.ok x (List.mem_cons_of_mem _ hx), fun x hx => above_ids.mpr (ids_after (above_ids.mp (h.ab x (List.mem_cons_of_mem _ hx))) (hp.1 x hx))⟩
theorem good_fold : ∀ {es : List Edit} {n q : Nat} {ls : List Line}, Good n q ls → EdsOk ls es → Good (n + es.length) (q + 6 * es.length) (foldLines ls es)
  | [], _, _, _, G, _ => G
  | e :: es, n, q, ls, G, h => by
    have := good_fold (es := es) (good_after G (h.ab e List.mem_cons_self) (h.ok e List.mem_cons_self)) h.tail
    refine this.more ?_ ?_ <;> rw [List.length_cons] <;> omega
theorem ids_fold {S : Id → Prop} : ∀ {es : List Edit} {ls : List Line}, Ids S ls → (∀ e ∈ es, S e.id) → Ids S (foldLines ls es)
  | [], _, k, _ => k
  | e :: es, _, k, h => ids_fold (es := es) (ids_after k (h e List.mem_cons_self)) fun x hx => h x (List.mem_cons_of_mem _ hx)
theorem good_nil : Good 0 0 [] := ⟨⟨List.Pairwise.nil, List.nodup_nil, fun _ h => (by cases h), fun _ h => (by cases h), fun _ h => (by cases h)⟩, Nat.le_refl _, fun _ => 0, fun _ h => (by cases h), Nat.le_refl _⟩
theorem fold_app : ∀ (es fs : List Edit) (ls : List Line), foldLines ls (es ++ fs) = foldLines (foldLines ls es) fs
  | [], _, _ => rfl
  | e :: es, fs, ls => fold_app es fs (linesAfter ls e)
end FK
/-! The typed data as data (Da); what the rules ask of them; the defs by names. -/
namespace FK
open PySem PySem.Spec PyProof.Rows L2 DL
def dId (i : Id) : Da := .tup [.int i.1, .int i.2]
def dO : Option Id → Da
  | none => .non
  | some i => dId i
def nameOf : Fin 4 → Str
  | 0 => "a"
  | 1 => "b"
  | 2 => "c.txt"
  | 3 => "d"
def dName (n : Fin 4) : Da := .str (nameOf n)
def dPath (p : Path) : Da := .tup (p.map dName)
def dMark : Option Int → Da
  | none => .non
  | some n => .tup [.int n, .int n, .int (n + 1), .bl false]
def dPlace (p : Place) : Da := .tup [dO p.inside, dPath p.below, dPath p.seen]
def dLine (l : Line) : Da := .tup [dId l.id, dId l.head, dO l.inside, dPath l.below, dMark l.content]
def dOLine : Option Line → Da
  | none => .non
  | some l => dLine l
def dIds (is : List Id) : Da := .tup (is.map dId)
def dMoved (q : Id × Id × Place) : Da := .tup [dId q.1, dId q.2.1, dPlace q.2.2]
def dEdit : Edit → Da
  | .write i p c mt rs => .tup [.str "write", dId i, dPlace p, dMark c, dO mt, dIds rs]
  | .drop i rs => .tup [.str "drop", dId i, dIds rs]
  | .move i ms => .tup [.str "move", dId i, .tup (ms.map dMoved)]
/-- a list or a tuple of these -/
def sq (b : Bool) (ds : List Da) : Da := if b then .tup ds else .lst ds
def dClocks (b : Bool) (ks : Clocks) : Da := sq b (ks.map dId)
def dNews (n : News) : Da := .tup [.str "news", .int n.clock, .tup (n.base.map dLine), .int n.upto, .tup (n.rest.map dEdit), .tup (n.knows.map dId), .tup (n.since.map dId)]
theorem sq_items {b : Bool} {m : Mem} {ds : List Da} : itemsOf m (sq b ds) = some ds := by cases b <;> rfl
theorem it_sq {X : Cx} {r : Rho} {m m1 : Mem} {tg e : Expr} {b : Bool} {ds : List Da} (he : EvD X e r m (sq b ds) m1) : ItD X tg e r m ds m1 fun _ => True := by
  cases b with
  | true => exact it_tup he
  | false => exact it_lst he
/-! ### comparisons -/
theorem dId_py (i : Id) : (dId i).py = .tuple [.int i.1, .int i.2] := rfl
theorem eqv_id (a b : Id) : PyData.eqv (dId a).py (dId b).py = decide (a = b) := by
  rw [dId_py, dId_py]
  simp only [PyData.eqv, PyData.eqvAll, Bool.and_true]
  obtain ⟨a1, a2⟩ := a
  obtain ⟨b1, b2⟩ := b
  by_cases h1 : a1 = b1
  · by_cases h2 : a2 = b2
    · subst h1 h2; simp
    · simp [h2]
  · simp [h1]
theorem eqv_io (a : Id) (b : Option Id) : PyData.eqv (dId a).py (dO b).py = decide (some a = b) := by
  cases b with
  | none => rw [dId_py]; simp [dO, Da.py, PyData.eqv]
  | some b => show PyData.eqv (dId a).py (dId b).py = _; rw [eqv_id]; simp
theorem eqv_oi (a : Option Id) (b : Id) : PyData.eqv (dO a).py (dId b).py = decide (a = some b) := by
  cases a with
  | none => rw [dId_py]; simp [dO, Da.py, PyData.eqv]
  | some a => show PyData.eqv (dId a).py (dId b).py = _; rw [eqv_id]; simp
/-- what == takes -/
theorem shp_of {d : Da} (h1 : d.py.canLay0 = true) (h2 : d.py.depth ≤ 64) : d.shp := by
  show (d.py.canLay0 && decide (d.py.depth ≤ 64)) = true
  rw [h1, decide_eq_true h2]; rfl
theorem lay_id (i : Id) : (dId i).py.canLay0 = true := by simp [dId_py, PyData.canLay0, PyData.canLayAll0]
theorem dep_id (i : Id) : (dId i).py.depth ≤ 1 := by simp [dId_py, PyData.depth, PyData.depthAll]
theorem lay_o (i : Option Id) : (dO i).py.canLay0 = true := by
  cases i with
  | none => simp [dO, Da.py, PyData.canLay0]
  | some i => exact lay_id i
theorem dep_o (i : Option Id) : (dO i).py.depth ≤ 1 := by
  cases i with
  | none => simp [dO, Da.py, PyData.depth]
  | some i => exact dep_id i
theorem lay_all {A : Type} {f : A → Da} (h : ∀ x, (f x).py.canLay0 = true) : ∀ xs : List A, PyData.canLayAll0 (pyAll (xs.map f)) = true
  | [] => by simp [pyAll, PyData.canLayAll0]
  | x :: xs => by simp [pyAll, PyData.canLayAll0, h x, lay_all h xs]
theorem dep_all {A : Type} {f : A → Da} {n : Nat} (h : ∀ x, (f x).py.depth ≤ n) : ∀ xs : List A, PyData.depthAll (pyAll (xs.map f)) ≤ n
  | [] => by simp [pyAll, PyData.depthAll]
  | x :: xs => by
    have h1 := h x
    have h2 := dep_all h xs
    simp only [List.map_cons, pyAll, PyData.depthAll]
    omega
theorem lay_name (n : Fin 4) : (dName n).py.canLay0 = true := by
  show PyData.strOk (nameOf n) = true
  revert n
  decide +kernel
theorem lay_path (p : Path) : (dPath p).py.canLay0 = true := by
  show PyData.canLay0 (.tuple (pyAll (p.map dName))) = true
  simp only [PyData.canLay0]
  exact lay_all lay_name p
theorem dep_path (p : Path) : (dPath p).py.depth ≤ 1 := by
  show PyData.depth (.tuple (pyAll (p.map dName))) ≤ 1
  have h : PyData.depthAll (pyAll (p.map dName)) ≤ 0 := dep_all (fun n => by show PyData.depth (.str (nameOf n)) ≤ 0; simp [PyData.depth]) p
  simp only [PyData.depth]
  omega
theorem lay_mark (c : Option Int) : (dMark c).py.canLay0 = true := by
  cases c with
  | none => simp [dMark, Da.py, PyData.canLay0]
  | some n => simp [dMark, Da.py, pyAll, PyData.canLay0, PyData.canLayAll0]
theorem dep_mark (c : Option Int) : (dMark c).py.depth ≤ 1 := by
  cases c with
  | none => simp [dMark, Da.py, PyData.depth]
  | some n => simp [dMark, Da.py, pyAll, PyData.depth, PyData.depthAll]
theorem lay_line (l : Line) : (dLine l).py.canLay0 = true := by
  simp [dLine, Da.py, pyAll, PyData.canLay0, PyData.canLayAll0, lay_id, lay_o, lay_path, lay_mark]
theorem dep_line (l : Line) : (dLine l).py.depth ≤ 2 := by
  have h1 := dep_id l.id
  have h2 := dep_id l.head
  have h3 := dep_o l.inside
  have h4 := dep_path l.below
  have h5 := dep_mark l.content
  simp only [dLine, Da.py, pyAll, PyData.depth, PyData.depthAll]
  omega
theorem shp_id (i : Id) : (dId i).shp := shp_of (lay_id i) (Nat.le_trans (dep_id i) (by decide))
theorem shp_o (i : Option Id) : (dO i).shp := shp_of (lay_o i) (Nat.le_trans (dep_o i) (by decide))
theorem lay_lines (ls : List Line) : (Da.lst (ls.map dLine)).py.canLay0 = true := by
  show PyData.canLay0 (.list (pyAll (ls.map dLine))) = true
  simp only [PyData.canLay0]
  exact lay_all lay_line ls
theorem shp_lines (ls : List Line) : (Da.lst (ls.map dLine)).shp := shp_of (lay_lines ls) (by
  have h := dep_all dep_line ls
  show PyData.depth (.list (pyAll (ls.map dLine))) ≤ 64
  simp only [PyData.depth]
  omega)
theorem eqv_lines (ls : List Line) : PyData.eqv (Da.lst (ls.map dLine)).py (Da.lst (ls.map dLine)).py = true := SeqAt.eqv_refl _ (lay_lines ls)
theorem isN_o (i : Option Id) : (dO i).isN = i.isNone := by cases i <;> rfl
theorem isN_mark (c : Option Int) : (dMark c).isN = c.isNone := by cases c <;> rfl
theorem isN_oline (l : Option Line) : (dOLine l).isN = l.isNone := by cases l <;> rfl
/-! ### operators on these -/
section
variable {X : Cx} {m : Mem}
theorem od_eq_id {a b : Id} (hu : X.A.units + 64 < cLine) : OpD X (compareOp .Eq) (dId a) (dId b) m (.bl (decide (a = b))) := by
  rw [← eqv_id]; exact od_eqD hu (shp_id a) (shp_id b)
theorem od_ne_id {a b : Id} (hu : X.A.units + 64 < cLine) : OpD X (compareOp .NotEq) (dId a) (dId b) m (.bl (!decide (a = b))) := by
  rw [← eqv_id]; exact od_neD hu (shp_id a) (shp_id b)
theorem od_eq_io {a : Id} {b : Option Id} (hu : X.A.units + 64 < cLine) : OpD X (compareOp .Eq) (dId a) (dO b) m (.bl (decide (some a = b))) := by
  rw [← eqv_io]; exact od_eqD hu (shp_id a) (shp_o b)
theorem od_eq_oi {a : Option Id} {b : Id} (hu : X.A.units + 64 < cLine) : OpD X (compareOp .Eq) (dO a) (dId b) m (.bl (decide (a = some b))) := by
  rw [← eqv_oi]; exact od_eqD hu (shp_o a) (shp_id b)
theorem lex_id (a b : Id) : HT.lexLt [a.1, a.2] [b.1, b.2] = idLt a b := by
  unfold idLt
  rw [HT.lexLt_cons, HT.lexLt_cons, HT.lexLt_nil_nil]
  by_cases h : a.1 = b.1
  · rw [if_pos h, if_pos h]
    by_cases h2 : a.2 = b.2
    · rw [if_pos h2, h2]; simp
    · rw [if_neg h2]
  · rw [if_neg h, if_neg h]
theorem od_lt_id {a b : Id} (hu : X.A.units < cLine) : OpD X (compareOp .Lt) (dId a) (dId b) m (.bl (idLt a b)) := by
  rw [← lex_id]; exact od_ltT (ns := [a.1, a.2]) (ms := [b.1, b.2]) hu
end
section
variable {X : Cx} {r : Rho} {m m1 : Mem}
theorem od_catP {a b : Path} (hl : a.length + b.length ≤ 1000) : OpD X (binaryOp .Add) (dPath a) (dPath b) m (dPath (a ++ b)) := by
  have h : dPath (a ++ b) = .tup (a.map dName ++ b.map dName) := by unfold dPath; rw [List.map_append]
  rw [h]
  exact od_catT (Nat.le_of_lt (small1000 (by rw [List.length_map, List.length_map]; exact hl)))
theorem od_in_ids {a : Id} {rs : List Id} (hu : X.A.units + 65 < cLine) : OpD X (compareOp .In) (dId a) (dIds rs) m (.bl (decide (a ∈ rs))) := by
  intro pins s σ H x y v u Q I rx ry h
  obtain ⟨k, h1, h2, q⟩ := h
  have lay : PyData.canLayAll0 (pyAll (rs.map dId)) = true := lay_all lay_id rs
  have dx : Dp X.K H x (dId a).py := (h1.mono hide_sub).dp (lay_id a)
  have dy : Dp X.K H y (.tuple (pyAll (rs.map dId))) := (h2.mono hide_sub).dp (d := dIds rs) (by show PyData.canLay0 (.tuple (pyAll (rs.map dId))) = true; simp only [PyData.canLay0]; exact lay)
  obtain ⟨as, r1⟩ := Dp.reads I _ x v dx rx
  obtain ⟨bs, r2⟩ := Dp.reads I _ y u dy ry
  refine SeqAt.in_tuple_reads r2 r1 lay (lay_id a) (room_in_shaped (shp_id a) hu) ⟨.bl _, H, I, rfl, ?_⟩
  have e : ((pyAll (rs.map dId)).any fun z => PyData.eqv z (dId a).py) = decide (a ∈ rs) := by
    have aux : ∀ rs : List Id, ((pyAll (rs.map dId)).any fun z => PyData.eqv z (dId a).py) = decide (a ∈ rs) := by
      intro rs
      induction rs with
      | nil => rfl
      | cons z zs ih =>
        show (PyData.eqv (dId z).py (dId a).py || (pyAll (zs.map dId)).any fun z => PyData.eqv z (dId a).py) = _
        rw [ih, eqv_id]
        by_cases c : z = a
        · simp [c]
        · simp [c, Ne.symm c]
    exact aux rs
  rw [e]
  exact q _ H k (Same.refl _) rfl
/-- a new list's cell that is a cell no more -/
theorem w_melt {ss : List Stmt} {D : DE} {p : Addr} {ds : List Da} (i : Nat) (hp : m p = none) (hi : r[i]? = some (some (.loc p))) (h : ExW X ss (r.set i (some (.lst ds))) m D) : ExW X ss r (m.put p (.lst ds)) D := by
  refine w_freeze i hi Mem.put_same ?_
  rw [Mem.del_put hp]
  exact h
/-- .. within an expression -/
theorem ev_melt {e : Expr} {d : Da} {p : Addr} {ds : List Da} (i : Nat) (hp : m p = none) (hi : r[i]? = some (some (.loc p))) (h : EvD X e (r.set i (some (.lst ds))) m d m1) : EvD X e r (m.put p (.lst ds)) d m1 := by
  have sub : ∀ H, Same (hide (m.put p (.lst ds)) H) (hide m H) := fun H => by
    have := hide_del (m := m.put p (.lst ds)) (H := H) (a := p)
    rw [Mem.del_put hp] at this
    exact this
  refine ev_of h fun σ H Q a q => ⟨?_, fun v H' b c f => q v H' b ((sub H).trans c) f⟩
  have z := a.freeze i hi (Mem.put_same (c := .lst ds))
  rw [Mem.del_put hp] at z
  exact z
theorem it_rangeN {tg a : Expr} {p pos : Pos} {j : Int} (n : Nat) (ha : EvD X a r m (.int j) m1) (hj : j = (n : Int)) (hn : n < 2 ^ 62) (hm : X.mg "range" = none) (hg : Gl X "range" := by rfl) (hs : starEach [a] X.env = [(false, eval a X.env)] := by rfl) :
    ItD X tg (.Call (.Name "range" p) [a] [] pos) r m (rngD 0 n) m1 fun _ => True := by
  have := it_range1 (tg := tg) (p := p) (pos := pos) ha hm (by omega) (by omega) hg hs
  have e : j.toNat = n := by omega
  rw [e] at this
  exact this
end
/-! ### the text by places -/
def topS (i : Nat) : Stmt := PySem.Challenge.pw_foldkeep_k19_whole_devices_come_to_know.main.body.getD i (.Pass ⟨0, 0, 0, 0⟩)
/-- a def of the text, behind the top -/
structure Dfn (K : PySem.W.Frag) (mg : Str → Option Value) (x : Str) (st : Stmt) (ps : List Str) : Prop where
  ex : ∃ f fd, FunD K x x (defArgs st) (defBody st) (defScope st) [] [] f fd ∧ mg x = some (.ref f) ∧ Binds K fd ps []
/-- a def that keeps its contract, to be called -/
structure Got (P : Program) (w : World) (K : PySem.W.Frag) (mg : Str → Option Value) (base : Heap) (x : Str) (k n : Nat) (R : Con') : Prop where
  ex : ∃ f fd ps, FnOk P w K mg base CX0 k f fd ps (spD n R) ∧ mg x = some (.ref f) ∧ PySem.W.keepIn K (.ref f) = true ∧ Binds K fd ps []
theorem Got.mono {P : Program} {w : World} {K : PySem.W.Frag} {mg : Str → Option Value} {base : Heap} {x : Str} {j k n : Nat} {R : Con'} (G : Got P w K mg base x j n R) (h : j ≤ k) : Got P w K mg base x k n R :=
  let ⟨f, fd, ps, a, b, c, d⟩ := G.ex
  ⟨f, fd, ps, a.mono h, b, c, d⟩
section
variable {P : Program} {w : World} {K : PySem.W.Frag} {mg : Str → Option Value} {base : Heap}
theorem fnD_ok {x qual : Str} {st : Stmt} {f : Addr} {fd : FuncData} {N ps : List Str} {k n : Nat} {R : Con'} (F : FunD K x qual (defArgs st) (defBody st) (defScope st) [] [] f fd) (S : FnScope N ps (defScope st)) (hn : n = ps.length)
    (hb : ∀ (cdv : Value) (A : Around) (outer : List Env) (s : Shared) (H : Hp) (E : XK) (ds : List Da) (m : Mem) (Q' : Da → Mem → Prop), Room k (A.deeper (envOfC qual (defScope st) s.heap.objs.size f cdv)) → R ds m Q' →
      ExW (cxOf CX0 P w K mg base N qual (defScope st) f cdv A outer s H E).nox (defBody st) (rho0 N ds) m { nx := fun _ m' => Q' .non m', rt := Q' }) : FnOk P w K mg base CX0 (k + 1) f fd ps (spD n R) := by
  refine F.ok S (spD_len hn) fun cdv A outer s H vs Q E hr h => ?_
  obtain ⟨ds, m, Q', hl, hR, k0, hd, hq⟩ := h
  refine ⟨_, PSs.nox (hb cdv A outer s H E ds m Q' hr hR), holds_start k0 hd, fun r' m' σ' H' a b c => hq .non m' .non H' a b.1 c rfl, fun d m' v H' a b c e => hq d m' v H' a b c e, fun _ _ _ _ z => z.elim, fun _ _ _ _ z => z.elim⟩
theorem Dfn.got {x : Str} {st : Stmt} {N ps : List Str} {k n : Nat} {R : Con'} (F : Dfn K mg x st ps) (S : FnScope N ps (defScope st)) (hn : n = ps.length)
    (hb : ∀ (f : Addr) (cdv : Value) (A : Around) (outer : List Env) (s : Shared) (H : Hp) (E : XK) (ds : List Da) (m : Mem) (Q' : Da → Mem → Prop), Room k (A.deeper (envOfC x (defScope st) s.heap.objs.size f cdv)) → R ds m Q' →
      ExW (cxOf CX0 P w K mg base N x (defScope st) f cdv A outer s H E).nox (defBody st) (rho0 N ds) m { nx := fun _ m' => Q' .non m', rt := Q' }) : Got P w K mg base x (k + 1) n R := by
  obtain ⟨f, fd, h1, h2, h3⟩ := F.ex
  exact ⟨f, fd, ps, fnD_ok h1 S hn (hb f), h2, h1.kp, h3⟩
end
theorem ev_got {X : Cx} {r : Rho} {m m1 m2 : Mem} {k n : Nat} {R : Con'} {x : Str} {e : Expr} {es : List Expr} {p pos : Pos} {ds : List Da} {d : Da} (G : Got X.prog X.w X.K X.mg X.base x k n R) (hr : Room k X.A)
    (ha : EvA X (e :: es) r m ds m1) (hn : ds.length = n) (hR : R ds m1 fun d' m' => d' = d ∧ m' = m2) (hg : Gl X x := by rfl) (hdb : (x == ("__debug__" : Str)) = false := by decide)
    (he : starEach (e :: es) X.env = (false, eval e X.env) :: starEach es X.env := by rfl) (hpl : (backTo pos (starEach es X.env)).any (·.1) = false := by rfl) : EvD X (.Call (.Name x p) (e :: es) [] pos) r m d m2 := by
  obtain ⟨f, fd, ps, F, hm, hk, hb⟩ := G.ex
  exact ev_call F hr hm hk hb ha hn hR hg hdb he hpl
end FK
/-! Walks of the defs of lines.py. -/
namespace FK
open PySem PySem.Spec PyProof.Rows L2 DL
section
variable {P : Program} {w : World} {K : PySem.W.Frag} {mg : Str → Option Value} {base : Heap}
/-! find_line(lines, line_id) -/
def RFindLine : Con' := fun ds m Q => ∃ b ls i, ds = [sq b (ls.map dLine), dId i] ∧ Q (dOLine (findLine ls i)) m
theorem sc_find_line : FnScope ["lines", "line_id", "line"] ["lines", "line_id"] (defScope (topS 2)) := ⟨rfl, rfl, rfl, by decide +kernel, rfl, by decide +kernel, by decide +kernel⟩
theorem got_find_line (F : Dfn K mg "find_line" (topS 2) ["lines", "line_id"]) : Got P w K mg base "find_line" 1 2 RFindLine := by
  refine F.got sc_find_line rfl fun f cdv A outer s H E ds m Q hr h => ?_
  obtain ⟨b, ls, i, rfl, hQ⟩ := h
  have hu := hr.units
  refine w_cons (s_for (t := .nm 2) (it_sq (ev_name 0)) (tg_nm sc_find_line.nd) ?_)
  refine for_ind (fun zs r m' => ∃ v, r = [some (sq b (ls.map dLine)), some (dId i), v] ∧ m' = m ∧ Q (dOLine (findLine zs i)) m) ⟨none, rfl, rfl, hQ⟩ ?_ ?_
  · rintro _ _ ⟨v, rfl, rfl, q⟩
    exact ⟨trivial, w_one (s_ret ev_non q)⟩
  · rintro z zs _ _ ⟨v, rfl, rfl, q⟩
    refine ⟨trivial, _, rfl, w_one (s_if (et_cmp (ev_ix (ev_name 2) ev_int rfl (by decide) rfl) (ev_name 1) (od_eq_id hu)) (fun e => ?_) (fun e => ?_))⟩
    · rw [findLine, if_pos (of_decide_eq_true e)] at q
      exact w_one (s_ret (ev_name 2) q)
    · rw [findLine, if_neg (of_decide_eq_false e)] at q
      exact w_nil ⟨_, rfl, rfl, q⟩
/-! find_head(lines, head) -/
def RFindHead : Con' := fun ds m Q => ∃ b ls i, ds = [sq b (ls.map dLine), dId i] ∧ Q (dOLine (findHead ls i)) m
theorem sc_find_head : FnScope ["lines", "head", "line"] ["lines", "head"] (defScope (topS 3)) := ⟨rfl, rfl, rfl, by decide +kernel, rfl, by decide +kernel, by decide +kernel⟩
theorem got_find_head (F : Dfn K mg "find_head" (topS 3) ["lines", "head"]) : Got P w K mg base "find_head" 1 2 RFindHead := by
  refine F.got sc_find_head rfl fun f cdv A outer s H E ds m Q hr h => ?_
  obtain ⟨b, ls, i, rfl, hQ⟩ := h
  have hu := hr.units
  refine w_cons (s_for (t := .nm 2) (it_sq (ev_name 0)) (tg_nm sc_find_head.nd) ?_)
  refine for_ind (fun zs r m' => ∃ v, r = [some (sq b (ls.map dLine)), some (dId i), v] ∧ m' = m ∧ Q (dOLine (findHead zs i)) m) ⟨none, rfl, rfl, hQ⟩ ?_ ?_
  · rintro _ _ ⟨v, rfl, rfl, q⟩
    exact ⟨trivial, w_one (s_ret ev_non q)⟩
  · rintro z zs _ _ ⟨v, rfl, rfl, q⟩
    refine ⟨trivial, _, rfl, w_one (s_if (et_cmp (ev_ix (ev_name 2) ev_int rfl (by decide) rfl) (ev_name 1) (od_eq_id hu)) (fun e => ?_) (fun e => ?_))⟩
    · rw [findHead, if_pos (of_decide_eq_true e)] at q
      exact w_one (s_ret (ev_name 2) q)
    · rw [findHead, if_neg (of_decide_eq_false e)] at q
      exact w_nil ⟨_, rfl, rfl, q⟩
/-! find_folder(lines, line_id) -/
def RFindFolder : Con' := fun ds m Q => ∃ b ls i, ds = [sq b (ls.map dLine), dId i] ∧ Q (dOLine (findFolder ls i)) m
theorem sc_find_folder : FnScope ["lines", "line_id", "line"] ["lines", "line_id"] (defScope (topS 4)) := ⟨rfl, rfl, rfl, by decide +kernel, rfl, by decide +kernel, by decide +kernel⟩
theorem got_find_folder (F : Dfn K mg "find_folder" (topS 4) ["lines", "line_id"]) (G1 : Got P w K mg base "find_line" 1 2 RFindLine) : Got P w K mg base "find_folder" 2 2 RFindFolder := by
  refine F.got sc_find_folder rfl fun f cdv A outer s H E ds m Q hr h => ?_
  obtain ⟨b, ls, i, rfl, hQ⟩ := h
  refine w_cons (s_set (i := 2) (ev_got G1 hr (ea_cons (ev_name 0) (ea_cons (ev_name 1) ea_nil)) rfl ⟨b, ls, i, rfl, rfl, rfl⟩) ?_ sc_find_folder.nd)
  unfold findFolder at hQ
  cases e : findLine ls i with
  | none =>
    rw [e] at hQ
    refine w_cons (s_if (b := false) (et_p (ep_andF (et_cmp (ev_name 2) ev_non od_notN))) (fun z => by cases z) fun _ => ?_)
    exact w_nil (w_one (s_ret ev_non hQ))
  | some l =>
    rw [e] at hQ
    have hQ' : Q (dOLine (if l.content = none then some l else none)) m := hQ
    refine w_cons (s_if (b := l.content.isNone) (et_p (ep_andT (et_cmp (ev_name 2) ev_non od_notN) (ep_and1 (et_cmp (ev_ix (ev_name 2) ev_int rfl (by decide) rfl) ev_non (by rw [← isN_mark]; exact od_isN))))) (fun z => ?_) fun z => ?_)
    · rw [if_pos (Option.isNone_iff_eq_none.mp z)] at hQ'
      exact w_one (s_ret (ev_name 2) hQ')
    · rw [if_neg (fun c => by rw [c] at z; cases z)] at hQ'
      exact w_nil (w_one (s_ret ev_non hQ'))
/-! settle(lines, place) -/
def RSettle : Con' := fun ds m Q => ∃ b ls p, ds = [sq b (ls.map dLine), dPlace p] ∧ Q (.tup [dO (settle ls p).1, dPath (settle ls p).2]) m
theorem sc_settle : FnScope ["lines", "place", "inside", "below", "seen"] ["lines", "place"] (defScope (topS 5)) := ⟨rfl, rfl, rfl, by decide +kernel, rfl, by decide +kernel, by decide +kernel⟩
theorem got_settle (F : Dfn K mg "settle" (topS 5) ["lines", "place"]) (G1 : Got P w K mg base "find_folder" 2 2 RFindFolder) : Got P w K mg base "settle" 3 2 RSettle := by
  refine F.got sc_settle rfl fun f cdv A outer s H E ds m Q hr h => ?_
  obtain ⟨b, ls, p, rfl, hQ⟩ := h
  have nd := sc_settle.nd
  refine w_cons (s_untup (t := .tp [2, 3, 4]) (ev_name 1) (tg_tp rfl (tgs_cons nd (tgs_cons nd (tgs_cons nd tgs_nil)))) rfl ?_)
  unfold settle at hQ
  cases e : p.inside with
  | none =>
    rw [e] at hQ
    refine w_cons (s_if (b := false) (et_p (ep_andF (et_cmp (ev_name 2) ev_non od_notN))) (fun z => by cases z) fun _ => ?_)
    exact w_nil (w_one (s_ret (ev_tup (ea_cons ev_non (ea_cons (ev_name 4) ea_nil))) hQ))
  | some i =>
    rw [e] at hQ
    have hQ' : Q (.tup [dO (if (findFolder ls i).isSome then (some i, p.below) else (none, p.seen)).1, dPath (if (findFolder ls i).isSome then (some i, p.below) else (none, p.seen)).2]) m := hQ
    refine w_cons (s_if (b := (findFolder ls i).isSome) (et_p (ep_andT (et_cmp (ev_name 2) ev_non od_notN) (ep_and1 (et_cmp (ev_got G1 hr (ea_cons (ev_name 0) (ea_cons (ev_name 2) ea_nil)) rfl ⟨b, ls, i, rfl, rfl, rfl⟩) ev_non (by
      rw [← Option.not_isNone, ← isN_oline]; exact od_notN))))) (fun z => ?_) fun z => ?_)
    · rw [if_pos z] at hQ'
      exact w_one (s_ret (ev_tup (ea_cons (ev_name 2) (ea_cons (ev_name 3) ea_nil))) hQ')
    · rw [if_neg (by rw [z]; exact Bool.false_ne_true)] at hQ'
      exact w_nil (w_one (s_ret (ev_tup (ea_cons ev_non (ea_cons (ev_name 4) ea_nil))) hQ'))
/-! stands_in(lines, inside, line_id) -/
def RStandsIn : Con' := fun ds m Q => ∃ b ls o t, ds = [sq b (ls.map dLine), dO o, dId t] ∧ ls.length ≤ 1000 ∧ Q (.bl (standsIn ls (ls.length + 1) o t)) m
theorem sc_stands_in : FnScope ["lines", "inside", "line_id", "_", "folder"] ["lines", "inside", "line_id"] (defScope (topS 6)) := ⟨rfl, rfl, rfl, by decide +kernel, rfl, by decide +kernel, by decide +kernel⟩
theorem got_stands_in (F : Dfn K mg "stands_in" (topS 6) ["lines", "inside", "line_id"]) (G1 : Got P w K mg base "find_folder" 2 2 RFindFolder) (nR : mg "range" = none) (nL : mg "len" = none) : Got P w K mg base "stands_in" 3 3 RStandsIn := by
  refine F.got sc_stands_in rfl fun f cdv A outer s H E ds m Q hr h => ?_
  obtain ⟨b, ls, o, t, rfl, hl, hQ⟩ := h
  have nd := sc_stands_in.nd
  have hu := hr.units
  refine w_cons (s_for (t := .nm 3) (it_rangeN (ls.length + 1) (ev_bin (ev_callB (ea_cons (ev_name 0) ea_nil) (cd_len sq_items) nL PySem.boot_len) ev_int od_add) (by simp) (by omega) nR) (tg_nm nd) ?_)
  refine for_rng (fun i r m' => ∃ o' v4 v5, r = [some (sq b (ls.map dLine)), some (dO o'), some (dId t), v4, v5] ∧ m' = m ∧ Q (.bl (standsIn ls (ls.length + 1 - i) o' t)) m) ⟨o, none, none, rfl, rfl, hQ⟩ ?_ ?_
  · rintro _ _ ⟨o', v4, v5, rfl, rfl, q⟩
    rw [Nat.sub_self] at q
    exact ⟨trivial, w_one (s_ret ev_bl q)⟩
  · rintro i _ _ hi ⟨o', v4, v5, rfl, rfl, q⟩
    have ei : ls.length + 1 - i = (ls.length + 1 - (i + 1)) + 1 := by omega
    rw [ei] at q
    refine ⟨trivial, _, rfl, ?_⟩
    cases o' with
    | none =>
      exact w_cons (s_if (b := true) (et_cmp (ev_name 1) ev_non od_isN) (fun _ => w_one (s_ret ev_bl q)) (fun z => by cases z))
    | some j =>
      refine w_cons (s_if (b := false) (et_cmp (ev_name 1) ev_non od_isN) (fun z => by cases z) fun _ => w_nil ?_)
      refine w_cons (s_if (et_cmp (ev_name 1) (ev_name 2) (od_eq_id (a := j) hu)) (fun z => ?_) fun z => w_nil ?_)
      · rw [standsIn, if_pos (of_decide_eq_true z)] at q
        exact w_one (s_ret ev_bl q)
      · rw [standsIn, if_neg (of_decide_eq_false z)] at q
        refine w_cons (s_set (i := 4) (ev_got G1 hr (ea_cons (ev_name 0) (ea_cons (ev_name 1) ea_nil)) rfl ⟨b, ls, j, rfl, rfl, rfl⟩) ?_ nd)
        cases e : findFolder ls j with
        | none =>
          rw [e] at q
          exact w_cons (s_if (b := true) (et_cmp (ev_name 4) ev_non od_isN) (fun _ => w_one (s_ret ev_bl q)) (fun z => by cases z))
        | some l =>
          rw [e] at q
          refine w_cons (s_if (b := false) (et_cmp (ev_name 4) ev_non od_isN) (fun z => by cases z) fun _ => w_nil ?_)
          exact w_one (s_set (i := 1) (ev_ix (ev_name 4) ev_int rfl (by decide) rfl) ⟨_, _, _, rfl, rfl, q⟩ nd)
/-! end_line(lines, gone) -/
def REndLine : Con' := fun ds m Q => ∃ ls g, ds = [.lst (ls.map dLine), dLine g] ∧ ls.length < 1000 ∧ (∀ l ∈ ls, g.below.length + l.below.length ≤ 1000) ∧ Q (.lst ((endLine ls g).map dLine)) m
theorem sc_end_line : FnScope ["lines", "gone", "result", "line"] ["lines", "gone"] (defScope (topS 7)) := ⟨rfl, rfl, rfl, by decide +kernel, rfl, by decide +kernel, by decide +kernel⟩
theorem got_end_line (F : Dfn K mg "end_line" (topS 7) ["lines", "gone"]) : Got P w K mg base "end_line" 1 2 REndLine := by
  refine F.got sc_end_line rfl fun f cdv A outer s H E ds m Q hr h => ?_
  obtain ⟨ls, g, rfl, hl, hb, hQ⟩ := h
  have nd := sc_end_line.nd
  have hu := hr.units
  refine w_cons (s_newlist (i := 2) nd fun p hp => ?_)
  refine w_cons (s_for (t := .nm 3) (it_lst (ev_name 0)) (tg_nm nd) ?_)
  refine for_ind (fun zs r m' => ∃ acc v, r = [some (.lst (ls.map dLine)), some (dLine g), some (.loc p), v] ∧ m' = m.put p (.lst (acc.map dLine)) ∧ acc ++ endLine zs g = endLine ls g ∧ acc.length + zs.length ≤ ls.length ∧ ∀ z ∈ zs, z ∈ ls) ⟨[], none, rfl, rfl, rfl, by simp, fun _ h => h⟩ ?_ ?_
  · rintro _ _ ⟨acc, v, rfl, rfl, q, hq, _⟩
    refine ⟨trivial, w_melt 2 hp rfl (w_one (s_ret (ev_name 2) ?_))⟩
    rw [endLine, List.append_nil] at q
    rw [q]
    exact hQ
  · rintro z zs _ _ ⟨acc, v, rfl, rfl, q, hq, hz⟩
    have hz' : ∀ y ∈ zs, y ∈ ls := fun y hy => hz y (List.mem_cons_of_mem _ hy)
    have hz0 := hb z (hz z List.mem_cons_self)
    rw [List.length_cons] at hq
    refine ⟨trivial, _, rfl, w_cons (s_if (et_cmp (ev_ix (ev_name 3) ev_int rfl (by decide) rfl) (ev_ix (ev_name 1) ev_int rfl (by decide) rfl) (od_eq_id hu)) (fun e => ?_) (fun e => ?_))⟩
    · rw [endLine, if_pos (of_decide_eq_true e)] at q
      exact w_one (s_cont ⟨acc, _, rfl, rfl, q, by omega, hz'⟩)
    · rw [endLine, if_neg (of_decide_eq_false e)] at q
      have q2 : (acc ++ [endOne g z]) ++ endLine zs g = endLine ls g := by rw [List.append_assoc]; exact q
      have hl2 : (acc.map dLine).length < 1000 := by rw [List.length_map]; omega
      have e2 : ∀ d, dLine (endOne g z) = d → (m.put p (.lst (acc.map dLine))).put p (.lst (acc.map dLine ++ [d])) = m.put p (.lst ((acc ++ [endOne g z]).map dLine)) := fun d hd => by rw [Mem.put_put, List.map_append, ← hd]; rfl
      have hq2 : (acc ++ [endOne g z]).length + zs.length ≤ ls.length := by rw [List.length_append, List.length_singleton]; omega
      refine w_nil (w_one (s_if (et_cmp (ev_ix (ev_name 3) ev_int rfl (by decide) rfl) (ev_ix (ev_name 1) ev_int rfl (by decide) rfl) (od_eq_oi hu)) (fun c => ?_) (fun c => ?_)))
      · refine w_one (s_append (ev_name 2) (ev_tup (ea_cons (ev_ix (ev_name 3) ev_int rfl (by decide) rfl) (ea_cons (ev_ix (ev_name 3) ev_int rfl (by decide) rfl) (ea_cons (ev_ix (ev_name 1) ev_int rfl (by decide) rfl) (ea_cons (ev_bin (ev_ix (ev_name 1) ev_int rfl (by decide) rfl) (ev_ix (ev_name 3) ev_int rfl (by decide) rfl) (od_catP hz0)) (ea_cons (ev_ix (ev_name 3) ev_int rfl (by decide) rfl) ea_nil)))))) ⟨_, Mem.put_same⟩ Mem.put_same hl2 ?_)
        exact ⟨_, _, rfl, e2 _ (by unfold endOne; rw [if_pos (of_decide_eq_true c)]; rfl), q2, hq2, hz'⟩
      · refine w_one (s_append (ev_name 2) (ev_name 3) ⟨_, Mem.put_same⟩ Mem.put_same hl2 ?_)
        exact ⟨_, _, rfl, e2 _ (by unfold endOne; rw [if_neg (of_decide_eq_false c)]), q2, hq2, hz'⟩
/-! end_heads(lines, heads) -/
def REndHeads : Con' := fun ds m Q => ∃ ls hs, ds = [.lst (ls.map dLine), dIds hs] ∧ Good 100 400 ls ∧ Q (.lst ((endHeads ls hs).map dLine)) m
theorem sc_end_heads : FnScope ["lines", "heads", "head", "line"] ["lines", "heads"] (defScope (topS 8)) := ⟨rfl, rfl, rfl, by decide +kernel, rfl, by decide +kernel, by decide +kernel⟩
theorem got_end_heads (F : Dfn K mg "end_heads" (topS 8) ["lines", "heads"]) (G1 : Got P w K mg base "find_head" 1 2 RFindHead) (G2 : Got P w K mg base "end_line" 1 2 REndLine) : Got P w K mg base "end_heads" 2 2 REndHeads := by
  refine F.got sc_end_heads rfl fun f cdv A outer s H E ds m Q hr h => ?_
  obtain ⟨ls, hs, rfl, hg, hQ⟩ := h
  have nd := sc_end_heads.nd
  refine w_cons (s_for (t := .nm 2) (it_tup (ev_name 1)) (tg_nm nd) ?_)
  refine for_ind (fun zs r m' => ∃ ls' v3 v4, r = [some (.lst (ls'.map dLine)), some (dIds hs), v3, v4] ∧ m' = m ∧ Good 100 400 ls' ∧ Q (.lst ((endHeads ls' zs).map dLine)) m) ⟨ls, none, none, rfl, rfl, hg, hQ⟩ ?_ ?_
  · rintro _ _ ⟨ls', v3, v4, rfl, rfl, g, q⟩
    exact ⟨trivial, w_one (s_ret (ev_name 0) q)⟩
  · rintro z zs _ _ ⟨ls', v3, v4, rfl, rfl, g, q⟩
    refine ⟨trivial, _, rfl, w_cons (s_set (i := 3) (ev_got G1 hr (ea_cons (ev_name 0) (ea_cons (ev_name 2) ea_nil)) rfl ⟨false, ls', z, rfl, rfl, rfl⟩) ?_ nd)⟩
    rw [endHeads, endHead] at q
    cases e : findHead ls' z with
    | none =>
      rw [e] at q
      exact w_one (s_if (b := false) (et_cmp (ev_name 3) ev_non od_notN) (fun z => by cases z) fun _ => w_nil ⟨ls', _, _, rfl, rfl, g, q⟩)
    | some l =>
      rw [e] at q
      have hm := (findHead_mem e).1
      have s1 := g.short hm
      refine w_one (s_if (b := true) (et_cmp (ev_name 3) ev_non od_notN) (fun _ => ?_) (fun z => by cases z))
      refine w_one (s_set (i := 0) (ev_got G2 hr (ea_cons (ev_name 0) (ea_cons (ev_name 3) ea_nil)) rfl ⟨ls', l, rfl, by have := g.len; omega, fun y hy => by have := g.short hy; omega, rfl, rfl⟩) ?_ nd)
      exact ⟨_, _, _, rfl, rfl, good_end g hm, q⟩
end
end FK
/-! Walks of the defs of lines.py, further. -/
namespace FK
open PySem PySem.Spec PyProof.Rows L2 DL
section
variable {P : Program} {w : World} {K : PySem.W.Frag} {mg : Str → Option Value} {base : Heap}
/-! new_line(lines, edit_id, place, content, meant) -/
def RNewLine : Con' := fun ds m Q => ∃ ls i p c mt, ds = [.lst (ls.map dLine), dId i, dPlace p, dMark c, dO mt] ∧ Q (dLine (newLine ls i p c mt)) m
theorem sc_new_line : FnScope ["lines", "edit_id", "place", "content", "meant", "line", "inside", "below"] ["lines", "edit_id", "place", "content", "meant"] (defScope (topS 9)) := ⟨rfl, rfl, rfl, by decide +kernel, rfl, by decide +kernel, by decide +kernel⟩
theorem got_new_line (F : Dfn K mg "new_line" (topS 9) ["lines", "edit_id", "place", "content", "meant"]) (G1 : Got P w K mg base "find_line" 1 2 RFindLine) (G2 : Got P w K mg base "settle" 3 2 RSettle) : Got P w K mg base "new_line" 4 5 RNewLine := by
  refine F.got sc_new_line rfl fun f cdv A outer s H E ds m Q hr h => ?_
  obtain ⟨ls, i, p, c, mt, rfl, hQ⟩ := h
  have nd := sc_new_line.nd
  have hr1 : Room 1 _ := hr.mono (by decide)
  refine w_cons (s_set (i := 5) ev_non ?_ nd)
  refine w_cons ?_
  -- behind the first if the slot 5 holds what is meant
  refine s_ifj (I := fun r1 m1 => r1 = [some (.lst (ls.map dLine)), some (dId i), some (dPlace p), some (dMark c), some (dO mt), some (dOLine (mt.bind (findLine ls))), none, none] ∧ m = m1) (et_cmp (ev_name 4) ev_non (od_notN (x := dO mt))) (fun z => ?_) (fun z => ?_) ?_
  · rw [isN_o] at z
    cases mt with
    | none => cases z
    | some j =>
      exact w_one (s_set (i := 5) (ev_got G1 hr1 (ea_cons (ev_name 0) (ea_cons (ev_name 4) ea_nil)) rfl ⟨false, ls, j, rfl, rfl, rfl⟩) ⟨rfl, rfl⟩ nd)
  · rw [isN_o] at z
    cases mt with
    | none => exact w_nil ⟨rfl, rfl⟩
    | some j => cases z
  · rintro _ _ ⟨rfl, rfl⟩
    unfold newLine at hQ
    cases e : mt.bind (findLine ls) with
    | none =>
      rw [e] at hQ
      refine w_cons (s_if (b := false) (et_cmp (ev_name 5) ev_non od_notN) (fun z => by cases z) fun _ => w_nil ?_)
      refine w_cons (s_untup (t := .tp [6, 7]) (ev_got G2 (hr.mono (by decide)) (ea_cons (ev_name 0) (ea_cons (ev_name 2) ea_nil)) rfl ⟨false, ls, p, rfl, rfl, rfl⟩) (tg_tp rfl (tgs_cons nd (tgs_cons nd tgs_nil))) rfl ?_)
      exact w_one (s_ret (ev_tup (ea_cons (ev_name 1) (ea_cons (ev_name 1) (ea_cons (ev_name 6) (ea_cons (ev_name 7) (ea_cons (ev_name 3) ea_nil)))))) hQ)
    | some l =>
      rw [e] at hQ
      refine w_cons (s_if (b := true) (et_cmp (ev_name 5) ev_non od_notN) (fun _ => ?_) (fun z => by cases z))
      exact w_one (s_ret (ev_tup (ea_cons (ev_name 1) (ea_cons (ev_name 1) (ea_cons (ev_ix (ev_name 5) ev_int rfl (by decide) rfl) (ea_cons (ev_ix (ev_name 5) ev_int rfl (by decide) rfl) (ea_cons (ev_name 3) ea_nil)))))) hQ)
/-! continued(lines, replaces) -/
def RContinued : Con' := fun ds m Q => ∃ ls rs, ds = [.lst (ls.map dLine), dIds rs] ∧ Q (dO (continued ls rs)) m
theorem sc_continued : FnScope ["lines", "replaces", "line"] ["lines", "replaces"] (defScope (topS 10)) := ⟨rfl, rfl, rfl, by decide +kernel, rfl, by decide +kernel, by decide +kernel⟩
theorem got_continued (F : Dfn K mg "continued" (topS 10) ["lines", "replaces"]) : Got P w K mg base "continued" 1 2 RContinued := by
  refine F.got sc_continued rfl fun f cdv A outer s H E ds m Q hr h => ?_
  obtain ⟨ls, rs, rfl, hQ⟩ := h
  have hu : _ + 65 < cLine := Nat.lt_of_le_of_lt (Nat.add_le_add_left (by decide : 65 ≤ 16 * 0 + 200) _) hr.un
  refine w_cons (s_for (t := .nm 2) (it_lst (ev_name 0)) (tg_nm sc_continued.nd) ?_)
  refine for_ind (fun zs r m' => ∃ v, r = [some (.lst (ls.map dLine)), some (dIds rs), v] ∧ m = m' ∧ Q (dO (continued zs rs)) m) ⟨none, rfl, rfl, hQ⟩ ?_ ?_
  · rintro _ _ ⟨v, rfl, rfl, q⟩
    exact ⟨trivial, w_one (s_ret ev_non q)⟩
  · rintro z zs _ _ ⟨v, rfl, rfl, q⟩
    refine ⟨trivial, _, rfl, w_one (s_if (et_p (ep_and (et_cmp (ev_ix (ev_name 2) ev_int rfl (by decide) rfl) ev_non (od_notN (x := dMark z.content))) fun _ => et_cmp (ev_ix (ev_name 2) ev_int rfl (by decide) rfl) (ev_name 1) (od_in_ids hu) rfl)) (fun e => ?_) (fun e => ?_))⟩
    · rw [isN_mark, Bool.and_eq_true, decide_eq_true_eq] at e
      rw [continued, if_pos ⟨fun c => (by rw [c] at e; cases e.1), e.2⟩] at q
      exact w_one (s_ret (ev_ix (ev_name 2) ev_int rfl (by decide) rfl) q)
    · rw [isN_mark] at e
      rw [continued, if_neg (fun c => by
        obtain ⟨c1, c2⟩ := c
        rw [decide_eq_true c2, Bool.and_true] at e
        cases h : z.content with
        | none => exact c1 h
        | some y => rw [h] at e; cases e)] at q
      exact w_nil ⟨_, rfl, rfl, q⟩
/-! write_lines(lines, edit) -/
def RWriteLines : Con' := fun ds m Q => ∃ ls i p c mt rs, ds = [.lst (ls.map dLine), dEdit (.write i p c mt rs)] ∧ Good 90 300 ls ∧ Above ls i ∧ PlaceOk p ∧ Q (.lst ((writeLines ls i p c mt rs).map dLine)) m
theorem sc_write_lines : FnScope ["lines", "edit", "_", "edit_id", "place", "content", "meant", "replaces", "going_on", "result", "line"] ["lines", "edit"] (defScope (topS 11)) := ⟨rfl, rfl, rfl, by decide +kernel, rfl, by decide +kernel, by decide +kernel⟩
theorem got_write_lines (F : Dfn K mg "write_lines" (topS 11) ["lines", "edit"]) (G1 : Got P w K mg base "continued" 1 2 RContinued) (G2 : Got P w K mg base "new_line" 4 5 RNewLine) (G3 : Got P w K mg base "end_heads" 2 2 REndHeads) : Got P w K mg base "write_lines" 5 2 RWriteLines := by
  refine F.got sc_write_lines rfl fun f cdv A outer s H E ds m Q hr h => ?_
  obtain ⟨ls, i, p, c, mt, rs, rfl, hg, ab, hp0, hQ⟩ := h
  have nd := sc_write_lines.nd
  have hu := hr.units
  refine w_cons (s_untup (t := .tp [2, 3, 4, 5, 6, 7]) (ev_name 1) (tg_tp rfl (tgs_cons nd (tgs_cons nd (tgs_cons nd (tgs_cons nd (tgs_cons nd (tgs_cons nd tgs_nil))))))) rfl ?_)
  refine w_cons (s_set (i := 8) ev_non ?_ nd)
  refine w_cons ?_
  refine s_ifj (I := fun r1 m1 => r1 = [some (.lst (ls.map dLine)), some (dEdit (.write i p c mt rs)), some (.str "write"), some (dId i), some (dPlace p), some (dMark c), some (dO mt), some (dIds rs), some (dO (goingOn ls c rs)), none, none] ∧ m = m1) (et_cmp (ev_name 5) ev_non (od_notN (x := dMark c))) (fun z => ?_) (fun z => ?_) ?_
  · rw [isN_mark] at z
    have e : goingOn ls c rs = continued ls rs := if_neg (fun h => by rw [h] at z; cases z)
    rw [e]
    exact w_one (s_set (i := 8) (ev_got G1 (hr.mono (by decide)) (ea_cons (ev_name 0) (ea_cons (ev_name 7) ea_nil)) rfl ⟨ls, rs, rfl, rfl, rfl⟩) ⟨rfl, rfl⟩ nd)
  · rw [isN_mark] at z
    have e : goingOn ls c rs = none := if_pos (by cases c with
      | none => rfl
      | some y => cases z)
    rw [e]
    exact w_nil ⟨rfl, rfl⟩
  · rintro _ _ ⟨rfl, rfl⟩
    have lls := hg.len
    refine w_cons (s_newlist (i := 9) nd fun a ha => ?_)
    refine w_cons (s_for (t := .nm 10) (it_lst (ev_name 0)) (tg_nm nd) ?_)
    refine for_ind (fun zs r m' => ∃ acc v, r = [some (.lst (ls.map dLine)), some (dEdit (.write i p c mt rs)), some (.str "write"), some (dId i), some (dPlace p), some (dMark c), some (dO mt), some (dIds rs), some (dO (goingOn ls c rs)), some (.loc a), v] ∧ m' = m.put a (.lst (acc.map dLine)) ∧ acc ++ zs.map (goOne (goingOn ls c rs) i c) = ls.map (goOne (goingOn ls c rs) i c) ∧ acc.length + zs.length ≤ ls.length) ⟨[], none, rfl, rfl, rfl, by simp⟩ ?_ ?_
    · rintro _ _ ⟨acc, v, rfl, rfl, q, hq⟩
      rw [List.map_nil, List.append_nil] at q
      refine ⟨trivial, ?_⟩
      have gb := good_writeBase hg ab hp0 c mt rs
      have fin : ∀ v8 (v10 : Option Da) , writeBase ls i p c mt rs = v8 → True := fun _ _ _ => trivial
      unfold writeLines at hQ
      refine w_cons ?_
      refine s_ifj (I := fun r1 m1 => ∃ v8, r1 = [some (.lst (ls.map dLine)), some (dEdit (.write i p c mt rs)), some (.str "write"), some (dId i), some (dPlace p), some (dMark c), some (dO mt), some (dIds rs), v8, some (.loc a), v] ∧ m1 = m.put a (.lst ((writeBase ls i p c mt rs).map dLine))) (et_cmp (ev_name 8) ev_non (od_isN (x := dO (goingOn ls c rs)))) (fun z => ?_) (fun z => ?_) ?_
      · rw [isN_o] at z
        have e : goingOn ls c rs = none := Option.isNone_iff_eq_none.mp z
        have e2 : writeBase ls i p c mt rs = acc ++ [newLine ls i p c mt] := by unfold writeBase; rw [← q, if_pos e]
        refine w_one (s_append (ev_name 9) (ev_got G2 hr (ea_cons (ev_name 0) (ea_cons (ev_name 3) (ea_cons (ev_name 4) (ea_cons (ev_name 5) (ea_cons (ev_name 6) ea_nil))))) rfl ⟨ls, i, p, c, mt, rfl, rfl, rfl⟩) ⟨_, Mem.put_same⟩ Mem.put_same (by rw [List.length_map]; omega) ?_)
        exact ⟨_, rfl, by rw [Mem.put_put, e2, List.map_append]; rfl⟩
      · rw [isN_o] at z
        have e : ¬ goingOn ls c rs = none := fun h => by rw [h] at z; cases z
        have e2 : writeBase ls i p c mt rs = acc := by unfold writeBase; rw [← q, if_neg e, List.append_nil]
        exact w_nil ⟨_, rfl, by rw [e2]⟩
      · rintro _ _ ⟨v8, rfl, rfl⟩
        refine w_melt 9 ha rfl (w_one (s_ret (ev_got G3 (hr.mono (by decide)) (ea_cons (ev_name 9) (ea_cons (ev_name 7) ea_nil)) rfl ⟨_, rs, rfl, gb.more (by omega) (by omega), rfl, rfl⟩) hQ))
    · rintro z zs _ _ ⟨acc, v, rfl, rfl, q, hq⟩
      rw [List.length_cons] at hq
      have q2 : (acc ++ [goOne (goingOn ls c rs) i c z]) ++ zs.map (goOne (goingOn ls c rs) i c) = ls.map (goOne (goingOn ls c rs) i c) := by rw [List.append_assoc]; exact q
      have hl2 : (acc.map dLine).length < 1000 := by rw [List.length_map]; omega
      have e2 : ∀ d, dLine (goOne (goingOn ls c rs) i c z) = d → (m.put a (.lst (acc.map dLine))).put a (.lst (acc.map dLine ++ [d])) = m.put a (.lst ((acc ++ [goOne (goingOn ls c rs) i c z]).map dLine)) := fun d hd => by rw [Mem.put_put, List.map_append, ← hd]; rfl
      have hq2 : (acc ++ [goOne (goingOn ls c rs) i c z]).length + zs.length ≤ ls.length := by rw [List.length_append, List.length_singleton]; omega
      refine ⟨trivial, _, rfl, w_one (s_if (et_cmp (ev_ix (ev_name 10) ev_int rfl (by decide) rfl) (ev_name 8) (od_eq_io hu)) (fun e => ?_) (fun e => ?_))⟩
      · refine w_one (s_append (ev_name 9) (ev_tup (ea_cons (ev_ix (ev_name 10) ev_int rfl (by decide) rfl) (ea_cons (ev_name 3) (ea_cons (ev_ix (ev_name 10) ev_int rfl (by decide) rfl) (ea_cons (ev_ix (ev_name 10) ev_int rfl (by decide) rfl) (ea_cons (ev_name 5) ea_nil)))))) ⟨_, Mem.put_same⟩ Mem.put_same hl2 ?_)
        exact ⟨_, _, rfl, e2 _ (by unfold goOne; rw [if_pos (of_decide_eq_true e)]; rfl), q2, hq2⟩
      · refine w_one (s_append (ev_name 9) (ev_name 10) ⟨_, Mem.put_same⟩ Mem.put_same hl2 ?_)
        exact ⟨_, _, rfl, e2 _ (by unfold goOne; rw [if_neg (of_decide_eq_false e)]), q2, hq2⟩
/-! move_line(lines, head, line_id, place) -/
def RMoveLine : Con' := fun ds m Q => ∃ ls h i p, ds = [.lst (ls.map dLine), dId h, dId i, dPlace p] ∧ ls.length ≤ 500 ∧ Q (.lst ((moveLine ls h i p).map dLine)) m
theorem sc_move_line : FnScope ["lines", "head", "line_id", "place", "line", "inside", "below", "result", "other"] ["lines", "head", "line_id", "place"] (defScope (topS 12)) := ⟨rfl, rfl, rfl, by decide +kernel, rfl, by decide +kernel, by decide +kernel⟩
theorem got_move_line (F : Dfn K mg "move_line" (topS 12) ["lines", "head", "line_id", "place"]) (G1 : Got P w K mg base "find_head" 1 2 RFindHead) (G2 : Got P w K mg base "find_line" 1 2 RFindLine) (G3 : Got P w K mg base "settle" 3 2 RSettle) (G4 : Got P w K mg base "stands_in" 3 3 RStandsIn) : Got P w K mg base "move_line" 4 4 RMoveLine := by
  refine F.got sc_move_line rfl fun f cdv A outer s H E ds m Q hr h => ?_
  obtain ⟨ls, h, i, p, rfl, hl, hQ⟩ := h
  have nd := sc_move_line.nd
  have hu := hr.units
  have hr1 : Room 1 _ := hr.mono (by decide)
  unfold moveLine at hQ
  refine w_cons (s_set (i := 4) (ev_got G1 hr1 (ea_cons (ev_name 0) (ea_cons (ev_name 1) ea_nil)) rfl ⟨false, ls, h, rfl, rfl, rfl⟩) ?_ nd)
  refine w_cons ?_
  refine s_ifj (I := fun r1 m1 => r1 = [some (.lst (ls.map dLine)), some (dId h), some (dId i), some (dPlace p), some (dOLine (foundLine ls h i)), none, none, none, none] ∧ m = m1) (et_cmp (ev_name 4) ev_non (od_isN (x := dOLine (findHead ls h)))) (fun z => ?_) (fun z => ?_) ?_
  · rw [isN_oline] at z
    have e : foundLine ls h i = findLine ls i := by unfold foundLine; rw [Option.isNone_iff_eq_none.mp z]
    rw [e]
    exact w_one (s_set (i := 4) (ev_got G2 hr1 (ea_cons (ev_name 0) (ea_cons (ev_name 2) ea_nil)) rfl ⟨false, ls, i, rfl, rfl, rfl⟩) ⟨rfl, rfl⟩ nd)
  · rw [isN_oline] at z
    cases e : findHead ls h with
    | none => rw [e] at z; cases z
    | some l => exact w_nil ⟨by unfold foundLine; rw [e]; rfl, rfl⟩
  · rintro _ _ ⟨rfl, rfl⟩
    generalize foundLine ls h i = found at hQ ⊢
    cases found with
    | none => exact w_cons (s_if (b := true) (et_cmp (ev_name 4) ev_non od_isN) (fun _ => w_one (s_ret (ev_name 0) hQ)) (fun z => by cases z))
    | some l =>
      have hQ' : Q (.lst ((if standsIn ls (ls.length + 1) (settle ls p).1 l.id then ls else ls.map fun o => if o.id = l.id then ⟨l.id, l.head, (settle ls p).1, (settle ls p).2, l.content⟩ else o).map dLine)) m := hQ
      refine w_cons (s_if (b := false) (et_cmp (ev_name 4) ev_non od_isN) (fun z => by cases z) fun _ => w_nil ?_)
      refine w_cons (s_untup (t := .tp [5, 6]) (ev_got G3 hr (ea_cons (ev_name 0) (ea_cons (ev_name 3) ea_nil)) rfl ⟨false, ls, p, rfl, rfl, rfl⟩) (tg_tp rfl (tgs_cons nd (tgs_cons nd tgs_nil))) rfl ?_)
      refine w_cons (s_if (et_val (ev_got G4 hr (ea_cons (ev_name 0) (ea_cons (ev_name 5) (ea_cons (ev_ix (ev_name 4) ev_int rfl (by decide) rfl) ea_nil))) rfl ⟨false, ls, (settle ls p).1, l.id, rfl, by omega, rfl, rfl⟩)) (fun z => ?_) (fun z => ?_))
      · rw [if_pos z] at hQ'
        exact w_one (s_ret (ev_name 0) hQ')
      · rw [if_neg (by rw [z]; exact Bool.false_ne_true)] at hQ'
        refine w_nil (w_cons (s_newlist (i := 7) nd fun a ha => ?_))
        refine w_cons (s_for (t := .nm 8) (it_lst (ev_name 0)) (tg_nm nd) ?_)
        refine for_ind (fun zs r m' => ∃ acc v, r = [some (.lst (ls.map dLine)), some (dId h), some (dId i), some (dPlace p), some (dLine l), some (dO (settle ls p).1), some (dPath (settle ls p).2), some (.loc a), v] ∧ m' = m.put a (.lst (acc.map dLine)) ∧ acc ++ zs.map (moveTo l (settle ls p)) = ls.map (moveTo l (settle ls p)) ∧ acc.length + zs.length ≤ ls.length) ⟨[], none, rfl, rfl, rfl, by simp⟩ ?_ ?_
        · rintro _ _ ⟨acc, v, rfl, rfl, q, hq⟩
          rw [List.map_nil, List.append_nil] at q
          refine ⟨trivial, w_melt 7 ha rfl (w_one (s_ret (ev_name 7) ?_))⟩
          rw [q]
          exact hQ'
        · rintro z zs _ _ ⟨acc, v, rfl, rfl, q, hq⟩
          rw [List.length_cons] at hq
          have q2 : (acc ++ [moveTo l (settle ls p) z]) ++ zs.map (moveTo l (settle ls p)) = ls.map (moveTo l (settle ls p)) := by rw [List.append_assoc]; exact q
          have hl2 : (acc.map dLine).length < 1000 := by rw [List.length_map]; omega
          have e2 : ∀ d, dLine (moveTo l (settle ls p) z) = d → (m.put a (.lst (acc.map dLine))).put a (.lst (acc.map dLine ++ [d])) = m.put a (.lst ((acc ++ [moveTo l (settle ls p) z]).map dLine)) := fun d hd => by rw [Mem.put_put, List.map_append, ← hd]; rfl
          have hq2 : (acc ++ [moveTo l (settle ls p) z]).length + zs.length ≤ ls.length := by rw [List.length_append, List.length_singleton]; omega
          refine ⟨trivial, _, rfl, w_one (s_if (et_cmp (ev_ix (ev_name 8) ev_int rfl (by decide) rfl) (ev_ix (ev_name 4) ev_int rfl (by decide) rfl) (od_eq_id hu)) (fun e => ?_) (fun e => ?_))⟩
          · refine w_one (s_append (ev_name 7) (ev_tup (ea_cons (ev_ix (ev_name 4) ev_int rfl (by decide) rfl) (ea_cons (ev_ix (ev_name 4) ev_int rfl (by decide) rfl) (ea_cons (ev_name 5) (ea_cons (ev_name 6) (ea_cons (ev_ix (ev_name 4) ev_int rfl (by decide) rfl) ea_nil)))))) ⟨_, Mem.put_same⟩ Mem.put_same hl2 ?_)
            exact ⟨_, _, rfl, e2 _ (by unfold moveTo; rw [if_pos (of_decide_eq_true e)]; rfl), q2, hq2⟩
          · refine w_one (s_append (ev_name 7) (ev_name 8) ⟨_, Mem.put_same⟩ Mem.put_same hl2 ?_)
            exact ⟨_, _, rfl, e2 _ (by unfold moveTo; rw [if_neg (of_decide_eq_false e)]), q2, hq2⟩
end
end FK
/-! Walks: lines_after .. lines_of, clock_in, with_clock, the tests of news. -/
namespace DL
open PySem PySem.Spec PyProof.Rows L2 FK
section
variable {X : Cx} {r : Rho} {m m1 : Mem}
theorem cd_allT {A : Type} {xs : List A} {f : A → Bool} (hc : X.calm = true) (h : ∀ x ∈ xs, f x = true) : CaD X (.builtin "all") [.lst (xs.map fun x => .bl (f x))] m (.bl true) m := by
  have z := cd_all (X := X) (m := m) (bs := xs.map f) hc
  rw [List.map_map] at z
  have e : (xs.map f).all id = true := by
    rw [List.all_eq_true]
    intro b hb
    obtain ⟨x, hx, e⟩ := List.mem_map.mp hb
    rw [← e]; exact h x hx
  rw [e] at z
  exact z
/-- len of a set of tuples -/
def rLenT (K : PySem.W.Frag) (P : Program) (w : World) : List V → Hp → VK → Prop := fun xs H Q => ∃ a L, xs = [.ref a] ∧ H a = some (SetTO P w a L) ∧ (∀ p ∈ L, SqT K H p.1 (p.2.map V.int)) ∧ ((L.map (·.2)).Nodup → Q (.int L.length) H)
theorem call_len_setT : CallR X (.builtin "len") (rLenT X.K X.prog X.w) := by
  intro pins sh st H args vals Q inv rv given
  obtain ⟨a, L, rfl, ha, hk, q⟩ := given
  rw [Vals.ref1 rv]
  have held : SetT0 X.prog X.w sh.heap a L := (inv.hok a _ ha).1
  obtain ⟨_, _, _, tab⟩ := held.full fun p m => inv.isT (hk p m)
  obtain ⟨_, at_, plain, data⟩ := tab.ob
  have sz := tab.size
  have few := tab.few
  exact call_len_set at_ plain data tab.fits (by omega) ⟨.int L.length, H, (inv.tok _).tok _, ⟨_, by rw [sz]⟩, q tab.nd⟩
theorem ids_refs {K : PySem.W.Frag} {H : Hp} : ∀ {ids : List Id} {vs : List V}, DrAll H (ids.map dId) vs → ∃ ks : List (Addr × List Int), vs = ks.map (fun p => V.ref p.1) ∧ ks.map (·.2) = ids.map (fun i => [i.1, i.2]) ∧ ∀ p ∈ ks, H p.1 = some (.tup (p.2.map V.int))
  | [], _, h => by cases h; exact ⟨[], rfl, rfl, fun _ h => by cases h⟩
  | i :: ids, _, ⟨v, w, h1, ⟨a, vs, g1, g2, g3⟩, h3⟩ => by
    subst h1 g1
    obtain ⟨ks, e1, e2, e3⟩ := ids_refs (K := K) h3
    obtain ⟨x, y, rfl, hx, hy⟩ := g3.two_of
    cases hx; cases hy
    refine ⟨(a, [i.1, i.2]) :: ks, by rw [e1]; rfl, by rw [List.map_cons, e2]; rfl, fun p hp => ?_⟩
    rcases List.mem_cons.mp hp with new | old
    · rw [new]; exact g2
    · exact e3 p old
theorem ev_lenset {e : Expr} {p p2 q pos : Pos} {ids : List Id} (he : EvD X e r m (.lst (ids.map dId)) m1) (hn : ids.Nodup) (hl : ids.length < 64) (nL : X.mg "len" = none) (nS : X.mg "set" = none) (hu : X.A.units + 64 < cLine) (hg : Gl X "len" := by rfl) (hg2 : Gl X "set" := by rfl) (hc : X.calm = true := by rfl)
    (h1 : starEach [e] X.env = (false, eval e X.env) :: starEach [] X.env := by rfl) (h2 : starEach [.Call (.Name "set" p2) [e] [] q] X.env = (false, eval (.Call (.Name "set" p2) [e] [] q) X.env) :: starEach [] X.env := by rfl) :
    EvD X (.Call (.Name "len" p) [.Call (.Name "set" p2) [e] [] q] [] pos) r m (.int ids.length) m1 := by
  refine ev_of (pe_callB call_len_setT hg nL PySem.boot_len (pa_cons (pe_callTy (cr_setOfT hc hu) hg2 nS (by decide +kernel) (pa_cons he pa_nil h1) (by decide) (by decide) h1 rfl) pa_nil h2) (by decide) (by decide) h2 rfl) fun σ H Q h k => ?_
  refine ⟨h, fun v H1 k1 s1 ⟨a, vs, g1, g2, g3⟩ => ?_⟩
  obtain ⟨ks, e1, e2, e3⟩ := ids_refs (K := X.K) g3
  have nk : (ks.map (·.2)).Nodup := by
    rw [e2]
    unfold List.Nodup
    rw [List.pairwise_map]
    have hn' : ids.Pairwise (· ≠ ·) := hn
    exact hn'.imp fun {a b} hne e => hne (by
      injection e with x1 x2
      injection x2 with x2 _
      exact Prod.ext x1 x2)
  have lk : ks.length = ids.length := by
    have := congrArg List.length e2
    rwa [List.length_map, List.length_map] at this
  refine ⟨a, ks, by rw [g1], SqL.of (by rw [hide_sub _ _ g2, e1]), fun p hp => SqT.of (hide_sub _ _ (e3 p hp)), by omega, fun b L hb hL1 hL2 => ?_⟩
  refine ⟨b, L, rfl, upd_same, fun p hp => SqT.of ?_, fun nd => ?_⟩
  · have z := hide_sub _ _ (e3 p (hL1 p hp))
    rw [upd_ne (ne_of_none z hb)]; exact z
  · have l1 : L.length ≤ ks.length := by
      have := nodup_len (L.map (·.2)) (ks.map (·.2)) nd fun x hx => by
        obtain ⟨p, hp, e⟩ := List.mem_map.mp hx
        rw [← e]; exact List.mem_map_of_mem (hL1 p hp)
      rwa [List.length_map, List.length_map] at this
    have l2 : ks.length ≤ L.length := by
      have := nodup_len (ks.map (·.2)) (L.map (·.2)) nk fun x hx => by
        obtain ⟨p, hp, e⟩ := List.mem_map.mp hx
        rw [← e]; exact hL2 p hp
      rwa [List.length_map, List.length_map] at this
    have e : L.length = ids.length := by omega
    rw [e]
    exact k _ _ (k1.new hb) (s1.trans (hide_new hb)) rfl
end
end DL
namespace FK
open PySem PySem.Spec PyProof.Rows L2 DL
section
variable {P : Program} {w : World} {K : PySem.W.Frag} {mg : Str → Option Value} {base : Heap}
theorem s_wd : ("write" : Str) ≠ "drop" := by decide +kernel
theorem s_wm : ("write" : Str) ≠ "move" := by decide +kernel
theorem s_dw : ("drop" : Str) ≠ "write" := by decide +kernel
theorem s_dm : ("drop" : Str) ≠ "move" := by decide +kernel
theorem s_mw : ("move" : Str) ≠ "write" := by decide +kernel
theorem s_md : ("move" : Str) ≠ "drop" := by decide +kernel
/-! lines_after(lines, edit) -/
def RLinesAfter : Con' := fun ds m Q => ∃ ls e, ds = [.lst (ls.map dLine), dEdit e] ∧ Good 80 250 ls ∧ Above ls e.id ∧ EditOk e ∧ Q (.lst ((linesAfter ls e).map dLine)) m
theorem sc_lines_after : FnScope ["lines", "edit", "head", "line_id", "place"] ["lines", "edit"] (defScope (topS 13)) := ⟨rfl, rfl, rfl, by decide +kernel, rfl, by decide +kernel, by decide +kernel⟩
theorem got_lines_after (F : Dfn K mg "lines_after" (topS 13) ["lines", "edit"]) (G1 : Got P w K mg base "write_lines" 5 2 RWriteLines) (G2 : Got P w K mg base "end_heads" 2 2 REndHeads) (G3 : Got P w K mg base "move_line" 4 4 RMoveLine) (nL : mg "list" = none) : Got P w K mg base "lines_after" 6 2 RLinesAfter := by
  refine F.got sc_lines_after rfl fun f cdv A outer s H E ds m Q hr h => ?_
  obtain ⟨ls, e, rfl, hg, ab, ok, hQ⟩ := h
  have nd := sc_lines_after.nd
  cases e with
  | write i p c mt rs =>
    refine w_cons (s_if (b := true) (et_cmp (ev_ix (ev_name 1) ev_int rfl (by decide) rfl) ev_str (od_eqS_T rfl)) (fun _ => ?_) (fun z => by cases z))
    exact w_one (s_ret (ev_callTy (ea_cons (ev_got G1 hr (ea_cons (ev_name 0) (ea_cons (ev_name 1) ea_nil)) rfl ⟨ls, i, p, c, mt, rs, rfl, hg.more (by decide) (by decide), ab, ok.1, rfl, rfl⟩) ea_nil) (cd_list rfl) nL (by decide +kernel)) hQ)
  | drop i rs =>
    refine w_cons (s_if (b := false) (et_cmp (ev_ix (ev_name 1) ev_int rfl (by decide) rfl) ev_str (od_eqS_F s_dw)) (fun z => by cases z) fun _ => w_nil ?_)
    refine w_cons (s_if (b := true) (et_cmp (ev_ix (ev_name 1) ev_int rfl (by decide) rfl) ev_str (od_eqS_T rfl)) (fun _ => ?_) (fun z => by cases z))
    exact w_one (s_ret (ev_callTy (ea_cons (ev_got G2 (hr.mono (by decide)) (ea_cons (ev_name 0) (ea_cons (ev_ix (ev_name 1) ev_int rfl (by decide) rfl) ea_nil)) rfl ⟨ls, rs, rfl, hg.more (by decide) (by decide), rfl, rfl⟩) ea_nil) (cd_list rfl) nL (by decide +kernel)) hQ)
  | move i ms =>
    refine w_cons (s_if (b := false) (et_cmp (ev_ix (ev_name 1) ev_int rfl (by decide) rfl) ev_str (od_eqS_F s_mw)) (fun z => by cases z) fun _ => w_nil ?_)
    refine w_cons (s_if (b := false) (et_cmp (ev_ix (ev_name 1) ev_int rfl (by decide) rfl) ev_str (od_eqS_F s_md)) (fun z => by cases z) fun _ => w_nil ?_)
    refine w_cons (s_for (t := .tp [2, 3, 4]) (it_tup (ev_ix (ev_name 1) ev_int rfl (by decide) rfl)) (tg_tp rfl (tgs_cons nd (tgs_cons nd (tgs_cons nd tgs_nil)))) ?_)
    refine for_ind (fun zs r m' => ∃ ls' q v2 v3 v4, r = [some (.lst (ls'.map dLine)), some (dEdit (.move i ms)), v2, v3, v4] ∧ m = m' ∧ Good 80 q ls' ∧ (∀ z ∈ zs, PlaceOk z.2.2) ∧ Q (.lst ((moveAll ls' zs).map dLine)) m) ⟨ls, 250, none, none, none, rfl, rfl, hg, ok.1, hQ⟩ ?_ ?_
    · rintro _ _ ⟨ls', q, v2, v3, v4, rfl, rfl, g, _, hq⟩
      exact ⟨trivial, w_one (s_ret (ev_callTy (ea_cons (ev_name 0) ea_nil) (cd_list rfl) nL (by decide +kernel)) hq)⟩
    · rintro ⟨h, j, p⟩ zs _ _ ⟨ls', q, v2, v3, v4, rfl, rfl, g, hp, hq⟩
      have g2 := good_move g h j (hp _ List.mem_cons_self)
      have l2 := g.len
      exact ⟨trivial, _, rfl, w_one (s_set (i := 0) (ev_got G3 (hr.mono (by decide)) (ea_cons (ev_name 0) (ea_cons (ev_name 2) (ea_cons (ev_name 3) (ea_cons (ev_name 4) ea_nil)))) rfl ⟨ls', h, j, p, rfl, by omega, rfl, rfl⟩) ⟨_, _, _, _, _, rfl, rfl, g2, fun z hz => hp z (List.mem_cons_of_mem _ hz), hq⟩ nd)⟩
/-! fold_lines(lines, edits) -/
def RFoldLines : Con' := fun ds m Q => ∃ b ls es n q, ds = [sq b (ls.map dLine), .lst (es.map dEdit)] ∧ Good n q ls ∧ EdsOk ls es ∧ n + es.length ≤ 80 ∧ q + 6 * es.length ≤ 250 ∧ Q (.lst ((foldLines ls es).map dLine)) m
theorem sc_fold_lines : FnScope ["lines", "edits", "edit"] ["lines", "edits"] (defScope (topS 14)) := ⟨rfl, rfl, rfl, by decide +kernel, rfl, by decide +kernel, by decide +kernel⟩
theorem got_fold_lines (F : Dfn K mg "fold_lines" (topS 14) ["lines", "edits"]) (G1 : Got P w K mg base "lines_after" 6 2 RLinesAfter) (nL : mg "list" = none) : Got P w K mg base "fold_lines" 7 2 RFoldLines := by
  refine F.got sc_fold_lines rfl fun f cdv A outer s H E ds m Q hr h => ?_
  obtain ⟨b, ls, es, n, q, rfl, hg, ok, hn, hq, hQ⟩ := h
  have nd := sc_fold_lines.nd
  refine w_cons (s_set (i := 0) (ev_callTy (ea_cons (ev_name 0) ea_nil) (cd_list sq_items) nL (by decide +kernel)) ?_ nd)
  refine w_cons (s_for (t := .nm 2) (it_lst (ev_name 1)) (tg_nm nd) ?_)
  refine for_ind (fun zs r m' => ∃ ls' n q v2, r = [some (.lst (ls'.map dLine)), some (.lst (es.map dEdit)), v2] ∧ m = m' ∧ Good n q ls' ∧ EdsOk ls' zs ∧ n + zs.length ≤ 80 ∧ q + 6 * zs.length ≤ 250 ∧ Q (.lst ((foldLines ls' zs).map dLine)) m) ⟨ls, n, q, none, rfl, rfl, hg, ok, hn, hq, hQ⟩ ?_ ?_
  · rintro _ _ ⟨ls', n, q, v2, rfl, rfl, g, _, _, _, hq⟩
    exact ⟨trivial, w_one (s_ret (ev_name 0) hq)⟩
  · rintro e zs _ _ ⟨ls', n, q, v2, rfl, rfl, g, ok', hn', hq', hQ'⟩
    rw [List.length_cons] at hn' hq'
    have a1 := ok'.ab e List.mem_cons_self
    have a2 := ok'.ok e List.mem_cons_self
    exact ⟨trivial, _, rfl, w_one (s_set (i := 0) (ev_got G1 hr (ea_cons (ev_name 0) (ea_cons (ev_name 2) ea_nil)) rfl ⟨ls', e, rfl, g.more (by omega) (by omega), a1, a2, rfl, rfl⟩) ⟨_, _, _, _, rfl, rfl, good_after g a1 a2, ok'.tail, by omega, by omega, hQ'⟩ nd)⟩
/-! lines_of(edits) -/
def RLinesOf : Con' := fun ds m Q => ∃ es, ds = [.lst (es.map dEdit)] ∧ EdsOk [] es ∧ es.length ≤ 40 ∧ Q (.lst ((foldLines [] es).map dLine)) m
theorem sc_lines_of : FnScope ["edits"] ["edits"] (defScope (topS 15)) := ⟨rfl, rfl, rfl, by decide +kernel, rfl, by decide +kernel, by decide +kernel⟩
theorem got_lines_of (F : Dfn K mg "lines_of" (topS 15) ["edits"]) (G1 : Got P w K mg base "fold_lines" 7 2 RFoldLines) : Got P w K mg base "lines_of" 8 1 RLinesOf := by
  refine F.got sc_lines_of rfl fun f cdv A outer s H E ds m Q hr h => ?_
  obtain ⟨es, rfl, ok, hl, hQ⟩ := h
  exact w_one (s_ret (ev_got G1 hr (ea_cons (ev_lst ea_nil) (ea_cons (ev_name 0) ea_nil)) rfl ⟨false, [], es, 0, 0, rfl, good_nil, ok, by omega, by omega, rfl, rfl⟩) hQ)
/-! clock_in(clocks, device) -/
def RClockIn : Con' := fun ds m Q => ∃ b ks d, ds = [dClocks b ks, .int d] ∧ Q (.int (clockIn ks d)) m
theorem sc_clock_in : FnScope ["clocks", "device", "other", "clock"] ["clocks", "device"] (defScope (topS 18)) := ⟨rfl, rfl, rfl, by decide +kernel, rfl, by decide +kernel, by decide +kernel⟩
theorem got_clock_in (F : Dfn K mg "clock_in" (topS 18) ["clocks", "device"]) : Got P w K mg base "clock_in" 1 2 RClockIn := by
  refine F.got sc_clock_in rfl fun f cdv A outer s H E ds m Q hr h => ?_
  obtain ⟨b, ks, d, rfl, hQ⟩ := h
  have nd := sc_clock_in.nd
  refine w_cons (s_for (t := .tp [2, 3]) (it_sq (ev_name 0)) (tg_tp rfl (tgs_cons nd (tgs_cons nd tgs_nil))) ?_)
  refine for_ind (fun zs r m' => ∃ v2 v3, r = [some (dClocks b ks), some (.int d), v2, v3] ∧ m = m' ∧ Q (.int (clockIn zs d)) m) ⟨none, none, rfl, rfl, hQ⟩ ?_ ?_
  · rintro _ _ ⟨v2, v3, rfl, rfl, q⟩
    exact ⟨trivial, w_one (s_ret ev_int q)⟩
  · rintro ⟨o, c⟩ zs _ _ ⟨v2, v3, rfl, rfl, q⟩
    refine ⟨trivial, _, rfl, w_one (s_if (et_cmp (ev_name 2) (ev_name 1) od_eqI) (fun e => ?_) (fun e => ?_))⟩
    · rw [clockIn, if_pos (of_decide_eq_true e)] at q
      exact w_one (s_ret (ev_name 3) q)
    · rw [clockIn, if_neg (of_decide_eq_false e)] at q
      exact w_nil ⟨_, _, rfl, rfl, q⟩
/-! with_clock(clocks, device, clock) -/
def RWithClock : Con' := fun ds m Q => ∃ b ks d c, ds = [dClocks b ks, .int d, .int c] ∧ ks.length < 1000 ∧ Q (dClocks false (withClock ks d c)) m
theorem sc_with_clock : FnScope ["clocks", "device", "clock", "other", "old"] ["clocks", "device", "clock"] (defScope (topS 19)) := ⟨rfl, rfl, rfl, by decide +kernel, rfl, by decide +kernel, by decide +kernel⟩
theorem got_with_clock (F : Dfn K mg "with_clock" (topS 19) ["clocks", "device", "clock"]) : Got P w K mg base "with_clock" 1 3 RWithClock := by
  refine F.got sc_with_clock rfl fun f cdv A outer s H E ds m Q hr h => ?_
  obtain ⟨b, ks, d, c, rfl, hl, hQ⟩ := h
  have nd := sc_with_clock.nd
  have e : dClocks false (withClock ks d c) = .lst (ks.map fun p => dId (p.1, if p.1 = d then c else p.2)) := by
    show Da.lst ((withClock ks d c).map dId) = _
    unfold withClock
    rw [List.map_map]
    rfl
  rw [e] at hQ
  refine w_one (s_ret (ev_lcM [("other", 3), ("old", 4)] (.tp [3, 4]) (fun p => dId (p.1, if p.1 = d then c else p.2)) nd (it_sq (ev_name 0)) (fun Y hY => ?_) hl fun p _ => ⟨_, rfl, fun m' _ Y hY => ?_⟩) hQ)
  · obtain ⟨s', H', C, cl, fp, rfl⟩ := hY
    exact tg_tp rfl (tgs_cons nd (tgs_cons nd tgs_nil))
  · obtain ⟨s', H', C, cl, fp, rfl⟩ := hY
    refine ev_tup (ea_cons (ev_name 3) (ea_cons (ev_if (et_cmp (ev_name 3) (ev_name 1) od_eqI) (fun z => ?_) (fun z => ?_)) ea_nil))
    · rw [if_pos (of_decide_eq_true z)]
      exact ev_name 2
    · rw [if_neg (of_decide_eq_false z)]
      exact ev_name 4
end
end FK
/-! Walks: the tests of news. -/
namespace FK
open PySem PySem.Spec PyProof.Rows L2 DL
section
variable {P : Program} {w : World} {K : PySem.W.Frag} {mg : Str → Option Value} {base : Heap}
/-! ascending(ids) -/
def RAscending : Con' := fun ds m Q => ∃ ids : List Id, ds = [.lst (ids.map dId)] ∧ ids.length ≤ 1000 ∧ ids.Pairwise (fun a b => idLt a b = true) ∧ Q (.bl true) m
theorem sc_ascending : FnScope ["ids", "at"] ["ids"] (defScope (topS 22)) := ⟨rfl, rfl, rfl, by decide +kernel, rfl, by decide +kernel, by decide +kernel⟩
theorem got_ascending (F : Dfn K mg "ascending" (topS 22) ["ids"]) (nR : mg "range" = none) (nL : mg "len" = none) : Got P w K mg base "ascending" 1 1 RAscending := by
  refine F.got sc_ascending rfl fun f cdv A outer s H E ds m Q hr h => ?_
  obtain ⟨ids, rfl, hl, asc, hQ⟩ := h
  have nd := sc_ascending.nd
  have hu := hr.units0
  have ln : (ids.map dId).length = ids.length := List.length_map ..
  refine w_cons (s_for (t := .nm 1) (it_range2 ev_int (ev_callB (ea_cons (ev_name 0) ea_nil) (cd_len rfl) nL PySem.boot_len) nR (by omega)) (tg_nm nd) ?_)
  refine for_rng (fun i r m' => ∃ v, r = [some (.lst (ids.map dId)), v] ∧ m = m') ⟨none, rfl, rfl⟩ ?_ ?_
  · rintro _ _ ⟨v, rfl, rfl⟩
    exact ⟨trivial, w_one (s_ret ev_bl hQ)⟩
  · rintro i _ _ hi ⟨v, rfl, rfl⟩
    have hi1 : i + 1 < ids.length := by omega
    have lt := List.pairwise_iff_getElem.mp asc i (i + 1) (by omega) hi1 (by omega)
    refine ⟨trivial, _, rfl, w_one (s_if (b := false) (et_not (k := true) (et_cmp (x := dId ids[i]) (y := dId ids[i + 1]) (ev_ix (ev_name 0) (ev_bin (ev_name 1) ev_int od_sub) rfl (by omega) ?_) (ev_ix (ev_name 0) (ev_name 1) rfl (by omega) ?_) (by rw [← lt]; exact od_lt_id hu))) (fun z => by cases z) fun _ => w_nil ⟨_, rfl, rfl⟩)⟩
    · have e : ((1 : Int) + (i : Int) - 1).toNat = i := by omega
      rw [e, List.getElem?_map, List.getElem?_eq_getElem (by omega)]; rfl
    · have e : ((1 : Int) + (i : Int)).toNat = i + 1 := by omega
      rw [e, List.getElem?_map, List.getElem?_eq_getElem hi1]; rfl
/-! is_rooted(lines, inside) -/
def RIsRooted : Con' := fun ds m Q => ∃ b ls o, ds = [sq b (ls.map dLine), dO o] ∧ ls.length ≤ 1000 ∧ Q (.bl (isRooted ls (ls.length + 1) o)) m
theorem sc_is_rooted : FnScope ["lines", "inside", "_", "folder"] ["lines", "inside"] (defScope (topS 23)) := ⟨rfl, rfl, rfl, by decide +kernel, rfl, by decide +kernel, by decide +kernel⟩
theorem got_is_rooted (F : Dfn K mg "is_rooted" (topS 23) ["lines", "inside"]) (G1 : Got P w K mg base "find_folder" 2 2 RFindFolder) (nR : mg "range" = none) (nL : mg "len" = none) : Got P w K mg base "is_rooted" 3 2 RIsRooted := by
  refine F.got sc_is_rooted rfl fun f cdv A outer s H E ds m Q hr h => ?_
  obtain ⟨b, ls, o, rfl, hl, hQ⟩ := h
  have nd := sc_is_rooted.nd
  refine w_cons (s_for (t := .nm 2) (it_rangeN (ls.length + 1) (ev_bin (ev_callB (ea_cons (ev_name 0) ea_nil) (cd_len sq_items) nL PySem.boot_len) ev_int od_add) (by simp) (by omega) nR) (tg_nm nd) ?_)
  refine for_rng (fun i r m' => ∃ o' v2 v3, r = [some (sq b (ls.map dLine)), some (dO o'), v2, v3] ∧ m = m' ∧ Q (.bl (isRooted ls (ls.length + 1 - i) o')) m) ⟨o, none, none, rfl, rfl, hQ⟩ ?_ ?_
  · rintro _ _ ⟨o', v2, v3, rfl, rfl, q⟩
    rw [Nat.sub_self] at q
    exact ⟨trivial, w_one (s_ret ev_bl q)⟩
  · rintro i _ _ hi ⟨o', v2, v3, rfl, rfl, q⟩
    have ei : ls.length + 1 - i = (ls.length + 1 - (i + 1)) + 1 := by omega
    rw [ei] at q
    refine ⟨trivial, _, rfl, ?_⟩
    cases o' with
    | none => exact w_cons (s_if (b := true) (et_cmp (ev_name 1) ev_non od_isN) (fun _ => w_one (s_ret ev_bl q)) (fun z => by cases z))
    | some j =>
      refine w_cons (s_if (b := false) (et_cmp (ev_name 1) ev_non od_isN) (fun z => by cases z) fun _ => w_nil ?_)
      refine w_cons (s_set (i := 3) (ev_got G1 hr (ea_cons (ev_name 0) (ea_cons (ev_name 1) ea_nil)) rfl ⟨b, ls, j, rfl, rfl, rfl⟩) ?_ nd)
      rw [isRooted] at q
      cases e : findFolder ls j with
      | none =>
        rw [e] at q
        exact w_cons (s_if (b := true) (et_cmp (ev_name 3) ev_non od_isN) (fun _ => w_one (s_ret ev_bl q)) (fun z => by cases z))
      | some l =>
        rw [e] at q
        refine w_cons (s_if (b := false) (et_cmp (ev_name 3) ev_non od_isN) (fun z => by cases z) fun _ => w_nil ?_)
        exact w_one (s_set (i := 1) (ev_ix (ev_name 3) ev_int rfl (by decide) rfl) ⟨_, _, _, rfl, rfl, q⟩ nd)
/-! lines_sound(lines) -/
def RLinesSound : Con' := fun ds m Q => ∃ b ls, ds = [sq b (ls.map dLine)] ∧ Sound ls ∧ ls.length ≤ 60 ∧ Q (.bl true) m
theorem sc_lines_sound : FnScope ["lines", "heads", "line_id", "head", "inside", "below", "content", "line"] ["lines"] (defScope (topS 24)) := ⟨rfl, rfl, rfl, by decide +kernel, rfl, by decide +kernel, by decide +kernel⟩
theorem got_lines_sound (F : Dfn K mg "lines_sound" (topS 24) ["lines"]) (G1 : Got P w K mg base "ascending" 1 1 RAscending) (G2 : Got P w K mg base "is_rooted" 3 2 RIsRooted) (nS : mg "set" = none) (nL : mg "len" = none) : Got P w K mg base "lines_sound" 4 1 RLinesSound := by
  refine F.got sc_lines_sound rfl fun f cdv A outer s H E ds m Q hr h => ?_
  obtain ⟨b, ls, rfl, snd, hl, hQ⟩ := h
  have nd := sc_lines_sound.nd
  have hu := hr.units
  have ei : (ls.map fun l => dId l.id) = (ls.map (·.id)).map dId := by rw [List.map_map]; rfl
  have eh : (ls.map fun l => dId l.head) = (ls.map (·.head)).map dId := by rw [List.map_map]; rfl
  refine w_cons (s_if (b := false) (et_not (k := true) (et_val (ev_got G1 (hr.mono (by decide)) (ea_cons (ev_lcM [("line", 7)] (.nm 7) (fun l : Line => dId l.id) nd (it_sq (ev_name 0)) (fun Y hY => ?_) (by omega) fun l _ => ⟨_, rfl, fun m' _ Y hY => ?_⟩) ea_nil) rfl ⟨ls.map (·.id), by rw [ei], by rw [List.length_map]; omega, ?_, rfl, rfl⟩))) (fun z => by cases z) fun _ => w_nil ?_)
  · obtain ⟨s', H', C, cl, fp, rfl⟩ := hY
    exact tg_nm nd
  · obtain ⟨s', H', C, cl, fp, rfl⟩ := hY
    exact ev_ix (ev_name 7) ev_int rfl (by decide) rfl
  · rw [List.pairwise_map]; exact snd.asc
  refine w_cons (s_setLcM (i := 1) [("line", 7)] (.nm 7) (fun l : Line => dId l.head) nd (it_sq (ev_name 0)) (fun Y hY => ?_) (by omega) (fun l _ => ⟨_, rfl, fun m' _ Y hY => ?_⟩) ?_)
  · obtain ⟨s', H', C, cl, fp, rfl⟩ := hY
    exact tg_nm nd
  · obtain ⟨s', H', C, cl, fp, rfl⟩ := hY
    exact ev_ix (ev_name 7) ev_int rfl (by decide) rfl
  rw [eh]
  refine w_cons (s_if (b := false) (et_cmp (ev_lenset (ev_name 1) snd.hd (by rw [List.length_map]; omega) nL nS hu) (ev_callB (ea_cons (ev_name 1) ea_nil) (cd_len rfl) nL PySem.boot_len) (od_to od_neI (by rw [decide_eq_true (by rw [List.length_map (f := dId)])]; rfl))) (fun z => by cases z) fun _ => w_nil ?_)
  refine w_cons (s_for (t := .tp [2, 3, 4, 5, 6]) (it_sq (ev_name 0)) (tg_tp rfl (tgs_cons nd (tgs_cons nd (tgs_cons nd (tgs_cons nd (tgs_cons nd tgs_nil)))))) ?_)
  refine for_ind (fun zs r m' => ∃ v2 v3 v4 v5 v6, r = [some (sq b (ls.map dLine)), some (.lst ((ls.map (·.head)).map dId)), v2, v3, v4, v5, v6, none] ∧ m = m' ∧ ∀ z ∈ zs, z ∈ ls) ⟨none, none, none, none, none, rfl, rfl, fun _ h => h⟩ ?_ ?_
  · rintro _ _ ⟨v2, v3, v4, v5, v6, rfl, rfl, _⟩
    exact ⟨trivial, w_one (s_ret ev_bl hQ)⟩
  · rintro l zs _ _ ⟨v2, v3, v4, v5, v6, rfl, rfl, hz⟩
    have hm := hz l List.mem_cons_self
    have r1 := rooted_is (snd.root l hm)
    have ne := snd.ne l hm
    refine ⟨trivial, _, rfl, w_cons (s_if (b := false) (et_p (ep_orF (et_cmp (ev_callB (ea_cons (ev_name 5) ea_nil) (cd_len rfl) nL PySem.boot_len) ev_int ?_) (ep_or1 (et_not (k := true) (et_val (ev_got G2 hr (ea_cons (ev_name 0) (ea_cons (ev_name 4) ea_nil)) rfl ⟨b, ls, l.inside, rfl, by omega, by rw [r1], rfl⟩)))))) (fun z => by cases z) fun _ => w_nil ?_)⟩
    · exact od_to od_eqI (decide_eq_false (by
        rw [List.length_map]
        have : l.below.length ≠ 0 := fun c => ne (List.length_eq_zero_iff.mp c)
        omega))
    · refine w_one (s_if (b := false) (et_p ?_) (fun z => by cases z) fun _ => w_nil ⟨_, _, _, _, _, rfl, rfl, fun z h => hz z (List.mem_cons_of_mem _ h)⟩)
      cases c : l.content with
      | none =>
        exact ep_andT (et_cmp (ev_name 6) ev_non od_isN) (ep_and1 (et_cmp (x := dId l.head) (y := dId l.id) (ev_name 3) (ev_name 2) (od_to (od_ne_id hu) (by rw [decide_eq_true (snd.fold l hm c)]; rfl))))
      | some y => exact ep_andF (et_cmp (ev_name 6) ev_non od_isN)
/-! place_sound(place) -/
def RPlaceSound : Con' := fun ds m Q => ∃ p, ds = [dPlace p] ∧ PlaceOk p ∧ Q (.bl true) m
theorem sc_place_sound : FnScope ["place"] ["place"] (defScope (topS 25)) := ⟨rfl, rfl, rfl, by decide +kernel, rfl, by decide +kernel, by decide +kernel⟩
theorem got_place_sound (F : Dfn K mg "place_sound" (topS 25) ["place"]) (nL : mg "len" = none) : Got P w K mg base "place_sound" 1 1 RPlaceSound := by
  refine F.got sc_place_sound rfl fun f cdv A outer s H E ds m Q hr h => ?_
  obtain ⟨p, rfl, ok, hQ⟩ := h
  have pos : ∀ {q : Path}, q ≠ [] → decide ((0 : Int) < ((q.map dName).length : Int)) = true := fun {q} hq => decide_eq_true (by
    rw [List.length_map]
    have : q.length ≠ 0 := fun c => hq (List.length_eq_zero_iff.mp c)
    omega)
  exact w_one (s_ret (ev_and (k := true) (j := true) (ev_cmp (ev_callB (ea_cons (ev_ix (ev_name 0) ev_int rfl (by decide) rfl) ea_nil) (cd_len rfl) nL PySem.boot_len) ev_int (od_to od_gt (pos ok.1))) fun _ => ev_cmp (ev_callB (ea_cons (ev_ix (ev_name 0) ev_int rfl (by decide) rfl) ea_nil) (cd_len rfl) nL PySem.boot_len) ev_int (od_to od_gt (pos ok.2.1))) hQ)
/-! edit_sound(edit) -/
def REditSound : Con' := fun ds m Q => ∃ e, ds = [dEdit e] ∧ EditOk e ∧ Q (.bl true) m
theorem sc_edit_sound : FnScope ["edit", "_", "place", "head"] ["edit"] (defScope (topS 26)) := ⟨rfl, rfl, rfl, by decide +kernel, rfl, by decide +kernel, by decide +kernel⟩
theorem got_edit_sound (F : Dfn K mg "edit_sound" (topS 26) ["edit"]) (G1 : Got P w K mg base "place_sound" 1 1 RPlaceSound) (nL : mg "len" = none) (nA : mg "all" = none) : Got P w K mg base "edit_sound" 2 1 REditSound := by
  refine F.got sc_edit_sound rfl fun f cdv A outer s H E ds m Q hr h => ?_
  obtain ⟨e, rfl, ok, hQ⟩ := h
  have nd := sc_edit_sound.nd
  have hu := hr.units0
  cases e with
  | move i ms =>
    refine w_cons (s_if (b := true) (et_cmp (ev_ix (ev_name 0) ev_int rfl (by decide) rfl) ev_str (od_eqS_T rfl)) (fun _ => ?_) (fun z => by cases z))
    refine w_one (s_ret (ev_callB (ea_cons (ev_lcM [("_", 1), ("place", 2)] (.tp [1, 1, 2]) (fun _ : Id × Id × Place => Da.bl true) nd (it_tup (ev_ix (ev_name 0) ev_int rfl (by decide) rfl)) (fun Y hY => ?_) (by have := ok.2; omega) fun q hq => ⟨_, rfl, fun m' _ Y hY => ?_⟩) ea_nil) (cd_allT rfl fun _ _ => rfl) nA (by decide +kernel)) hQ)
    · obtain ⟨s', H', C, cl, fp, rfl⟩ := hY
      exact tg_tp rfl (tgs_cons nd (tgs_cons nd (tgs_cons nd tgs_nil)))
    · obtain ⟨s', H', C, cl, fp, rfl⟩ := hY
      exact ev_got G1 hr (ea_cons (ev_name 2) ea_nil) rfl ⟨q.2.2, rfl, ok.1 q hq, rfl, rfl⟩
  | write i p c mt rs =>
    refine w_cons (s_if (b := false) (et_cmp (ev_ix (ev_name 0) ev_int rfl (by decide) rfl) ev_str (od_eqS_F s_wm)) (fun z => by cases z) fun _ => w_nil ?_)
    refine w_cons (s_if (b := false) (et_p (ep_andT (et_cmp (ev_ix (ev_name 0) ev_int rfl (by decide) rfl) ev_str (od_eqS_T rfl)) (ep_and1 (et_not (k := true) (et_val (ev_got G1 hr (ea_cons (ev_ix (ev_name 0) ev_int rfl (by decide) rfl) ea_nil) rfl ⟨p, rfl, ok.1, rfl, rfl⟩)))))) (fun z => by cases z) fun _ => w_nil ?_)
    refine w_one (s_ret (ev_callB (ea_cons (ev_lcM [("head", 3)] (.nm 3) (fun h : Id => Da.bl (idLt h i)) nd (it_tup (ev_ix (ev_name 0) (ev_bin (ev_callB (ea_cons (ev_name 0) ea_nil) (cd_len rfl) nL PySem.boot_len) ev_int od_sub) rfl (by simp) rfl)) (fun Y hY => ?_) (by have := ok.2.2; omega) fun q hq => ⟨_, rfl, fun m' _ Y hY => ?_⟩) ea_nil) (cd_allT rfl ok.2.1) nA (by decide +kernel)) hQ)
    · obtain ⟨s', H', C, cl, fp, rfl⟩ := hY
      exact tg_nm nd
    · obtain ⟨s', H', C, cl, fp, rfl⟩ := hY
      exact ev_cmp (ev_name 3) (ev_ix (ev_name 0) ev_int rfl (by decide) rfl) (od_lt_id (b := i) hu)
  | drop i rs =>
    refine w_cons (s_if (b := false) (et_cmp (ev_ix (ev_name 0) ev_int rfl (by decide) rfl) ev_str (od_eqS_F s_dm)) (fun z => by cases z) fun _ => w_nil ?_)
    refine w_cons (s_if (b := false) (et_p (ep_andF (et_cmp (ev_ix (ev_name 0) ev_int rfl (by decide) rfl) ev_str (od_eqS_F s_dw)))) (fun z => by cases z) fun _ => w_nil ?_)
    refine w_one (s_ret (ev_callB (ea_cons (ev_lcM [("head", 3)] (.nm 3) (fun h : Id => Da.bl (idLt h i)) nd (it_tup (ev_ix (ev_name 0) (ev_bin (ev_callB (ea_cons (ev_name 0) ea_nil) (cd_len rfl) nL PySem.boot_len) ev_int od_sub) rfl (by simp) rfl)) (fun Y hY => ?_) (by have := ok.2; omega) fun q hq => ⟨_, rfl, fun m' _ Y hY => ?_⟩) ea_nil) (cd_allT rfl ok.1) nA (by decide +kernel)) hQ)
    · obtain ⟨s', H', C, cl, fp, rfl⟩ := hY
      exact tg_nm nd
    · obtain ⟨s', H', C, cl, fp, rfl⟩ := hY
      exact ev_cmp (ev_name 3) (ev_ix (ev_name 0) ev_int rfl (by decide) rfl) (od_lt_id (b := i) hu)
theorem dEdit_items (e : Edit) {m : Mem} : ∃ ds, itemsOf m (dEdit e) = some ds ∧ ds[1]? = some (dId e.id) := by cases e <;> exact ⟨_, rfl, rfl⟩
theorem ev_eid {X : Cx} {r : Rho} {m m1 m2 : Mem} {a b : Expr} {e : Edit} {pos : Pos} (ha : EvD X a r m (dEdit e) m1) (hb : EvD X b r m1 (.int 1) m2) (hs : PlainIx b := by exact fun _ _ => rfl) : EvD X (.Subscript a b pos) r m (dId e.id) m2 := by
  obtain ⟨ds, h1, h2⟩ := dEdit_items e (m := m2)
  exact ev_ix ha hb h1 (by decide) h2 hs
/-! edits_sound(edits) -/
def REditsSound : Con' := fun ds m Q => ∃ es : List Edit, ds = [.tup (es.map dEdit)] ∧ es.length ≤ 500 ∧ es.Pairwise (fun a b => idLt a.id b.id = true) ∧ (∀ e ∈ es, EditOk e) ∧ Q (.bl true) m
theorem sc_edits_sound : FnScope ["edits", "edit"] ["edits"] (defScope (topS 27)) := ⟨rfl, rfl, rfl, by decide +kernel, rfl, by decide +kernel, by decide +kernel⟩
theorem got_edits_sound (F : Dfn K mg "edits_sound" (topS 27) ["edits"]) (G1 : Got P w K mg base "ascending" 1 1 RAscending) (G2 : Got P w K mg base "edit_sound" 2 1 REditSound) (nA : mg "all" = none) : Got P w K mg base "edits_sound" 3 1 REditsSound := by
  refine F.got sc_edits_sound rfl fun f cdv A outer s H E ds m Q hr h => ?_
  obtain ⟨es, rfl, hl, asc, ok, hQ⟩ := h
  have nd := sc_edits_sound.nd
  have ei : (es.map fun e => dId e.id) = (es.map Edit.id).map dId := by rw [List.map_map]; rfl
  refine w_one (s_ret (ev_and (k := true) (j := true) (ev_got G1 (hr.mono (by decide)) (ea_cons (ev_lcM [("edit", 1)] (.nm 1) (fun e : Edit => dId e.id) nd (it_tup (ev_name 0)) (fun Y hY => ?_) (by omega) fun e _ => ⟨_, rfl, fun m' _ Y hY => ?_⟩) ea_nil) rfl ⟨es.map Edit.id, by rw [ei], by rw [List.length_map]; omega, by rw [List.pairwise_map]; exact asc, rfl, rfl⟩) fun _ =>
    ev_callB (ea_cons (ev_lcM [("edit", 1)] (.nm 1) (fun _ : Edit => Da.bl true) nd (it_tup (ev_name 0)) (fun Y hY => ?_) (by omega) fun e he => ⟨_, rfl, fun m' _ Y hY => ?_⟩) ea_nil) (cd_allT rfl fun _ _ => rfl) nA (by decide +kernel)) hQ)
  · obtain ⟨s', H', C, cl, fp, rfl⟩ := hY
    exact tg_nm nd
  · obtain ⟨s', H', C, cl, fp, rfl⟩ := hY
    exact ev_eid (ev_name 1) ev_int
  · obtain ⟨s', H', C, cl, fp, rfl⟩ := hY
    exact tg_nm nd
  · obtain ⟨s', H', C, cl, fp, rfl⟩ := hY
    exact ev_got G2 hr (ea_cons (ev_name 1) ea_nil) rfl ⟨e, rfl, ok e he, rfl, rfl⟩
/-! news_sound(news) -/
structure NewsOk (n : News) : Prop where
  snd : Sound n.base
  bl : n.base.length ≤ 60
  bu : ∀ l ∈ n.base, l.id.1 ≤ n.upto ∧ l.head.1 ≤ n.upto
  rl : n.rest.length ≤ 500
  asc : n.rest.Pairwise fun a b => idLt a.id b.id = true
  ok : ∀ e ∈ n.rest, EditOk e
  ru : ∀ e ∈ n.rest, n.upto < e.id.1 ∧ e.id.1 ≤ clockIn n.knows e.id.2
  ku : ∀ p ∈ n.knows, n.upto ≤ p.2 ∧ p.2 ≤ n.clock
  cl : n.clock ≤ 4294967295
def RNewsSound : Con' := fun ds m Q => ∃ n, ds = [dNews n] ∧ NewsOk n ∧ Q (.bl true) m
theorem sc_news_sound : FnScope ["news", "_", "clock", "base", "upto", "rest", "knows", "line", "edit", "known"] ["news"] (defScope (topS 28)) := ⟨rfl, rfl, rfl, by decide +kernel, rfl, by decide +kernel, by decide +kernel⟩
theorem got_news_sound (F : Dfn K mg "news_sound" (topS 28) ["news"]) (G1 : Got P w K mg base "lines_sound" 4 1 RLinesSound) (G2 : Got P w K mg base "edits_sound" 3 1 REditsSound) (G3 : Got P w K mg base "clock_in" 1 2 RClockIn) (hM : ∃ t, mg "MOST_CLOCK" = some (.int 4294967295 t)) : Got P w K mg base "news_sound" 5 1 RNewsSound := by
  refine F.got sc_news_sound rfl fun f cdv A outer s H E ds m Q hr h => ?_
  obtain ⟨n, rfl, ok, hQ⟩ := h
  have nd := sc_news_sound.nd
  refine w_cons (s_untup (t := .tp [1, 2, 3, 4, 5, 6, 1]) (ev_name 0) (tg_tp rfl (tgs_cons nd (tgs_cons nd (tgs_cons nd (tgs_cons nd (tgs_cons nd (tgs_cons nd (tgs_cons nd tgs_nil)))))))) rfl ?_)
  refine w_cons (s_if (b := false) (et_p (ep_orF (et_not (k := true) (et_val (ev_got G1 hr (ea_cons (ev_name 3) ea_nil) rfl ⟨true, n.base, rfl, ok.snd, ok.bl, rfl, rfl⟩))) (ep_or1 (et_not (k := true) (et_val (ev_got G2 (hr.mono (by decide)) (ea_cons (ev_name 5) ea_nil) rfl ⟨n.rest, rfl, ok.rl, ok.asc, ok.ok, rfl, rfl⟩)))))) (fun z => by cases z) fun _ => w_nil ?_)
  refine w_cons (s_for (t := .nm 7) (it_tup (ev_name 3)) (tg_nm nd) ?_)
  refine for_ind (fun zs r m' => ∃ v1 v7, r = [some (dNews n), v1, some (.int n.clock), some (.tup (n.base.map dLine)), some (.int n.upto), some (.tup (n.rest.map dEdit)), some (.tup (n.knows.map dId)), v7, none, none] ∧ m = m' ∧ ∀ z ∈ zs, z ∈ n.base) ⟨_, none, rfl, rfl, fun _ h => h⟩ ?_ ?_
  · rintro _ _ ⟨v1, v7, rfl, rfl, _⟩
    refine ⟨trivial, w_cons (s_for (t := .nm 8) (it_tup (ev_name 5)) (tg_nm nd) ?_)⟩
    refine for_ind (fun zs r m' => ∃ v1 v8, r = [some (dNews n), v1, some (.int n.clock), some (.tup (n.base.map dLine)), some (.int n.upto), some (.tup (n.rest.map dEdit)), some (.tup (n.knows.map dId)), v7, v8, none] ∧ m = m' ∧ ∀ z ∈ zs, z ∈ n.rest) ⟨_, none, rfl, rfl, fun _ h => h⟩ ?_ ?_
    · rintro _ _ ⟨v1, v8, rfl, rfl, _⟩
      refine ⟨trivial, w_cons (s_for (t := .tp [1, 9]) (it_tup (ev_name 6)) (tg_tp rfl (tgs_cons nd (tgs_cons nd tgs_nil))) ?_)⟩
      refine for_ind (fun zs r m' => ∃ v1 v9, r = [some (dNews n), v1, some (.int n.clock), some (.tup (n.base.map dLine)), some (.int n.upto), some (.tup (n.rest.map dEdit)), some (.tup (n.knows.map dId)), v7, v8, v9] ∧ m = m' ∧ ∀ z ∈ zs, z ∈ n.knows) ⟨_, none, rfl, rfl, fun _ h => h⟩ ?_ ?_
      · rintro _ _ ⟨v1, v9, rfl, rfl, _⟩
        obtain ⟨t, hM⟩ := hM
        exact ⟨trivial, w_one (s_ret (ev_cmp (ev_name 2) (ev_globI rfl hM ⟨t, rfl⟩) (od_to od_le (decide_eq_true ok.cl))) hQ)⟩
      · rintro p zs _ _ ⟨v1, v9, rfl, rfl, hz⟩
        have k := ok.ku p (hz p List.mem_cons_self)
        exact ⟨trivial, _, rfl, w_one (s_if (b := false) (et_p (ep_orF (et_cmp (x := .int p.2) (y := .int n.upto) (ev_name 9) (ev_name 4) (od_to od_lt (decide_eq_false (by omega)))) (ep_or1 (et_cmp (x := .int p.2) (y := .int n.clock) (ev_name 9) (ev_name 2) (od_to od_gt (decide_eq_false (by omega))))))) (fun z => by cases z) fun _ => w_nil ⟨_, _, rfl, rfl, fun z h => hz z (List.mem_cons_of_mem _ h)⟩)⟩
    · rintro e zs _ _ ⟨v1, v8, rfl, rfl, hz⟩
      have k := ok.ru e (hz e List.mem_cons_self)
      exact ⟨trivial, _, rfl, w_one (s_if (b := false) (et_p (ep_orF (et_cmp (x := .int e.id.1) (y := .int n.upto) (ev_ix (ev_eid (ev_name 8) ev_int) ev_int rfl (by decide) rfl) (ev_name 4) (od_to od_le (decide_eq_false (by omega)))) (ep_or1 (et_cmp (x := .int e.id.1) (y := .int (clockIn n.knows e.id.2)) (ev_ix (ev_eid (ev_name 8) ev_int) ev_int rfl (by decide) rfl) (ev_got G3 (hr.mono (by decide)) (ea_cons (ev_name 6) (ea_cons (ev_ix (ev_eid (ev_name 8) ev_int) ev_int rfl (by decide) rfl) ea_nil)) rfl ⟨true, n.knows, e.id.2, rfl, rfl, rfl⟩) (od_to od_gt (decide_eq_false (by omega))))))) (fun z => by cases z) fun _ => w_nil ⟨_, _, rfl, rfl, fun z h => hz z (List.mem_cons_of_mem _ h)⟩)⟩
  · rintro l zs _ _ ⟨v1, v7, rfl, rfl, hz⟩
    have k := ok.bu l (hz l List.mem_cons_self)
    exact ⟨trivial, _, rfl, w_one (s_if (b := false) (et_p (ep_orF (et_cmp (x := .int l.id.1) (y := .int n.upto) (ev_ix (ev_ix (ev_name 7) ev_int rfl (by decide) rfl) ev_int rfl (by decide) rfl) (ev_name 4) (od_to od_gt (decide_eq_false (by omega)))) (ep_or1 (et_cmp (x := .int l.head.1) (y := .int n.upto) (ev_ix (ev_ix (ev_name 7) ev_int rfl (by decide) rfl) ev_int rfl (by decide) rfl) (ev_name 4) (od_to od_gt (decide_eq_false (by omega))))))) (fun z => by cases z) fun _ => w_nil ⟨_, _, rfl, rfl, fun z h => hz z (List.mem_cons_of_mem _ h)⟩)⟩
end
end FK
/-! Walks: the class Knowledge. -/
namespace FK
open PySem PySem.Spec PyProof.Rows L2 DL
/-- a knowledge's attributes -/
def dKnow (k : Know) : List (Str × Da) := [("clock", .int k.clock), ("base", .lst (k.base.map dLine)), ("upto", .int k.upto), ("rest", .lst (k.rest.map dEdit)), ("knows", .lst (k.knows.map dId))]
section
variable (k : Know)
theorem fl_clock : (dKnow k).lookup ("clock" : Str) = some (.int k.clock) := by kernel_rfl
theorem fl_base : (dKnow k).lookup ("base" : Str) = some (.lst (k.base.map dLine)) := by kernel_rfl
theorem fl_upto : (dKnow k).lookup ("upto" : Str) = some (.int k.upto) := by kernel_rfl
theorem fl_rest : (dKnow k).lookup ("rest" : Str) = some (.lst (k.rest.map dEdit)) := by kernel_rfl
theorem fl_knows : (dKnow k).lookup ("knows" : Str) = some (.lst (k.knows.map dId)) := by kernel_rfl
theorem pt_clock (c : Int) : putD "clock" (.int c) (dKnow k) = dKnow { k with clock := c } := by kernel_rfl
theorem pt_base (ls : List Line) : putD "base" (.lst (ls.map dLine)) (dKnow k) = dKnow { k with base := ls } := by kernel_rfl
theorem pt_upto (c : Int) : putD "upto" (.int c) (dKnow k) = dKnow { k with upto := c } := by kernel_rfl
theorem pt_rest (es : List Edit) : putD "rest" (.lst (es.map dEdit)) (dKnow k) = dKnow { k with rest := es } := by kernel_rfl
theorem pt_knows (ks : Clocks) : putD "knows" (.lst (ks.map dId)) (dKnow k) = dKnow { k with knows := ks } := by kernel_rfl
theorem dk_len : (dKnow k).length < 1000 := by show 5 < 1000; decide
end
/-- what of the text the class must have -/
structure KCls (K : PySem.W.Frag) (C : Addr) : Prop where
  cl : Cls K C
  nC : NoAttr K C "clock"
  nB : NoAttr K C "base"
  nU : NoAttr K C "upto"
  nR : NoAttr K C "rest"
  nK : NoAttr K C "knows"
/-- a method of the text -/
structure Mfn (K : PySem.W.Frag) (C : Addr) (y qual : Str) (st : Stmt) (ps : List Str) : Prop where
  ex : ∃ f fd, FunD K y qual (defArgs st) (defBody st) (defScope st) [] [] f fd ∧ Meth K C y f ∧ Binds K fd ps []
structure GotM (P : Program) (w : World) (K : PySem.W.Frag) (mg : Str → Option Value) (base : Heap) (C : Addr) (y : Str) (k n : Nat) (R : Con') : Prop where
  ex : ∃ f fd ps, FnOk P w K mg base CX0 k f fd ps (spD n R) ∧ Meth K C y f ∧ Binds K fd ps []
section
variable {P : Program} {w : World} {K : PySem.W.Frag} {mg : Str → Option Value} {base : Heap} {C : Addr}
theorem Mfn.got {y qual : Str} {st : Stmt} {N ps : List Str} {k n : Nat} {R : Con'} (F : Mfn K C y qual st ps) (S : FnScope N ps (defScope st)) (hn : n = ps.length)
    (hb : ∀ (f : Addr) (cdv : Value) (A : Around) (outer : List Env) (s : Shared) (H : Hp) (E : XK) (ds : List Da) (m : Mem) (Q' : Da → Mem → Prop), Room k (A.deeper (envOfC qual (defScope st) s.heap.objs.size f cdv)) → R ds m Q' →
      ExW (cxOf CX0 P w K mg base N qual (defScope st) f cdv A outer s H E).nox (defBody st) (rho0 N ds) m { nx := fun _ m' => Q' .non m', rt := Q' }) : GotM P w K mg base C y (k + 1) n R := by
  obtain ⟨f, fd, h1, h2, h3⟩ := F.ex
  exact ⟨f, fd, ps, fnD_ok h1 S hn (hb f), h2, h3⟩
theorem ev_gotm {X : Cx} {r : Rho} {m m1 m2 m3 : Mem} {k n : Nat} {R : Con'} {C a : Addr} {fs : List (Str × Da)} {y : Str} {o e : Expr} {es : List Expr} {apos pos : Pos} {ds : List Da} {d : Da} {pl : Sem Bool} (G : GotM X.prog X.w X.K X.mg X.base C y k n R) (hr : Room k X.A) (c : Cls X.K C)
    (ho : EvD X o r m (.loc a) m1) (hm : m1 a = some (.ins C fs)) (hno : fs.lookup y = none) (ha : EvA X (e :: es) r m1 ds m2) (hn : ds.length + 1 = n) (hR : R (.loc a :: ds) m2 fun d' m' => d' = d ∧ m' = m3) (hst : starEach (e :: es) X.env = (false, eval e X.env) :: starEach es X.env := by rfl) (hpl : (backTo pos (starEach es X.env)).any (·.1) = false := by rfl)
    (ht : eval (.Call (.Attribute o y apos) (e :: es) [] pos) X.env = (do let ov ← eval o X.env; standAt apos.atName; let (f, first) ← holding [ov] (getMethod ov y pl); callWith pos f first (backTo pos (starEach (e :: es) X.env)) (backToKw pos (keywordEach [] X.env))) := by rfl) : EvD X (.Call (.Attribute o y apos) (e :: es) [] pos) r m d m3 := by
  obtain ⟨f, fd, ps, F, hM, hb⟩ := G.ex
  exact ev_meth ho hm hno c hM F hr hb ha hn hR hst hpl ht
theorem ev_gotm0 {X : Cx} {r : Rho} {m m1 m3 : Mem} {k n : Nat} {R : Con'} {C a : Addr} {fs : List (Str × Da)} {y : Str} {o : Expr} {apos pos : Pos} {d : Da} {pl : Sem Bool} (G : GotM X.prog X.w X.K X.mg X.base C y k n R) (hr : Room k X.A) (c : Cls X.K C)
    (ho : EvD X o r m (.loc a) m1) (hm : m1 a = some (.ins C fs)) (hno : fs.lookup y = none) (hn : 1 = n) (hR : R [.loc a] m1 fun d' m' => d' = d ∧ m' = m3)
    (ht : eval (.Call (.Attribute o y apos) [] [] pos) X.env = (do let ov ← eval o X.env; standAt apos.atName; let (f, first) ← holding [ov] (getMethod ov y pl); callWith pos f first (backTo pos (starEach [] X.env)) (backToKw pos (keywordEach [] X.env))) := by rfl) : EvD X (.Call (.Attribute o y apos) [] [] pos) r m d m3 := by
  obtain ⟨f, fd, ps, F, hM, hb⟩ := G.ex
  exact ev_meth0 ho hm hno c hM F hr hb hn hR ht
abbrev sKnow (j : Nat) : Stmt := inClass (topS 17) j
/-- the base with the rest can be folded -/
def Foldable (k : Know) : Prop := ∃ n q, Good n q k.base ∧ EdsOk k.base k.rest ∧ n + k.rest.length ≤ 80 ∧ q + 6 * k.rest.length ≤ 250
/-! lines(self) -/
def RLines (C : Addr) : Con' := fun ds m Q => ∃ a k, ds = [.loc a] ∧ m a = some (.ins C (dKnow k)) ∧ Foldable k ∧ Q (.lst (k.lines.map dLine)) m
theorem sc_lines : FnScope ["self"] ["self"] (defScope (sKnow 1)) := ⟨rfl, rfl, rfl, by decide +kernel, rfl, by decide +kernel, by decide +kernel⟩
theorem got_lines (F : Mfn K C "lines" "Knowledge.lines" (sKnow 1) ["self"]) (T : KCls K C) (G1 : Got P w K mg base "fold_lines" 7 2 RFoldLines) : GotM P w K mg base C "lines" 8 1 (RLines C) := by
  refine F.got sc_lines rfl fun f cdv A outer s H E ds m Q hr h => ?_
  obtain ⟨a, k, rfl, hm, ⟨n, q, hg, he, h1, h2⟩, hQ⟩ := h
  exact w_one (s_ret (ev_got G1 hr (ea_cons (ev_fld (ev_name 0) hm (fl_base k) T.cl T.nB) (ea_cons (ev_fld (ev_name 0) hm (fl_rest k) T.cl T.nR) ea_nil)) rfl ⟨false, k.base, k.rest, n, q, rfl, hg, he, h1, h2, rfl, rfl⟩) hQ)
/-! known_up_to(self, device) -/
def RKnownUpTo (C : Addr) : Con' := fun ds m Q => ∃ a k d, ds = [.loc a, .int d] ∧ m a = some (.ins C (dKnow k)) ∧ Q (.int (clockIn k.knows d)) m
theorem sc_known_up_to : FnScope ["self", "device"] ["self", "device"] (defScope (sKnow 3)) := ⟨rfl, rfl, rfl, by decide +kernel, rfl, by decide +kernel, by decide +kernel⟩
theorem got_known_up_to (F : Mfn K C "known_up_to" "Knowledge.known_up_to" (sKnow 3) ["self", "device"]) (T : KCls K C) (G1 : Got P w K mg base "clock_in" 1 2 RClockIn) : GotM P w K mg base C "known_up_to" 2 2 (RKnownUpTo C) := by
  refine F.got sc_known_up_to rfl fun f cdv A outer s H E ds m Q hr h => ?_
  obtain ⟨a, k, d, rfl, hm, hQ⟩ := h
  exact w_one (s_ret (ev_got G1 hr (ea_cons (ev_fld (ev_name 0) hm (fl_knows k) T.cl T.nK) (ea_cons (ev_name 1) ea_nil)) rfl ⟨false, k.knows, d, rfl, rfl, rfl⟩) hQ)
/-! next_id(self, me) -/
def RNextId (C : Addr) : Con' := fun ds m Q => ∃ a k d, ds = [.loc a, .int d] ∧ m a = some (.ins C (dKnow k)) ∧ Q (dId (k.clock + 1, d)) m
theorem sc_next_id : FnScope ["self", "me"] ["self", "me"] (defScope (sKnow 4)) := ⟨rfl, rfl, rfl, by decide +kernel, rfl, by decide +kernel, by decide +kernel⟩
theorem got_next_id (F : Mfn K C "next_id" "Knowledge.next_id" (sKnow 4) ["self", "me"]) (T : KCls K C) : GotM P w K mg base C "next_id" 1 2 (RNextId C) := by
  refine F.got sc_next_id rfl fun f cdv A outer s H E ds m Q hr h => ?_
  obtain ⟨a, k, d, rfl, hm, hQ⟩ := h
  exact w_one (s_ret (ev_tup (ea_cons (ev_bin (ev_fld (ev_name 0) hm (fl_clock k) T.cl T.nC) ev_int od_add) (ea_cons (ev_name 1) ea_nil))) hQ)
/-! make(self, me, edit) -/
def RMake (C : Addr) : Con' := fun ds m Q => ∃ a k me e, ds = [.loc a, .int me, dEdit e] ∧ m a = some (.ins C (dKnow k)) ∧ k.rest.length ≤ 500 ∧ k.knows.length ≤ 500 ∧ Q (dEdit e) (m.put a (.ins C (dKnow (k.make me e))))
theorem sc_make : FnScope ["self", "me", "edit"] ["self", "me", "edit"] (defScope (sKnow 5)) := ⟨rfl, rfl, rfl, by decide +kernel, rfl, by decide +kernel, by decide +kernel⟩
theorem got_make (F : Mfn K C "make" "Knowledge.make" (sKnow 5) ["self", "me", "edit"]) (T : KCls K C) (G1 : Got P w K mg base "with_clock" 1 3 RWithClock) : GotM P w K mg base C "make" 2 3 (RMake C) := by
  refine F.got sc_make rfl fun f cdv A outer s H E ds m Q hr h => ?_
  obtain ⟨a, k, me, e, rfl, hm, l1, l2, hQ⟩ := h
  refine w_cons (s_fld (ev_bin (ev_fld (ev_name 0) hm (fl_clock k) T.cl T.nC) ev_int od_add) (ev_name 0) hm T.cl T.nC (dk_len k) ?_)
  rw [pt_clock]
  have hm1 : (m.put a (.ins C (dKnow { k with clock := k.clock + 1 }))) a = some (.ins C (dKnow { k with clock := k.clock + 1 })) := Mem.put_same
  refine w_cons (s_fld (ev_bin (ev_fld (ev_name 0) hm1 (fl_rest _) T.cl T.nR) (ev_lst (ea_cons (ev_name 2) ea_nil)) (od_cat (Nat.le_of_lt (small1000 (by show (k.rest.map dEdit).length + 1 ≤ 1000; rw [List.length_map]; omega))))) (ev_name 0) hm1 T.cl T.nR (dk_len _) ?_)
  have e1 : k.rest.map dEdit ++ [dEdit e] = (k.rest ++ [e]).map dEdit := by rw [List.map_append]; rfl
  rw [e1, pt_rest, Mem.put_put]
  have hm2 : (m.put a (.ins C (dKnow { k with clock := k.clock + 1, rest := k.rest ++ [e] }))) a = some (.ins C (dKnow { k with clock := k.clock + 1, rest := k.rest ++ [e] })) := Mem.put_same
  refine w_cons (s_fld (ev_got G1 hr (ea_cons (ev_fld (ev_name 0) hm2 (fl_knows _) T.cl T.nK) (ea_cons (ev_name 1) (ea_cons (ev_fld (ev_name 0) hm2 (fl_clock _) T.cl T.nC) ea_nil))) rfl ⟨false, k.knows, me, k.clock + 1, rfl, by omega, rfl, rfl⟩) (ev_name 0) hm2 T.cl T.nK (dk_len _) ?_)
  have e2 := pt_knows { k with clock := k.clock + 1, rest := k.rest ++ [e] } (withClock k.knows me (k.clock + 1))
  refine w_one (s_ret (ev_name 2) ?_)
  have e3 : putD "knows" (dClocks false (withClock k.knows me (k.clock + 1))) (dKnow { k with clock := k.clock + 1, rest := k.rest ++ [e] }) = dKnow (k.make me e) := e2
  rw [e3, Mem.put_put]
  exact hQ
/-! write, drop, move -/
def RWrite (C : Addr) : Con' := fun ds m Q => ∃ a k me p c mt rs, ds = [.loc a, .int me, dPlace p, dMark c, dO mt, dIds rs] ∧ m a = some (.ins C (dKnow k)) ∧ k.rest.length ≤ 500 ∧ k.knows.length ≤ 500 ∧ Q (dEdit (.write (k.clock + 1, me) p c mt rs)) (m.put a (.ins C (dKnow (k.make me (.write (k.clock + 1, me) p c mt rs)))))
theorem sc_write : FnScope ["self", "me", "place", "content", "line", "replaces"] ["self", "me", "place", "content", "line", "replaces"] (defScope (sKnow 6)) := ⟨rfl, rfl, rfl, by decide +kernel, rfl, by decide +kernel, by decide +kernel⟩
theorem no_make (k : Know) : (dKnow k).lookup ("make" : Str) = none := by kernel_rfl
theorem no_next_id (k : Know) : (dKnow k).lookup ("next_id" : Str) = none := by kernel_rfl
theorem no_lines (k : Know) : (dKnow k).lookup ("lines" : Str) = none := by kernel_rfl
theorem no_known (k : Know) : (dKnow k).lookup ("known_up_to" : Str) = none := by kernel_rfl
theorem no_write (k : Know) : (dKnow k).lookup ("write" : Str) = none := by kernel_rfl
theorem no_drop (k : Know) : (dKnow k).lookup ("drop" : Str) = none := by kernel_rfl
theorem no_move (k : Know) : (dKnow k).lookup ("move" : Str) = none := by kernel_rfl
theorem got_write (F : Mfn K C "write" "Knowledge.write" (sKnow 6) ["self", "me", "place", "content", "line", "replaces"]) (T : KCls K C) (G1 : GotM P w K mg base C "make" 2 3 (RMake C)) (G2 : GotM P w K mg base C "next_id" 1 2 (RNextId C)) (nT : mg "tuple" = none) : GotM P w K mg base C "write" 3 6 (RWrite C) := by
  refine F.got sc_write rfl fun f cdv A outer s H E ds m Q hr h => ?_
  obtain ⟨a, k, me, p, c, mt, rs, rfl, hm, l1, l2, hQ⟩ := h
  exact w_one (s_ret (ev_gotm G1 hr T.cl (ev_name 0) hm (no_make k) (ea_cons (ev_name 1) (ea_cons (ev_tup (ea_cons ev_str (ea_cons (ev_gotm G2 (hr.mono (by decide)) T.cl (ev_name 0) hm (no_next_id k) (ea_cons (ev_name 1) ea_nil) rfl ⟨a, k, me, rfl, hm, rfl, rfl⟩) (ea_cons (ev_name 2) (ea_cons (ev_name 3) (ea_cons (ev_name 4) (ea_cons (ev_callTy (ea_cons (ev_name 5) ea_nil) (cd_tuple rfl) nT (by decide +kernel)) ea_nil))))))) ea_nil)) rfl
    ⟨a, k, me, .write (k.clock + 1, me) p c mt rs, rfl, hm, l1, l2, rfl, rfl⟩) hQ)
def RDrop (C : Addr) : Con' := fun ds m Q => ∃ a k me rs, ds = [.loc a, .int me, dIds rs] ∧ m a = some (.ins C (dKnow k)) ∧ k.rest.length ≤ 500 ∧ k.knows.length ≤ 500 ∧ Q (dEdit (.drop (k.clock + 1, me) rs)) (m.put a (.ins C (dKnow (k.make me (.drop (k.clock + 1, me) rs)))))
theorem sc_drop : FnScope ["self", "me", "replaces"] ["self", "me", "replaces"] (defScope (sKnow 7)) := ⟨rfl, rfl, rfl, by decide +kernel, rfl, by decide +kernel, by decide +kernel⟩
theorem got_drop (F : Mfn K C "drop" "Knowledge.drop" (sKnow 7) ["self", "me", "replaces"]) (T : KCls K C) (G1 : GotM P w K mg base C "make" 2 3 (RMake C)) (G2 : GotM P w K mg base C "next_id" 1 2 (RNextId C)) (nT : mg "tuple" = none) : GotM P w K mg base C "drop" 3 3 (RDrop C) := by
  refine F.got sc_drop rfl fun f cdv A outer s H E ds m Q hr h => ?_
  obtain ⟨a, k, me, rs, rfl, hm, l1, l2, hQ⟩ := h
  exact w_one (s_ret (ev_gotm G1 hr T.cl (ev_name 0) hm (no_make k) (ea_cons (ev_name 1) (ea_cons (ev_tup (ea_cons ev_str (ea_cons (ev_gotm G2 (hr.mono (by decide)) T.cl (ev_name 0) hm (no_next_id k) (ea_cons (ev_name 1) ea_nil) rfl ⟨a, k, me, rfl, hm, rfl, rfl⟩) (ea_cons (ev_callTy (ea_cons (ev_name 2) ea_nil) (cd_tuple rfl) nT (by decide +kernel)) ea_nil)))) ea_nil)) rfl
    ⟨a, k, me, .drop (k.clock + 1, me) rs, rfl, hm, l1, l2, rfl, rfl⟩) hQ)
def RMove (C : Addr) : Con' := fun ds m Q => ∃ a k me ms, ds = [.loc a, .int me, .tup (ms.map dMoved)] ∧ m a = some (.ins C (dKnow k)) ∧ k.rest.length ≤ 500 ∧ k.knows.length ≤ 500 ∧ Q (dEdit (.move (k.clock + 1, me) ms)) (m.put a (.ins C (dKnow (k.make me (.move (k.clock + 1, me) ms)))))
theorem sc_move : FnScope ["self", "me", "moved"] ["self", "me", "moved"] (defScope (sKnow 8)) := ⟨rfl, rfl, rfl, by decide +kernel, rfl, by decide +kernel, by decide +kernel⟩
theorem got_move (F : Mfn K C "move" "Knowledge.move" (sKnow 8) ["self", "me", "moved"]) (T : KCls K C) (G1 : GotM P w K mg base C "make" 2 3 (RMake C)) (G2 : GotM P w K mg base C "next_id" 1 2 (RNextId C)) (nT : mg "tuple" = none) : GotM P w K mg base C "move" 3 3 (RMove C) := by
  refine F.got sc_move rfl fun f cdv A outer s H E ds m Q hr h => ?_
  obtain ⟨a, k, me, ms, rfl, hm, l1, l2, hQ⟩ := h
  exact w_one (s_ret (ev_gotm G1 hr T.cl (ev_name 0) hm (no_make k) (ea_cons (ev_name 1) (ea_cons (ev_tup (ea_cons ev_str (ea_cons (ev_gotm G2 (hr.mono (by decide)) T.cl (ev_name 0) hm (no_next_id k) (ea_cons (ev_name 1) ea_nil) rfl ⟨a, k, me, rfl, hm, rfl, rfl⟩) (ea_cons (ev_callTy (ea_cons (ev_name 2) ea_nil) (cd_tuple rfl) nT (by decide +kernel)) ea_nil)))) ea_nil)) rfl
    ⟨a, k, me, .move (k.clock + 1, me) ms, rfl, hm, l1, l2, rfl, rfl⟩) hQ)
end
end FK
/-! Walks: hearing, telling, forgetting. -/
namespace FK
open PySem PySem.Spec PyProof.Rows L2 DL
section
variable {P : Program} {w : World} {K : PySem.W.Frag} {mg : Str → Option Value} {base : Heap} {C : Addr}
/-! can_hear(knowledge, me, news) -/
structure HearOk (k : Know) (me : Int) (n : News) : Prop where
  ok : NewsOk n
  me : clockIn n.knows me ≤ clockIn k.knows me
  dev : n.knows.map (·.1) = k.knows.map (·.1)
  dl : k.knows.length ≤ 500
  si : ∀ p ∈ n.since, p.2 ≤ clockIn k.knows p.1
def RCanHear (C : Addr) : Con' := fun ds m Q => ∃ a k me n, ds = [.loc a, .int me, dNews n] ∧ m a = some (.ins C (dKnow k)) ∧ HearOk k me n ∧ Q (.bl true) m
theorem sc_can_hear : FnScope ["knowledge", "me", "news", "knows", "device", "clock", "_"] ["knowledge", "me", "news"] (defScope (topS 29)) := ⟨rfl, rfl, rfl, by decide +kernel, rfl, by decide +kernel, by decide +kernel⟩
theorem lay_ints (ns : List Int) : (Da.lst (ns.map Da.int)).py.canLay0 = true := by
  show PyData.canLay0 (.list (pyAll (ns.map Da.int))) = true
  simp only [PyData.canLay0]
  exact lay_all (fun i => by simp [Da.py, PyData.canLay0]) ns
theorem shp_ints (ns : List Int) : (Da.lst (ns.map Da.int)).shp := shp_of (lay_ints ns) (by
  have h : PyData.depthAll (pyAll (ns.map Da.int)) ≤ 0 := dep_all (fun i => by simp [Da.py, PyData.depth]) ns
  show PyData.depth (.list (pyAll (ns.map Da.int))) ≤ 64
  simp only [PyData.depth]
  omega)
theorem got_can_hear (F : Dfn K mg "can_hear" (topS 29) ["knowledge", "me", "news"]) (T : KCls K C) (G1 : Got P w K mg base "news_sound" 5 1 RNewsSound) (G2 : Got P w K mg base "clock_in" 1 2 RClockIn) (G3 : GotM P w K mg base C "known_up_to" 2 2 (RKnownUpTo C)) : Got P w K mg base "can_hear" 6 3 (RCanHear C) := by
  refine F.got sc_can_hear rfl fun f cdv A outer s H E ds m Q hr h => ?_
  obtain ⟨a, k, me, n, rfl, hm, ok, hQ⟩ := h
  have nd := sc_can_hear.nd
  have hu := hr.units
  refine w_cons (s_if (b := false) (et_not (k := true) (et_val (ev_got G1 hr (ea_cons (ev_name 2) ea_nil) rfl ⟨n, rfl, ok.ok, rfl, rfl⟩))) (fun z => by cases z) fun _ => w_nil ?_)
  refine w_cons (s_set (i := 3) (ev_ix (ev_name 2) ev_int rfl (by decide) rfl) ?_ nd)
  refine w_cons (s_if (b := false) (et_cmp (x := .int (clockIn n.knows me)) (y := .int (clockIn k.knows me)) (ev_got G2 (hr.mono (by decide)) (ea_cons (ev_name 3) (ea_cons (ev_name 1) ea_nil)) rfl ⟨true, n.knows, me, rfl, rfl, rfl⟩) (ev_gotm G3 (hr.mono (by decide)) T.cl (ev_name 0) hm (no_known k) (ea_cons (ev_name 1) ea_nil) rfl ⟨a, k, me, rfl, hm, rfl, rfl⟩) (od_to od_gt (decide_eq_false (by have := ok.me; omega)))) (fun z => by cases z) fun _ => w_nil ?_)
  have e1 : (n.knows.map fun p => Da.int p.1) = (n.knows.map (·.1)).map Da.int := by rw [List.map_map]; rfl
  have e2 : (k.knows.map fun p => Da.int p.1) = (n.knows.map (·.1)).map Da.int := by rw [ok.dev, List.map_map]; rfl
  have ln : n.knows.length ≤ 500 := by
    have := congrArg List.length ok.dev
    rw [List.length_map, List.length_map] at this
    have := ok.dl
    omega
  refine w_cons (s_if (b := false) (et_cmp (x := .lst ((n.knows.map (·.1)).map Da.int)) (y := .lst ((n.knows.map (·.1)).map Da.int)) (by
    rw [← e1]
    refine ev_lcM [("device", 4), ("_", 6)] (.tp [4, 6]) (fun p : Int × Int => Da.int p.1) nd (it_tup (ev_name 3)) (fun Y hY => ?_) (by omega) fun p _ => ⟨_, rfl, fun m' _ Y hY => ?_⟩
    · obtain ⟨s', H', C', cl, fp, rfl⟩ := hY
      exact tg_tp rfl (tgs_cons nd (tgs_cons nd tgs_nil))
    · obtain ⟨s', H', C', cl, fp, rfl⟩ := hY
      exact ev_name 4) (by
    rw [← e2]
    refine ev_lcM [("device", 4), ("_", 6)] (.tp [4, 6]) (fun p : Int × Int => Da.int p.1) nd (it_lst (ev_fld (ev_name 0) hm (fl_knows k) T.cl T.nK)) (fun Y hY => ?_) (by have := ok.dl; omega) fun p _ => ⟨_, rfl, fun m' _ Y hY => ?_⟩
    · obtain ⟨s', H', C', cl, fp, rfl⟩ := hY
      exact tg_tp rfl (tgs_cons nd (tgs_cons nd tgs_nil))
    · obtain ⟨s', H', C', cl, fp, rfl⟩ := hY
      exact ev_name 4) (od_to (od_neD hu (shp_ints _) (shp_ints _)) (by rw [SeqAt.eqv_refl _ (lay_ints _)]; rfl))) (fun z => by cases z) fun _ => w_nil ?_)
  refine w_cons (s_for (t := .tp [4, 5]) (it_tup (ev_ix (ev_name 2) ev_int rfl (by decide) rfl)) (tg_tp rfl (tgs_cons nd (tgs_cons nd tgs_nil))) ?_)
  refine for_ind (fun zs r m' => ∃ v4 v5, r = [some (.loc a), some (.int me), some (dNews n), some (.tup (n.knows.map dId)), v4, v5, none] ∧ m = m' ∧ ∀ z ∈ zs, z ∈ n.since) ⟨none, none, rfl, rfl, fun _ h => h⟩ ?_ ?_
  · rintro _ _ ⟨v4, v5, rfl, rfl, _⟩
    exact ⟨trivial, w_one (s_ret ev_bl hQ)⟩
  · rintro p zs _ _ ⟨v4, v5, rfl, rfl, hz⟩
    have hp := ok.si p (hz p List.mem_cons_self)
    exact ⟨trivial, _, rfl, w_one (s_if (b := false) (et_cmp (x := .int p.2) (y := .int (clockIn k.knows p.1)) (ev_name 5) (ev_gotm G3 (hr.mono (by decide)) T.cl (ev_name 0) hm (no_known k) (ea_cons (ev_name 4) ea_nil) rfl ⟨a, k, p.1, rfl, hm, rfl, rfl⟩) (od_to od_gt (decide_eq_false (by omega)))) (fun z => by cases z) fun _ => w_nil ⟨_, _, rfl, rfl, fun z h => hz z (List.mem_cons_of_mem _ h)⟩)⟩
/-! joined_edits(own, others) -/
def RJoined : Con' := fun ds m Q => ∃ own others, ds = [.lst (own.map dEdit), .tup (others.map dEdit)] ∧ own.length + others.length ≤ 500 ∧ Q (.lst ((joined own others).map dEdit)) m
theorem sc_joined : FnScope ["own", "others", "result", "at", "edit"] ["own", "others"] (defScope (topS 30)) := ⟨rfl, rfl, rfl, by decide +kernel, rfl, by decide +kernel, by decide +kernel⟩
theorem take_skip (os : List Edit) (i : Id) : takeLt os i ++ skipLt os i = os := by
  induction os with
  | nil => rfl
  | cons o os ih =>
    unfold takeLt skipLt
    by_cases h : idLt o.id i = true
    · rw [if_pos h, if_pos h, List.cons_append, ih]
    · rw [if_neg h, if_neg h]; rfl
theorem got_joined (F : Dfn K mg "joined_edits" (topS 30) ["own", "others"]) (nL : mg "len" = none) (nI : mg "list" = none) : Got P w K mg base "joined_edits" 1 2 RJoined := by
  refine F.got sc_joined rfl fun f cdv A outer s H E ds m Q hr h => ?_
  obtain ⟨own, others, rfl, hl, hQ⟩ := h
  have nd := sc_joined.nd
  have hu := hr.units
  have hu0 := hr.units0
  refine w_cons (s_newlist (i := 2) nd fun p hp => ?_)
  refine w_cons (s_set (i := 3) ev_int ?_ nd)
  refine w_cons (s_for (t := .nm 4) (it_lst (ev_name 0)) (tg_nm nd) ?_)
  -- at: how many of the others are behind us
  refine for_ind (fun zs r m' => ∃ (acc : List Edit) (c : Nat) (os : List Edit) (v : Option Da), r = [some (.lst (own.map dEdit)), some (.tup (others.map dEdit)), some (.loc p), some (.int (c : Int)), v] ∧ m' = m.put p (.lst (acc.map dEdit)) ∧ others.drop c = os ∧ c ≤ others.length ∧ acc ++ joined zs os = joined own others ∧ acc.length + zs.length ≤ own.length + c) ⟨[], 0, others, none, rfl, rfl, rfl, Nat.zero_le _, rfl, by simp⟩ ?_ ?_
  · rintro _ _ ⟨acc, c, os, v, rfl, rfl, hd, hc, q, hq⟩
    refine ⟨trivial, w_melt 2 hp rfl (w_one (s_ret (ev_bin (ev_name 2) (ev_callTy (ea_cons (ev_cutT (i := c) (ev_name 1) (ev_name 3)) ea_nil) (cd_list rfl) nI (by decide +kernel)) (od_cat (Nat.le_of_lt (small1000 (by rw [List.length_map, List.length_drop, List.length_map]; simp at hq; omega))))) ?_))⟩
    have e : acc.map dEdit ++ (others.map dEdit).drop c = (joined own others).map dEdit := by
      rw [← q, List.map_append, ← List.map_drop, hd]; rfl
    rw [e]
    exact hQ
  · rintro z zs _ _ ⟨acc, c, os, v, rfl, rfl, hd, hc, q, hq⟩
    rw [List.length_cons] at hq
    refine ⟨trivial, _, rfl, w_cons ?_⟩
    -- the while: the others that are less go ahead
    have wh : ∀ {X : Cx} {cnd : Expr} {body : List Stmt} {D : DE} (os : List Edit) (acc : List Edit) (c : Nat), others.drop c = os → c ≤ others.length → acc.length + zs.length + 1 ≤ own.length + c →
        (∀ (acc : List Edit) (c : Nat) (o : Edit) (os' : List Edit), others.drop c = o :: os' → EvT X cnd [some (.lst (own.map dEdit)), some (.tup (others.map dEdit)), some (.loc p), some (.int (c : Int)), some (dEdit z)] (m.put p (.lst (acc.map dEdit))) (idLt o.id z.id) (m.put p (.lst (acc.map dEdit)))) →
        (∀ (acc : List Edit) (c : Nat), others.drop c = [] → c ≤ others.length → EvT X cnd [some (.lst (own.map dEdit)), some (.tup (others.map dEdit)), some (.loc p), some (.int (c : Int)), some (dEdit z)] (m.put p (.lst (acc.map dEdit))) false (m.put p (.lst (acc.map dEdit)))) →
        (∀ (acc : List Edit) (c : Nat) (o : Edit) (os' : List Edit) (D' : DE), others.drop c = o :: os' → acc.length ≤ 600 → D'.nx [some (.lst (own.map dEdit)), some (.tup (others.map dEdit)), some (.loc p), some (.int ((c + 1 : Nat) : Int)), some (dEdit z)] (m.put p (.lst ((acc ++ [o]).map dEdit))) → ExW X body [some (.lst (own.map dEdit)), some (.tup (others.map dEdit)), some (.loc p), some (.int (c : Int)), some (dEdit z)] (m.put p (.lst (acc.map dEdit))) D') →
        (∀ c', others.drop c' = skipLt os z.id → c' ≤ others.length → (acc ++ takeLt os z.id).length + zs.length + 1 ≤ own.length + c' → D.nx [some (.lst (own.map dEdit)), some (.tup (others.map dEdit)), some (.loc p), some (.int (c' : Int)), some (dEdit z)] (m.put p (.lst ((acc ++ takeLt os z.id).map dEdit)))) →
        WhW X cnd body (os.length + 1) [some (.lst (own.map dEdit)), some (.tup (others.map dEdit)), some (.loc p), some (.int (c : Int)), some (dEdit z)] (m.put p (.lst (acc.map dEdit))) D := by
      intro X cnd body D os
      induction os with
      | nil =>
        intro acc c hd hc hq t1 t2 t3 fin
        refine ⟨false, _, t2 acc c hd hc, fun z => (by cases z), fun _ => ?_⟩
        have := fin c hd hc (by rw [takeLt, List.append_nil]; exact hq)
        rw [takeLt, List.append_nil] at this
        exact this
      | cons o os ih =>
        intro acc c hd hc hq t1 t2 t3 fin
        have hlt : c < others.length := by
          have := congrArg List.length hd
          rw [List.length_drop, List.length_cons] at this
          omega
        have hd1 : others.drop (c + 1) = os := by
          rw [← List.drop_drop, hd]; rfl
        refine ⟨idLt o.id z.id, _, t1 acc c o os hd, fun e => ?_, fun e => ?_⟩
        · refine t3 acc c o os _ hd (by omega) ?_
          refine ih (acc ++ [o]) (c + 1) hd1 hlt (by rw [List.length_append, List.length_singleton]; omega) t1 t2 t3 fun c' a1 a2 a3 => ?_
          have e1 : acc ++ [o] ++ takeLt os z.id = acc ++ takeLt (o :: os) z.id := by
            rw [takeLt, if_pos e, List.append_assoc]; rfl
          rw [e1] at a3 ⊢
          refine fin c' (by rw [skipLt, if_pos e]; exact a1) a2 a3
        · have e0 : ¬ idLt o.id z.id = true := by rw [e]; exact Bool.false_ne_true
          have e1 : acc ++ takeLt (o :: os) z.id = acc := by rw [takeLt, if_neg e0, List.append_nil]
          have := fin c (by rw [skipLt, if_neg e0]; exact hd) hc (by rw [e1]; exact hq)
          rw [e1] at this
          exact this
    have at_ : ∀ {c : Nat} {o : Edit} {os' : List Edit}, others.drop c = o :: os' → (others.map dEdit)[(c : Int).toNat]? = some (dEdit o) := fun {c o os'} h => by
      have : others[c]? = some o := by
        have := congrArg (fun l : List Edit => l[0]?) h
        rw [List.getElem?_drop] at this
        simpa using this
      rw [Int.toNat_natCast, List.getElem?_map, this]; rfl
    have lt_ : ∀ {c : Nat} {o : Edit} {os' : List Edit}, others.drop c = o :: os' → decide ((c : Int) < ((others.map dEdit).length : Int)) = true := fun {c o os'} h => by
      have := congrArg List.length h
      rw [List.length_drop, List.length_cons] at this
      exact decide_eq_true (by rw [List.length_map]; omega)
    have ge_ : ∀ {c : Nat}, others.drop c = [] → c ≤ others.length → decide ((c : Int) < ((others.map dEdit).length : Int)) = false := fun {c} h h2 => by
      have := congrArg List.length h
      rw [List.length_drop, List.length_nil] at this
      exact decide_eq_false (by rw [List.length_map]; omega)
    refine s_while _ (wh os acc c hd hc (by omega) (fun acc c o os' h => ?_) (fun acc c h h2 => ?_) (fun acc c o os' D' h h2 hn => ?_) fun c' a1 a2 a3 => ?_)
    · exact et_p (ep_andT (et_cmp (ev_name 3) (ev_callB (ea_cons (ev_name 1) ea_nil) (cd_len rfl) nL PySem.boot_len) (od_to od_lt (lt_ h))) (ep_and1 (et_cmp (ev_eid (ev_ix (ev_name 1) (ev_name 3) rfl (by omega) (at_ h)) ev_int) (ev_eid (ev_name 4) ev_int) (od_lt_id hu0))))
    · exact et_p (ep_andF (et_cmp (ev_name 3) (ev_callB (ea_cons (ev_name 1) ea_nil) (cd_len rfl) nL PySem.boot_len) (od_to od_lt (ge_ h h2))))
    · refine w_cons (s_append (ev_name 2) (ev_ix (ev_name 1) (ev_name 3) rfl (by omega) (at_ h)) ⟨_, Mem.put_same⟩ Mem.put_same (by rw [List.length_map]; omega) ?_)
      refine w_one (s_set (i := 3) (ev_bin (ev_name 3) ev_int od_add) ?_ nd)
      rw [Mem.put_put]
      have e : acc.map dEdit ++ [dEdit o] = (acc ++ [o]).map dEdit := by rw [List.map_append]; rfl
      rw [e]
      exact hn
    · -- behind the while
      have q2 : acc ++ (takeLt os z.id ++ z :: joined zs (skipEq (skipLt os z.id) z.id)) = joined own others := q
      have lacc : (acc ++ takeLt os z.id).length ≤ 600 := by omega
      refine w_cons ?_
      refine s_ifj (m1 := m.put p (.lst ((acc ++ takeLt os z.id).map dEdit))) (b := match skipLt os z.id with
        | [] => false
        | o :: _ => decide (o.id = z.id)) (I := fun r1 m1 => ∃ c'' : Nat, r1 = [some (.lst (own.map dEdit)), some (.tup (others.map dEdit)), some (.loc p), some (.int (c'' : Int)), some (dEdit z)] ∧ m1 = m.put p (.lst ((acc ++ takeLt os z.id).map dEdit)) ∧ others.drop c'' = skipEq (skipLt os z.id) z.id ∧ c' ≤ c'' ∧ c'' ≤ others.length) ?_ (fun e => ?_) (fun e => ?_) ?_
      · cases hs : skipLt os z.id with
        | nil => exact et_p (ep_andF (et_cmp (ev_name 3) (ev_callB (ea_cons (ev_name 1) ea_nil) (cd_len rfl) nL PySem.boot_len) (od_to od_lt (ge_ (by rw [a1, hs]) a2))))
        | cons o os' =>
          have h : others.drop c' = o :: os' := by rw [a1, hs]
          exact et_p (ep_andT (et_cmp (ev_name 3) (ev_callB (ea_cons (ev_name 1) ea_nil) (cd_len rfl) nL PySem.boot_len) (od_to od_lt (lt_ h))) (ep_and1 (et_cmp (ev_eid (ev_ix (ev_name 1) (ev_name 3) rfl (by omega) (at_ h)) ev_int) (ev_eid (ev_name 4) ev_int) (od_eq_id hu))))
      · cases hs : skipLt os z.id with
        | nil => rw [hs] at e; cases e
        | cons o os' =>
          rw [hs] at e a1
          have e' : o.id = z.id := of_decide_eq_true e
          have hlt : c' < others.length := by
            have := congrArg List.length a1
            rw [List.length_drop, List.length_cons] at this
            omega
          refine w_one (s_set (i := 3) (ev_bin (ev_name 3) ev_int od_add) ⟨c' + 1, rfl, rfl, ?_, by omega, hlt⟩ nd)
          rw [skipEq, if_pos e', ← List.drop_drop, a1]; rfl
      · refine w_nil ⟨c', rfl, rfl, ?_, Nat.le_refl _, a2⟩
        rw [a1]
        cases hs : skipLt os z.id with
        | nil => rfl
        | cons o os' =>
          rw [hs] at e
          rw [skipEq, if_neg (of_decide_eq_false e)]
      · rintro _ _ ⟨c'', rfl, rfl, b1, b2, b3⟩
        refine w_one (s_append (ev_name 2) (ev_name 4) ⟨_, Mem.put_same⟩ Mem.put_same (by rw [List.length_map]; omega) ?_)
        have e : (acc ++ takeLt os z.id).map dEdit ++ [dEdit z] = (acc ++ takeLt os z.id ++ [z]).map dEdit := by rw [List.map_append (l₂ := [z])]; rfl
        refine ⟨acc ++ takeLt os z.id ++ [z], c'', _, _, rfl, by rw [Mem.put_put, e], b1, b3, ?_, ?_⟩
        · rw [← q2]; simp
        · rw [List.length_append, List.length_singleton]; omega
end
end FK
/-! Walks: hear_news, news_for, forget_up_to, forget. -/
namespace FK
open PySem PySem.Spec PyProof.Rows L2 DL
theorem skipLt_len (os : List Edit) (i : Id) : (takeLt os i).length + (skipLt os i).length = os.length := by
  have := congrArg List.length (take_skip os i)
  rwa [List.length_append] at this
theorem skipEq_len (os : List Edit) (i : Id) : (skipEq os i).length ≤ os.length := by
  cases os with
  | nil => exact Nat.le_refl _
  | cons o os =>
    show (if o.id = i then os else o :: os).length ≤ (o :: os).length
    split
    · exact Nat.le_succ _
    · exact Nat.le_refl _
theorem joined_len : ∀ (own others : List Edit), (joined own others).length ≤ own.length + others.length
  | [], os => by simp [joined]
  | e :: es, os => by
    have h1 := joined_len es (skipEq (skipLt os e.id) e.id)
    have h2 := skipLt_len os e.id
    have h3 := skipEq_len (skipLt os e.id) e.id
    simp only [joined, List.length_append, List.length_cons]
    omega
section
variable {P : Program} {w : World} {K : PySem.W.Frag} {mg : Str → Option Value} {base : Heap} {C : Addr}
/-! hear_news(knowledge, me, news) -/
def RHear (C : Addr) : Con' := fun ds m Q => ∃ a k me n, ds = [.loc a, .int me, dNews n] ∧ m a = some (.ins C (dKnow k)) ∧ HearOk k me n ∧ k.rest.length + n.rest.length ≤ 400 ∧ Q (.bl true) (m.put a (.ins C (dKnow (k.hear me n))))
theorem sc_hear : FnScope ["knowledge", "me", "news", "_", "clock", "base", "upto", "rest", "knows", "edits", "greater", "edit", "device", "old"] ["knowledge", "me", "news"] (defScope (topS 31)) := ⟨rfl, rfl, rfl, by decide +kernel, rfl, by decide +kernel, by decide +kernel⟩
theorem got_hear (F : Dfn K mg "hear_news" (topS 31) ["knowledge", "me", "news"]) (T : KCls K C) (G1 : Got P w K mg base "can_hear" 6 3 (RCanHear C)) (G2 : Got P w K mg base "joined_edits" 1 2 RJoined) (G3 : Got P w K mg base "clock_in" 1 2 RClockIn) (G4 : Got P w K mg base "with_clock" 1 3 RWithClock) (nI : mg "list" = none) (nM : mg "max" = none) : Got P w K mg base "hear_news" 7 3 (RHear C) := by
  refine F.got sc_hear rfl fun f cdv A outer s H E ds m Q hr h => ?_
  obtain ⟨a, k, me, n, rfl, hm, ok, hl, hQ⟩ := h
  have nd := sc_hear.nd
  have ne0 : ∀ {b c : Addr}, True := trivial
  refine w_cons (s_if (b := false) (et_not (k := true) (et_val (ev_got G1 hr (ea_cons (ev_name 0) (ea_cons (ev_name 1) (ea_cons (ev_name 2) ea_nil))) rfl ⟨a, k, me, n, rfl, hm, ok, rfl, rfl⟩))) (fun z => by cases z) fun _ => w_nil ?_)
  refine w_cons (s_untup (t := .tp [3, 4, 5, 6, 7, 8, 3]) (ev_name 2) (tg_tp rfl (tgs_cons nd (tgs_cons nd (tgs_cons nd (tgs_cons nd (tgs_cons nd (tgs_cons nd (tgs_cons nd tgs_nil)))))))) rfl ?_)
  have eta : k = ⟨k.clock, k.base, k.upto, k.rest, k.knows⟩ := rfl
  refine w_cons ?_
  refine s_ifj (b := decide (k.upto < n.upto)) (m1 := m) (I := fun r1 m1 => r1 = [some (.loc a), some (.int me), some (dNews n), some (.tup (n.since.map dId)), some (.int n.clock), some (.tup (n.base.map dLine)), some (.int n.upto), some (.tup (n.rest.map dEdit)), some (.tup (n.knows.map dId)), none, none, none, none, none] ∧
    m1 = m.put a (.ins C (dKnow ⟨k.clock, if k.upto < n.upto then n.base else k.base, if k.upto < n.upto then n.upto else k.upto, k.rest, k.knows⟩))) (et_cmp (ev_fld (ev_name 0) hm (fl_upto k) T.cl T.nU) (ev_name 6) od_lt) (fun e => ?_) (fun e => ?_) ?_
  · have e' : k.upto < n.upto := of_decide_eq_true e
    rw [if_pos e', if_pos e']
    refine w_cons (s_fld (ev_callTy (ea_cons (ev_name 5) ea_nil) (cd_list rfl) nI (by decide +kernel)) (ev_name 0) hm T.cl T.nB (dk_len k) ?_)
    rw [pt_base]
    refine w_one (s_fld (ev_name 6) (ev_name 0) Mem.put_same T.cl T.nU (dk_len _) ?_)
    rw [pt_upto, Mem.put_put]
    exact ⟨rfl, rfl⟩
  · have e' : ¬ k.upto < n.upto := of_decide_eq_false e
    rw [if_neg e', if_neg e']
    exact w_nil ⟨rfl, (Mem.put_self hm).symm⟩
  · rintro _ _ ⟨rfl, rfl⟩
    generalize hb : (if k.upto < n.upto then n.base else k.base) = b
    generalize hu : (if k.upto < n.upto then n.upto else k.upto) = u
    have hQ1 : Q (.bl true) (m.put a (.ins C (dKnow ⟨imax k.clock n.clock, b, u, (joined k.rest n.rest).filter (fun e => decide (u < e.id.1)), withClock (k.knows.map fun p => (p.1, imax p.2 (clockIn n.knows p.1))) me (imax k.clock n.clock)⟩))) := by
      rw [← hb, ← hu]; exact hQ
    have lk := ok.dl
    have lj := joined_len k.rest n.rest
    have hm1 : ∀ {c : Cell}, (m.put a c) a = some c := Mem.put_same
    refine w_cons (s_set (i := 9) (ev_got G2 (hr.mono (by decide)) (ea_cons (ev_fld (ev_name 0) hm1 (fl_rest _) T.cl T.nR) (ea_cons (ev_name 7) ea_nil)) rfl ⟨k.rest, n.rest, rfl, by omega, rfl, rfl⟩) ?_ nd)
    refine w_cons (s_fld (ev_lcF [("edit", 11)] (.nm 11) (fun e : Edit => decide (u < e.id.1)) dEdit nd (it_lst (ev_name 9)) (fun Y hY => ?_) (by omega) fun e _ => ⟨_, rfl, fun m' hm' Y hY => ?_, fun m' hm' Y hY => ?_⟩) (ev_name 0) hm1 T.cl T.nR (dk_len _) ?_)
    · obtain ⟨s', H', C', cl, fp, rfl⟩ := hY
      exact tg_nm nd
    · obtain ⟨s', H', C', cl, fp, rfl⟩ := hY
      exact et_cmp (x := .int e.id.1) (y := .int u) (ev_ix (ev_eid (ev_name 11) ev_int) ev_int rfl (by decide) rfl) (ev_fld (ev_name 0) (hm' _ _ hm1) (fl_upto _) T.cl T.nU) od_gt
    · obtain ⟨s', H', C', cl, fp, rfl⟩ := hY
      exact ev_name 11
    rw [pt_rest, Mem.put_put]
    refine w_cons (s_fld (ev_callB (ea_cons (ev_fld (ev_name 0) hm1 (fl_clock _) T.cl T.nC) (ea_cons (ev_name 4) ea_nil)) (cd_max2 rfl) nM (by decide +kernel)) (ev_name 0) hm1 T.cl T.nC (dk_len _) ?_)
    rw [pt_clock, Mem.put_put]
    refine w_cons (s_setLcM (i := 10) [("device", 12), ("old", 13)] (.tp [12, 13]) (fun p : Int × Int => dId (p.1, imax p.2 (clockIn n.knows p.1))) nd (it_lst (ev_fld (ev_name 0) hm1 (fl_knows _) T.cl T.nK)) (fun Y hY => ?_) (by show k.knows.length < 1000; omega) (fun p _ => ⟨_, rfl, fun m' hm' Y hY => ?_⟩) ?_)
    · obtain ⟨s', H', C', cl, fp, rfl⟩ := hY
      exact tg_tp rfl (tgs_cons nd (tgs_cons nd tgs_nil))
    · obtain ⟨s', H', C', cl, fp, rfl⟩ := hY
      exact ev_tup (ea_cons (ev_name 12) (ea_cons (ev_callB (ea_cons (ev_name 13) (ea_cons (ev_got G3 (hr.mono (by decide)) (ea_cons (ev_name 8) (ea_cons (ev_name 12) ea_nil)) rfl ⟨true, n.knows, p.1, rfl, rfl, rfl⟩) ea_nil)) (cd_max2 rfl) nM (by decide +kernel)) ea_nil))
    have e3 : (k.knows.map fun p : Int × Int => dId (p.1, imax p.2 (clockIn n.knows p.1))) = (k.knows.map fun p => (p.1, imax p.2 (clockIn n.knows p.1))).map dId := by rw [List.map_map]; rfl
    refine w_cons (s_fld (ev_got G4 (hr.mono (by decide)) (ea_cons (ev_name 10) (ea_cons (ev_name 1) (ea_cons (ev_fld (ev_name 0) hm1 (fl_clock _) T.cl T.nC) ea_nil))) rfl ⟨false, k.knows.map fun p => (p.1, imax p.2 (clockIn n.knows p.1)), me, imax k.clock n.clock, by show _ = [Da.lst _, _, _]; rw [← e3]; rfl, by rw [List.length_map]; omega, rfl, rfl⟩) (ev_name 0) hm1 T.cl T.nK (dk_len _) ?_)
    refine w_one (s_ret ev_bl ?_)
    have e4 := pt_knows ⟨imax k.clock n.clock, b, u, (joined k.rest n.rest).filter (fun e => decide (u < e.id.1)), k.knows⟩ (withClock (k.knows.map fun p => (p.1, imax p.2 (clockIn n.knows p.1))) me (imax k.clock n.clock))
    rw [Mem.put_put]
    show Q (.bl true) (m.put a (.ins C (putD "knows" (.lst ((withClock (k.knows.map fun p => (p.1, imax p.2 (clockIn n.knows p.1))) me (imax k.clock n.clock)).map dId)) (dKnow ⟨imax k.clock n.clock, b, u, (joined k.rest n.rest).filter (fun e => decide (u < e.id.1)), k.knows⟩))))
    rw [e4]
    exact hQ1
/-! news_for(knowledge, since) -/
def RNewsFor (C : Addr) : Con' := fun ds m Q => ∃ a k since, ds = [.loc a, dClocks false since] ∧ m a = some (.ins C (dKnow k)) ∧ k.rest.length ≤ 500 ∧ k.knows.length ≤ 500 ∧ Q (dNews (newsFor k since)) m
theorem sc_news_for : FnScope ["knowledge", "since", "rest", "base", "upto", "edit", "device", "_"] ["knowledge", "since"] (defScope (topS 32)) := ⟨rfl, rfl, rfl, by decide +kernel, rfl, by decide +kernel, by decide +kernel⟩
theorem got_news_for (F : Dfn K mg "news_for" (topS 32) ["knowledge", "since"]) (T : KCls K C) (G1 : Got P w K mg base "clock_in" 1 2 RClockIn) (nT : mg "tuple" = none) (nA : mg "all" = none) : Got P w K mg base "news_for" 2 2 (RNewsFor C) := by
  refine F.got sc_news_for rfl fun f cdv A outer s H E ds m Q hr h => ?_
  obtain ⟨a, k, since, rfl, hm, l1, l2, hQ⟩ := h
  have nd := sc_news_for.nd
  refine w_cons (s_setLcF (i := 2) [("edit", 5)] (.nm 5) (fun e : Edit => decide (clockIn since e.id.2 < e.id.1)) dEdit nd (it_lst (ev_fld (ev_name 0) hm (fl_rest k) T.cl T.nR)) (fun Y hY => ?_) (by omega) (fun e _ => ⟨_, rfl, fun m' hm' Y hY => ?_, fun m' hm' Y hY => ?_⟩) ?_)
  · obtain ⟨s', H', C', cl, fp, rfl⟩ := hY
    exact tg_nm nd
  · obtain ⟨s', H', C', cl, fp, rfl⟩ := hY
    exact et_cmp (x := .int e.id.1) (y := .int (clockIn since e.id.2)) (ev_ix (ev_eid (ev_name 5) ev_int) ev_int rfl (by decide) rfl) (ev_got G1 hr (ea_cons (ev_name 1) (ea_cons (ev_ix (ev_eid (ev_name 5) ev_int) ev_int rfl (by decide) rfl) ea_nil)) rfl ⟨false, since, e.id.2, rfl, rfl, rfl⟩) od_gt
  · obtain ⟨s', H', C', cl, fp, rfl⟩ := hY
    exact ev_name 5
  refine w_cons (s_set (i := 3) (ev_callTy (ea_cons (ev_fld (ev_name 0) hm (fl_base k) T.cl T.nB) ea_nil) (cd_tuple rfl) nT (by decide +kernel)) ?_ nd)
  refine w_cons (s_set (i := 4) (ev_fld (ev_name 0) hm (fl_upto k) T.cl T.nU) ?_ nd)
  have eb : (k.knows.map fun p : Int × Int => Da.bl (decide (k.upto ≤ clockIn since p.1))) = (k.knows.map fun p => decide (k.upto ≤ clockIn since p.1)).map Da.bl := by rw [List.map_map]; rfl
  have ea : (k.knows.map fun p => decide (k.upto ≤ clockIn since p.1)).all id = k.knows.all fun p => decide (k.upto ≤ clockIn since p.1) := by rw [List.all_map]; rfl
  refine w_cons ?_
  refine s_ifj (b := k.knows.all fun p => decide (k.upto ≤ clockIn since p.1)) (m1 := m) (I := fun r1 m1 => r1 = [some (.loc a), some (dClocks false since), some (.lst ((newsFor k since).rest.map dEdit)), some (.tup ((newsFor k since).base.map dLine)), some (.int (newsFor k since).upto), none, none, none] ∧ m = m1)
    (et_val (by
      rw [← ea]
      refine ev_callB (ea_cons ?_ ea_nil) (cd_all rfl) nA (by decide +kernel)
      rw [← eb]
      refine ev_lcM [("device", 6), ("_", 7)] (.tp [6, 7]) (fun p : Int × Int => Da.bl (decide (k.upto ≤ clockIn since p.1))) nd (it_lst (ev_fld (ev_name 0) hm (fl_knows k) T.cl T.nK)) (fun Y hY => ?_) (by omega) fun p _ => ⟨_, rfl, fun m' hm' Y hY => ?_⟩
      · obtain ⟨s', H', C', cl, fp, rfl⟩ := hY
        exact tg_tp rfl (tgs_cons nd (tgs_cons nd tgs_nil))
      · obtain ⟨s', H', C', cl, fp, rfl⟩ := hY
        exact ev_cmp (x := .int (clockIn since p.1)) (y := .int k.upto) (ev_got G1 hr (ea_cons (ev_name 1) (ea_cons (ev_name 6) ea_nil)) rfl ⟨false, since, p.1, rfl, rfl, rfl⟩) (ev_name 4) od_ge)) (fun e => ?_) (fun e => ?_) ?_
  · have e1 : (newsFor k since).base = [] := by show (if (k.knows.all fun p => decide (k.upto ≤ clockIn since p.1)) = true then [] else k.base) = []; rw [if_pos e]
    have e2 : (newsFor k since).upto = 0 := by show (if (k.knows.all fun p => decide (k.upto ≤ clockIn since p.1)) = true then 0 else k.upto) = 0; rw [if_pos e]
    rw [e1, e2]
    refine w_cons (s_set (i := 3) (ev_tup ea_nil) ?_ nd)
    exact w_one (s_set (i := 4) ev_int ⟨rfl, rfl⟩ nd)
  · have e' : ¬ (k.knows.all fun p => decide (k.upto ≤ clockIn since p.1)) = true := by rw [e]; exact Bool.false_ne_true
    have e1 : (newsFor k since).base = k.base := by show (if (k.knows.all fun p => decide (k.upto ≤ clockIn since p.1)) = true then [] else k.base) = k.base; rw [if_neg e']
    have e2 : (newsFor k since).upto = k.upto := by show (if (k.knows.all fun p => decide (k.upto ≤ clockIn since p.1)) = true then 0 else k.upto) = k.upto; rw [if_neg e']
    rw [e1, e2]
    exact w_nil ⟨rfl, rfl⟩
  · rintro _ _ ⟨rfl, rfl⟩
    exact w_one (s_ret (ev_tup (ea_cons ev_str (ea_cons (ev_fld (ev_name 0) hm (fl_clock k) T.cl T.nC) (ea_cons (ev_name 3) (ea_cons (ev_name 4) (ea_cons (ev_callTy (ea_cons (ev_name 2) ea_nil) (cd_tuple rfl) nT (by decide +kernel)) (ea_cons (ev_callTy (ea_cons (ev_fld (ev_name 0) hm (fl_knows k) T.cl T.nK) ea_nil) (cd_tuple rfl) nT (by decide +kernel)) (ea_cons (ev_callTy (ea_cons (ev_name 1) ea_nil) (cd_tuple rfl) nT (by decide +kernel)) ea_nil)))))))) hQ)
/-! forget_up_to(knowledge, clock) -/
def RForgetUpTo (C : Addr) : Con' := fun ds m Q => ∃ a k c, ds = [.loc a, .int c] ∧ m a = some (.ins C (dKnow k)) ∧ Foldable k ∧ Q .non (m.put a (.ins C (dKnow (k.forgetUpTo c))))
theorem sc_forget_up_to : FnScope ["knowledge", "clock", "old", "edit"] ["knowledge", "clock"] (defScope (topS 33)) := ⟨rfl, rfl, rfl, by decide +kernel, rfl, by decide +kernel, by decide +kernel⟩
theorem EdsOk.filter {ls : List Line} {es : List Edit} (h : EdsOk ls es) (p : Edit → Bool) : EdsOk ls (es.filter p) :=
  ⟨h.asc.filter _, fun e he => h.ok e (List.mem_filter.mp he).1, fun e he => h.ab e (List.mem_filter.mp he).1⟩
theorem got_forget_up_to (F : Dfn K mg "forget_up_to" (topS 33) ["knowledge", "clock"]) (T : KCls K C) (G1 : Got P w K mg base "fold_lines" 7 2 RFoldLines) (nM : mg "max" = none) : Got P w K mg base "forget_up_to" 8 2 (RForgetUpTo C) := by
  refine F.got sc_forget_up_to rfl fun f cdv A outer s H E ds m Q hr h => ?_
  obtain ⟨a, k, c, rfl, hm, ⟨n, q, hg, he, h1, h2⟩, hQ⟩ := h
  have nd := sc_forget_up_to.nd
  have hm1 : ∀ {c : Cell}, (m.put a c) a = some c := Mem.put_same
  have lf := List.length_filter_le (fun e : Edit => decide (e.id.1 ≤ c)) k.rest
  refine w_cons (s_setLcF (i := 2) [("edit", 3)] (.nm 3) (fun e : Edit => decide (e.id.1 ≤ c)) dEdit nd (it_lst (ev_fld (ev_name 0) hm (fl_rest k) T.cl T.nR)) (fun Y hY => ?_) (by omega) (fun e _ => ⟨_, rfl, fun m' hm' Y hY => ?_, fun m' hm' Y hY => ?_⟩) ?_)
  · obtain ⟨s', H', C', cl, fp, rfl⟩ := hY
    exact tg_nm nd
  · obtain ⟨s', H', C', cl, fp, rfl⟩ := hY
    exact et_cmp (x := .int e.id.1) (y := .int c) (ev_ix (ev_eid (ev_name 3) ev_int) ev_int rfl (by decide) rfl) (ev_name 1) od_le
  · obtain ⟨s', H', C', cl, fp, rfl⟩ := hY
    exact ev_name 3
  refine w_cons (s_fld (ev_got G1 hr (ea_cons (ev_fld (ev_name 0) hm (fl_base k) T.cl T.nB) (ea_cons (ev_name 2) ea_nil)) rfl ⟨false, k.base, k.rest.filter fun e => decide (e.id.1 ≤ c), n, q, rfl, hg, he.filter _, by omega, by omega, rfl, rfl⟩) (ev_name 0) hm T.cl T.nB (dk_len k) ?_)
  rw [pt_base]
  refine w_cons (s_fld (ev_lcF [("edit", 3)] (.nm 3) (fun e : Edit => decide (c < e.id.1)) dEdit nd (it_lst (ev_fld (ev_name 0) hm1 (fl_rest _) T.cl T.nR)) (fun Y hY => ?_) (by show k.rest.length < 1000; omega) (fun e _ => ⟨_, rfl, fun m' hm' Y hY => ?_, fun m' hm' Y hY => ?_⟩)) (ev_name 0) hm1 T.cl T.nR (dk_len _) ?_)
  · obtain ⟨s', H', C', cl, fp, rfl⟩ := hY
    exact tg_nm nd
  · obtain ⟨s', H', C', cl, fp, rfl⟩ := hY
    exact et_cmp (x := .int e.id.1) (y := .int c) (ev_ix (ev_eid (ev_name 3) ev_int) ev_int rfl (by decide) rfl) (ev_name 1) od_gt
  · obtain ⟨s', H', C', cl, fp, rfl⟩ := hY
    exact ev_name 3
  rw [pt_rest, Mem.put_put]
  refine w_one (s_fld (ev_callB (ea_cons (ev_fld (ev_name 0) hm1 (fl_upto _) T.cl T.nU) (ea_cons (ev_name 1) ea_nil)) (cd_max2 rfl) nM (by decide +kernel)) (ev_name 0) hm1 T.cl T.nU (dk_len _) ?_)
  rw [pt_upto, Mem.put_put]
  exact hQ
/-! forget(knowledge) -/
def RForget (C : Addr) : Con' := fun ds m Q => ∃ a k, ds = [.loc a] ∧ m a = some (.ins C (dKnow k)) ∧ Foldable k ∧ k.knows ≠ [] ∧ k.knows.length ≤ 500 ∧ Q .non (m.put a (.ins C (dKnow k.forget)))
theorem sc_forget : FnScope ["knowledge", "_", "clock"] ["knowledge"] (defScope (topS 34)) := ⟨rfl, rfl, rfl, by decide +kernel, rfl, by decide +kernel, by decide +kernel⟩
theorem minClock_mem : ∀ {ks : Clocks}, ks ≠ [] → minClock ks ∈ ks.map (·.2)
  | [], h => absurd rfl h
  | [p], _ => by simp [minClock]
  | p :: q :: ks, _ => by
    have ih := minClock_mem (ks := q :: ks) (by simp)
    unfold minClock
    split
    · exact List.mem_cons_self
    · exact List.mem_cons_of_mem _ ih
theorem minClock_le : ∀ {ks : Clocks}, ∀ y ∈ ks.map (·.2), minClock ks ≤ y
  | [], y, h => by cases h
  | [p], y, h => by
    have : y = p.2 := by simpa using h
    rw [this]; exact Int.le_refl _
  | p :: q :: ks, y, h => by
    have ih := minClock_le (ks := q :: ks)
    unfold minClock
    rcases List.mem_cons.mp h with e | e
    · have e' : y = p.2 := e
      split <;> omega
    · have := ih y e
      split <;> omega
theorem got_forget (F : Dfn K mg "forget" (topS 34) ["knowledge"]) (T : KCls K C) (G1 : Got P w K mg base "forget_up_to" 8 2 (RForgetUpTo C)) (nM : mg "min" = none) : Got P w K mg base "forget" 9 1 (RForget C) := by
  refine F.got sc_forget rfl fun f cdv A outer s H E ds m Q hr h => ?_
  obtain ⟨a, k, rfl, hm, hf, ne, l2, hQ⟩ := h
  have nd := sc_forget.nd
  have ec : (k.knows.map fun p : Int × Int => Da.int p.2) = (k.knows.map (·.2)).map Da.int := by rw [List.map_map]; rfl
  refine w_one (s_expr (ev_got G1 hr (ea_cons (ev_name 0) (ea_cons (ev_callB (ea_cons (by
    rw [← ec]
    refine ev_lcM [("_", 1), ("clock", 2)] (.tp [1, 2]) (fun p : Int × Int => Da.int p.2) nd (it_lst (ev_fld (ev_name 0) hm (fl_knows k) T.cl T.nK)) (fun Y hY => ?_) (by omega) fun p _ => ⟨_, rfl, fun m' hm' Y hY => ?_⟩
    · obtain ⟨s', H', C', cl, fp, rfl⟩ := hY
      exact tg_tp rfl (tgs_cons nd (tgs_cons nd tgs_nil))
    · obtain ⟨s', H', C', cl, fp, rfl⟩ := hY
      exact ev_name 2) ea_nil) (cd_minL rfl (minClock_mem ne) minClock_le) nM (by decide +kernel)) ea_nil)) rfl ⟨a, k, minClock k.knows, rfl, hm, hf, rfl, rfl⟩) hQ)
end
end FK
/-! Walks: the law's draws. -/
namespace FK
open PySem PySem.Spec PyProof.Rows L2 DL
section
variable {P : Program} {w : World} {K : PySem.W.Frag} {mg : Str → Option Value} {base : Heap} {C : Addr}
/-! _law_rows(script, count) -/
def RRows (K : PySem.W.Frag) : Con' := fun ds m Q => ∃ ns n, ds = [.seq K ns, .int ((n : Nat) : Int)] ∧ n ≤ 100 ∧ Q (.lst ((lawRows ns n).map Da.int)) m
theorem sc_rows : FnScope ["_law_script", "_law_count", "_law_rows_here", "_law_mixed", "_law_k_here", "_law_cell"] ["_law_script", "_law_count"] (defScope (topS 36)) := ⟨rfl, rfl, rfl, by decide +kernel, rfl, by decide +kernel, by decide +kernel⟩
theorem got_rows (F : Dfn K mg "_law_rows" (topS 36) ["_law_script", "_law_count"]) (nR : mg "range" = none) (nL : mg "len" = none) (nI : mg "int" = none) : Got P w K mg base "_law_rows" 1 2 (RRows K) := by
  refine F.got sc_rows rfl fun f cdv A outer s H E ds m Q hr h => ?_
  obtain ⟨ns, n, rfl, hn, hQ⟩ := h
  have nd := sc_rows.nd
  refine w_cons (s_newlist (i := 2) nd fun p hp => ?_)
  refine w_cons (s_set (i := 3) ev_int ?_ nd)
  refine w_cons (s_for (t := .nm 4) (it_rangeN n (ev_name 1) rfl (by omega) nR) (tg_nm nd) ?_)
  refine for_rng (fun i r m' => ∃ (acc : List Int) (mx : Int) (v4 v5 : Option Da), r = [some (.seq K ns), some (.int ((n : Nat) : Int)), some (.loc p), some (.int mx), v4, v5] ∧ m' = m.put p (.lst (acc.map Da.int)) ∧ acc ++ rowsGo ns (n - i) i mx = lawRows ns n ∧ acc.length = i) ⟨[], 1, none, none, rfl, rfl, rfl, rfl⟩ ?_ ?_
  · rintro _ _ ⟨acc, mx, v4, v5, rfl, rfl, q, _⟩
    rw [Nat.sub_self, rowsGo, List.append_nil] at q
    refine ⟨trivial, w_melt 2 hp rfl (w_one (s_ret (ev_name 2) ?_))⟩
    rw [q]
    exact hQ
  · rintro i _ _ hi ⟨acc, mx, v4, v5, rfl, rfl, q, hl⟩
    have e1 : n - i = (n - (i + 1)) + 1 := by omega
    rw [e1, rowsGo] at q
    have z0 : (0 : Int) + (i : Int) = (i : Int) := Int.zero_add _
    rw [z0]
    refine ⟨trivial, _, rfl, w_cons (s_set (i := 5) ev_int ?_ nd)⟩
    refine w_cons ?_
    refine s_ifj (b := decide ((i : Int) < (ns.length : Int))) (m1 := m.put p (.lst (acc.map Da.int))) (I := fun r1 m1 => r1 = [some (.seq K ns), some (.int ((n : Nat) : Int)), some (.loc p), some (.int mx), some (.int (i : Int)), some (.int (if i < ns.length then ns.getD i 0 else 0))] ∧ m1 = m.put p (.lst (acc.map Da.int))) (et_cmp (ev_name 4) (ev_callB (ea_cons (ev_name 0) ea_nil) cd_lenS nL PySem.boot_len) od_lt) (fun e => ?_) (fun e => ?_) ?_
    · have e' : i < ns.length := by have := of_decide_eq_true e; omega
      have g : ns[((i : Int)).toNat]? = some (ns.getD i 0) := by rw [Int.toNat_natCast, List.getD_eq_getElem?_getD, List.getElem?_eq_getElem e']; rfl
      rw [if_pos e']
      exact w_one (s_set (i := 5) (ev_callTy (ea_cons (ev_ixS (ev_name 0) (ev_name 4) (by omega) g) ea_nil) cd_int nI (by decide +kernel)) ⟨rfl, rfl⟩ nd)
    · have e' : ¬ i < ns.length := by have := of_decide_eq_false e; omega
      rw [if_neg e']
      exact w_nil ⟨rfl, rfl⟩
    · rintro _ _ ⟨rfl, rfl⟩
      generalize hc : (if i < ns.length then ns.getD i 0 else 0) = c
      have ec : rowCell ns i = if c < 0 then 1 - 2 * c else c := by unfold rowCell; rw [hc]
      refine w_cons ?_
      refine s_ifj (b := decide (c < 0)) (m1 := m.put p (.lst (acc.map Da.int))) (I := fun r1 m1 => r1 = [some (.seq K ns), some (.int ((n : Nat) : Int)), some (.loc p), some (.int mx), some (.int (i : Int)), some (.int (rowCell ns i))] ∧ m1 = m.put p (.lst (acc.map Da.int))) (et_cmp (ev_name 5) ev_int od_lt) (fun e => ?_) (fun e => ?_) ?_
      · rw [ec, if_pos (of_decide_eq_true e)]
        exact w_one (s_set (i := 5) (ev_bin ev_int (ev_bin ev_int (ev_name 5) (od_mul (.inl (by decide)))) od_sub) ⟨rfl, rfl⟩ nd)
      · rw [ec, if_neg (of_decide_eq_false e)]
        exact w_nil ⟨rfl, rfl⟩
      · rintro _ _ ⟨rfl, rfl⟩
        refine w_cons (s_set (i := 3) (ev_bin (ev_callTy (ea_cons (ev_bin (ev_bin (ev_bin (ev_bin (ev_name 3) ev_int (od_mul (.inr (by decide)))) (ev_bin (ev_name 5) ev_int (od_mul (.inr (by decide)))) od_add) (ev_bin ev_int (ev_name 4) (od_mul (.inl (by decide)))) od_add) ev_int od_add) ea_nil) cd_int nI (by decide +kernel)) ev_int (od_mod (by decide))) ?_ nd)
        have hl2 : (acc.map Da.int).length < 1000 := by rw [List.length_map]; omega
        have fin : ∀ v, v = rowOf ns i mx → ∃ (acc' : List Int) (mx' : Int) (v4 v5 : Option Da), [some (Da.seq K ns), some (.int ((n : Nat) : Int)), some (.loc p), some (.int (rowMix ns i mx)), some (.int (i : Int)), some (.int (rowCell ns i))] = [some (.seq K ns), some (.int ((n : Nat) : Int)), some (.loc p), some (.int mx'), v4, v5] ∧ (m.put p (.lst (acc.map Da.int))).put p (.lst (acc.map Da.int ++ [.int v])) = m.put p (.lst (acc'.map Da.int)) ∧ acc' ++ rowsGo ns (n - (i + 1)) (i + 1) mx' = lawRows ns n ∧ acc'.length = i + 1 := fun v hv => by
          refine ⟨acc ++ [rowOf ns i mx], rowMix ns i mx, _, _, rfl, ?_, by rw [List.append_assoc]; exact q, by rw [List.length_append, List.length_singleton, hl]⟩
          rw [Mem.put_put, hv, List.map_append]; rfl
        refine w_one (s_if (et_cmp (ev_name 5) ev_int od_ge) (fun e => ?_) (fun e => ?_))
        · exact w_one (s_append (ev_name 2) (ev_name 5) ⟨_, Mem.put_same⟩ Mem.put_same hl2 (fin _ (by unfold rowOf; rw [if_pos (of_decide_eq_true e)])))
        · exact w_one (s_append (ev_name 2) (ev_bin (ev_callTy (ea_cons (ev_bin (ev_bin (ev_name 3) ev_int (od_mul (.inr (by decide)))) ev_int od_add) ea_nil) cd_int nI (by decide +kernel)) ev_int (od_mod (by decide))) ⟨_, Mem.put_same⟩ Mem.put_same hl2 (fin _ (by unfold rowOf; rw [if_neg (of_decide_eq_false e)]; rfl)))
/-! _law_path(row, most) -/
def RPath : Con' := fun ds m Q => ∃ row most, ds = [.int row, .int most] ∧ 0 < most ∧ most ≤ 10 ∧ Q (dPath (path row most)) m
theorem sc_path : FnScope ["_law_row", "_law_most", "_law_names", "_law_j_here"] ["_law_row", "_law_most"] (defScope (topS 37)) := ⟨rfl, rfl, rfl, by decide +kernel, rfl, by decide +kernel, by decide +kernel⟩
theorem name_at (i : Int) : ([Da.str "a", .str "b", .str "c.txt", .str "d"] : List Da)[(i % 4).toNat]? = some (dName (toName i)) := by
  have h : (i % 4).toNat = 0 ∨ (i % 4).toNat = 1 ∨ (i % 4).toNat = 2 ∨ (i % 4).toNat = 3 := by omega
  have e : ∀ k : Fin 4, (toName i).val = k.val → toName i = k := fun k h => Fin.ext h
  rcases h with h | h | h | h
  · rw [e 0 h, h]; rfl
  · rw [e 1 h, h]; rfl
  · rw [e 2 h, h]; rfl
  · rw [e 3 h, h]; rfl
theorem got_path (F : Dfn K mg "_law_path" (topS 37) ["_law_row", "_law_most"]) (nR : mg "range" = none) (nT : mg "tuple" = none) (nI : mg "int" = none) : Got P w K mg base "_law_path" 1 2 RPath := by
  refine F.got sc_path rfl fun f cdv A outer s H E ds m Q hr h => ?_
  obtain ⟨row, most, rfl, h0, h1, hQ⟩ := h
  have nd := sc_path.nd
  have b1 := Int.emod_nonneg (row / 5) (show most ≠ 0 by omega)
  have b2 := Int.emod_lt_of_pos (row / 5) h0
  refine w_cons (s_set (i := 2) (ev_lst (ea_cons ev_str (ea_cons ev_str (ea_cons ev_str (ea_cons ev_str ea_nil))))) ?_ nd)
  refine w_one (s_ret (ev_callTy (ea_cons (ev_lcM (enc := fun (i : Nat) => Da.int (0 + (i : Int))) (xs := List.range (1 + row / 5 % most).toNat) [("_law_j_here", 3)] (.nm 3) (fun (j : Nat) => dName (toName (row / (11 * (j : Int) + 3)))) nd (it_rangeN (1 + row / 5 % most).toNat (ev_bin ev_int (ev_bin (ev_callTy (ea_cons (ev_bin (ev_name 0) ev_int (od_fdiv (by decide))) ea_nil) cd_int nI (by decide +kernel)) (ev_name 1) (od_mod h0)) od_add) (by omega) (by omega) nR) (fun Y hY => ?_) (by rw [List.length_range]; omega) fun j hj => ⟨_, rfl, fun m' _ Y hY => ?_⟩) ea_nil) (cd_tuple rfl) nT (by decide +kernel)) ?_)
  · obtain ⟨s', H', C', cl, fp, rfl⟩ := hY
    exact tg_nm nd
  · obtain ⟨s', H', C', cl, fp, rfl⟩ := hY
    have hj' : j < (1 + row / 5 % most).toNat := List.mem_range.mp hj
    have z0 : (0 : Int) + (j : Int) = (j : Int) := Int.zero_add _
    have b3 := Int.emod_nonneg (row / (11 * (j : Int) + 3)) (show (4 : Int) ≠ 0 by decide)
    rw [z0]
    exact ev_ix (ev_name 2) (ev_bin (ev_callTy (ea_cons (ev_bin (ev_name 0) (ev_bin (ev_bin ev_int (ev_name 3) (od_mul (.inl (by decide)))) ev_int od_add) (od_fdiv ⟨by omega, by omega⟩)) ea_nil) cd_int nI (by decide +kernel)) ev_int (od_mod (by decide))) rfl b3 (name_at _)
  · have e : dPath (path row most) = .tup ((List.range (1 + row / 5 % most).toNat).map fun (j : Nat) => dName (toName (row / (11 * (j : Int) + 3)))) := by
      unfold dPath path
      rw [List.map_map]; rfl
    rw [e] at hQ
    exact hQ
/-! _law_pick(row, ids) -/
def RPick : Con' := fun ds m Q => ∃ row ids, ds = [.int row, .lst (ids.map dId)] ∧ Q (dO (pick row ids)) m
theorem sc_pick : FnScope ["_law_row", "_law_ids"] ["_law_row", "_law_ids"] (defScope (topS 38)) := ⟨rfl, rfl, rfl, by decide +kernel, rfl, by decide +kernel, by decide +kernel⟩
theorem got_pick (F : Dfn K mg "_law_pick" (topS 38) ["_law_row", "_law_ids"]) (nL : mg "len" = none) (nI : mg "int" = none) (nM : mg "min" = none) : Got P w K mg base "_law_pick" 1 2 RPick := by
  refine F.got sc_pick rfl fun f cdv A outer s H E ds m Q hr h => ?_
  obtain ⟨row, ids, rfl, hQ⟩ := h
  have nd := sc_pick.nd
  have ln : ((ids.map dId).length : Int) = (ids.length : Int) := by rw [List.length_map]
  have get : ∀ {i : Int}, 0 ≤ i → i < (ids.length : Int) → ∃ x, ids[i.toNat]? = some x ∧ (ids.map dId)[i.toNat]? = some (dId x) := fun {i} a b => by
    have hlt : i.toNat < ids.length := by omega
    exact ⟨ids[i.toNat], List.getElem?_eq_getElem hlt, by rw [List.getElem?_map, List.getElem?_eq_getElem hlt]; rfl⟩
  unfold pick at hQ
  refine w_cons (s_if (et_p (ep_or (et_cmp (ev_callB (ea_cons (ev_name 1) ea_nil) (cd_len rfl) nL PySem.boot_len) ev_int od_eqI) fun _ => et_cmp (ev_bin (ev_callTy (ea_cons (ev_name 0) ea_nil) cd_int nI (by decide +kernel)) ev_int (od_mod (by decide))) ev_int od_eqI)) (fun e => ?_) (fun e => w_nil ?_))
  · rw [Bool.or_eq_true, decide_eq_true_eq, decide_eq_true_eq, ln] at e
    rw [if_pos (by rcases e with e | e; exact .inl (by omega); exact .inr e)] at hQ
    exact w_one (s_ret ev_non hQ)
  · rw [Bool.or_eq_false_iff, decide_eq_false_iff_not, decide_eq_false_iff_not, ln] at e
    rw [if_neg (by rintro (c | c); exact e.1 (by omega); exact e.2 c)] at hQ
    have pos : (0 : Int) < (ids.length : Int) := by have := e.1; omega
    refine w_cons (s_if (et_cmp (ev_bin (ev_callTy (ea_cons (ev_bin (ev_name 0) ev_int (od_fdiv (by decide))) ea_nil) cd_int nI (by decide +kernel)) ev_int (od_mod (by decide))) ev_int od_eqI) (fun e2 => ?_) (fun e2 => w_nil ?_))
    · rw [if_pos (of_decide_eq_true e2)] at hQ
      have c1 := Int.emod_nonneg (row / 3) (show (ids.length : Int) ≠ 0 by omega)
      have c2 := Int.emod_lt_of_pos (row / 3) pos
      obtain ⟨x, g1, g2⟩ := get c1 c2
      rw [g1] at hQ
      refine w_one (s_ret (ev_ix (ev_name 1) (ev_bin (ev_callTy (ea_cons (ev_bin (ev_name 0) ev_int (od_fdiv (by decide))) ea_nil) cd_int nI (by decide +kernel)) (ev_callB (ea_cons (ev_name 1) ea_nil) (cd_len rfl) nL PySem.boot_len) (od_mod (by rw [ln]; exact pos))) rfl (by rw [ln]; exact c1) (by rw [ln]; exact g2)) hQ)
    · rw [if_neg (of_decide_eq_false e2)] at hQ
      generalize hd : (if (ids.length : Int) < 3 then (ids.length : Int) else 3) = d at hQ
      have d1 : 0 < d := by rw [← hd]; split <;> omega
      have d2 : d ≤ (ids.length : Int) := by rw [← hd]; split <;> omega
      have c1 := Int.emod_nonneg (row / 3) (show d ≠ 0 by omega)
      have c2 := Int.emod_lt_of_pos (row / 3) d1
      obtain ⟨x, g1, g2⟩ := get (i := (ids.length : Int) - 1 - row / 3 % d) (by omega) (by omega)
      rw [g1] at hQ
      have hd' : (if ((ids.map dId).length : Int) < 3 then ((ids.map dId).length : Int) else 3) = d := by rw [ln]; exact hd
      refine w_one (s_ret (ev_ix (ev_name 1) (ev_bin (ev_bin (ev_callB (ea_cons (ev_name 1) ea_nil) (cd_len rfl) nL PySem.boot_len) ev_int od_sub) (ev_bin (ev_callTy (ea_cons (ev_bin (ev_name 0) ev_int (od_fdiv (by decide))) ea_nil) cd_int nI (by decide +kernel)) (ev_callB (ea_cons ev_int (ea_cons (ev_callB (ea_cons (ev_name 1) ea_nil) (cd_len rfl) nL PySem.boot_len) ea_nil)) (cd_min2 rfl) nM (by decide +kernel)) (od_mod (by rw [hd']; exact d1))) od_sub) rfl (by rw [hd', ln]; omega) (by rw [hd', ln]; exact g2)) hQ)
/-! _law_place(row, ids) -/
def RPlace : Con' := fun ds m Q => ∃ row ids, ds = [.int row, .lst (ids.map dId)] ∧ Q (dPlace (place row ids)) m
theorem sc_place : FnScope ["_law_row", "_law_ids"] ["_law_row", "_law_ids"] (defScope (topS 39)) := ⟨rfl, rfl, rfl, by decide +kernel, rfl, by decide +kernel, by decide +kernel⟩
theorem got_place (F : Dfn K mg "_law_place" (topS 39) ["_law_row", "_law_ids"]) (G1 : Got P w K mg base "_law_pick" 1 2 RPick) (G2 : Got P w K mg base "_law_path" 1 2 RPath) : Got P w K mg base "_law_place" 2 2 RPlace := by
  refine F.got sc_place rfl fun f cdv A outer s H E ds m Q hr h => ?_
  obtain ⟨row, ids, rfl, hQ⟩ := h
  exact w_one (s_ret (ev_tup (ea_cons (ev_got G1 hr (ea_cons (ev_bin (ev_name 0) ev_int (od_fdiv (by decide))) (ea_cons (ev_name 1) ea_nil)) rfl ⟨row / 2, ids, rfl, rfl, rfl⟩) (ea_cons (ev_got G2 hr (ea_cons (ev_bin (ev_name 0) ev_int (od_fdiv (by decide))) (ea_cons ev_int ea_nil)) rfl ⟨row / 13, 2, rfl, by decide, by decide, rfl, rfl⟩) (ea_cons (ev_got G2 hr (ea_cons (ev_bin (ev_name 0) ev_int (od_fdiv (by decide))) (ea_cons ev_int ea_nil)) rfl ⟨row / 101, 3, rfl, by decide, by decide, rfl, rfl⟩) ea_nil)))) hQ)
/-! _law_heads(row, ids) -/
def RHeads : Con' := fun ds m Q => ∃ row ids, ds = [.int row, .lst (ids.map dId)] ∧ Q (dIds (heads row ids)) m
theorem sc_heads : FnScope ["_law_row", "_law_ids", "_law_heads_here", "_law_j_here", "_law_head"] ["_law_row", "_law_ids"] (defScope (topS 40)) := ⟨rfl, rfl, rfl, by decide +kernel, rfl, by decide +kernel, by decide +kernel⟩
theorem got_heads (F : Dfn K mg "_law_heads" (topS 40) ["_law_row", "_law_ids"]) (G1 : Got P w K mg base "_law_pick" 1 2 RPick) (nR : mg "range" = none) (nT : mg "tuple" = none) (nI : mg "int" = none) : Got P w K mg base "_law_heads" 2 2 RHeads := by
  refine F.got sc_heads rfl fun f cdv A outer s H E ds m Q hr h => ?_
  obtain ⟨row, ids, rfl, hQ⟩ := h
  have nd := sc_heads.nd
  have b1 := Int.emod_nonneg (row / 17) (show (4 : Int) ≠ 0 by decide)
  have b2 := Int.emod_lt_of_pos (row / 17) (show (0 : Int) < 4 by decide)
  refine w_cons (s_newlist (i := 2) nd fun p hp => ?_)
  refine w_cons (s_for (t := .nm 3) (it_rangeN (row / 17 % 4).toNat (ev_bin (ev_callTy (ea_cons (ev_bin (ev_name 0) ev_int (od_fdiv (by decide))) ea_nil) cd_int nI (by decide +kernel)) ev_int (od_mod (by decide))) (by omega) (by omega) nR) (tg_nm nd) ?_)
  refine for_rng (fun i r m' => ∃ (acc : List Id) (v3 v4 : Option Da), r = [some (.int row), some (.lst (ids.map dId)), some (.loc p), v3, v4] ∧ m' = m.put p (.lst (acc.map dId)) ∧ acc = (List.range i).filterMap (fun (j : Nat) => pick (row / (23 * (j : Int) + 5)) ids)) ⟨[], none, none, rfl, rfl, rfl⟩ ?_ ?_
  · rintro _ _ ⟨acc, v3, v4, rfl, rfl, q⟩
    refine ⟨trivial, w_one (s_ret (d := dIds acc) (m1 := m) ?_ ?_)⟩
    · exact ev_melt 2 hp rfl (ev_callTy (ea_cons (ev_name 2) ea_nil) (cd_tuple rfl) nT (by decide +kernel))
    · rw [q]; exact hQ
  · rintro i _ _ hi ⟨acc, v3, v4, rfl, rfl, q⟩
    have z0 : (0 : Int) + (i : Int) = (i : Int) := Int.zero_add _
    rw [z0]
    have la : acc.length ≤ i := by
      rw [q]
      refine Nat.le_trans (List.length_filterMap_le _ _) ?_
      rw [List.length_range]; exact Nat.le_refl _
    refine ⟨trivial, _, rfl, w_cons (s_set (i := 4) (ev_got G1 hr (ea_cons (ev_bin (ev_name 0) (ev_bin (ev_bin ev_int (ev_name 3) (od_mul (.inl (by decide)))) ev_int od_add) (od_fdiv ⟨by omega, by omega⟩)) (ea_cons (ev_name 1) ea_nil)) rfl ⟨row / (23 * (i : Int) + 5), ids, rfl, rfl, rfl⟩) ?_ nd)⟩
    have rs : (List.range (i + 1)).filterMap (fun (j : Nat) => pick (row / (23 * (j : Int) + 5)) ids) = acc ++ (pick (row / (23 * (i : Int) + 5)) ids).toList := by
      rw [List.range_succ, List.filterMap_append, ← q]
      cases h : pick (row / (23 * (i : Int) + 5)) ids with
      | none => simp [h]
      | some x => simp [h]
    cases e : pick (row / (23 * (i : Int) + 5)) ids with
    | none =>
      rw [e] at rs
      exact w_one (s_if (b := false) (et_cmp (ev_name 4) ev_non od_notN) (fun z => by cases z) fun _ => w_nil ⟨acc, _, _, rfl, rfl, by rw [rs]; simp⟩)
    | some x =>
      rw [e] at rs
      refine w_one (s_if (b := true) (et_cmp (ev_name 4) ev_non od_notN) (fun _ => ?_) (fun z => by cases z))
      refine w_one (s_append (ev_name 2) (ev_name 4) ⟨_, Mem.put_same⟩ Mem.put_same (by rw [List.length_map]; omega) ⟨acc ++ [x], _, _, rfl, ?_, by rw [rs]; rfl⟩)
      rw [Mem.put_put, List.map_append]; rfl
end
end FK
/-! Walks: the law's edits, its telling, saying, delivering. -/
namespace FK
open PySem PySem.Spec PyProof.Rows L2 DL
theorem pick_some {row : Int} {ids : List Id} (h1 : ids.length ≠ 0) (h2 : row % 3 ≠ 0) : pick row ids = some (pickD row ids) := by
  have : ∃ x, pick row ids = some x := by
    unfold pick
    rw [if_neg (by rintro (c | c); exact h1 c; exact h2 c)]
    split
    · have c1 := Int.emod_nonneg (row / 3) (show (ids.length : Int) ≠ 0 by omega)
      have c2 := Int.emod_lt_of_pos (row / 3) (show (0 : Int) < (ids.length : Int) by omega)
      have hlt : (row / 3 % (ids.length : Int)).toNat < ids.length := by omega
      exact ⟨_, List.getElem?_eq_getElem hlt⟩
    · generalize hd : (if (ids.length : Int) < 3 then (ids.length : Int) else 3) = d
      have d1 : 0 < d := by rw [← hd]; split <;> omega
      have d2 : d ≤ (ids.length : Int) := by rw [← hd]; split <;> omega
      have c1 := Int.emod_nonneg (row / 3) (show d ≠ 0 by omega)
      have c2 := Int.emod_lt_of_pos (row / 3) d1
      have hlt : ((ids.length : Int) - 1 - row / 3 % d).toNat < ids.length := by omega
      exact ⟨_, List.getElem?_eq_getElem hlt⟩
  obtain ⟨x, hx⟩ := this
  unfold pickD
  rw [hx]; rfl
section
variable {P : Program} {w : World} {K : PySem.W.Frag} {mg : Str → Option Value} {base : Heap} {C : Addr}
/-! _law_edit(row, id, ids) -/
def REdit : Con' := fun ds m Q => ∃ row i ids, ds = [.int row, dId i, .lst (ids.map dId)] ∧ Q (dEdit (lawEdit row i ids)) m
theorem sc_edit : FnScope ["_law_row", "_law_edit_id", "_law_ids", "_law_place_here", "_law_kind", "_law_size", "_law_moved", "_law_j_here", "_law_head", "_law_line"] ["_law_row", "_law_edit_id", "_law_ids"] (defScope (topS 41)) := ⟨rfl, rfl, rfl, by decide +kernel, rfl, by decide +kernel, by decide +kernel⟩
theorem got_edit (F : Dfn K mg "_law_edit" (topS 41) ["_law_row", "_law_edit_id", "_law_ids"]) (G1 : Got P w K mg base "_law_pick" 1 2 RPick) (G2 : Got P w K mg base "_law_place" 2 2 RPlace) (G3 : Got P w K mg base "_law_heads" 2 2 RHeads) (nR : mg "range" = none) (nT : mg "tuple" = none) (nI : mg "int" = none) (nL : mg "len" = none) : Got P w K mg base "_law_edit" 3 3 REdit := by
  refine F.got sc_edit rfl fun f cdv A outer s H E ds m Q hr h => ?_
  obtain ⟨row, i, ids, rfl, hQ⟩ := h
  have nd := sc_edit.nd
  have hr1 : Room 1 _ := hr.mono (by decide)
  have ln : ((ids.map dId).length : Int) = (ids.length : Int) := by rw [List.length_map]
  unfold lawEdit at hQ
  refine w_cons (s_set (i := 3) (ev_got G2 hr (ea_cons (ev_bin (ev_name 0) ev_int (od_fdiv (by decide))) (ea_cons (ev_name 2) ea_nil)) rfl ⟨row / 6, ids, rfl, rfl, rfl⟩) ?_ nd)
  refine w_cons (s_set (i := 4) (ev_bin (ev_callTy (ea_cons (ev_name 0) ea_nil) cd_int nI (by decide +kernel)) ev_int (od_mod (by decide))) ?_ nd)
  refine w_cons (s_if (et_cmp (ev_name 4) ev_int od_eqI) (fun e => ?_) (fun e => w_nil ?_))
  · rw [if_pos (of_decide_eq_true e)] at hQ
    exact w_one (s_ret (ev_tup (ea_cons ev_str (ea_cons (ev_name 1) (ea_cons (ev_name 3) (ea_cons ev_non (ea_cons ev_non (ea_cons (ev_got G3 hr (ea_cons (ev_name 0) (ea_cons (ev_name 2) ea_nil)) rfl ⟨row, ids, rfl, rfl, rfl⟩) ea_nil))))))) hQ)
  · rw [if_neg (of_decide_eq_false e)] at hQ
    refine w_cons (s_if (et_p (ep_or (et_cmp (ev_name 4) ev_int od_le) fun _ => et_cmp (ev_callB (ea_cons (ev_name 2) ea_nil) (cd_len rfl) nL PySem.boot_len) ev_int od_eqI)) (fun e2 => ?_) (fun e2 => w_nil ?_))
    · rw [Bool.or_eq_true, decide_eq_true_eq, decide_eq_true_eq, ln] at e2
      rw [if_pos (by rcases e2 with z | z; exact .inl z; exact .inr (by omega))] at hQ
      refine w_cons (s_set (i := 5) (ev_bin (ev_callTy (ea_cons (ev_bin (ev_name 0) ev_int (od_fdiv (by decide))) ea_nil) cd_int nI (by decide +kernel)) ev_int (od_mod (by decide))) ?_ nd)
      exact w_one (s_ret (ev_tup (ea_cons ev_str (ea_cons (ev_name 1) (ea_cons (ev_name 3) (ea_cons (ev_tup (ea_cons (ev_name 5) (ea_cons (ev_name 5) (ea_cons (ev_bin (ev_name 5) ev_int od_add) (ea_cons ev_bl ea_nil))))) (ea_cons (ev_got G1 hr1 (ea_cons (ev_bin (ev_name 0) ev_int (od_fdiv (by decide))) (ea_cons (ev_name 2) ea_nil)) rfl ⟨row / 29, ids, rfl, rfl, rfl⟩) (ea_cons (ev_got G3 hr (ea_cons (ev_name 0) (ea_cons (ev_name 2) ea_nil)) rfl ⟨row, ids, rfl, rfl, rfl⟩) ea_nil))))))) hQ)
    · rw [Bool.or_eq_false_iff, decide_eq_false_iff_not, decide_eq_false_iff_not, ln] at e2
      have l0 : ids.length ≠ 0 := by have := e2.2; omega
      rw [if_neg (by rintro (c | c); exact e2.1 c; exact l0 c)] at hQ
      refine w_cons (s_if (et_cmp (ev_name 4) ev_int od_eqI) (fun e3 => ?_) (fun e3 => w_nil ?_))
      · rw [if_pos (of_decide_eq_true e3)] at hQ
        exact w_one (s_ret (ev_tup (ea_cons ev_str (ea_cons (ev_name 1) (ea_cons (ev_got G3 hr (ea_cons (ev_bin (ev_name 0) ev_int (od_fdiv (by decide))) (ea_cons (ev_name 2) ea_nil)) rfl ⟨row / 3, ids, rfl, rfl, rfl⟩) ea_nil)))) hQ)
      · rw [if_neg (of_decide_eq_false e3)] at hQ
        have b1 := Int.emod_nonneg (row / 31) (show (2 : Int) ≠ 0 by decide)
        have b2 := Int.emod_lt_of_pos (row / 31) (show (0 : Int) < 2 by decide)
        refine w_cons (s_newlist (i := 6) nd fun p hp => ?_)
        refine w_cons (s_for (t := .nm 7) (it_rangeN (1 + row / 31 % 2).toNat (ev_bin ev_int (ev_bin (ev_callTy (ea_cons (ev_bin (ev_name 0) ev_int (od_fdiv (by decide))) ea_nil) cd_int nI (by decide +kernel)) ev_int (od_mod (by decide))) od_add) (by omega) (by omega) nR) (tg_nm nd) ?_)
        refine for_rng (fun k r m' => ∃ (acc : List (Id × Id × Place)) (v7 v8 v9 : Option Da), r = [some (.int row), some (dId i), some (.lst (ids.map dId)), some (dPlace (place (row / 6) ids)), some (.int (row % 6)), none, some (.loc p), v7, v8, v9] ∧ m' = m.put p (.lst (acc.map dMoved)) ∧
          acc = (List.range k).map (fun (j : Nat) => (pickD (1 + 3 * (row / (37 * (j : Int) + 2))) ids, pickD (1 + 3 * (row / (41 * (j : Int) + 3))) ids, place (row / (43 * (j : Int) + 7)) ids))) ⟨[], none, none, none, rfl, rfl, rfl⟩ ?_ ?_
        · rintro _ _ ⟨acc, v7, v8, v9, rfl, rfl, q⟩
          refine ⟨trivial, w_one (s_ret (d := dEdit (.move i acc)) (m1 := m) (ev_melt 6 hp rfl (ev_tup (ea_cons ev_str (ea_cons (ev_name 1) (ea_cons (ev_callTy (ea_cons (ev_name 6) ea_nil) (cd_tuple rfl) nT (by decide +kernel)) ea_nil))))) ?_)⟩
          rw [q]; exact hQ
        · rintro k _ _ hk ⟨acc, v7, v8, v9, rfl, rfl, q⟩
          have z0 : (0 : Int) + (k : Int) = (k : Int) := Int.zero_add _
          rw [z0]
          have la : acc.length = k := by rw [q]; simp
          have p1 := pick_some (row := 1 + 3 * (row / (37 * (k : Int) + 2))) l0 (by omega)
          have p2 := pick_some (row := 1 + 3 * (row / (41 * (k : Int) + 3))) l0 (by omega)
          refine ⟨trivial, _, rfl, w_cons (s_set (i := 8) (d := dId (pickD (1 + 3 * (row / (37 * (k : Int) + 2))) ids)) (ev_got G1 hr1 (ea_cons (ev_bin ev_int (ev_bin ev_int (ev_bin (ev_name 0) (ev_bin (ev_bin ev_int (ev_name 7) (od_mul (.inl (by decide)))) ev_int od_add) (od_fdiv ⟨by omega, by omega⟩)) (od_mul (.inl (by decide)))) od_add) (ea_cons (ev_name 2) ea_nil)) rfl ⟨1 + 3 * (row / (37 * (k : Int) + 2)), ids, rfl, by rw [p1]; rfl, rfl⟩) ?_ nd)⟩
          refine w_cons (s_set (i := 9) (d := dId (pickD (1 + 3 * (row / (41 * (k : Int) + 3))) ids)) (ev_got G1 hr1 (ea_cons (ev_bin ev_int (ev_bin ev_int (ev_bin (ev_name 0) (ev_bin (ev_bin ev_int (ev_name 7) (od_mul (.inl (by decide)))) ev_int od_add) (od_fdiv ⟨by omega, by omega⟩)) (od_mul (.inl (by decide)))) od_add) (ea_cons (ev_name 2) ea_nil)) rfl ⟨1 + 3 * (row / (41 * (k : Int) + 3)), ids, rfl, by rw [p2]; rfl, rfl⟩) ?_ nd)
          refine w_one (s_append (ev_name 6) (ev_tup (ea_cons (ev_name 8) (ea_cons (ev_name 9) (ea_cons (ev_got G2 hr (ea_cons (ev_bin (ev_name 0) (ev_bin (ev_bin ev_int (ev_name 7) (od_mul (.inl (by decide)))) ev_int od_add) (od_fdiv ⟨by omega, by omega⟩)) (ea_cons (ev_name 2) ea_nil)) rfl ⟨row / (43 * (k : Int) + 7), ids, rfl, rfl, rfl⟩) ea_nil)))) ⟨_, Mem.put_same⟩ Mem.put_same (by rw [List.length_map]; omega) ?_)
          refine ⟨acc ++ [(pickD (1 + 3 * (row / (37 * (k : Int) + 2))) ids, pickD (1 + 3 * (row / (41 * (k : Int) + 3))) ids, place (row / (43 * (k : Int) + 7)) ids)], _, _, _, rfl, ?_, ?_⟩
          · rw [Mem.put_put, List.map_append (l₂ := [_])]; rfl
          · rw [List.range_succ, List.map_append, ← q]; rfl
/-! _law_tell(know, me, row) -/
def RTell (C : Addr) : Con' := fun ds m Q => ∃ a k me row, ds = [.loc a, .int me, .int row] ∧ m a = some (.ins C (dKnow k)) ∧ Foldable k ∧ k.lines.length ≤ 200 ∧ k.knows.length ≤ 500 ∧ Q (dEdit (tellEdit k me row)) (m.put a (.ins C (dKnow (k.make me (tellEdit k me row)))))
theorem sc_tell : FnScope ["_law_know", "_law_me", "_law_row", "_law_ids", "_law_edit_here", "_law_line"] ["_law_know", "_law_me", "_law_row"] (defScope (topS 43)) := ⟨rfl, rfl, rfl, by decide +kernel, rfl, by decide +kernel, by decide +kernel⟩
theorem got_tell (F : Dfn K mg "_law_tell" (topS 43) ["_law_know", "_law_me", "_law_row"]) (T : KCls K C) (G1 : GotM P w K mg base C "lines" 8 1 (RLines C)) (G2 : Got P w K mg base "_law_edit" 3 3 REdit) (G3 : GotM P w K mg base C "write" 3 6 (RWrite C)) (G4 : GotM P w K mg base C "drop" 3 3 (RDrop C)) (G5 : GotM P w K mg base C "move" 3 3 (RMove C)) : Got P w K mg base "_law_tell" 9 3 (RTell C) := by
  refine F.got sc_tell rfl fun f cdv A outer s H E ds m Q hr h => ?_
  obtain ⟨a, k, me, row, rfl, hm, hf, ll, lk, hQ⟩ := h
  have nd := sc_tell.nd
  have hr3 : Room 3 _ := hr.mono (by decide)
  have lr : k.rest.length ≤ 80 := by obtain ⟨n, q, _, _, h1, _⟩ := hf; omega
  have e1 : (k.lines.map fun l : Line => dId l.head) ++ (k.rest.map fun e : Edit => dId e.id) = (tellIds k).map dId := by
    unfold tellIds
    rw [List.map_append, List.map_map, List.map_map]; rfl
  refine w_cons (s_set (i := 3) (ev_bin (ev_lcM [("_law_line", 5)] (.nm 5) (fun l : Line => dId l.head) nd (it_lst (ev_gotm0 G1 hr T.cl (ev_name 0) hm (no_lines k) rfl ⟨a, k, rfl, hm, hf, rfl, rfl⟩)) (fun Y hY => ?_) (by omega) fun l _ => ⟨_, rfl, fun m' hm' Y hY => ?_⟩) (ev_lcM [("_law_edit_here", 4)] (.nm 4) (fun e : Edit => dId e.id) nd (it_lst (ev_fld (ev_name 0) hm (fl_rest k) T.cl T.nR)) (fun Y hY => ?_) (by omega) fun e _ => ⟨_, rfl, fun m' hm' Y hY => ?_⟩) (od_cat (Nat.le_of_lt (small1000 (by rw [List.length_map, List.length_map]; omega))))) ?_ nd)
  · obtain ⟨s', H', C', cl, fp, rfl⟩ := hY
    exact tg_nm nd
  · obtain ⟨s', H', C', cl, fp, rfl⟩ := hY
    exact ev_ix (ev_name 5) ev_int rfl (by decide) rfl
  · obtain ⟨s', H', C', cl, fp, rfl⟩ := hY
    exact tg_nm nd
  · obtain ⟨s', H', C', cl, fp, rfl⟩ := hY
    exact ev_eid (ev_name 4) ev_int
  rw [e1]
  refine w_cons (s_set (i := 4) (ev_got G2 hr3 (ea_cons (ev_name 2) (ea_cons (ev_tup (ea_cons ev_int (ea_cons ev_int ea_nil))) (ea_cons (ev_name 3) ea_nil))) rfl ⟨row, (0, 0), tellIds k, rfl, rfl, rfl⟩) ?_ nd)
  unfold tellEdit at hQ
  cases e : lawEdit row (0, 0) (tellIds k) with
  | write i p c mt rs =>
    rw [e] at hQ
    refine w_cons (s_if (b := true) (et_cmp (ev_ix (ev_name 4) ev_int rfl (by decide) rfl) ev_str (od_eqS_T rfl)) (fun _ => ?_) (fun z => by cases z))
    exact w_one (s_ret (ev_gotm G3 hr3 T.cl (ev_name 0) hm (no_write k) (ea_cons (ev_name 1) (ea_cons (ev_ix (ev_name 4) ev_int rfl (by decide) rfl) (ea_cons (ev_ix (ev_name 4) ev_int rfl (by decide) rfl) (ea_cons (ev_ix (ev_name 4) ev_int rfl (by decide) rfl) (ea_cons (ev_ix (ev_name 4) ev_int rfl (by decide) rfl) ea_nil))))) rfl ⟨a, k, me, p, c, mt, rs, rfl, hm, by omega, lk, rfl, rfl⟩) hQ)
  | drop i rs =>
    rw [e] at hQ
    refine w_cons (s_if (b := false) (et_cmp (ev_ix (ev_name 4) ev_int rfl (by decide) rfl) ev_str (od_eqS_F s_dw)) (fun z => by cases z) fun _ => w_nil ?_)
    refine w_cons (s_if (b := true) (et_cmp (ev_ix (ev_name 4) ev_int rfl (by decide) rfl) ev_str (od_eqS_T rfl)) (fun _ => ?_) (fun z => by cases z))
    exact w_one (s_ret (ev_gotm G4 hr3 T.cl (ev_name 0) hm (no_drop k) (ea_cons (ev_name 1) (ea_cons (ev_ix (ev_name 4) ev_int rfl (by decide) rfl) ea_nil)) rfl ⟨a, k, me, rs, rfl, hm, by omega, lk, rfl, rfl⟩) hQ)
  | move i ms =>
    rw [e] at hQ
    refine w_cons (s_if (b := false) (et_cmp (ev_ix (ev_name 4) ev_int rfl (by decide) rfl) ev_str (od_eqS_F s_mw)) (fun z => by cases z) fun _ => w_nil ?_)
    refine w_cons (s_if (b := false) (et_cmp (ev_ix (ev_name 4) ev_int rfl (by decide) rfl) ev_str (od_eqS_F s_md)) (fun z => by cases z) fun _ => w_nil ?_)
    exact w_one (s_ret (ev_gotm G5 hr3 T.cl (ev_name 0) hm (no_move k) (ea_cons (ev_name 1) (ea_cons (ev_ix (ev_name 4) ev_int rfl (by decide) rfl) ea_nil)) rfl ⟨a, k, me, ms, rfl, hm, by omega, lk, rfl, rfl⟩) hQ)
/-! _law_say(knows, heard, sender, receiver, by_nothing) -/
def RSay (C : Addr) : Con' := fun ds m Q => ∃ (as hs : List Addr) (sd rv : Nat) (b : Bool) (a hr : Addr) (k : Know) (row : List Clocks) (since : Clocks), ds = [.lst (as.map .loc), .lst (hs.map .loc), .int (sd : Int), .int (rv : Int), .bl b] ∧
  as[sd]? = some a ∧ m a = some (.ins C (dKnow k)) ∧ hs[sd]? = some hr ∧ m hr = some (.lst (row.map (dClocks false))) ∧ row[rv]? = some since ∧ k.rest.length ≤ 500 ∧ k.knows.length ≤ 500 ∧ Q (.tup [.int (rv : Int), .int (sd : Int), dNews (newsFor k (if b then [] else since))]) m
theorem sc_say : FnScope ["_law_knows", "_law_heard", "_law_sender", "_law_receiver", "_law_by_nothing", "_law_since"] ["_law_knows", "_law_heard", "_law_sender", "_law_receiver", "_law_by_nothing"] (defScope (topS 46)) := ⟨rfl, rfl, rfl, by decide +kernel, rfl, by decide +kernel, by decide +kernel⟩
theorem got_say (F : Dfn K mg "_law_say" (topS 46) ["_law_knows", "_law_heard", "_law_sender", "_law_receiver", "_law_by_nothing"]) (G1 : Got P w K mg base "news_for" 2 2 (RNewsFor C)) : Got P w K mg base "_law_say" 3 5 (RSay C) := by
  refine F.got sc_say rfl fun f cdv A outer s H E ds m Q hr h => ?_
  obtain ⟨as, hs, sd, rv, b, a, hrr, k, row, since, rfl, ha, hm, hh, hmh, hro, l1, l2, hQ⟩ := h
  have nd := sc_say.nd
  have ia : (as.map Da.loc)[(sd : Int).toNat]? = some (.loc a) := by rw [Int.toNat_natCast, List.getElem?_map, ha]; rfl
  have ih : (hs.map Da.loc)[(sd : Int).toNat]? = some (.loc hrr) := by rw [Int.toNat_natCast, List.getElem?_map, hh]; rfl
  have ir : (row.map (dClocks false))[(rv : Int).toNat]? = some (dClocks false since) := by rw [Int.toNat_natCast, List.getElem?_map, hro]; rfl
  have it : itemsOf m (.loc hrr) = some (row.map (dClocks false)) := by simp only [itemsOf, hmh]
  refine w_cons (s_set (i := 5) (ev_lst ea_nil) ?_ nd)
  refine w_cons ?_
  refine s_ifj (b := !b) (m1 := m) (I := fun r1 m1 => r1 = [some (.lst (as.map .loc)), some (.lst (hs.map .loc)), some (.int (sd : Int)), some (.int (rv : Int)), some (.bl b), some (dClocks false (if b then [] else since))] ∧ m = m1) (et_not (et_val (ev_name 4))) (fun e => ?_) (fun e => ?_) ?_
  · cases b with
    | true => cases e
    | false => exact w_one (s_set (i := 5) (ev_ix (ev_ix (ev_name 1) (ev_name 2) rfl (by omega) ih) (ev_name 3) it (by omega) ir) ⟨rfl, rfl⟩ nd)
  · cases b with
    | true => exact w_nil ⟨rfl, rfl⟩
    | false => cases e
  · rintro _ _ ⟨rfl, rfl⟩
    exact w_one (s_ret (ev_tup (ea_cons (ev_name 3) (ea_cons (ev_name 2) (ea_cons (ev_got G1 hr (ea_cons (ev_ix (ev_name 0) (ev_name 2) rfl (by omega) ia) (ea_cons (ev_name 5) ea_nil)) rfl ⟨a, k, _, rfl, hm, l1, l2, rfl, rfl⟩) ea_nil)))) hQ)
/-! _law_deliver(knows, heard, letter) -/
def RDeliver (C : Addr) : Con' := fun ds m Q => ∃ (as hs : List Addr) (sd rv : Nat) (a hr : Addr) (k : Know) (row : List Clocks) (n : News), ds = [.lst (as.map .loc), .lst (hs.map .loc), .tup [.int (rv : Int), .int (sd : Int), dNews n]] ∧
  as[rv]? = some a ∧ m a = some (.ins C (dKnow k)) ∧ hs[rv]? = some hr ∧ m hr = some (.lst (row.map (dClocks false))) ∧ a ≠ hr ∧ sd < row.length ∧ HearOk k (rv : Int) n ∧ k.rest.length + n.rest.length ≤ 400 ∧ Foldable (k.hear (rv : Int) n) ∧ (k.hear (rv : Int) n).knows ≠ [] ∧ (k.hear (rv : Int) n).knows.length ≤ 500 ∧
  Q .non ((m.put a (.ins C (dKnow (k.hear (rv : Int) n).forget))).put hr (.lst ((row.set sd n.knows).map (dClocks false))))
theorem sc_deliver : FnScope ["_law_knows", "_law_heard", "_law_letter", "_law_receiver", "_law_sender", "_law_news"] ["_law_knows", "_law_heard", "_law_letter"] (defScope (topS 47)) := ⟨rfl, rfl, rfl, by decide +kernel, rfl, by decide +kernel, by decide +kernel⟩
theorem got_deliver (F : Dfn K mg "_law_deliver" (topS 47) ["_law_knows", "_law_heard", "_law_letter"]) (G1 : Got P w K mg base "hear_news" 7 3 (RHear C)) (G2 : Got P w K mg base "forget" 9 1 (RForget C)) (nI : mg "list" = none) : Got P w K mg base "_law_deliver" 10 3 (RDeliver C) := by
  refine F.got sc_deliver rfl fun f cdv A outer s H E ds m Q hr h => ?_
  obtain ⟨as, hs, sd, rv, a, hrr, k, row, n, rfl, ha, hm, hh, hmh, hne, hsd, ok, hl, hf, hk1, hk2, hQ⟩ := h
  have nd := sc_deliver.nd
  have ia : (as.map Da.loc)[(rv : Int).toNat]? = some (.loc a) := by rw [Int.toNat_natCast, List.getElem?_map, ha]; rfl
  have ih : (hs.map Da.loc)[(rv : Int).toNat]? = some (.loc hrr) := by rw [Int.toNat_natCast, List.getElem?_map, hh]; rfl
  refine w_cons (s_untup (t := .tp [3, 4, 5]) (ev_name 2) (tg_tp rfl (tgs_cons nd (tgs_cons nd (tgs_cons nd tgs_nil)))) rfl ?_)
  refine w_cons (s_expr (ev_got G1 (hr.mono (by decide)) (ea_cons (ev_ix (ev_name 0) (ev_name 3) rfl (by omega) ia) (ea_cons (ev_name 3) (ea_cons (ev_name 5) ea_nil))) rfl ⟨a, k, (rv : Int), n, rfl, hm, ok, hl, rfl, rfl⟩) ?_)
  have hmh1 : (m.put a (.ins C (dKnow (k.hear (rv : Int) n)))) hrr = some (.lst (row.map (dClocks false))) := by rw [Mem.put_ne hne.symm]; exact hmh
  refine w_cons (s_sub (j := (sd : Int)) (ev_callTy (ea_cons (ev_ix (ev_name 5) ev_int rfl (by decide) rfl) ea_nil) (cd_list rfl) nI (by decide +kernel)) (ev_ix (ev_name 1) (ev_name 3) rfl (by omega) ih) (ev_name 4) hmh1 (by omega) (by rw [List.length_map]; omega) ?_)
  have es : (row.map (dClocks false)).set (sd : Int).toNat (.lst (n.knows.map dId)) = (row.set sd n.knows).map (dClocks false) := by rw [Int.toNat_natCast, List.map_set]; rfl
  rw [es]
  refine w_one (s_expr (ev_got G2 hr (ea_cons (ev_ix (ev_name 0) (ev_name 3) rfl (by omega) ia) ea_nil) rfl ⟨a, k.hear (rv : Int) n, rfl, by rw [Mem.put_ne hne]; exact Mem.put_same, hf, hk1, hk2, rfl, rfl⟩) ?_)
  have e2 : (((m.put a (.ins C (dKnow (k.hear (rv : Int) n)))).put hrr (.lst ((row.set sd n.knows).map (dClocks false)))).put a (.ins C (dKnow (k.hear (rv : Int) n).forget))) = ((m.put a (.ins C (dKnow (k.hear (rv : Int) n).forget))).put hrr (.lst ((row.set sd n.knows).map (dClocks false)))) := by
    rw [Mem.put_comm hne.symm, Mem.put_put]
  rw [e2]
  exact hQ
end
end FK
/-! Several devices: what each of them knows. Plain Lean. -/
namespace FK
def ELt (a b : Edit) : Prop := idLt a.id b.id = true
theorem ELt.irr (a : Edit) : ¬ ELt a a := fun h => by unfold ELt at h; rw [idLt_irrefl] at h; cases h
theorem ELt.tr {a b c : Edit} (h : ELt a b) (k : ELt b c) : ELt a c := idLt_trans h k
theorem asc_eq : ∀ {xs ys : List Edit}, xs.Pairwise ELt → ys.Pairwise ELt → (∀ e, e ∈ xs ↔ e ∈ ys) → xs = ys
  | [], [], _, _, _ => rfl
  | [], y :: ys, _, _, h => absurd ((h y).2 List.mem_cons_self) List.not_mem_nil
  | x :: xs, [], _, _, h => absurd ((h x).1 List.mem_cons_self) List.not_mem_nil
  | x :: xs, y :: ys, hx, hy, h => by
    rw [List.pairwise_cons] at hx hy
    have e : x = y := by
      rcases List.mem_cons.mp ((h x).1 List.mem_cons_self) with e | e
      · exact e
      · rcases List.mem_cons.mp ((h y).2 List.mem_cons_self) with e2 | e2
        · exact e2.symm
        · exact absurd ((hy.1 x e).tr (hx.1 y e2)) (ELt.irr y)
    subst e
    rw [asc_eq hx.2 hy.2 fun e => ⟨fun he => ?_, fun he => ?_⟩]
    · rcases List.mem_cons.mp ((h e).1 (List.mem_cons_of_mem _ he)) with z | z
      · subst z; exact absurd (hx.1 e he) (ELt.irr e)
      · exact z
    · rcases List.mem_cons.mp ((h e).2 (List.mem_cons_of_mem _ he)) with z | z
      · subst z; exact absurd (hy.1 e he) (ELt.irr e)
      · exact z
/-- the edits of this kind, in order -/
structure Sel (ed : List Edit) (P : Edit → Prop) (xs : List Edit) : Prop where
  asc : xs.Pairwise ELt
  mem : ∀ e, e ∈ xs ↔ e ∈ ed ∧ P e
theorem Sel.eq {ed : List Edit} {P Q : Edit → Prop} {xs ys : List Edit} (h : Sel ed P xs) (k : Sel ed Q ys) (e : ∀ e ∈ ed, P e ↔ Q e) : xs = ys :=
  asc_eq h.asc k.asc fun x => by rw [h.mem, k.mem]; exact ⟨fun ⟨a, b⟩ => ⟨a, (e x a).1 b⟩, fun ⟨a, b⟩ => ⟨a, (e x a).2 b⟩⟩
theorem Sel.imp {ed ed' : List Edit} {P Q : Edit → Prop} {xs : List Edit} (h : Sel ed P xs) (e : ∀ x, x ∈ ed ∧ P x ↔ x ∈ ed' ∧ Q x) : Sel ed' Q xs := ⟨h.asc, fun x => (h.mem x).trans (e x)⟩
theorem Sel.filter {ed : List Edit} {P : Edit → Prop} {xs : List Edit} (h : Sel ed P xs) (f : Edit → Bool) : Sel ed (fun e => P e ∧ f e = true) (xs.filter f) :=
  ⟨h.asc.sublist List.filter_sublist, fun e => by rw [List.mem_filter, h.mem, and_assoc]⟩
theorem Sel.app {ed : List Edit} {P Q : Edit → Prop} {xs ys : List Edit} (h : Sel ed P xs) (k : Sel ed Q ys) (l : ∀ a b, P a → Q b → ELt a b) : Sel ed (fun e => P e ∨ Q e) (xs ++ ys) :=
  ⟨List.pairwise_append.2 ⟨h.asc, k.asc, fun a ha b hb => l a b ((h.mem a).1 ha).2 ((k.mem b).1 hb).2⟩, fun e => by
    rw [List.mem_append, h.mem, k.mem]
    exact ⟨fun z => z.elim (fun a => ⟨a.1, .inl a.2⟩) (fun a => ⟨a.1, .inr a.2⟩), fun z => z.2.elim (fun a => .inl ⟨z.1, a⟩) (fun a => .inr ⟨z.1, a⟩)⟩⟩
theorem asc_ids {xs : List Edit} (h : xs.Pairwise ELt) : (xs.map Edit.id).Nodup := by
  unfold List.Nodup
  rw [List.pairwise_map]
  exact h.imp fun h => idLt_ne h
theorem Sel.len {ed : List Edit} {P : Edit → Prop} {xs : List Edit} (h : Sel ed P xs) : xs.length ≤ ed.length := by
  have := nodup_len (xs.map Edit.id) (ed.map Edit.id) (asc_ids h.asc) fun i hi => by
    obtain ⟨e, he, rfl⟩ := List.mem_map.mp hi
    exact List.mem_map.2 ⟨e, ((h.mem e).1 he).1, rfl⟩
  rwa [List.length_map, List.length_map] at this
theorem same_id {ed : List Edit} (nd : (ed.map Edit.id).Nodup) : ∀ {a b : Edit}, a ∈ ed → b ∈ ed → a.id = b.id → a = b := by
  induction ed with
  | nil => intro a b h; cases h
  | cons x ed ih =>
    intro a b ha hb e
    rw [List.map_cons, List.nodup_cons] at nd
    rcases List.mem_cons.mp ha with rfl | ha'
    · rcases List.mem_cons.mp hb with rfl | hb'
      · rfl
      · exact absurd (e ▸ List.mem_map_of_mem hb') nd.1
    · rcases List.mem_cons.mp hb with rfl | hb'
      · exact absurd (e ▸ List.mem_map_of_mem ha') nd.1
      · exact ih nd.2 ha' hb' e
/-! ### joining -/
theorem mem_takeLt : ∀ {os : List Edit} {i : Id} {x : Edit}, os.Pairwise ELt → (x ∈ takeLt os i ↔ x ∈ os ∧ idLt x.id i = true)
  | [], i, x, _ => by simp [takeLt]
  | o :: os, i, x, h => by
    rw [List.pairwise_cons] at h
    unfold takeLt
    split
    · rename_i e
      rw [List.mem_cons, mem_takeLt h.2, List.mem_cons]
      exact ⟨fun z => z.elim (fun a => ⟨.inl a, a ▸ e⟩) (fun a => ⟨.inr a.1, a.2⟩), fun z => z.1.elim .inl fun a => .inr ⟨a, z.2⟩⟩
    · rename_i e
      refine ⟨fun z => (by cases z), fun z => absurd ?_ e⟩
      rcases List.mem_cons.mp z.1 with a | a
      · exact a ▸ z.2
      · exact idLt_trans (h.1 x a) z.2
theorem mem_skipLt : ∀ {os : List Edit} {i : Id} {x : Edit}, os.Pairwise ELt → (x ∈ skipLt os i ↔ x ∈ os ∧ idLt x.id i = false)
  | [], i, x, _ => by simp [skipLt]
  | o :: os, i, x, h => by
    rw [List.pairwise_cons] at h
    unfold skipLt
    split
    · rename_i e
      rw [mem_skipLt h.2, List.mem_cons]
      refine ⟨fun z => ⟨.inr z.1, z.2⟩, fun z => ⟨z.1.elim (fun a => ?_) id, z.2⟩⟩
      rw [a, e] at z; cases z.2
    · rename_i e
      have e' : idLt o.id i = false := by simpa using e
      refine ⟨fun z => ⟨z, ?_⟩, fun z => z.1⟩
      rcases List.mem_cons.mp z with a | a
      · exact a ▸ e'
      · cases q : idLt x.id i with
        | false => rfl
        | true => exact absurd (idLt_trans (h.1 x a) q) e
theorem asc_skipLt {os : List Edit} {i : Id} (h : os.Pairwise ELt) : (skipLt os i).Pairwise ELt := by
  induction os with
  | nil => exact h
  | cons o os ih =>
    unfold skipLt
    split
    · exact ih (List.pairwise_cons.mp h).2
    · exact h
theorem asc_takeLt {os : List Edit} {i : Id} (h : os.Pairwise ELt) : (takeLt os i).Pairwise ELt := by
  induction os with
  | nil => exact h
  | cons o os ih =>
    have hp := List.pairwise_cons.mp h
    unfold takeLt
    split
    · exact List.pairwise_cons.2 ⟨fun x hx => hp.1 x ((mem_takeLt hp.2).1 hx).1, ih hp.2⟩
    · exact List.Pairwise.nil
theorem mem_skipEq {os : List Edit} {i : Id} {x : Edit} (h : os.Pairwise ELt) (l : ∀ o ∈ os, idLt o.id i = false) : x ∈ skipEq os i ↔ x ∈ os ∧ x.id ≠ i := by
  cases os with
  | nil => simp [skipEq]
  | cons o os =>
    rw [List.pairwise_cons] at h
    show (x ∈ if o.id = i then os else o :: os) ↔ _
    split
    · rename_i e
      rw [List.mem_cons]
      refine ⟨fun z => ⟨.inr z, fun q => ?_⟩, fun z => z.1.elim (fun a => absurd (a ▸ e) z.2) id⟩
      have := h.1 x z
      unfold ELt at this
      rw [q, e, idLt_irrefl] at this; cases this
    · rename_i e
      refine ⟨fun z => ⟨z, ?_⟩, fun z => z.1⟩
      rcases List.mem_cons.mp z with a | a
      · exact a ▸ e
      · intro q
        have l1 := h.1 x a
        unfold ELt at l1
        rw [q, l o List.mem_cons_self] at l1; cases l1
theorem asc_skipEq {os : List Edit} {i : Id} (h : os.Pairwise ELt) : (skipEq os i).Pairwise ELt := by
  cases os with
  | nil => exact h
  | cons o os =>
    show (if o.id = i then os else o :: os).Pairwise ELt
    split
    · exact (List.pairwise_cons.mp h).2
    · exact h
theorem joined_mem : ∀ {es os : List Edit}, es.Pairwise ELt → os.Pairwise ELt → (∀ a ∈ es, ∀ b ∈ os, a.id = b.id → a = b) → ∀ x, x ∈ joined es os ↔ x ∈ es ∨ x ∈ os
  | [], os, _, _, _, x => by simp [joined]
  | e :: es, os, he, ho, hs, x => by
    have hp := List.pairwise_cons.mp he
    have h1 := asc_skipLt (i := e.id) ho
    have h2 : ∀ o ∈ skipLt os e.id, idLt o.id e.id = false := fun o hm => ((mem_skipLt ho).1 hm).2
    unfold joined
    rw [List.mem_append, List.mem_cons, joined_mem hp.2 (asc_skipEq h1) (fun a ha b hb => hs a (List.mem_cons_of_mem _ ha) b ((mem_skipLt ho).1 ((mem_skipEq h1 h2).1 hb).1).1), mem_takeLt ho, mem_skipEq h1 h2, mem_skipLt ho, List.mem_cons]
    constructor
    · rintro (a | a | a | a)
      · exact .inr a.1
      · exact .inl (.inl a)
      · exact .inl (.inr a)
      · exact .inr a.1.1
    · rintro ((a | a) | a)
      · exact .inr (.inl a)
      · exact .inr (.inr (.inl a))
      · cases q : idLt x.id e.id with
        | true => exact .inl ⟨a, rfl⟩
        | false =>
          by_cases q2 : x.id = e.id
          · exact .inr (.inl (hs e List.mem_cons_self x a q2.symm).symm)
          · exact .inr (.inr (.inr ⟨⟨a, rfl⟩, q2⟩))
theorem joined_asc : ∀ {es os : List Edit}, es.Pairwise ELt → os.Pairwise ELt → (∀ a ∈ es, ∀ b ∈ os, a.id = b.id → a = b) → (joined es os).Pairwise ELt
  | [], os, _, ho, _ => ho
  | e :: es, os, he, ho, hs => by
    have hp := List.pairwise_cons.mp he
    have h1 := asc_skipLt (i := e.id) ho
    have h2 : ∀ o ∈ skipLt os e.id, idLt o.id e.id = false := fun o hm => ((mem_skipLt ho).1 hm).2
    have hs' : ∀ a ∈ es, ∀ b ∈ skipEq (skipLt os e.id) e.id, a.id = b.id → a = b := fun a ha b hb => hs a (List.mem_cons_of_mem _ ha) b ((mem_skipLt ho).1 ((mem_skipEq h1 h2).1 hb).1).1
    have lt : ∀ x ∈ joined es (skipEq (skipLt os e.id) e.id), ELt e x := fun x hx => by
      rcases (joined_mem hp.2 (asc_skipEq h1) hs' x).1 hx with a | a
      · exact hp.1 x a
      · have a1 := (mem_skipEq h1 h2).1 a
        rcases idLt_or (a := x.id) (b := e.id) with q | q | q
        · rw [h2 x a1.1] at q; cases q
        · exact absurd q a1.2
        · exact q
    unfold joined
    refine List.pairwise_append.2 ⟨asc_takeLt ho, List.pairwise_cons.2 ⟨lt, joined_asc hp.2 (asc_skipEq h1) hs'⟩, fun a ha b hb => ?_⟩
    have a1 : ELt a e := ((mem_takeLt ho).1 ha).2
    rcases List.mem_cons.mp hb with rfl | hb'
    · exact a1
    · exact a1.tr (lt b hb')
/-! ### clocks -/
def devs (n : Nat) : List Int := (List.range n).map fun (j : Nat) => (j : Int)
theorem clockIn_mem : ∀ (ks : Clocks) (d : Int), clockIn ks d = 0 ∨ (d, clockIn ks d) ∈ ks
  | [], _ => .inl rfl
  | (o, c) :: ks, d => by
    unfold clockIn
    split
    · rename_i e; exact .inr (by rw [e]; exact List.mem_cons_self)
    · exact (clockIn_mem ks d).imp id (List.mem_cons_of_mem _)
theorem clockIn_not : ∀ {ks : Clocks} {d : Int}, d ∉ ks.map (·.1) → clockIn ks d = 0
  | [], _, _ => rfl
  | (o, c) :: ks, d, h => by
    rw [List.map_cons, List.mem_cons, not_or] at h
    unfold clockIn
    rw [if_neg (fun e => h.1 e.symm)]
    exact clockIn_not h.2
theorem clockIn_of : ∀ {ks : Clocks} {p : Int × Int}, (ks.map (·.1)).Nodup → p ∈ ks → clockIn ks p.1 = p.2
  | (o, c) :: ks, p, nd, h => by
    rw [List.map_cons, List.nodup_cons] at nd
    unfold clockIn
    rcases List.mem_cons.mp h with rfl | h
    · rw [if_pos rfl]
    · rw [if_neg (fun e => nd.1 (by
        have e' : o = p.1 := e
        rw [show (o, c).1 = p.1 from e']; exact List.mem_map_of_mem h))]
      exact clockIn_of nd.2 h
theorem clockIn_map (f : Int → Int → Int) : ∀ {ks : Clocks} {d : Int}, d ∈ ks.map (·.1) → clockIn (ks.map fun p => (p.1, f p.1 p.2)) d = f d (clockIn ks d)
  | (o, c) :: ks, d, h => by
    rw [List.map_cons]
    unfold clockIn
    by_cases e : o = d
    · rw [if_pos e, if_pos e, e]
    · rw [if_neg e, if_neg e]
      rw [List.map_cons, List.mem_cons] at h
      exact clockIn_map f (h.resolve_left fun q => e q.symm)
theorem devs_nd (n : Nat) : (devs n).Nodup := by
  unfold devs List.Nodup
  rw [List.pairwise_map]
  exact List.nodup_range.imp fun h e => h (by omega)
theorem mem_devs {n : Nat} {d : Int} : d ∈ devs n ↔ ∃ j : Nat, j < n ∧ d = (j : Int) := by
  unfold devs
  rw [List.mem_map]
  exact ⟨fun ⟨j, h, e⟩ => ⟨j, List.mem_range.1 h, e.symm⟩, fun ⟨j, h, e⟩ => ⟨j, List.mem_range.2 h, e.symm⟩⟩
end FK
/-! The devices' invariant. Plain Lean. -/
namespace FK
structure Sys where
  ks : Nat → Know
  hd : Nat → Nat → Clocks
  lt : List (Nat × Nat × News)
  ed : List Edit
/-- what a base and a rest hold -/
structure Held (ed : List Edit) (base : List Line) (upto : Int) (rest : List Edit) (P : Edit → Prop) : Prop where
  base : ∃ xs, Sel ed (fun e => e.id.1 ≤ upto) xs ∧ base = foldLines [] xs
  rest : Sel ed (fun e => upto < e.id.1 ∧ P e) rest
structure DevOk (n : Nat) (ed : List Edit) (clk : Nat → Int) (i : Nat) (k : Know) : Prop where
  dev : k.knows.map (·.1) = devs n
  own : clockIn k.knows i = k.clock
  le : ∀ j, j < n → clockIn k.knows (j : Int) ≤ k.clock
  cl : ∀ j, j < n → clockIn k.knows (j : Int) ≤ clk j
  up0 : 0 ≤ k.upto
  up : ∀ j, j < n → k.upto ≤ clockIn k.knows (j : Int)
  held : Held ed k.base k.upto k.rest fun e => e.id.1 ≤ clockIn k.knows e.id.2
structure LetOk (n : Nat) (ed : List Edit) (B : Int) (ks : Nat → Know) (rv sd : Nat) (m : News) : Prop where
  hr : rv < n
  hs : sd < n
  dev : m.knows.map (·.1) = devs n
  snd : ∀ j, j < n → clockIn m.knows (j : Int) ≤ clockIn (ks sd).knows (j : Int)
  le : ∀ j, j < n → clockIn m.knows (j : Int) ≤ m.clock
  si : ∀ p ∈ m.since, p.2 ≤ clockIn (ks rv).knows p.1
  up0 : 0 ≤ m.upto
  up : ∀ j, j < n → m.upto ≤ clockIn m.knows (j : Int)
  cb : m.clock ≤ B
  held : Held ed m.base m.upto m.rest fun e => e.id.1 ≤ clockIn m.knows e.id.2 ∧ clockIn m.since e.id.2 < e.id.1
structure EdOk (n : Nat) (ed : List Edit) (clk : Nat → Int) : Prop where
  nd : (ed.map Edit.id).Nodup
  ok : ∀ e ∈ ed, EditOk e
  pos : ∀ e ∈ ed, 1 ≤ e.id.1
  by_ : ∀ e ∈ ed, ∃ j, j < n ∧ e.id.2 = ((j : Nat) : Int) ∧ e.id.1 ≤ clk j
structure SInv (n : Nat) (B : Nat) (S : Sys) : Prop where
  ed : EdOk n S.ed fun j => (S.ks j).clock
  len : S.ed.length ≤ B
  dev : ∀ i, i < n → DevOk n S.ed (fun j => (S.ks j).clock) i (S.ks i)
  cb : ∀ i, i < n → (S.ks i).clock ≤ (B : Int)
  hrd : ∀ i j, i < n → j < n → ∀ p ∈ S.hd i j, p.2 ≤ clockIn (S.ks j).knows p.1
  let_ : ∀ l ∈ S.lt, LetOk n S.ed B S.ks l.1 l.2.1 l.2.2
/-- every clock of what a device knows goes up -/
def Mono (n : Nat) (S S' : Sys) : Prop := ∀ i j : Nat, i < n → j < n → clockIn (S.ks i).knows (j : Int) ≤ clockIn (S'.ks i).knows (j : Int)
theorem Mono.rfl' {n : Nat} (S : Sys) : Mono n S S := fun _ _ _ _ => Int.le_refl _
/-! ### what follows at once -/
theorem same_of {ed : List Edit} {clk : Nat → Int} {n : Nat} (E : EdOk n ed clk) {P Q : Edit → Prop} {xs ys : List Edit} (h : Sel ed P xs) (k : Sel ed Q ys) : ∀ a ∈ xs, ∀ b ∈ ys, a.id = b.id → a = b :=
  fun a ha b hb e => same_id E.nd ((h.mem a).1 ha).1 ((k.mem b).1 hb).1 e
theorem eds_ok {n : Nat} {ed : List Edit} {clk : Nat → Int} (E : EdOk n ed clk) {P : Edit → Prop} {xs : List Edit} (h : Sel ed P xs) : EdsOk [] xs :=
  ⟨h.asc, fun e he => E.ok e ((h.mem e).1 he).1, fun e _ l hl => (by cases hl)⟩
theorem Held.base_good {n : Nat} {ed : List Edit} {clk : Nat → Int} (E : EdOk n ed clk) {b : List Line} {u : Int} {r : List Edit} {P : Edit → Prop} (h : Held ed b u r P) : Good ed.length (6 * ed.length) b := by
  obtain ⟨xs, hx, rfl⟩ := h.base
  have := good_fold good_nil (eds_ok E hx)
  have l := hx.len
  exact this.more (by omega) (by omega)
theorem Held.base_ids {ed : List Edit} {b : List Line} {u : Int} {r : List Edit} {P : Edit → Prop} (h : Held ed b u r P) : ∀ l ∈ b, (l.id.1 ≤ u ∧ ∃ e ∈ ed, e.id = l.id) ∧ (l.head.1 ≤ u ∧ ∃ e ∈ ed, e.id = l.head) := by
  obtain ⟨xs, hx, rfl⟩ := h.base
  exact ids_fold (S := fun i => i.1 ≤ u ∧ ∃ e ∈ ed, e.id = i) (fun l hl => by cases hl) fun e he => ⟨((hx.mem e).1 he).2, e, ((hx.mem e).1 he).1, rfl⟩
theorem lt_of_clock {a b : Edit} (h : a.id.1 < b.id.1) : ELt a b := idLt_iff.2 (.inl h)
/-- base and rest together: all of that kind -/
theorem Held.all {ed : List Edit} {b : List Line} {u : Int} {r : List Edit} {P : Edit → Prop} (h : Held ed b u r P) : ∃ xs, Sel ed (fun e => e.id.1 ≤ u) xs ∧ b = foldLines [] xs ∧ Sel ed (fun e => e.id.1 ≤ u ∨ (u < e.id.1 ∧ P e)) (xs ++ r) := by
  obtain ⟨xs, hx, e⟩ := h.base
  exact ⟨xs, hx, e, hx.app h.rest fun a b ha hb => lt_of_clock (by have := hb.1; omega)⟩
theorem DevOk.foldable {n : Nat} {ed : List Edit} {clk : Nat → Int} {i : Nat} {k : Know} (E : EdOk n ed clk) (l : ed.length ≤ 40) (h : Held ed k.base k.upto k.rest fun e => e.id.1 ≤ clockIn k.knows e.id.2) : Foldable k := by
  obtain ⟨xs, hx, e, ha⟩ := h.all
  have ln := ha.len
  rw [List.length_append] at ln
  have g := good_fold good_nil (eds_ok E hx)
  rw [← e] at g
  refine ⟨_, _, g, ⟨h.rest.asc, fun e he => E.ok e ((h.rest.mem e).1 he).1, fun x hx' z hz => ?_⟩, by omega, by omega⟩
  have u := ((h.rest.mem x).1 hx').2.1
  have := h.base_ids z hz
  exact ⟨idLt_iff.2 (.inl (by omega)), idLt_iff.2 (.inl (by omega))⟩
theorem EdOk.dev {n : Nat} {ed : List Edit} {clk : Nat → Int} (E : EdOk n ed clk) {e : Edit} (h : e ∈ ed) : ∃ j : Nat, j < n ∧ e.id.2 = (j : Int) ∧ e.id.1 ≤ clk j := E.by_ e h
/-- the lines are those of all edits that it knows -/
theorem DevOk.lines {n : Nat} {ed : List Edit} {clk : Nat → Int} {i : Nat} {k : Know} (E : EdOk n ed clk) (D : DevOk n ed clk i k) {ys : List Edit} (hy : Sel ed (fun e => e.id.1 ≤ clockIn k.knows e.id.2) ys) : k.lines = foldLines [] ys := by
  obtain ⟨xs, hx, e, ha⟩ := D.held.all
  unfold Know.lines
  rw [e, ← fold_app]
  refine congrArg _ (ha.eq hy fun x hx => ?_)
  obtain ⟨j, hj, e2, _⟩ := E.by_ x hx
  have := D.up j hj
  rw [e2]
  constructor
  · rintro (c | c)
    · omega
    · exact c.2
  · intro c
    by_cases q : x.id.1 ≤ k.upto
    · exact .inl q
    · exact .inr ⟨by omega, c⟩
theorem mem_dev {n : Nat} {ks : Clocks} (h : ks.map (·.1) = devs n) {p : Int × Int} (hp : p ∈ ks) : ∃ j : Nat, j < n ∧ p = ((j : Int), clockIn ks (j : Int)) := by
  have h1 : p.1 ∈ devs n := h ▸ List.mem_map_of_mem hp
  obtain ⟨j, hj, e⟩ := mem_devs.1 h1
  have := clockIn_of (h ▸ devs_nd n) hp
  exact ⟨j, hj, Prod.ext e (by rw [← e]; exact this.symm)⟩
theorem dev_get {n : Nat} {ks : Clocks} (h : ks.map (·.1) = devs n) {j : Nat} (hj : j < n) : ks[j]? = some ((j : Int), clockIn ks (j : Int)) := by
  have l : ks.length = n := by have := congrArg List.length h; unfold devs at this; simpa using this
  have h1 : ks[j]? = some ks[j] := List.getElem?_eq_getElem (by omega)
  have h2 : (ks.map (·.1))[j]? = (devs n)[j]? := by rw [h]
  unfold devs at h2
  rw [List.getElem?_map, h1, List.getElem?_map, List.getElem?_eq_getElem (by rw [List.length_range]; exact hj), List.getElem_range] at h2
  have h3 : ks[j].1 = (j : Int) := by simpa using h2
  have h4 := clockIn_of (h ▸ devs_nd n) (List.getElem_mem (by omega : j < ks.length))
  rw [h1]
  exact congrArg some (Prod.ext h3 (by rw [← h3]; exact h4.symm))
/-! ### the edits grow -/
theorem Held.more {ed : List Edit} {b : List Line} {u : Int} {r : List Edit} {P Q : Edit → Prop} (h : Held ed b u r P) {e : Edit} (h1 : u < e.id.1) (h2 : ¬ Q e) (h3 : ∀ x ∈ ed, P x ↔ Q x) : Held (ed ++ [e]) b u r Q := by
  obtain ⟨xs, hx, q⟩ := h.base
  refine ⟨⟨xs, hx.imp fun x => ?_, q⟩, h.rest.imp fun x => ?_⟩
  · rw [List.mem_append, List.mem_singleton]
    exact ⟨fun z => ⟨.inl z.1, z.2⟩, fun z => ⟨z.1.elim id (fun q => by rw [q] at z; exact absurd z.2 (by omega)), z.2⟩⟩
  · rw [List.mem_append, List.mem_singleton]
    exact ⟨fun z => ⟨.inl z.1, z.2.1, (h3 x z.1).1 z.2.2⟩, fun z => z.1.elim (fun m => ⟨m, z.2.1, (h3 x m).2 z.2.2⟩) fun q => absurd (q ▸ z.2.2) h2⟩
theorem EdOk.snoc {n : Nat} {ed : List Edit} {clk clk' : Nat → Int} (E : EdOk n ed clk) (hc : ∀ j, j < n → clk j ≤ clk' j) {e : Edit} (ok : EditOk e) (p : 1 ≤ e.id.1) {j : Nat} (hj : j < n) (h2 : e.id.2 = (j : Int)) (h1 : e.id.1 ≤ clk' j) (h3 : clk j < e.id.1) : EdOk n (ed ++ [e]) clk' := by
  have hm : ∀ x, x ∈ ed ++ [e] ↔ x ∈ ed ∨ x = e := fun x => by rw [List.mem_append, List.mem_singleton]
  refine ⟨?_, fun x hx => ?_, fun x hx => ?_, fun x hx => ?_⟩
  · rw [List.map_append]
    refine List.nodup_append.2 ⟨E.nd, by simp, fun a ha b hb => ?_⟩
    rw [List.map_cons, List.map_nil, List.mem_singleton] at hb
    subst hb
    rintro rfl
    obtain ⟨x, hx, q⟩ := List.mem_map.mp ha
    obtain ⟨i, hi, q2, q3⟩ := E.by_ x hx
    rw [q] at q2 q3
    have : i = j := by omega
    subst this
    omega
  · exact ((hm x).1 hx).elim (E.ok x) fun q => q ▸ ok
  · exact ((hm x).1 hx).elim (E.pos x) fun q => q ▸ p
  · rcases (hm x).1 hx with q | rfl
    · obtain ⟨i, hi, q2, q3⟩ := E.by_ x q
      exact ⟨i, hi, q2, Int.le_trans q3 (hc i hi)⟩
    · exact ⟨j, hj, h2, h1⟩
def Sys.set (S : Sys) (i : Nat) (k : Know) : Sys := { S with ks := fun j => if j = i then k else S.ks j }
theorem set_self (S : Sys) (i : Nat) (k : Know) : (S.set i k).ks i = k := if_pos rfl
theorem set_ne (S : Sys) {i j : Nat} (k : Know) (h : j ≠ i) : (S.set i k).ks j = S.ks j := if_neg h
end FK
/-! The devices' deeds keep the invariant. Plain Lean. -/
namespace FK
theorem imax_l (a b : Int) : a ≤ imax a b := by unfold imax; split <;> omega
theorem imax_r (a b : Int) : b ≤ imax a b := by unfold imax; split <;> omega
theorem imax_le {a b c : Int} (h : a ≤ c) (k : b ≤ c) : imax a b ≤ c := by unfold imax; split <;> omega
theorem wc_dev (ks : Clocks) (d c : Int) : (withClock ks d c).map (·.1) = ks.map (·.1) := by
  unfold withClock
  rw [List.map_map]; rfl
theorem wc_in {ks : Clocks} {d c x : Int} (h : x ∈ ks.map (·.1)) : clockIn (withClock ks d c) x = if x = d then c else clockIn ks x :=
  clockIn_map (fun o old => if o = d then c else old) h
theorem dev_mem {n j : Nat} (h : j < n) : ((j : Nat) : Int) ∈ devs n := mem_devs.2 ⟨j, h, rfl⟩
theorem DevOk.nn {n : Nat} {ed : List Edit} {clk : Nat → Int} {i : Nat} {k : Know} (D : DevOk n ed clk i k) (d : Int) : 0 ≤ clockIn k.knows d := by
  by_cases h : d ∈ k.knows.map (·.1)
  · rw [D.dev] at h
    obtain ⟨j, hj, rfl⟩ := mem_devs.1 h
    exact Int.le_trans D.up0 (D.up j hj)
  · rw [clockIn_not h]; exact Int.le_refl _
theorem mono_all {n : Nat} {a b : Clocks} (ha : a.map (·.1) = devs n) (hb : b.map (·.1) = devs n) (h : ∀ j : Nat, j < n → clockIn a (j : Int) ≤ clockIn b (j : Int)) (d : Int) : clockIn a d ≤ clockIn b d := by
  by_cases q : d ∈ devs n
  · obtain ⟨j, hj, rfl⟩ := mem_devs.1 q
    exact h j hj
  · rw [clockIn_not (ha ▸ q), clockIn_not (hb ▸ q)]; exact Int.le_refl _
theorem since_le {n : Nat} {ed : List Edit} {clk : Nat → Int} {i : Nat} {k : Know} (D : DevOk n ed clk i k) {s : Clocks} (h : ∀ p ∈ s, p.2 ≤ clockIn k.knows p.1) (d : Int) : clockIn s d ≤ clockIn k.knows d := by
  rcases clockIn_mem s d with q | q
  · rw [q]; exact D.nn d
  · exact h _ q
theorem DevOk.clk {n : Nat} {ed : List Edit} {clk clk' : Nat → Int} {i : Nat} {k : Know} (D : DevOk n ed clk i k) (h : ∀ j, j < n → clk j ≤ clk' j) : DevOk n ed clk' i k :=
  { D with cl := fun j hj => Int.le_trans (D.cl j hj) (h j hj) }
theorem EdOk.clk {n : Nat} {ed : List Edit} {clk clk' : Nat → Int} (E : EdOk n ed clk) (h : ∀ j, j < n → clk j ≤ clk' j) : EdOk n ed clk' :=
  { E with by_ := fun e he => by obtain ⟨j, hj, q1, q2⟩ := E.by_ e he; exact ⟨j, hj, q1, Int.le_trans q2 (h j hj)⟩ }
theorem LetOk.mono {n : Nat} {ed : List Edit} {B B' : Int} {ks ks' : Nat → Know} {rv sd : Nat} {m : News} (L : LetOk n ed B ks rv sd m) (hB : B ≤ B') (h : ∀ i, i < n → ∀ d : Int, clockIn (ks i).knows d ≤ clockIn (ks' i).knows d) : LetOk n ed B' ks' rv sd m :=
  { L with
    snd := fun j hj => Int.le_trans (L.snd j hj) (h sd L.hs _)
    si := fun p hp => Int.le_trans (L.si p hp) (h rv L.hr _)
    cb := Int.le_trans L.cb hB }
/-! ### news made by a device can be heard -/
theorem news_ok {n : Nat} {ed : List Edit} {clk : Nat → Int} (E : EdOk n ed clk) {m : News} (dev : m.knows.map (·.1) = devs n) (hl : ed.length ≤ 40) (le : ∀ j, j < n → clockIn m.knows ((j : Nat) : Int) ≤ m.clock)
    (up : ∀ j, j < n → m.upto ≤ clockIn m.knows ((j : Nat) : Int)) (cb : m.clock ≤ 4294967295) {P : Edit → Prop} (h : Held ed m.base m.upto m.rest P) (hP : ∀ e, P e → e.id.1 ≤ clockIn m.knows e.id.2) : NewsOk m := by
  have g := h.base_good E
  have hb := h.base_ids
  have lr := h.rest.len
  have bl : m.base.length ≤ 60 := by have := g.len; omega
  have rl : m.rest.length ≤ 500 := by omega
  refine ⟨g.toSound, bl, fun l hl => ⟨(hb l hl).1.1, (hb l hl).2.1⟩, rl, h.rest.asc, fun e he => E.ok e ((h.rest.mem e).1 he).1, fun e he => ⟨((h.rest.mem e).1 he).2.1, hP e ((h.rest.mem e).1 he).2.2⟩, fun p hp => ?_, cb⟩
  obtain ⟨j, hj, rfl⟩ := mem_dev dev hp
  exact ⟨up j hj, le j hj⟩
/-! ### hearing -/
theorem hear_in {n : Nat} {k : Know} {m : News} {i : Nat} (dev : k.knows.map (·.1) = devs n) {j : Nat} (hj : j < n) : clockIn (k.hear (i : Int) m).knows (j : Int) = if j = i then imax k.clock m.clock else imax (clockIn k.knows (j : Int)) (clockIn m.knows (j : Int)) := by
  have h1 : ((j : Nat) : Int) ∈ k.knows.map (·.1) := by rw [dev]; exact dev_mem hj
  have h2 : (j : Int) ∈ (k.knows.map fun p => (p.1, imax p.2 (clockIn m.knows p.1))).map (·.1) := by rw [List.map_map]; exact h1
  show clockIn (withClock (k.knows.map fun p => (p.1, imax p.2 (clockIn m.knows p.1))) (i : Int) (imax k.clock m.clock)) (j : Int) = _
  rw [wc_in h2, clockIn_map (fun o old => imax old (clockIn m.knows o)) h1]
  by_cases e : j = i
  · rw [if_pos e, if_pos (by rw [e])]
  · rw [if_neg e, if_neg (by omega)]
theorem hear_dev {n : Nat} {k : Know} {m : News} {i : Int} (dev : k.knows.map (·.1) = devs n) : (k.hear i m).knows.map (·.1) = devs n := by
  show (withClock (k.knows.map fun p => (p.1, imax p.2 (clockIn m.knows p.1))) i (imax k.clock m.clock)).map (·.1) = _
  rw [wc_dev, List.map_map]; exact dev
theorem hear_ok {n : Nat} {ed : List Edit} {clk clk' : Nat → Int} {i : Nat} {k : Know} {m : News} (hi : i < n) (E : EdOk n ed clk) (D : DevOk n ed clk i k) (hci : clk i = k.clock)
    (mcl : ∀ j, j < n → clockIn m.knows ((j : Nat) : Int) ≤ clk j) (mle : ∀ j, j < n → clockIn m.knows ((j : Nat) : Int) ≤ m.clock) (mu0 : 0 ≤ m.upto) (mup : ∀ j, j < n → m.upto ≤ clockIn m.knows ((j : Nat) : Int))
    (msi : ∀ p ∈ m.since, p.2 ≤ clockIn k.knows p.1) (mh : Held ed m.base m.upto m.rest fun e => e.id.1 ≤ clockIn m.knows e.id.2 ∧ clockIn m.since e.id.2 < e.id.1)
    (hc : ∀ j, j < n → clk j ≤ clk' j) (hc' : clk' i = imax k.clock m.clock) : DevOk n ed clk' i (k.hear (i : Int) m) := by
  have kin : ∀ j, j < n → clockIn (k.hear (i : Int) m).knows (j : Int) = if j = i then imax k.clock m.clock else imax (clockIn k.knows (j : Int)) (clockIn m.knows (j : Int)) := fun j hj => hear_in D.dev hj
  have lk : ∀ j, j < n → clockIn k.knows ((j : Nat) : Int) ≤ clockIn (k.hear (i : Int) m).knows (j : Int) := fun j hj => by
    rw [kin j hj]
    split
    · exact Int.le_trans (D.le j hj) (imax_l _ _)
    · exact imax_l _ _
  have lm : ∀ j, j < n → clockIn m.knows ((j : Nat) : Int) ≤ clockIn (k.hear (i : Int) m).knows (j : Int) := fun j hj => by
    rw [kin j hj]
    split
    · exact Int.le_trans (mle j hj) (imax_r _ _)
    · exact imax_r _ _
  have ue : (k.hear (i : Int) m).upto = if k.upto < m.upto then m.upto else k.upto := rfl
  have be : (k.hear (i : Int) m).base = if k.upto < m.upto then m.base else k.base := rfl
  have u1 : k.upto ≤ (k.hear (i : Int) m).upto := by rw [ue]; split <;> omega
  have u2 : m.upto ≤ (k.hear (i : Int) m).upto := by rw [ue]; split <;> omega
  refine { dev := hear_dev D.dev, own := ?_, le := fun j hj => ?_, cl := fun j hj => ?_, up0 := Int.le_trans D.up0 u1, up := fun j hj => ?_, held := ⟨?_, ?_⟩ }
  · rw [kin i hi, if_pos rfl]; rfl
  · rw [kin j hj]
    show _ ≤ imax k.clock m.clock
    split
    · exact Int.le_refl _
    · exact imax_le (Int.le_trans (D.le j hj) (imax_l _ _)) (Int.le_trans (mle j hj) (imax_r _ _))
  · rw [kin j hj]
    split
    · rename_i e; rw [e, hc']; exact Int.le_refl _
    · exact imax_le (Int.le_trans (D.cl j hj) (hc j hj)) (Int.le_trans (mcl j hj) (hc j hj))
  · rw [ue]
    split
    · exact Int.le_trans (mup j hj) (lm j hj)
    · exact Int.le_trans (D.up j hj) (lk j hj)
  · rw [ue, be]
    split
    · exact mh.base
    · exact D.held.base
  · have sm := same_of E D.held.rest mh.rest
    have ja := joined_asc D.held.rest.asc mh.rest.asc sm
    have jm := joined_mem D.held.rest.asc mh.rest.asc sm
    refine ⟨ja.sublist List.filter_sublist, fun e => ?_⟩
    show e ∈ (joined k.rest m.rest).filter (fun e => decide ((k.hear (i : Int) m).upto < e.id.1)) ↔ _
    rw [List.mem_filter, jm, D.held.rest.mem, mh.rest.mem, decide_eq_true_eq]
    constructor
    · rintro ⟨q | q, l⟩
      · obtain ⟨j, hj, q2, q3⟩ := E.by_ e q.1
        refine ⟨q.1, l, ?_⟩
        have := q.2.2
        rw [q2] at this ⊢
        exact Int.le_trans this (lk j hj)
      · obtain ⟨j, hj, q2, q3⟩ := E.by_ e q.1
        refine ⟨q.1, l, ?_⟩
        have := q.2.2.1
        rw [q2] at this ⊢
        exact Int.le_trans this (lm j hj)
    · rintro ⟨he, l, c⟩
      obtain ⟨j, hj, q2, q3⟩ := E.by_ e he
      refine ⟨?_, l⟩
      by_cases g : e.id.1 ≤ clockIn k.knows e.id.2
      · exact .inl ⟨he, by omega, g⟩
      · refine .inr ⟨he, by omega, ?_, ?_⟩
        · rw [q2] at c g ⊢
          rw [kin j hj] at c
          split at c
          · rename_i e1
            subst e1
            have := D.own
            omega
          · unfold imax at c
            split at c
            · exact c
            · omega
        · have := since_le D msi e.id.2
          omega
/-! ### forgetting -/
theorem forget_ok {n : Nat} {ed : List Edit} {clk : Nat → Int} {i : Nat} {k : Know} (hn : 0 < n) (E : EdOk n ed clk) (D : DevOk n ed clk i k) : DevOk n ed clk i k.forget := by
  have ne : k.knows ≠ [] := by
    intro e
    have d := D.dev
    rw [e] at d
    have := congrArg List.length d
    unfold devs at this
    simp at this
    omega
  have lo : ∀ j, j < n → minClock k.knows ≤ clockIn k.knows ((j : Nat) : Int) := fun j hj => by
    have g := List.mem_of_getElem? (dev_get D.dev hj)
    exact minClock_le _ (List.mem_map_of_mem (f := (·.2)) g)
  have hu : k.upto ≤ minClock k.knows := by
    obtain ⟨p, hp, e⟩ := List.mem_map.mp (minClock_mem ne)
    obtain ⟨j, hj, rfl⟩ := mem_dev D.dev hp
    rw [← e]; exact D.up j hj
  have ue : k.forget.upto = minClock k.knows := by
    show imax k.upto (minClock k.knows) = _
    unfold imax; split <;> omega
  refine { dev := D.dev, own := D.own, le := D.le, cl := D.cl, up0 := by rw [ue]; exact Int.le_trans D.up0 hu, up := fun j hj => by rw [ue]; exact lo j hj, held := ?_ }
  rw [ue]
  obtain ⟨xs, hx, e, _⟩ := D.held.all
  have h1 := D.held.rest.filter (fun e => decide (e.id.1 ≤ minClock k.knows))
  have h2 := D.held.rest.filter (fun e => decide (minClock k.knows < e.id.1))
  refine ⟨⟨xs ++ k.rest.filter (fun e => decide (e.id.1 ≤ minClock k.knows)), ?_, ?_⟩, ?_⟩
  · refine (hx.app h1 fun a b ha hb => lt_of_clock (by have := hb.1.1; omega)).imp fun x => ?_
    rw [decide_eq_true_eq]
    constructor
    · rintro ⟨hx, c | c⟩
      · exact ⟨hx, by omega⟩
      · exact ⟨hx, c.2⟩
    · rintro ⟨hx, c⟩
      refine ⟨hx, ?_⟩
      obtain ⟨j, hj, q2, q3⟩ := E.by_ x hx
      have := lo j hj
      by_cases g : x.id.1 ≤ k.upto
      · exact .inl g
      · exact .inr ⟨⟨by omega, by rw [q2]; omega⟩, c⟩
  · show foldLines k.base _ = _
    rw [fold_app, ← e]
  · refine h2.imp fun x => ?_
    rw [decide_eq_true_eq]
    constructor
    · rintro ⟨hx, c⟩
      exact ⟨hx, c.2, c.1.2⟩
    · rintro ⟨hx, c⟩
      exact ⟨hx, ⟨by omega, c.2⟩, c.1⟩
end FK
/-! The deeds: telling, saying, delivering. Plain Lean. -/
namespace FK
/-! ### telling -/
theorem pick_mem {row : Int} {ids : List Id} {x : Id} (h : pick row ids = some x) : x ∈ ids := by
  unfold pick at h
  split at h
  · cases h
  · split at h <;> exact List.mem_of_getElem? h
theorem path_ok {row most : Int} (h1 : 0 < most) (h2 : most ≤ 3) : path row most ≠ [] ∧ (path row most).length ≤ 3 := by
  have c1 := Int.emod_nonneg (row / 5) (show most ≠ 0 by omega)
  have c2 := Int.emod_lt_of_pos (row / 5) h1
  have l : (path row most).length = (1 + row / 5 % most).toNat := by unfold path; rw [List.length_map, List.length_range]
  refine ⟨fun e => ?_, by omega⟩
  rw [e, List.length_nil] at l
  omega
theorem place_ok (row : Int) (ids : List Id) : PlaceOk (place row ids) := by
  have h1 := path_ok (row := row / 13) (show (0 : Int) < 2 by decide) (by decide)
  have h2 := path_ok (row := row / 101) (show (0 : Int) < 3 by decide) (by decide)
  exact ⟨h1.1, h2.1, h1.2, h2.2⟩
theorem heads_ok {row : Int} {ids : List Id} : (∀ h ∈ heads row ids, h ∈ ids) ∧ (heads row ids).length ≤ 500 := by
  refine ⟨fun h hh => ?_, ?_⟩
  · unfold heads at hh
    obtain ⟨j, _, e⟩ := List.mem_filterMap.mp hh
    exact pick_mem e
  · have c2 := Int.emod_lt_of_pos (row / 17) (show (0 : Int) < 4 by decide)
    have l : (heads row ids).length ≤ (row / 17 % 4).toNat := by
      unfold heads
      exact Nat.le_trans (List.length_filterMap_le ..) (by rw [List.length_range]; exact Nat.le_refl _)
    omega
theorem lawEdit_ok {row : Int} {i0 i : Id} {ids : List Id} (h : ∀ x ∈ ids, idLt x i = true) : EditOk ((lawEdit row i0 ids).withId i) ∧ ((lawEdit row i0 ids).withId i).id = i := by
  have hh : ∀ r : Int, (∀ h ∈ heads r ids, idLt h i = true) ∧ (heads r ids).length ≤ 500 := fun r => ⟨fun x hx => h x (heads_ok.1 x hx), heads_ok.2⟩
  unfold lawEdit
  split
  · exact ⟨⟨place_ok _ _, hh _⟩, rfl⟩
  · split
    · exact ⟨⟨place_ok _ _, hh _⟩, rfl⟩
    · split
      · exact ⟨hh _, rfl⟩
      · refine ⟨⟨fun q hq => ?_, ?_⟩, rfl⟩
        · unfold movedOf at hq
          obtain ⟨j, _, rfl⟩ := List.mem_map.mp hq
          exact place_ok _ _
        · have c2 := Int.emod_lt_of_pos (row / 31) (show (0 : Int) < 2 by decide)
          unfold movedOf
          rw [List.length_map, List.length_range]
          omega
theorem DevOk.heads {n : Nat} {ed : List Edit} {clk : Nat → Int} {i : Nat} {k : Know} (hi : i < n) (E : EdOk n ed clk) (D : DevOk n ed clk i k) : ∀ x ∈ tellIds k, x.1 ≤ k.clock := by
  have hr : ∀ e ∈ k.rest, e.id.1 ≤ k.clock := fun e he => by
    have h := (D.held.rest.mem e).1 he
    obtain ⟨j, hj, q, _⟩ := E.by_ e h.1
    have h2 := h.2.2
    rw [q] at h2
    exact Int.le_trans h2 (D.le j hj)
  have hl : ∀ l ∈ k.lines, l.id.1 ≤ k.clock ∧ l.head.1 ≤ k.clock := by
    refine ids_fold (S := fun i => i.1 ≤ k.clock) (fun l hl => ?_) hr
    have h := D.held.base_ids l hl
    have u := D.up i hi
    have := D.own
    exact ⟨by omega, by omega⟩
  intro x hx
  unfold tellIds at hx
  rcases List.mem_append.mp hx with q | q
  · obtain ⟨l, hl', rfl⟩ := List.mem_map.mp q
    exact (hl l hl').2
  · obtain ⟨e, he, rfl⟩ := List.mem_map.mp q
    exact hr e he
def Sys.tell (S : Sys) (i : Nat) (row : Int) : Sys := { S.set i ((S.ks i).make (i : Int) (tellEdit (S.ks i) (i : Int) row)) with ed := S.ed ++ [tellEdit (S.ks i) (i : Int) row] }
theorem SInv.monoAll {n B : Nat} {S S' : Sys} (I : SInv n B S) (I' : ∀ i, i < n → (S'.ks i).knows.map (·.1) = devs n) (m : Mono n S S') : ∀ i, i < n → ∀ d : Int, clockIn (S.ks i).knows d ≤ clockIn (S'.ks i).knows d :=
  fun i hi d => mono_all (I.dev i hi).dev (I' i hi) (fun j hj => m i j hi hj) d
theorem inv_tell {n B : Nat} {S : Sys} (I : SInv n B S) {i : Nat} (hi : i < n) (row : Int) : SInv n (B + 1) (S.tell i row) ∧ Mono n S (S.tell i row) := by
  generalize hk : S.ks i = k
  have D := I.dev i hi
  rw [hk] at D
  obtain ⟨ok, eid⟩ := lawEdit_ok (row := row) (i0 := (0, 0)) (i := (k.clock + 1, (i : Int))) (ids := tellIds k) fun x hx => idLt_iff.2 (.inl (by have := D.heads hi I.ed x hx; show x.1 < k.clock + 1; omega))
  have eT : S.tell i row = { S.set i (k.make (i : Int) (tellEdit k (i : Int) row)) with ed := S.ed ++ [tellEdit k (i : Int) row] } := by unfold Sys.tell; rw [hk]
  have ok' : EditOk (tellEdit k (i : Int) row) := ok
  have eid' : (tellEdit k (i : Int) row).id = (k.clock + 1, (i : Int)) := eid
  rw [eT]
  generalize tellEdit k (i : Int) row = e at ok' eid'
  have k0 : 0 ≤ k.clock := by
    have a := D.nn (i : Int)
    rw [D.own] at a; exact a
  have ck : ∀ j, j < n → (S.ks j).clock ≤ ((S.set i (k.make (i : Int) e)).ks j).clock := fun j hj => by
    by_cases q : j = i
    · subst q; rw [set_self, hk]; show k.clock ≤ k.clock + 1; omega
    · rw [set_ne _ _ q]; exact Int.le_refl _
  have ck' : ((S.set i (k.make (i : Int) e)).ks i).clock = k.clock + 1 := by rw [set_self]; rfl
  have e1 : e.id.1 = k.clock + 1 := by rw [eid']
  have e2 : e.id.2 = (i : Int) := by rw [eid']
  have kn : ∀ j, j < n → clockIn (k.make (i : Int) e).knows ((j : Nat) : Int) = if j = i then k.clock + 1 else clockIn k.knows (j : Int) := fun j hj => by
    show clockIn (withClock k.knows (i : Int) (k.clock + 1)) (j : Int) = _
    rw [wc_in (by rw [D.dev]; exact dev_mem hj)]
    by_cases q : j = i
    · rw [if_pos q, if_pos (by omega)]
    · rw [if_neg q, if_neg (by omega)]
  have mo : Mono n S { S.set i (k.make (i : Int) e) with ed := S.ed ++ [e] } := fun a j ha hj => by
    show _ ≤ clockIn ((S.set i (k.make (i : Int) e)).ks a).knows (j : Int)
    by_cases q : a = i
    · subst q
      rw [set_self, kn j hj, hk]
      split
      · have := D.le j hj; omega
      · exact Int.le_refl _
    · rw [set_ne _ _ q]; exact Int.le_refl _
  have E' : EdOk n (S.ed ++ [e]) fun j => ((S.set i (k.make (i : Int) e)).ks j).clock :=
    I.ed.snoc ck ok' (by omega) hi e2 (by show e.id.1 ≤ ((S.set i (k.make (i : Int) e)).ks i).clock; omega) (by show (S.ks i).clock < _; rw [hk]; omega)
  have dv : ∀ j, j < n → ((S.set i (k.make (i : Int) e)).ks j).knows.map (·.1) = devs n := fun j hj => by
    by_cases q : j = i
    · subst q; rw [set_self]
      show (withClock _ _ _).map (·.1) = _
      rw [wc_dev]; exact D.dev
    · rw [set_ne _ _ q]; exact (I.dev j hj).dev
  have mA := I.monoAll (S' := { S.set i (k.make (i : Int) e) with ed := S.ed ++ [e] }) dv mo
  refine ⟨{ ed := E', len := by show (S.ed ++ [e]).length ≤ B + 1; rw [List.length_append]; have := I.len; simp; omega, dev := fun j hj => ?_, cb := fun j hj => ?_, hrd := fun a b ha hb p hp => Int.le_trans (I.hrd a b ha hb p hp) (mA b hb p.1), let_ := fun l hl => ?_ }, mo⟩
  · show DevOk n (S.ed ++ [e]) (fun j => ((S.set i (k.make (i : Int) e)).ks j).clock) j ((S.set i (k.make (i : Int) e)).ks j)
    by_cases q : j = i
    · subst q
      rw [set_self]
      refine { dev := by have := dv j hj; rwa [set_self] at this, own := by rw [kn j hj, if_pos rfl]; rfl, le := fun a ha => ?_, cl := fun a ha => ?_, up0 := D.up0, up := fun a ha => ?_, held := ⟨?_, ?_⟩ }
      · rw [kn a ha]
        show _ ≤ k.clock + 1
        split
        · omega
        · have := D.le a ha; omega
      · rw [kn a ha]
        split
        · rename_i q; rw [q, ck']; exact Int.le_refl _
        · exact Int.le_trans (D.cl a ha) (ck a ha)
      · rw [kn a ha]
        show k.upto ≤ _
        split
        · have := D.up a ha
          have := D.le a ha
          omega
        · exact D.up a ha
      · obtain ⟨xs, hx, q⟩ := D.held.base
        refine ⟨xs, hx.imp fun x => ?_, q⟩
        rw [List.mem_append, List.mem_singleton]
        have u : k.upto ≤ k.clock := Int.le_trans (D.up j hj) (D.le j hj)
        exact ⟨fun z => ⟨.inl z.1, z.2⟩, fun z => ⟨z.1.elim id (fun q => by have z2 := z.2; rw [q, e1] at z2; have z3 : k.clock + 1 ≤ k.upto := z2; omega), z.2⟩⟩
      · have u : k.upto ≤ k.clock := Int.le_trans (D.up j hj) (D.le j hj)
        have hle : ∀ x ∈ S.ed, (x.id.1 ≤ clockIn k.knows x.id.2 ↔ x.id.1 ≤ clockIn (k.make (j : Int) e).knows x.id.2) := fun x hx => by
          obtain ⟨a, ha, q2, q3⟩ := I.ed.by_ x hx
          rw [q2, kn a ha]
          split
          · rename_i q
            subst q
            have own := D.own
            have q3' : x.id.1 ≤ (S.ks a).clock := q3
            rw [hk] at q3'
            omega
          · exact Iff.rfl
        show Sel (S.ed ++ [e]) _ (k.rest ++ [e])
        refine ⟨List.pairwise_append.2 ⟨D.held.rest.asc, by simp, fun a ha b hb => ?_⟩, fun x => ?_⟩
        · rw [List.mem_singleton] at hb
          subst hb
          refine lt_of_clock ?_
          have h := (D.held.rest.mem a).1 ha
          obtain ⟨c, hc, q2, q3⟩ := I.ed.by_ a h.1
          have h2 := h.2.2
          rw [q2] at h2
          have := D.le c hc
          omega
        · rw [List.mem_append, List.mem_append, List.mem_singleton, D.held.rest.mem]
          constructor
          · rintro (z | rfl)
            · exact ⟨.inl z.1, z.2.1, (hle x z.1).1 z.2.2⟩
            · refine ⟨.inr rfl, ?_, ?_⟩
              · show k.upto < _; omega
              · rw [e2, kn j hj, if_pos rfl]; omega
          · rintro ⟨z | z, q⟩
            · exact .inl ⟨z, q.1, (hle x z).2 q.2⟩
            · exact .inr z
    · rw [set_ne _ _ q]
      have Dj := I.dev j hj
      have c1 : clockIn (S.ks j).knows e.id.2 ≤ k.clock := by
        rw [e2]
        have : clockIn (S.ks j).knows (i : Int) ≤ (S.ks i).clock := Dj.cl i hi
        rwa [hk] at this
      have u1 := Dj.up i hi
      rw [← e2] at u1
      exact { Dj.clk ck with held := Dj.held.more (by omega) (by omega) fun x _ => Iff.rfl }
  · show ((S.set i (k.make (i : Int) e)).ks j).clock ≤ ((B + 1 : Nat) : Int)
    have := I.cb j hj
    by_cases q : j = i
    · subst q; rw [ck']; rw [hk] at this; omega
    · rw [set_ne _ _ q]; omega
  · have L := I.let_ l hl
    have L' : LetOk n S.ed ((B + 1 : Nat) : Int) (S.set i (k.make (i : Int) e)).ks l.1 l.2.1 l.2.2 := L.mono (by omega) mA
    have c1 : clockIn l.2.2.knows (i : Int) ≤ k.clock := by
      have h1 := L.snd i hi
      have h2 : clockIn (S.ks l.2.1).knows (i : Int) ≤ (S.ks i).clock := (I.dev _ L.hs).cl i hi
      rw [hk] at h2
      omega
    have u1 := L.up i hi
    exact { L' with held := L.held.more (by omega) (by rw [e2]; omega) fun x _ => Iff.rfl }
/-! ### saying -/
def Sys.say (S : Sys) (sd rv : Nat) (b : Bool) : Nat × Nat × News := (rv, sd, newsFor (S.ks sd) (if b then [] else S.hd sd rv))
theorem say_ok {n B : Nat} {S : Sys} (I : SInv n B S) {sd rv : Nat} (hs : sd < n) (hr : rv < n) (b : Bool) : LetOk n S.ed (B : Int) S.ks rv sd (S.say sd rv b).2.2 := by
  generalize hsn : (if b then [] else S.hd sd rv) = since
  have e : (S.say sd rv b).2.2 = newsFor (S.ks sd) since := by unfold Sys.say; rw [hsn]
  rw [e]
  have si : ∀ p ∈ since, p.2 ≤ clockIn (S.ks rv).knows p.1 := by
    rw [← hsn]
    split
    · exact fun p hp => by cases hp
    · exact I.hrd sd rv hs hr
  have D := I.dev sd hs
  generalize hk : S.ks sd = k at D
  have R := D.held.rest.filter fun e => decide (clockIn since e.id.2 < e.id.1)
  cases ha : k.knows.all (fun p => decide (k.upto ≤ clockIn since p.1)) with
  | true =>
    have e2 : newsFor k since = ⟨k.clock, [], 0, k.rest.filter (fun e => decide (clockIn since e.id.2 < e.id.1)), k.knows, since⟩ := by unfold newsFor; simp only [ha]; rfl
    rw [e2]
    refine { hr := hr, hs := hs, dev := D.dev, snd := fun j hj => by rw [hk]; exact Int.le_refl _, le := D.le, si := si, up0 := Int.le_refl _, up := fun j hj => D.nn _, cb := by have := I.cb sd hs; rwa [hk] at this, held := ⟨⟨[], ⟨List.Pairwise.nil, fun e => ⟨fun h => (by cases h), fun h => ?_⟩⟩, rfl⟩, R.imp fun x => ?_⟩ }
    · have := I.ed.pos e h.1
      have h2 : e.id.1 ≤ 0 := h.2
      omega
    · rw [decide_eq_true_eq]
      constructor
      · rintro ⟨hx, c⟩
        exact ⟨hx, by have := I.ed.pos x hx; show (0 : Int) < _; omega, c.1.2, c.2⟩
      · rintro ⟨hx, _, c1, c2⟩
        refine ⟨hx, ⟨?_, c1⟩, c2⟩
        obtain ⟨j, hj, q2, _⟩ := I.ed.by_ x hx
        have g := List.all_eq_true.mp ha _ (List.mem_of_getElem? (dev_get D.dev hj))
        rw [decide_eq_true_eq] at g
        have c3 : clockIn since x.id.2 < x.id.1 := c2
        rw [q2] at c3
        have g' : k.upto ≤ clockIn since (j : Int) := g
        omega
  | false =>
    have e2 : newsFor k since = ⟨k.clock, k.base, k.upto, k.rest.filter (fun e => decide (clockIn since e.id.2 < e.id.1)), k.knows, since⟩ := by unfold newsFor; simp only [ha]; rfl
    rw [e2]
    refine { hr := hr, hs := hs, dev := D.dev, snd := fun j hj => by rw [hk]; exact Int.le_refl _, le := D.le, si := si, up0 := D.up0, up := D.up, cb := by have := I.cb sd hs; rwa [hk] at this, held := ⟨D.held.base, R.imp fun x => ?_⟩ }
    rw [decide_eq_true_eq]
    exact ⟨fun ⟨a, b⟩ => ⟨a, b.1.1, b.1.2, b.2⟩, fun ⟨a, b⟩ => ⟨a, ⟨b.1, b.2.1⟩, b.2.2⟩⟩
theorem inv_say {n B : Nat} {S : Sys} (I : SInv n B S) {sd rv : Nat} (hs : sd < n) (hr : rv < n) (b : Bool) : SInv n B { S with lt := S.lt ++ [S.say sd rv b] } :=
  ⟨I.ed, I.len, I.dev, I.cb, I.hrd, fun l hl => by
    rcases List.mem_append.mp hl with q | q
    · exact I.let_ l q
    · rw [List.mem_singleton] at q
      subst q
      exact say_ok I hs hr b⟩
/-! ### delivering -/
def Sys.deliver (S : Sys) (l : Nat × Nat × News) : Sys := { S.set l.1 ((S.ks l.1).hear (l.1 : Int) l.2.2).forget with hd := fun i j => if i = l.1 ∧ j = l.2.1 then l.2.2.knows else S.hd i j }
/-- what the delivering needs -/
structure DelOk (n : Nat) (k : Know) (rv : Nat) (m : News) : Prop where
  ok : HearOk k (rv : Int) m
  len : k.rest.length + m.rest.length ≤ 400
  fo : Foldable (k.hear (rv : Int) m)
  ne : (k.hear (rv : Int) m).knows ≠ []
  kl : (k.hear (rv : Int) m).knows.length ≤ 500
theorem dev_len {n : Nat} {ks : Clocks} (h : ks.map (·.1) = devs n) : ks.length = n := by
  have := congrArg List.length h; unfold devs at this; simpa using this
theorem inv_deliver {n B : Nat} {S : Sys} (I : SInv n B S) (hB : B ≤ 40) (hn : n ≤ 4) {rv sd : Nat} {m : News} (L : LetOk n S.ed (B : Int) S.ks rv sd m) :
    DelOk n (S.ks rv) rv m ∧ SInv n B (S.deliver (rv, sd, m)) ∧ Mono n S (S.deliver (rv, sd, m)) ∧ ∀ j, j < n → clockIn m.knows ((j : Nat) : Int) ≤ clockIn ((S.deliver (rv, sd, m)).ks rv).knows (j : Int) := by
  have hr := L.hr
  have D := I.dev rv hr
  have hlen := I.len
  have mcl : ∀ j, j < n → clockIn m.knows ((j : Nat) : Int) ≤ (S.ks j).clock := fun j hj => Int.le_trans (L.snd j hj) ((I.dev sd L.hs).cl j hj)
  have cb := L.cb
  have news := news_ok I.ed L.dev (by omega) L.le L.up (by omega) L.held fun e he => he.1
  have hear : HearOk (S.ks rv) (rv : Int) m := ⟨news, by rw [D.own]; exact mcl rv hr, by rw [L.dev, D.dev], by rw [dev_len D.dev]; omega, L.si⟩
  generalize hk : S.ks rv = k at D hear
  have hcl : ∀ j, j < n → (S.ks j).clock ≤ (fun j => if j = rv then imax k.clock m.clock else (S.ks j).clock) j := fun j hj => by
    show _ ≤ if j = rv then imax k.clock m.clock else (S.ks j).clock
    split
    · rename_i q; rw [q, hk]; exact imax_l _ _
    · exact Int.le_refl _
  have E2 := I.ed.clk hcl
  have H := hear_ok hr I.ed D (by rw [hk]) mcl L.le L.up0 L.up (by have := L.si; rwa [hk] at this) L.held hcl (if_pos rfl)
  have F := forget_ok (by omega) E2 H
  have kin : ∀ j, j < n → clockIn (k.hear (rv : Int) m).forget.knows (j : Int) = if j = rv then imax k.clock m.clock else imax (clockIn k.knows (j : Int)) (clockIn m.knows (j : Int)) := fun j hj => hear_in D.dev hj
  have eS : S.deliver (rv, sd, m) = { S.set rv (k.hear (rv : Int) m).forget with hd := fun i j => if i = rv ∧ j = sd then m.knows else S.hd i j } := by unfold Sys.deliver; rw [hk]
  have eK : (S.deliver (rv, sd, m)).ks = (S.set rv (k.hear (rv : Int) m).forget).ks := by rw [eS]
  have ck : (fun j => ((S.set rv (k.hear (rv : Int) m).forget).ks j).clock) = fun j => if j = rv then imax k.clock m.clock else (S.ks j).clock := by
    funext j
    by_cases q : j = rv
    · subst q; rw [set_self, if_pos rfl]; rfl
    · rw [set_ne _ _ q, if_neg q]
  have mo : Mono n S (S.deliver (rv, sd, m)) := fun a j ha hj => by
    rw [eK]
    by_cases q : a = rv
    · subst q
      rw [set_self, kin j hj, hk]
      split
      · exact Int.le_trans (D.le j hj) (imax_l _ _)
      · exact imax_l _ _
    · rw [set_ne _ _ q]; exact Int.le_refl _
  have dv : ∀ j, j < n → ((S.deliver (rv, sd, m)).ks j).knows.map (·.1) = devs n := fun j hj => by
    rw [eK]
    by_cases q : j = rv
    · subst q; rw [set_self]; exact F.dev
    · rw [set_ne _ _ q]; exact (I.dev j hj).dev
  have mA := I.monoAll dv mo
  have mm : ∀ j, j < n → clockIn m.knows ((j : Nat) : Int) ≤ clockIn ((S.deliver (rv, sd, m)).ks rv).knows (j : Int) := fun j hj => by
    rw [eK, set_self, kin j hj]
    split
    · exact Int.le_trans (L.le j hj) (imax_r _ _)
    · exact imax_r _ _
  refine ⟨⟨hear, ?_, DevOk.foldable (i := 0) E2 (by omega) H.held, ?_, by rw [dev_len H.dev]; omega⟩, ?_, mo, mm⟩
  · have h1 := D.held.rest.len
    have h2 := L.held.rest.len
    omega
  · intro e
    have := dev_len H.dev
    rw [e] at this
    simp at this
    omega
  · refine { ed := ?_, len := I.len, dev := fun j hj => ?_, cb := fun j hj => ?_, hrd := fun a b ha hb p hp => ?_, let_ := fun l hl => ?_ }
    · show EdOk n S.ed fun j => ((S.deliver (rv, sd, m)).ks j).clock
      rw [eK, ck]; exact E2
    · show DevOk n S.ed (fun j => ((S.deliver (rv, sd, m)).ks j).clock) j ((S.deliver (rv, sd, m)).ks j)
      rw [eK, ck]
      by_cases q : j = rv
      · subst q; rw [set_self]; exact F
      · rw [set_ne _ _ q]; exact (I.dev j hj).clk hcl
    · have := congrFun ck j
      rw [eK]
      refine Int.le_trans (Int.le_of_eq this) ?_
      show (if j = rv then imax k.clock m.clock else (S.ks j).clock) ≤ _
      split
      · have := I.cb rv hr
        rw [hk] at this
        exact imax_le this cb
      · exact I.cb j hj
    · have hp' : p ∈ (if a = rv ∧ b = sd then m.knows else S.hd a b) := hp
      split at hp'
      · rename_i q
        obtain ⟨j, hj, rfl⟩ := mem_dev L.dev hp'
        rw [q.2]
        exact Int.le_trans (L.snd j hj) (mo sd j L.hs hj)
      · exact Int.le_trans (I.hrd a b ha hb p hp') (mA b hb p.1)
    · exact (I.let_ l hl).mono (Int.le_refl _) mA
end FK
/-! The start and the end. Plain Lean. -/
namespace FK
def know0 (n : Nat) : Know := ⟨0, [], 0, [], (devs n).map fun d => (d, 0)⟩
def sys0 (n : Nat) : Sys := ⟨fun _ => know0 n, fun _ _ => [], [], []⟩
theorem clockIn_zero : ∀ (ds : List Int) (d : Int), clockIn (ds.map fun d => (d, 0)) d = 0
  | [], _ => rfl
  | o :: ds, d => by
    rw [List.map_cons]
    unfold clockIn
    split
    · rfl
    · exact clockIn_zero ds d
theorem inv0 (n : Nat) : SInv n 0 (sys0 n) := by
  have z : ∀ j : Int, clockIn (know0 n).knows j = 0 := clockIn_zero _
  have sel : ∀ P, Sel [] P [] := fun P => ⟨List.Pairwise.nil, fun e => ⟨fun h => (by cases h), fun h => (by cases h.1)⟩⟩
  refine ⟨⟨List.nodup_nil, fun _ h => (by cases h), fun _ h => (by cases h), fun _ h => (by cases h)⟩, Nat.le_refl _, fun i hi => ?_, fun i hi => Int.le_refl _, fun i j hi hj p hp => (by cases hp), fun l hl => (by cases hl)⟩
  show DevOk n [] (fun _ => 0) i (know0 n)
  refine ⟨?_, z _, fun j hj => Int.le_of_eq (z _), fun j hj => Int.le_of_eq (z _), Int.le_refl _, fun j hj => Int.le_of_eq (z _).symm, ⟨⟨[], sel _, rfl⟩, sel _⟩⟩
  show ((devs n).map fun d => (d, 0)).map (·.1) = _
  rw [List.map_map]
  exact List.map_id _
/-- device j knows every edit of device i -/
def Kn (S : Sys) (i j : Nat) : Prop := ∀ e ∈ S.ed, e.id.2 = (i : Int) → e.id.1 ≤ clockIn (S.ks j).knows (i : Int)
theorem Kn.mono {n : Nat} {S S' : Sys} (h : Mono n S S') (he : S'.ed = S.ed) {i j : Nat} (hi : i < n) (hj : j < n) (k : Kn S i j) : Kn S' i j :=
  fun e m q => by rw [he] at m; exact Int.le_trans (k e m q) (h j i hj hi)
theorem kn_own {n B : Nat} {S : Sys} (I : SInv n B S) {i j : Nat} (hi : i < n) {x : Int} (h : clockIn (S.ks i).knows (i : Int) ≤ x) (e : Edit) (m : e ∈ S.ed) (q : e.id.2 = (i : Int)) : e.id.1 ≤ x := by
  obtain ⟨a, ha, q2, q3⟩ := I.ed.by_ e m
  have : a = i := by omega
  subst this
  have := (I.dev a hi).own
  have q4 : e.id.1 ≤ (S.ks a).clock := q3
  omega
theorem kn_self {n B : Nat} {S : Sys} (I : SInv n B S) {i : Nat} (hi : i < n) : Kn S i i := kn_own (j := 0) I hi (Int.le_refl _)
theorem say_knows (S : Sys) (sd rv : Nat) (b : Bool) : (S.say sd rv b).2.2.knows = (S.ks sd).knows := rfl
theorem kn_deliver {n B : Nat} {S : Sys} (I : SInv n B S) (hB : B ≤ 40) (hn : n ≤ 4) {i j : Nat} (hi : i < n) (hj : j < n) (b : Bool) : Kn (S.deliver (S.say i j b)) i j := by
  have L := say_ok I hi hj b
  have h := (inv_deliver I hB hn L).2.2.2 i hi
  rw [say_knows] at h
  exact kn_own (j := 0) I hi h
theorem full_lines {n B : Nat} {S : Sys} (I : SInv n B S) (h : ∀ i j, i < n → j < n → Kn S i j) {ys : List Edit} (ha : ys.Pairwise ELt) (hm : ∀ e, e ∈ ys ↔ e ∈ S.ed) {j : Nat} (hj : j < n) : (S.ks j).lines = foldLines [] ys := by
  refine DevOk.lines I.ed (I.dev j hj) ⟨ha, fun e => (hm e).trans ⟨fun m => ⟨m, ?_⟩, fun m => m.1⟩⟩
  obtain ⟨i, hi, q, _⟩ := I.ed.by_ e m
  rw [q]
  exact h i j hi hj e m q
/-- sorted: the edits that a device knows -/
theorem known_lines {n B : Nat} {S : Sys} (I : SInv n B S) {j : Nat} (hj : j < n) {ys : List Edit} (ha : ys.Pairwise ELt) (hm : ∀ e, e ∈ ys ↔ e ∈ S.ed ∧ e.id.1 ≤ clockIn (S.ks j).knows e.id.2) : (S.ks j).lines = foldLines [] ys :=
  DevOk.lines I.ed (I.dev j hj) ⟨ha, hm⟩
theorem SInv.foldable {n B : Nat} {S : Sys} (I : SInv n B S) (hB : B ≤ 40) {j : Nat} (hj : j < n) : Foldable (S.ks j) := DevOk.foldable (i := 0) I.ed (Nat.le_trans I.len hB) (I.dev j hj).held
theorem SInv.lens {n B : Nat} {S : Sys} (I : SInv n B S) (hB : B ≤ 40) {j : Nat} (hj : j < n) : (S.ks j).lines.length ≤ 200 ∧ (S.ks j).rest.length ≤ 40 ∧ (S.ks j).knows.length = n := by
  obtain ⟨m, q, g, e, h1, h2⟩ := I.foldable hB hj
  have g2 := (good_fold g e).len
  have g3 : (S.ks j).lines.length ≤ m + (S.ks j).rest.length := g2
  exact ⟨by omega, Nat.le_trans (I.dev j hj).held.rest.len (Nat.le_trans I.len hB), dev_len (I.dev j hj).dev⟩
theorem SInv.up {n B B' : Nat} {S : Sys} (I : SInv n B S) (h : B ≤ B') : SInv n B' S :=
  ⟨I.ed, Nat.le_trans I.len h, I.dev, fun i hi => Int.le_trans (I.cb i hi) (by omega), I.hrd, fun l hl => (I.let_ l hl).mono (by omega) fun _ _ _ => Int.le_refl _⟩
theorem nd_map {xs : List Edit} (h : (xs.map Edit.id).Nodup) (f : Edit → Bool) : ((xs.filter f).map Edit.id).Nodup := h.sublist (List.filter_sublist.map _)
end FK
/-! sorted(xs, key=lambda e: e[1]), the edits by their ids. -/
namespace FK
open PySem PySem.Spec PyProof.Rows L2 DL
/-! ### the lambda, called -/
abbrev keyP (x : Str) (p : Pos) : Arguments := { posonlyargs := [], args := [{ arg := x, annotation := none, pos := p }], vararg := none, kwonlyargs := [], kw_defaults := [], kwarg := none, defaults := [] }
abbrev keyS (x : Str) : Scope := { kind := .function, names := [(x, .local)], isGenerator := false, isCoroutine := false, more := [] }
abbrev keyB (x : Str) (p1 p2 p3 : Pos) : Expr := .Subscript (.Name x p1) (.Constant (.int 1) 0 p2) p3
abbrev keyX : Str := "_law_edit_here"
theorem key_binds (q : Str) (p : Pos) (b : Expr) (cl : List (Str × Addr)) (pm cv ctv v : Value) : bindArgs (PySem.W.kla_fn "<lambda>" q (keyP keyX p) b (keyS keyX) cl pm cv ctv) ⟨[v], []⟩ = pure [(keyX, v)] := by first | rfl | kernel_rfl
theorem key_call {prog : Program} {w : World} {A : Around} {s : Shared} {f t c' : Addr} {q : Str} {p p1 p2 p3 : Pos} {pm ctv u : Value} {its : Array Value} (hf : s.heap.get? f = some (PySem.W.kla_obj "<lambda>" q (keyP keyX p) (keyB keyX p1 p2 p3) (keyS keyX) [] pm c' ctv))
    (hc : s.heap.CodeRec (.ref c') q) (lim : s.heap.NoLimit) (hA : A.depth < recursionLimit) (ht : IsTup s.heap t its) (hu : its[1]? = some u) :
    wpAny (model prog w) A (call (.ref f) [.ref t]) (fun v s' => v = u ∧ ∃ h' tk, s' = { s with heap := h', toks := tk } ∧ ∀ b o, s.heap.get? b = some o → h'.get? b = some o) (fun _ _ => False) s := by
  refine wpAny_call ?_
  refine PySem.W.kla_callFunE hA hf rfl rfl rfl rfl hc ?_
  rw [key_binds]
  refine wpAny_pure (wpAny_newFunctionEnv (fun y hy => ?_) (fun y hy => ?_) (fun h₁ hns hsb => ⟨lim.fresh _ hsb, ?_⟩) rfl)
  · rw [List.mem_singleton] at hy
    rw [hy]
    intro z; cases z
  · rw [List.mem_singleton] at hy
    rw [hy]
    show List.lookup keyX [(keyX, NameKind.local)] = _
    simp [List.lookup]
  · have kp : ∀ b o, s.heap.get? b = some o → h₁.get? b = some o := fun b o e => hsb.extBut b o (Nat.ne_of_lt (Heap.lt_size e)) (Heap.get?_push_of_some _ e)
    refine PySem.W.kla_codeExpr ?_
    refine Subscript_ (wpAny_Name (wpAny_loadName_local (v := .ref t) rfl ?_ hns ?_ ?_) (by decide))
    · show List.lookup keyX [(keyX, NameKind.local)] = _
      simp [List.lookup]
    · show List.lookup keyX [(keyX, Value.ref t)] = _
      simp [List.lookup]
    · refine wpAny_Constant_int ?_
      have ht' : IsTup h₁ t its := ht.keeps kp
      refine subscriptTail_builtinR (x := u) (s := { s with heap := h₁, toks := _ }) ht'.typeIs slot_tuple_getitem.lookup ?_
      have hl : 1 < its.size := by
        by_cases z : 1 < its.size
        · exact z
        · rw [Array.getElem?_eq_none (by omega)] at hu; cases hu
      refine getItem_tuple (j := 1) ht' (by decide) (by decide) ?_ hu ⟨rfl, rfl, h₁, _, rfl, kp⟩
      rw [seqIndex_of (by decide) (by omega)]
      rfl
/-! ### the lambda, made -/
theorem key_make {X : Cx} {pins : List (Addr × Obj)} {σ : L2.St} {H : Hp} {s : Shared} {m : Mem} {c P : Addr} {p p1 p2 p3 pos : Pos} {E : Value → Shared → Prop} {Q : Value → Shared → Prop} (I : Inv X pins σ H s) (mem : MemOk m H) (hm : m P = some (.tab (X.env.qual ++ "<lambda>"))) (TB : LamX.TabB X.base X.mg c P) (hcode : X.env.code = .ref c)
    (h : ∀ (f c' : Addr) (pm ctv : Value) (H1 : Hp) (s' : Shared), Inv X pins σ H1 s' → MemOk m H1 → Same (hide m H) (hide m H1) →
      s'.heap.get? f = some (PySem.W.kla_obj "<lambda>" (X.env.qual ++ "<lambda>") (keyP keyX p) (keyB keyX p1 p2 p3) (keyS keyX) [] pm c' ctv) → H1 c' = some (LamX.CodeO c' (X.env.qual ++ "<lambda>")) → Q (.ref f) s') :
    wpAny (model X.prog X.w) X.A (eval (.Lambda (keyP keyX p) (keyB keyX p1 p2 p3) (keyS keyX) pos) X.env) Q E s := by
  obtain ⟨ps, hP, ht, ha⟩ := mem P _ hm
  have hcl : closureFor (keyS keyX) X.env = pure [] := by
    rw [closure_ok (fun y hy e => by rw [List.mem_singleton.mp hy] at e; cases e)]
    first | rfl | kernel_rfl
  refine PySem.W.kla_eval rfl ?_
  have bP := TB.bm.keeps I.bk
  have tabP : s.heap.get? P = some { cls := .none, data := .fields ps } := I.hok P _ hP
  cases found : codeAmong pos ps.toList with
  | some cv =>
    obtain ⟨c', rfl, hco⟩ := ha pos cv found
    have hco' : H c' = some (LamX.CodeO c' (X.env.qual ++ "<lambda>")) := hide_sub _ _ hco
    refine PySem.W.kla_makeFunctionHit (mg := X.mg) (c := c) (P := P) (ps := ps) hcl I.ok.glob (I.mod.glob.keeps I.bk) hcode (TB.code.keeps I.bk) tabP ht found bP fun ctv h' tk hx hsz => ?_
    exact h _ c' _ ctv H _ (I.kept fun b o e => Heap.get?_push_of_some _ (hx b o e)) mem (Same.refl _) (Heap.get?_push_size _ rfl) hco'
  | none =>
    refine PySem.W.kla_makeFunction (mg := X.mg) (c := c) (P := P) (ps := ps) hcl I.ok.glob (I.mod.glob.keeps I.bk) hcode (TB.code.keeps I.bk) tabP ht found TB.gP bP fun c' ctv h' tk hx hge hlt hrec htb => ?_
    obtain ⟨_, ob, fl, tk2, eq2, hob, hfl, hqv⟩ := hrec
    cases eq2
    have newC : H c' = none := I.hok.fresh hge
    have nP : P ≠ c' := ne_of_none hP newC
    have I1 := LamX.inv_table (t' := tk) (more := #[rawInt pos.line, rawInt pos.col, .ref c']) (h' := h'.push (PySem.W.kla_obj "<lambda>" (X.env.qual ++ "<lambda>") (keyP keyX p) (keyB keyX p1 p2 p3) (keyS keyX) [] ((X.mg "__name__").getD .none) c' ctv)) I hP
      (fun b o ne e => Heap.get?_push_of_some _ (hx b o ne e)) (Heap.get?_push_of_some _ htb) hge ⟨ob, fl, tk2, Heap.get?_push_of_some _ hob, hfl, hqv⟩
    have at_ : ∀ b, b ≠ P → b ≠ c' → upd (upd H P (.tbl (ps ++ #[rawInt pos.line, rawInt pos.col, .ref c']))) c' (LamX.CodeO c' (X.env.qual ++ "<lambda>")) b = H b := fun b h1 h2 => by rw [upd_ne h2, upd_ne h1]
    have sm : Same (hide m H) (hide m (upd (upd H P (.tbl (ps ++ #[rawInt pos.line, rawInt pos.col, .ref c']))) c' (LamX.CodeO c' (X.env.qual ++ "<lambda>")))) := fun b u e => by
      cases qb : m b with
      | some x => rw [hide_some qb] at e; cases e
      | none =>
        rw [hide_none qb] at e ⊢
        rw [at_ b (fun z => by rw [z, hm] at qb; cases qb) (ne_of_none e newC)]
        exact e
    refine h _ c' _ ctv _ _ I1 (fun a d e => ?_) sm (Heap.get?_push_size _ rfl) upd_same
    by_cases qa : a = P
    · subst qa
      rw [hm] at e
      cases e
      have rows : (ps ++ #[rawInt pos.line, rawInt pos.col, .ref c']).toList = ps.toList ++ [rawInt pos.line, rawInt pos.col, .ref c'] := by simp
      refine ⟨_, by rw [upd_ne nP, upd_same], by rw [rows]; exact PySem.TriplesOk_snoc _ _ _ _ ht, fun p' cv hcv => ?_⟩
      rw [rows] at hcv
      rcases LamX.among_app _ ht hcv with z | z
      · obtain ⟨old, e1, e2⟩ := ha p' cv z
        exact ⟨old, e1, sm _ _ e2⟩
      · exact ⟨c', z, by rw [hide_none (mem.free newC), upd_same]⟩
    · have hh := mem a d e
      obtain ⟨o, ho⟩ := hh.there
      exact hh.mono sm (at_ a qa (ne_of_none ho newC))
/-! ### the sorting -/
def sortE (es : List Edit) : List Edit := es.mergeSort fun p q => decide (p.id.1 < q.id.1 ∨ (p.id.1 = q.id.1 ∧ p.id.2 ≤ q.id.2))
theorem sortE_mem {es : List Edit} {e : Edit} : e ∈ sortE es ↔ e ∈ es := (List.mergeSort_perm _ _).mem_iff
theorem sortE_asc {es : List Edit} (nd : (es.map Edit.id).Nodup) : (sortE es).Pairwise ELt := by
  have h1 := List.pairwise_mergeSort (le := fun p q : Edit => decide (p.id.1 < q.id.1 ∨ (p.id.1 = q.id.1 ∧ p.id.2 ≤ q.id.2))) (fun a b c x y => by
    rw [decide_eq_true_eq] at *; omega) (fun a b => by
    rw [Bool.or_eq_true, decide_eq_true_eq, decide_eq_true_eq]; omega) es
  have h2 : ((sortE es).map Edit.id).Nodup := ((List.mergeSort_perm es _).map Edit.id).nodup_iff.mpr nd
  unfold List.Nodup at h2
  rw [List.pairwise_map] at h2
  refine (List.pairwise_and_iff.mpr ⟨h1, h2⟩).imp fun {a b} h => ?_
  obtain ⟨h3, h4⟩ := h
  rw [decide_eq_true_eq] at h3
  show idLt a.id b.id = true
  refine idLt_iff.2 ?_
  rcases h3 with z | z
  · exact .inl z
  · refine .inr ⟨z.1, ?_⟩
    rcases Int.lt_or_eq_of_le z.2 with w | w
    · exact w
    · exact absurd (Prod.ext z.1 w) h4
theorem edit_shape (e : Edit) : ∃ k r, dEdit e = .tup (k :: dId e.id :: r) := by cases e <;> exact ⟨_, _, rfl⟩
def EdV (G : Hp) (v : Value) (e : Edit) : Prop := ∃ x, RelV x v ∧ Dr G (dEdit e) x
theorem each_of {G : Hp} : ∀ {es : List Edit} {vs : List V} {us : List Value}, DrAll G (es.map dEdit) vs → Vals vs us → PySem.W.EachIs (EdV G) us es
  | [], _, _, h, r => by
    cases h
    cases r
    exact .nil
  | e :: es, _, _, ⟨v, w, h1, h2, h3⟩, r => by
    subst h1
    cases r with
    | cons r1 r2 => exact .cons ⟨v, r1, h2⟩ (each_of h3 r2)
theorem each_to {G : Hp} : ∀ {es : List Edit} {us : List Value}, PySem.W.EachIs (EdV G) us es → ∃ vs, Vals vs us ∧ DrAll G (es.map dEdit) vs
  | [], _, h => by
    cases h
    exact ⟨[], .nil, rfl⟩
  | e :: es, _, h => by
    cases h with
    | cons h1 h2 =>
      obtain ⟨x, r, d⟩ := h1
      obtain ⟨vs, r2, d2⟩ := each_to h2
      exact ⟨x :: vs, .cons r r2, x, vs, rfl, d, d2⟩
theorem reads_pairs {h : Heap} {vs : List Value} {a b : Int} {as : List Addr} (r : ReadsAll h vs [.int a, .int b] as) : as = [] := by
  cases r with
  | cons r1 ra =>
    cases r1
    cases ra with
    | cons r2 ra =>
      cases r2
      cases ra
      rfl
theorem reads_pair {h : Heap} {v : Value} {a b : Int} {as : List Addr} (r : Reads h v (.tuple [.int a, .int b]) as) : as = [] := by
  cases r with
  | tuple _ _ _ ra => exact reads_pairs ra
section
variable {X : Cx} {r : Rho} {m m1 : Mem}
theorem ev_sorted {nm : Str} {ep : Pos} {x : Da} {es : List Edit} {c P : Addr} {p p0 p1 p2 p3 lp kp cp : Pos} (ha : EvD X (.Name nm ep) r m x m1) (it : x = .lst (es.map dEdit) ∨ ∃ a, x = .loc a ∧ m1 a = some (.lst (es.map dEdit))) (hP : m1 P = some (.tab (X.env.qual ++ "<lambda>"))) (TB : LamX.TabB X.base X.mg c P)
    (hcode : X.env.code = .ref c) (hg : Gl X "sorted") (hm : X.mg "sorted" = none) (hr : Room 4 X.A) (hl : es.length ≤ 1000) :
    EvD X (.Call (.Name "sorted" p) [.Name nm ep] [⟨some "key", .Lambda (keyP keyX p0) (keyB keyX p1 p2 p3) (keyS keyX) lp, kp⟩] cp) r m (.lst ((sortE es).map dEdit)) m1 := by
  refine ⟨fun pins s σ H Q I given => ?_⟩
  obtain ⟨hh, q⟩ := given
  refine wpAny_Call_Name_kw (ld_blt I hg hm boot_sorted ?_ (by decide) (by decide))
  refine PyProof.Rows.callWith_kw (thn ((ea_cons ha ea_nil).run cp pins s σ H (fun vs H1 => MemOk m1 H1 ∧ Same (hide m H) (hide m1 H1) ∧ DrAll (hide m1 H1) [x] vs) I ⟨hh, fun vs H1 a b c => ⟨a, b, c⟩⟩) fun us s1 ⟨vs, H1, I1, r1, k1, sm1, d1⟩ => ?_)
  refine kwAll_cons (key_make I1 k1 hP TB hcode fun f c' pm ctv H2 s2 I2 k2 sm2 hf hc => kwAll_nil ?_)
  obtain ⟨v, w, rfl, dv, hw⟩ := d1
  have hw' : w = [] := hw
  subst hw'
  have dv2 := dv.mono sm2
  have hx : ∃ a vs, v = .ref a ∧ SqL X.K H2 a vs ∧ DrAll (hide m1 H2) (es.map dEdit) vs := by
    rcases it with rfl | ⟨a, rfl, h2⟩
    · obtain ⟨a, vs, h1, h2, h3⟩ := dv2
      exact ⟨a, vs, h1, SqL.of (hide_sub _ _ h2), h3⟩
    · obtain ⟨vs, h3, h4⟩ := k2 a _ h2
      exact ⟨a, vs, dv2, SqL.of h3, h4⟩
  obtain ⟨l, xs, rfl, hsq, hds⟩ := hx
  obtain ⟨its, rv, pl, hz⟩ := I2.list hsq
  obtain rfl := Vals.ref1 r1
  have each := each_of hds rv
  have codeR : ∀ (h : Heap), (∀ b o, s2.heap.get? b = some o → h.get? b = some o) → h.CodeRec (.ref c') (X.env.qual ++ "<lambda>") := fun h k => by
    obtain ⟨⟨oc, vs, t, e1, e2, e3⟩, _, _⟩ := I2.hok c' _ hc
    exact ⟨c', oc, vs, t, rfl, k _ _ e1, e2, e3⟩
  have hd := hr.dp
  have hu := hr.un
  show wpAny (model X.prog X.w) X.A (call (.builtin "sorted") [.ref l] [(Str.ofString "key", .ref f)]) (EP X pins σ Q) X.xe s2
  refine PySem.W.sorted_key_data (b := false) (fun e : Edit => .tuple [.int e.id.1, .int e.id.2]) pl.isList each (PySem.W.AllAlike.of fun _ _ => by simp [PySem.W.alike, PySem.W.alikeAll]) (PySem.W.Sortable.tuples fun _ => ⟨_, _, rfl⟩) (by rw [sizeLine_eq]; omega) (fun e _ => ?_) (ksk_s1 _ _) (fun _ => ksk_l1 _ _) (fun _ => ksk_t1 _ _)
    (fun v e ⟨y, ry, dy⟩ _ h tk kp => ?_) fun out oc h' tk kp fresh hD lq eo => ?_
  · have hd : (PyData.tuple [.int e.id.1, .int e.id.2]).depth = 1 := by simp [PyData.depth, PyData.depthAll]
    rw [hd]
    omega
  · obtain ⟨k, rr, es'⟩ := edit_shape e
    rw [es'] at dy
    obtain ⟨t, ws, rfl, ht, y0, w0, rfl, d0, y1, w1, rfl, d1, d2⟩ := dy
    obtain ⟨it2, rv2, pt, _⟩ := I2.tuple (SqT.of (hide_sub _ _ ht))
    cases ry
    cases rv2 with
    | cons rva rv2 =>
      cases rv2 with
      | cons rvb rv2 =>
        rename_i u0 us0 u1 us1
        have dp : Dp X.K H2 y1 (dId e.id).py := (d1.mono hide_sub).dp (lay_id e.id)
        obtain ⟨as, rd⟩ := Dp.reads I2 _ y1 u1 dp rvb
        have rd' : Reads s2.heap u1 (.tuple [.int e.id.1, .int e.id.2]) as := rd
        have has := reads_pair rd'
        subst has
        refine wpAny_mono (key_call (s := { s2 with heap := h, toks := tk }) (kp _ _ hf) (codeR h kp) (I2.nolimit.keeps kp) (by show X.A.depth + 0 < _; omega) (pt.keeps kp) (by simp; rfl)) (fun v' s' hv => ?_) fun _ _ x => x
        obtain ⟨rfl, h3, tk3, rfl, k3⟩ := hv
        exact ⟨h3, tk3, rfl, k3, PyProof.Rows.Reads.keeps k3 (PyProof.Rows.Reads.keeps kp rd')⟩
  · rw [PySem.W.dataLe_ii (β := Edit) (fun e => e.id.1) (fun e => e.id.2)] at eo
    obtain ⟨ys, ry, dy⟩ := each_to eo
    have nF : H2 (s2.heap.objs.size + 1) = none := I2.hok.fresh (Nat.le_succ _)
    have ly : ys.length ≤ sizeLine := by
      rw [ry.length, lq, sizeLine_eq]; omega
    refine ⟨.ref (s2.heap.objs.size + 1), upd H2 (s2.heap.objs.size + 1) (.lst ys), I2.laid kp (Nat.le_succ _) ⟨ly, out, oc, ry, hD⟩, rfl, ?_⟩
    exact q _ _ (k2.new nF) ((sm1.trans sm2).trans (hide_new nF)) ⟨_, ys, rfl, by rw [hide_none (k2.free nF), upd_same], dy.mono (hide_new nF)⟩
end
end FK
/-! Walks: what a device knows of the law's edits; the law's look at all devices. -/
namespace FK
open PySem PySem.Spec PyProof.Rows L2 DL
/-- the qualified name of a lambda in the def x -/
def lamQ (x : Str) : Str := (x ++ ".<locals>.") ++ "<lambda>"
/-- a def of the text with its code object -/
structure DfnC (K : PySem.W.Frag) (mg : Str → Option Value) (x : Str) (st : Stmt) (ps : List Str) (c : Addr) : Prop where
  ex : ∃ f fd, FunD K x x (defArgs st) (defBody st) (defScope st) [] [] f fd ∧ mg x = some (.ref f) ∧ Binds K fd ps [] ∧ fd.code = .ref c
section
variable {P : Program} {w : World} {K : PySem.W.Frag} {mg : Str → Option Value} {base : Heap} {C : Addr}
theorem fnC_ok {x : Str} {st : Stmt} {f : Addr} {fd : FuncData} {N ps : List Str} {k n : Nat} {R : Con'} {c : Addr} (F : FunD K x x (defArgs st) (defBody st) (defScope st) [] [] f fd) (hc : fd.code = .ref c) (S : FnScope N ps (defScope st)) (hn : n = ps.length)
    (hb : ∀ (A : Around) (outer : List Env) (s : Shared) (H : Hp) (E : XK) (ds : List Da) (m : Mem) (Q' : Da → Mem → Prop), Room k (A.deeper (envOfC x (defScope st) s.heap.objs.size f (.ref c))) → R ds m Q' →
      ExW (cxOf CX0 P w K mg base N x (defScope st) f (.ref c) A outer s H E).nox (defBody st) (rho0 N ds) m { nx := fun _ m' => Q' .non m', rt := Q' }) : FnOk P w K mg base CX0 (k + 1) f fd ps (spD n R) := by
  obtain ⟨_, _, _, _, _, _, _, code, _, _, rfl, there, named, _, _⟩ := F.ex
  obtain rfl : code = .ref c := hc
  refine fn_of there named S (spD_len hn) fun A outer s H vs Q E hr h => ?_
  obtain ⟨ds, m, Q', hl, hR, k0, hd, hq⟩ := h
  exact ⟨_, PSs.nox (hb A outer s H E ds m Q' hr hR), holds_start k0 hd, fun r' m' σ' H' a b c => hq .non m' .non H' a b.1 c rfl, fun d m' v H' a b c e => hq d m' v H' a b c e, fun _ _ _ _ z => z.elim, fun _ _ _ _ z => z.elim⟩
theorem DfnC.got {x : Str} {st : Stmt} {N ps : List Str} {k n : Nat} {R : Con'} {c : Addr} (F : DfnC K mg x st ps c) (S : FnScope N ps (defScope st)) (hn : n = ps.length)
    (hb : ∀ (f : Addr) (A : Around) (outer : List Env) (s : Shared) (H : Hp) (E : XK) (ds : List Da) (m : Mem) (Q' : Da → Mem → Prop), Room k (A.deeper (envOfC x (defScope st) s.heap.objs.size f (.ref c))) → R ds m Q' →
      ExW (cxOf CX0 P w K mg base N x (defScope st) f (.ref c) A outer s H E).nox (defBody st) (rho0 N ds) m { nx := fun _ m' => Q' .non m', rt := Q' }) : Got P w K mg base x (k + 1) n R := by
  obtain ⟨f, fd, h1, h2, h3, h4⟩ := F.ex
  exact ⟨f, fd, ps, fnC_ok h1 h4 S hn (hb f), h2, h1.kp, h3⟩
/-! _law_known(know, edits) -/
def knownOf (k : Know) (ed : List Edit) : List Edit := ed.filter fun e => decide (e.id.1 ≤ clockIn k.knows e.id.2)
theorem knownOf_T {k : Know} {pre : List Edit} {x : Edit} (q : decide (x.id.1 ≤ clockIn k.knows x.id.2) = true) : knownOf k (pre ++ [x]) = knownOf k pre ++ [x] := by
  unfold knownOf
  rw [List.filter_append]
  simp only [List.filter, q]
theorem knownOf_F {k : Know} {pre : List Edit} {x : Edit} (q : decide (x.id.1 ≤ clockIn k.knows x.id.2) = false) : knownOf k (pre ++ [x]) = knownOf k pre := by
  unfold knownOf
  rw [List.filter_append]
  simp only [List.filter, q, List.append_nil]
def RKnown (C T : Addr) : Con' := fun ds m Q => ∃ a be k ed, ds = [.loc a, .loc be] ∧ m a = some (.ins C (dKnow k)) ∧ m be = some (.lst (ed.map dEdit)) ∧ ed.length ≤ 500 ∧ m T = some (.tab (lamQ "_law_known")) ∧ Q (.lst ((sortE (knownOf k ed)).map dEdit)) m
theorem sc_known : FnScope ["_law_know", "_law_edits_here", "_law_known_here", "_law_edit_here"] ["_law_know", "_law_edits_here"] (defScope (topS 44)) := ⟨rfl, rfl, rfl, by decide +kernel, rfl, by decide +kernel, by decide +kernel⟩
theorem got_known {c T : Addr} (F : DfnC K mg "_law_known" (topS 44) ["_law_know", "_law_edits_here"] c) (TB : LamX.TabB base mg c T) (KC : KCls K C) (G1 : GotM P w K mg base C "known_up_to" 2 2 (RKnownUpTo C)) (nS : mg "sorted" = none) : Got P w K mg base "_law_known" 5 2 (RKnown C T) := by
  refine F.got sc_known rfl fun f A outer s H E ds m Q hr h => ?_
  obtain ⟨a, be, k, ed, rfl, hm, hbe, hl, hT, hQ⟩ := h
  have nd := sc_known.nd
  have hr2 : Room 2 _ := hr.mono (by decide)
  refine w_cons (s_newlist (i := 2) nd fun p hp => ?_)
  have nbe : be ≠ p := fun e => by rw [e, hp] at hbe; cases hbe
  have na : a ≠ p := fun e => by rw [e, hp] at hm; cases hm
  refine w_cons (s_for (t := .nm 3) (it_cell (ev_name 1) (by rw [Mem.put_ne nbe]; exact hbe)) (tg_nm nd) ?_)
  refine for_ind (fun xs r m' => ∃ (pre : List Edit) (v3 : Option Da), ed = pre ++ xs ∧ r = [some (.loc a), some (.loc be), some (.loc p), v3] ∧ m' = m.put p (.lst ((knownOf k pre).map dEdit))) ⟨[], none, rfl, rfl, rfl⟩ ?_ ?_
  · rintro _ _ ⟨pre, v3, e, rfl, rfl⟩
    rw [List.append_nil] at e
    subst e
    have hkl : (knownOf k ed).length ≤ 1000 := by
      have := List.length_filter_le (fun e : Edit => decide (e.id.1 ≤ clockIn k.knows e.id.2)) ed
      unfold knownOf; omega
    refine ⟨by rw [Mem.put_ne nbe]; exact hbe, w_one (s_ret (ev_melt 2 hp rfl (ev_sorted (ev_name 2) (.inl rfl) hT TB rfl rfl nS hr hkl)) hQ)⟩
  · rintro x xs _ _ ⟨pre, v3, e, rfl, rfl⟩
    refine ⟨by rw [Mem.put_ne nbe]; exact hbe, _, rfl, ?_⟩
    refine w_one (s_if (b := decide (x.id.1 ≤ clockIn k.knows x.id.2)) (et_cmp (ev_ix (ev_eid (ev_name 3) ev_int) ev_int rfl (by decide) rfl) (ev_gotm G1 hr2 KC.cl (ev_name 0) (by rw [Mem.put_ne na]; exact hm) (no_known k) (ea_cons (ev_ix (ev_eid (ev_name 3) ev_int) ev_int rfl (by decide) rfl) ea_nil) rfl ⟨a, k, x.id.2, rfl, by rw [Mem.put_ne na]; exact hm, rfl, rfl⟩) od_le) (fun q => ?_) (fun q => ?_))
    · refine w_one (s_append (ev_name 2) (ev_name 3) ⟨_, Mem.put_same⟩ Mem.put_same ?_ ⟨pre ++ [x], _, by rw [e, List.append_assoc]; rfl, rfl, ?_⟩)
      · have h1 := List.length_filter_le (fun e : Edit => decide (e.id.1 ≤ clockIn k.knows e.id.2)) pre
        have h2 := congrArg List.length e
        rw [List.length_append] at h2
        rw [List.length_map]
        unfold knownOf
        omega
      · rw [Mem.put_put, knownOf_T q, List.map_append]; rfl
    · exact w_nil ⟨pre ++ [x], _, by rw [e, List.append_assoc]; rfl, rfl, by rw [knownOf_F q]⟩
end
end FK
/-! Walk: the law's look at all devices. -/
namespace FK
open PySem PySem.Spec PyProof.Rows L2 DL
/-- the devices' objects -/
structure KsAt (C : Addr) (m : Mem) (as : List Addr) (n : Nat) (ks : Nat → Know) : Prop where
  len : as.length = n
  at_ : ∀ i, i < n → ∃ a, as[i]? = some a ∧ m a = some (.ins C (dKnow (ks i)))
theorem ix_loc {as : List Addr} {i : Nat} {a : Addr} (h : as[i]? = some a) : (as.map Da.loc)[(i : Int).toNat]? = some (.loc a) := by
  rw [Int.toNat_natCast, List.getElem?_map, h]; rfl
theorem ix_rng {n i : Nat} (h : i < n) (f : Nat → Da) : ((List.range n).map f)[(i : Int).toNat]? = some (f i) := by
  rw [Int.toNat_natCast, List.getElem?_map, List.getElem?_eq_getElem (by rw [List.length_range]; exact h), List.getElem_range]; rfl
theorem ix_id {ks : Clocks} {j : Nat} {p : Id} (h : ks[j]? = some p) : (ks.map dId)[(j : Int).toNat]? = some (dId p) := by
  rw [Int.toNat_natCast, List.getElem?_map, h]; rfl
section
variable {P : Program} {w : World} {K : PySem.W.Frag} {mg : Str → Option Value} {base : Heap} {C : Addr}
def RFine (C T : Addr) : Con' := fun ds m Q => ∃ (n : Nat) (as : List Addr) (ks : Nat → Know) (be : Addr) (ed : List Edit) (cs : Nat → Clocks), ds = [.lst (as.map .loc), .loc be, .lst ((List.range n).map fun i => dClocks false (cs i))] ∧ n ≤ 4 ∧ KsAt C m as n ks ∧ m be = some (.lst (ed.map dEdit)) ∧ ed.length ≤ 40 ∧
  m T = some (.tab (lamQ "_law_known")) ∧ (∀ i, i < n → Foldable (ks i) ∧ EdsOk [] (sortE (knownOf (ks i) ed)) ∧ (ks i).lines = foldLines [] (sortE (knownOf (ks i) ed))) ∧
  (∀ i j : Nat, i < n → j < n → ∃ y x, (cs i)[j]? = some ((j : Int), y) ∧ (ks i).knows[j]? = some ((j : Int), x) ∧ y ≤ x) ∧ Q (.bl true) m
theorem sc_fine : FnScope ["_law_knows", "_law_edits_here", "_law_clocks", "_law_k_here", "_law_j_here"] ["_law_knows", "_law_edits_here", "_law_clocks"] (defScope (topS 45)) := ⟨rfl, rfl, rfl, by decide +kernel, rfl, by decide +kernel, by decide +kernel⟩
theorem got_fine {T : Addr} (F : Dfn K mg "_law_fine" (topS 45) ["_law_knows", "_law_edits_here", "_law_clocks"]) (KC : KCls K C) (G1 : GotM P w K mg base C "lines" 8 1 (RLines C)) (G2 : Got P w K mg base "lines_of" 8 1 RLinesOf) (G3 : Got P w K mg base "_law_known" 5 2 (RKnown C T)) (nR : mg "range" = none) (nL : mg "len" = none) : Got P w K mg base "_law_fine" 9 3 (RFine C T) := by
  refine F.got sc_fine rfl fun f cdv A outer s H E ds m Q hr h => ?_
  obtain ⟨n, as, ks, be, ed, cs, rfl, hn, KA, hbe, hl, hT, hk, hc, hQ⟩ := h
  have nd := sc_fine.nd
  have hr5 : Room 5 _ := hr.mono (by decide)
  have hu : (A.deeper (envOfC "_law_fine" (defScope (topS 45)) s.heap.objs.size f cdv)).units + 64 < cLine := by have := hr.un; omega
  have la : ((as.map Da.loc).length : Int) = (n : Int) := by rw [List.length_map, KA.len]
  refine w_cons (s_for (t := .nm 3) (it_rangeN n (ev_callB (ea_cons (ev_name 0) ea_nil) (cd_len rfl) nL PySem.boot_len) la (by omega) nR) (tg_nm nd) ?_)
  refine for_rng (fun k r m' => ∃ v3 v4, r = [some (.lst (as.map .loc)), some (.loc be), some (.lst ((List.range n).map fun i => dClocks false (cs i))), v3, v4] ∧ m = m') ⟨none, none, rfl, rfl⟩ ?_ ?_
  · rintro _ _ ⟨v3, v4, rfl, rfl⟩
    exact ⟨trivial, w_one (s_ret ev_bl hQ)⟩
  · rintro i _ _ hi ⟨v3, v4, rfl, rfl⟩
    have z0 : (0 : Int) + (i : Int) = (i : Int) := Int.zero_add _
    rw [z0]
    obtain ⟨a, ia, hm⟩ := KA.at_ i hi
    obtain ⟨hf, he, hln⟩ := hk i hi
    have hkl : (sortE (knownOf (ks i) ed)).length ≤ 40 := by
      have h1 := List.length_filter_le (fun e : Edit => decide (e.id.1 ≤ clockIn (ks i).knows e.id.2)) ed
      have h2 : (sortE (knownOf (ks i) ed)).length = (knownOf (ks i) ed).length := (List.mergeSort_perm _ _).length_eq
      unfold knownOf at h2 ⊢
      omega
    refine ⟨trivial, _, rfl, w_cons (s_if (b := false) (et_cmp (ev_gotm0 G1 hr KC.cl (ev_ix (ev_name 0) (ev_name 3) rfl (by omega) (ix_loc ia)) hm (no_lines _) rfl ⟨a, ks i, rfl, hm, hf, rfl, rfl⟩)
      (ev_got G2 hr (ea_cons (ev_got G3 hr5 (ea_cons (ev_ix (ev_name 0) (ev_name 3) rfl (by omega) (ix_loc ia)) (ea_cons (ev_name 1) ea_nil)) rfl ⟨a, be, ks i, ed, rfl, hm, hbe, by omega, hT, rfl, rfl⟩) ea_nil) rfl ⟨sortE (knownOf (ks i) ed), rfl, he, hkl, rfl, rfl⟩)
      (od_to (od_neD hu (shp_lines _) (shp_lines _)) (by rw [hln, eqv_lines]; rfl))) (fun z => by cases z) fun _ => w_nil ?_)⟩
    refine w_one (s_for (t := .nm 4) (it_rangeN n (ev_callB (ea_cons (ev_name 0) ea_nil) (cd_len rfl) nL PySem.boot_len) la (by omega) nR) (tg_nm nd) ?_)
    refine for_rng (fun j r m' => ∃ v4, r = [some (.lst (as.map .loc)), some (.loc be), some (.lst ((List.range n).map fun i => dClocks false (cs i))), some (.int (i : Int)), v4] ∧ m = m') ⟨v4, rfl, rfl⟩ ?_ ?_
    · rintro _ _ ⟨v4, rfl, rfl⟩
      exact ⟨trivial, _, _, rfl, rfl⟩
    · rintro j _ _ hj ⟨v4, rfl, rfl⟩
      have z1 : (0 : Int) + (j : Int) = (j : Int) := Int.zero_add _
      rw [z1]
      obtain ⟨y, x, hy, hx, hle⟩ := hc i j hi hj
      refine ⟨trivial, _, rfl, w_one (s_if (b := false) (et_p (ep_or (k := false) (j := false) (et_cmp (ev_ix (ev_ix (ev_fld (ev_ix (ev_name 0) (ev_name 3) rfl (by omega) (ix_loc ia)) hm (fl_knows _) KC.cl KC.nK) (ev_name 4) rfl (by omega) (ix_id hx)) ev_int rfl (by decide) rfl)
        (ev_ix (ev_ix (ev_ix (ev_name 2) (ev_name 3) rfl (by omega) (ix_rng hi _)) (ev_name 4) rfl (by omega) (ix_id hy)) ev_int rfl (by decide) rfl) (od_to od_lt (decide_eq_false (by omega)))) fun _ =>
        et_cmp (ev_ix (ev_ix (ev_fld (ev_ix (ev_name 0) (ev_name 3) rfl (by omega) (ix_loc ia)) hm (fl_knows _) KC.cl KC.nK) (ev_name 4) rfl (by omega) (ix_id hx)) ev_int rfl (by decide) rfl) (ev_name 4) (od_to od_neI (by simp)))) (fun z => by cases z) fun _ => w_nil ⟨_, rfl, rfl⟩)⟩
end
end FK
/-! Expressions that make a new cell. -/
namespace DL
open PySem L2
/-- the value is a new cell c -/
def tN (r : Rho) (m : Mem) (c : Cell) : TE := fun σ H Q => Holds r m σ H ∧ ∀ p H', m p = none → MemOk (m.put p c) H' → Same (hide m H) (hide (m.put p c) H') → Q (.ref p) H'
def EvN (X : Cx) (e : Expr) (r : Rho) (m : Mem) (c : Cell) : Prop := PE X e (tN r m c)
section
variable {X : Cx} {r : Rho} {m m1 : Mem} {c : Cell}
theorem en_of {e : Expr} {t : TE} (h : PE X e t) (k : ∀ σ H (Q : VK), Holds r m σ H → (∀ p H', m p = none → MemOk (m.put p c) H' → Same (hide m H) (hide (m.put p c) H') → Q (.ref p) H') → t σ H Q) : EvN X e r m c :=
  ⟨fun pins s σ H Q I q => h.run pins s σ H Q I (k σ H Q q.1 q.2)⟩
/-- a list of one shape, one item a turn, as a cell -/
theorem evn_lc {A : Type} {enc : A → Da} {elt tg iter : Expr} {scope : Scope} (own : List (Str × Nat)) {pos : Pos} (t : Tg) {xs : List A} {inv : Mem → Prop} (g : A → Da) (hN : X.N.Nodup) (hi : ItD X tg iter r m (xs.map enc) m inv) (hg : ∀ Y, Blk X scope Y → TgD Y tg t)
    (hl : xs.length < 1000) (ht : ∀ x ∈ xs, ∃ r', t.put (enc x) (wipeR r (own.map (·.2))) = some r' ∧ ∀ m', MLe m m' → ∀ Y, Blk X scope Y → EvD Y elt r' m' (g x) m') (hiv : ∀ m', MLe m m' → inv m' := by exact fun _ _ => trivial) (ok : BlkOk X.N X.env.scope scope own := by exact blkOk_by (by kernel_rfl)) (hw : ∀ i ∈ t.own, i ∈ own.map (·.2) := by decide +kernel) (hc : X.calm = true := by rfl)
    (hs : ∀ x, foldedSetIterable iter X.env x = pure x := by intro _; rfl) (h1 : ∀ d r r', t.put d r = some r' → r'.length = r.length := by intro d r r' e; cases e; exact List.length_set) : EvN X (.ListComp elt [⟨tg, iter, [], 0⟩] scope pos) r m (.lst (xs.map g)) := by
  refine en_of (pe_lc (tt := tYes) (te := fun σ H Q => ∃ te, (∀ Y, Blk X scope Y → PE Y elt te) ∧ te σ H Q) hc hN hi ok (fun s H C cl fp => hg _ ⟨s, H, C, cl, fp, rfl⟩) (fun s H C cl fp => pts_nil)
    (fun s H C cl fp => ⟨fun pins s' σ H' Q I ⟨te, a, b⟩ => (a _ ⟨s, H, C, cl, fp, rfl⟩).run pins s' σ H' Q I b⟩) hs) fun σ H Q hh q => ?_
  refine ⟨hh, fun J H1 k1 s1 wk D hD => ?_⟩
  have mD : m D = none := k1.free hD
  have grow : ∀ c : Cell, MLe m (m.put D c) := fun c a b e => by
    rw [Mem.put_ne (fun z => by rw [z, mD] at e; cases e)]
    exact e
  refine ⟨fun i n H' => n = xs.length - i ∧ i ≤ xs.length ∧ MemOk (m.put D (.lst ((xs.take i).map g))) H' ∧ Same (hide m H1) (hide (m.put D (.lst ((xs.take i).map g))) H'), ⟨_, rfl, Nat.zero_le _, k1.cell hD ⟨[], upd_same, rfl⟩, hide_put_new hD⟩, ?_⟩
  rintro i n H' ⟨rfl, hle, k2, s2⟩
  by_cases hlt : i < xs.length
  · right
    refine ⟨wk.go i _ H' (by rw [List.length_map]; exact hlt) k2 s2 (hiv _ (grow _)), fun H3 => i + 1 ≤ xs.length ∧ MemOk (m.put D (.lst ((xs.take (i + 1)).map g))) H3 ∧ Same (hide m H1) (hide (m.put D (.lst ((xs.take (i + 1)).map g))) H3), fun H3 ⟨a, b⟩ => ⟨xs.length - (i + 1), by omega, rfl, a, b⟩, fun x H3 y => ?_⟩
    obtain ⟨e3, d, hd0, hr⟩ := wk.yld i _ H' x H3 (by rw [List.length_map]; exact hlt) k2 s2 (hiv _ (grow _)) y
    subst e3
    have hx : xs[i]? = some xs[i] := List.getElem?_eq_getElem hlt
    rw [List.getElem?_map, hx] at hd0
    have ed : enc xs[i] = d := Option.some.inj hd0
    subst ed
    have tk : xs.take (i + 1) = xs.take i ++ [xs[i]] := by rw [List.take_add_one, hx]; rfl
    have ltk : (xs.take i).length ≤ i := by rw [List.length_take]; omega
    generalize xs[i] = z at *
    have hdm : z ∈ xs := List.mem_of_getElem? hx
    obtain ⟨r', hput, he⟩ := ht z hdm
    have hw0 : Holds (wipeR r (own.map (·.2))) (m.put D (.lst ((xs.take i).map g))) (L2.wipe σ (own.map (·.2))) H3 := (hh.wipe _).mono k2 (s1.trans s2)
    refine ⟨wipeR r (own.map (·.2)), m.put D (.lst ((xs.take i).map g)), enc z, r', hput, hw0, hr, fun σ4 h4 hs4 => ?_⟩
    have l4 : σ4.length = (L2.wipe σ (own.map (·.2))).length := by rw [h4.2.1, hw0.2.1, h1 _ _ _ hput]
    refine ⟨by rw [wipe_same l4 hs4 hw, wipe_wipe], ?_⟩
    unfold tYes
    dsimp only
    rw [if_pos rfl]
    refine ⟨_, he _ (grow _), h4, fun v H6 k6 s6 r6 => ?_⟩
    obtain ⟨ws, g1, g2⟩ := k6 D _ Mem.put_same
    have eacc' : (xs.take i).map g ++ [g z] = (xs.take (i + 1)).map g := by rw [tk, List.map_append]; rfl
    refine ⟨ws, g1, small1000 (by rw [g2.length, List.length_map]; omega), hlt, ?_⟩
    have k7 := k6.write (p := D) (o := .lst (ws ++ [v])) (c := .lst ((xs.take i).map g ++ [g z])) Mem.put_same ⟨_, upd_same, g2.app (DrAll.one r6)⟩
    have e7 : hide ((m.put D (.lst ((xs.take i).map g))).put D (.lst ((xs.take i).map g ++ [g z]))) (upd H6 D (.lst (ws ++ [v]))) = hide (m.put D (.lst ((xs.take i).map g))) H6 := by rw [hide_put_ex Mem.put_same, hide_upd Mem.put_same]
    rw [Mem.put_put, eacc'] at k7 e7
    exact ⟨k7, by rw [e7]; exact s2.trans s6⟩
  · left
    have e : i = xs.length := by omega
    rw [e, List.take_length] at k2 s2
    exact ⟨by rw [e]; have z := wk.stop _ _ k2 s2 (hiv _ (grow _)); rw [List.length_map] at z; exact z, q D H' mD k2 (s1.trans s2)⟩
/-- x.append(a new cell) -/
theorem s_appendN {o e : Expr} {apos cpos pos : Pos} {a : Addr} {ds : List Da} {D : DE} (ho : EvD X o r m (.loc a) m1) (he : EvN X e r m1 c) (hm : m1 a = some (.lst ds)) (hl : ds.length < 1000) (h : ∀ p, m1 p = none → D.nx r ((m1.put p c).put a (.lst (ds ++ [.loc p]))))
    (hs : swapsWith (.Call (.Attribute o "append" apos) [e] [] cpos) none pos.line X.env = pure false := by rfl) (hst : starEach [e] X.env = (false, eval e X.env) :: starEach [] X.env := by rfl) (hbase : attributeBase o "append" X.env (eval o X.env) = eval o X.env := by rfl) (hfew : ((backTo cpos (starEach [e] X.env)).all (fun x => !x.1) && (backToKw cpos (keywordEach [] X.env)).all (fun x => x.1.isSome) && decide ([e].length + ([] : List Keyword).length + (if ([] : List Keyword).isEmpty then 0 else 1) < 30)) = true := by rfl)
    (hline : (apos.endLine == cpos.line) = true := by rfl) : ExS X (.Expr (.Call (.Attribute o "append" apos) [e] [] cpos) pos) r m D :=
  es_of (ps_expr (pe_bm PySem.F.plainAttrs_list PySem.F.slot_list_append PySem.F.type_list_append mt_append ho (pa_cons he pa_nil hst) hbase hfew hline hst rfl) hs) fun E σ H hh en => ⟨hh, fun v H1 k1 s1 r1 => by
    obtain ⟨vs1, g1, _⟩ := k1 a _ hm
    refine ⟨by rw [r1]; exact .inl ⟨rfl, _, SqL.of g1⟩, hh.mono k1 s1, fun p H2 hp k2 s2 => ?_⟩
    have hm2 : (m1.put p c) a = some (.lst ds) := by rw [Mem.put_ne (fun z => by rw [z, hp] at hm; cases hm)]; exact hm
    obtain ⟨vs, g2, g3⟩ := k2 a _ hm2
    refine ⟨a, vs, .ref p, r1, rfl, g2, small1000 (by rw [g3.length]; omega), ?_⟩
    have k3 := k2.write (p := a) (o := .lst (vs ++ [.ref p])) (c := .lst (ds ++ [.loc p])) hm2 ⟨_, upd_same, g3.app (DrAll.one (d := .loc p) rfl)⟩
    have e3 : hide ((m1.put p c).put a (.lst (ds ++ [.loc p]))) (upd H2 a (.lst (vs ++ [.ref p]))) = hide (m1.put p c) H2 := by rw [hide_put_ex hm2, hide_upd hm2]
    have s3 : Same (hide (m1.put p c) H2) (hide ((m1.put p c).put a (.lst (ds ++ [.loc p]))) (upd H2 a (.lst (vs ++ [.ref p])))) := by rw [e3]; exact Same.refl _
    exact en.nx _ _ _ _ (h p hp) (hh.mono k3 ((s1.trans s2).trans s3)) ((s1.trans s2).trans s3)⟩
/-- many cells alike -/
def Mem.puts (m : Mem) (ps : List Addr) (c : Cell) : Mem := fun b => if b ∈ ps then some c else m b
theorem puts_nil {m : Mem} {c : Cell} : m.puts [] c = m := by
  funext b
  unfold Mem.puts
  rw [if_neg List.not_mem_nil]
theorem puts_in {m : Mem} {ps : List Addr} {c : Cell} {b : Addr} (h : b ∈ ps) : m.puts ps c b = some c := if_pos h
theorem puts_out {m : Mem} {ps : List Addr} {c : Cell} {b : Addr} (h : b ∉ ps) : m.puts ps c b = m b := if_neg h
theorem puts_snoc {m : Mem} {ps : List Addr} {c : Cell} {p : Addr} : (m.puts ps c).put p c = m.puts (ps ++ [p]) c := by
  funext b
  by_cases h1 : b = p
  · subst h1
    rw [Mem.put_same, puts_in (List.mem_append_right _ List.mem_cons_self)]
  · rw [Mem.put_ne h1]
    by_cases h2 : b ∈ ps
    · rw [puts_in h2, puts_in (List.mem_append_left _ h2)]
    · rw [puts_out h2, puts_out (by rw [List.mem_append, List.mem_singleton]; rintro (z | z); exact h2 z; exact h1 z)]
/-- y = [a new cell c for ..] -/
theorem s_setLcN {A : Type} {enc : A → Da} {i : Nat} {y : Str} {py : Pos} {elt tg iter : Expr} {scope : Scope} (own : List (Str × Nat)) {pos spos : Pos} (t : Tg) {xs : List A} {inv : Mem → Prop} {D : DE} (c : Cell) (hN : X.N.Nodup)
    (hi : ItD X tg iter r m (xs.map enc) m inv) (hg : ∀ Y, Blk X scope Y → TgD Y tg t) (hl : xs.length < 1000) (ht : ∀ x ∈ xs, ∃ r', t.put (enc x) (wipeR r (own.map (·.2))) = some r' ∧ ∀ m', MLe m m' → ∀ Y, Blk X scope Y → EvN Y elt r' m' c)
    (hn : ∀ ps : List Addr, ps.length = xs.length → ps.Nodup → (∀ p ∈ ps, m p = none) → D.nx (r.set i (some (.lst (ps.map .loc)))) (m.puts ps c))
    (hy : X.N[i]? = some y := by rfl) (hyl : X.env.scope.names.lookup y = some .local := by rfl) (hsw : swapsWith (.ListComp elt [⟨tg, iter, [], 0⟩] scope pos) (some (.Name y py)) spos.line X.env = pure true := by exact sw_true rfl rfl rfl (by kernel_rfl))
    (hiv : ∀ m', MLe m m' → inv m' := by exact fun _ _ => trivial) (ok : BlkOk X.N X.env.scope scope own := by exact blkOk_by (by kernel_rfl)) (hw : ∀ i ∈ t.own, i ∈ own.map (·.2) := by decide +kernel) (hc : X.calm = true := by rfl)
    (hs : ∀ x, foldedSetIterable iter X.env x = pure x := by intro _; rfl) (h1 : ∀ d r r', t.put d r = some r' → r'.length = r.length := by intro d r r' e; cases e; exact List.length_set) : ExS X (.Assign [.Name y py] (.ListComp elt [⟨tg, iter, [], 0⟩] scope pos) spos) r m D := by
  refine es_of (ps_setLc (tt := tYes) (te := fun σ H Q => ∃ te, (∀ Y, Blk X scope Y → PE Y elt te) ∧ te σ H Q) hc hN hy hyl hsw hi ok (fun s H C cl fp => hg _ ⟨s, H, C, cl, fp, rfl⟩) (fun s H C cl fp => pts_nil)
    (fun s H C cl fp => ⟨fun pins s' σ H' Q I ⟨te, a, b⟩ => (a _ ⟨s, H, C, cl, fp, rfl⟩).run pins s' σ H' Q I b⟩) hs) fun E σ H hh en => ?_
  refine ⟨hh, fun J H1 k1 s1 wk D' hD => ?_⟩
  have mD : m D' = none := k1.free hD
  have grow : ∀ (ps : List Addr) (c2 : Cell), (∀ p ∈ ps, m p = none) → MLe m ((m.puts ps c).put D' c2) := fun ps c2 hp a b e => by
    rw [Mem.put_ne (fun z => by rw [z, mD] at e; cases e), puts_out (fun z => by rw [hp a z] at e; cases e)]
    exact e
  refine ⟨fun i n H' => n = xs.length - i ∧ i ≤ xs.length ∧ ∃ ps : List Addr, ps.length = i ∧ ps.Nodup ∧ (∀ p ∈ ps, m p = none) ∧ D' ∉ ps ∧ MemOk ((m.puts ps c).put D' (.lst (ps.map .loc))) H' ∧ Same (hide m H1) (hide ((m.puts ps c).put D' (.lst (ps.map .loc))) H'),
    ⟨_, rfl, Nat.zero_le _, [], rfl, List.nodup_nil, (fun _ z => by cases z), List.not_mem_nil, by rw [puts_nil]; exact k1.cell hD ⟨[], upd_same, rfl⟩, by rw [puts_nil]; exact hide_put_new hD⟩, ?_⟩
  rintro i n H' ⟨rfl, hle, ps, lps, nps, fps, Dps, k2, s2⟩
  by_cases hlt : i < xs.length
  · right
    refine ⟨wk.go i _ H' (by rw [List.length_map]; exact hlt) k2 s2 (hiv _ (grow ps _ fps)), fun H3 => i + 1 ≤ xs.length ∧ ∃ ps : List Addr, ps.length = i + 1 ∧ ps.Nodup ∧ (∀ p ∈ ps, m p = none) ∧ D' ∉ ps ∧ MemOk ((m.puts ps c).put D' (.lst (ps.map .loc))) H3 ∧ Same (hide m H1) (hide ((m.puts ps c).put D' (.lst (ps.map .loc))) H3),
      fun H3 ⟨a, b⟩ => ⟨xs.length - (i + 1), by omega, rfl, a, b⟩, fun x H3 y => ?_⟩
    obtain ⟨e3, d, hd0, hr⟩ := wk.yld i _ H' x H3 (by rw [List.length_map]; exact hlt) k2 s2 (hiv _ (grow ps _ fps)) y
    subst e3
    have hx : xs[i]? = some xs[i] := List.getElem?_eq_getElem hlt
    rw [List.getElem?_map, hx] at hd0
    have ed : enc xs[i] = d := Option.some.inj hd0
    subst ed
    generalize xs[i] = z at *
    have hdm : z ∈ xs := List.mem_of_getElem? hx
    obtain ⟨r', hput, he⟩ := ht z hdm
    have hw0 : Holds (wipeR r (own.map (·.2))) ((m.puts ps c).put D' (.lst (ps.map .loc))) (L2.wipe σ (own.map (·.2))) H3 := (hh.wipe _).mono k2 (s1.trans s2)
    refine ⟨wipeR r (own.map (·.2)), (m.puts ps c).put D' (.lst (ps.map .loc)), enc z, r', hput, hw0, hr, fun σ4 h4 hs4 => ?_⟩
    have l4 : σ4.length = (L2.wipe σ (own.map (·.2))).length := by rw [h4.2.1, hw0.2.1, h1 _ _ _ hput]
    refine ⟨by rw [wipe_same l4 hs4 hw, wipe_wipe], ?_⟩
    unfold tYes
    dsimp only
    rw [if_pos rfl]
    refine ⟨_, he _ (grow ps _ fps), h4, fun p H6 hp k6 s6 => ?_⟩
    have pD : p ≠ D' := fun z => by rw [z, Mem.put_same] at hp; cases hp
    have pps : p ∉ ps := fun z => by rw [Mem.put_ne pD, puts_in z] at hp; cases hp
    have mp : m p = none := by rw [Mem.put_ne pD, puts_out pps] at hp; exact hp
    have hD6 : ((((m.puts ps c).put D' (.lst (ps.map .loc))).put p c)) D' = some (.lst (ps.map .loc)) := by rw [Mem.put_ne pD.symm]; exact Mem.put_same
    obtain ⟨ws, g1, g2⟩ := k6 D' _ hD6
    refine ⟨ws, g1, small1000 (by rw [g2.length, List.length_map]; omega), hlt, ps ++ [p], by rw [List.length_append, lps]; rfl, ?_, ?_, ?_, ?_⟩
    · exact List.nodup_append.2 ⟨nps, by simp, fun a ha b hb e => by rw [List.mem_singleton] at hb; rw [e, hb] at ha; exact pps ha⟩
    · intro q hq
      rcases List.mem_append.mp hq with z | z
      · exact fps q z
      · rw [List.mem_singleton] at z; rw [z]; exact mp
    · rw [List.mem_append, List.mem_singleton]
      rintro (z | z)
      · exact Dps z
      · exact pD z.symm
    · have k7 := k6.write (p := D') (o := .lst (ws ++ [.ref p])) (c := .lst (ps.map .loc ++ [.loc p])) hD6 ⟨_, upd_same, g2.app (DrAll.one (d := .loc p) rfl)⟩
      have e7 : hide ((((m.puts ps c).put D' (.lst (ps.map .loc))).put p c).put D' (.lst (ps.map .loc ++ [.loc p]))) (upd H6 D' (.lst (ws ++ [.ref p]))) = hide (((m.puts ps c).put D' (.lst (ps.map .loc))).put p c) H6 := by rw [hide_put_ex hD6, hide_upd hD6]
      have em : (((m.puts ps c).put D' (.lst (ps.map .loc))).put p c).put D' (.lst (ps.map .loc ++ [.loc p])) = (m.puts (ps ++ [p]) c).put D' (.lst ((ps ++ [p]).map .loc)) := by
        rw [Mem.put_comm pD.symm, Mem.put_put, puts_snoc, List.map_append]; rfl
      rw [em] at k7 e7
      exact ⟨k7, by rw [e7]; exact s2.trans s6⟩
  · left
    have e : i = xs.length := by omega
    refine ⟨by rw [e]; rw [e] at lps; have z := wk.stop _ _ k2 s2 (hiv _ (grow ps _ fps)); rw [List.length_map] at z; exact z, ?_⟩
    have nD : m.puts ps c D' = none := by rw [puts_out Dps]; exact mD
    obtain ⟨ws, g1, g2⟩ := k2 D' _ Mem.put_same
    have sub : Same (hide ((m.puts ps c).put D' (.lst (ps.map .loc))) H') (hide (((m.puts ps c).put D' (.lst (ps.map .loc))).del D') H') := hide_del
    have k3 := k2.del (p := D')
    rw [Mem.del_put nD] at sub k3
    have s3 := s1.trans (s2.trans sub)
    exact en.nx _ _ _ _ (hn ps (by rw [lps, e]) nps fps) ((hh.mono k3 s3).set _ ⟨D', ws, rfl, by rw [hide_none nD]; exact g1, g2.mono sub⟩) s3
end
end DL
/-! Walk: Knowledge is made. -/
namespace FK
open PySem PySem.Spec PyProof.Rows L2 DL
/-- what the text must have of the making -/
structure MkK (K : PySem.W.Frag) (mg : Str → Option Value) (C : Addr) : Prop where
  ex : ∃ f fd T1 T2, FunD K "__init__" "Knowledge.__init__" (defArgs (sKnow 0)) (defBody (sKnow 0)) (defScope (sKnow 0)) [] [("clock", .int 0), ("base", .ref T1), ("upto", .int 0), ("rest", .ref T2), ("knows", .non)] f fd ∧ Mk K C f ∧
    (∀ H, SqT K H T1 []) ∧ ∀ H, SqT K H T2 []
  gl : mg "Knowledge" = some (.ref C)
abbrev initPs : List Str := ["self", "devices", "clock", "base", "upto", "rest", "knows"]
theorem init_binds {K : PySem.W.Frag} {f T1 T2 : Addr} {fd : FuncData} (F : FunD K "__init__" "Knowledge.__init__" (defArgs (sKnow 0)) (defBody (sKnow 0)) (defScope (sKnow 0)) [] [("clock", .int 0), ("base", .ref T1), ("upto", .int 0), ("rest", .ref T2), ("knows", .non)] f fd) :
    ∃ ds, Vals [.int 0, .ref T1, .int 0, .ref T2, .non] ds ∧ Binds K fd initPs ds := by
  refine FunD.binds0 (ps := initPs) F 2 (by simp) rfl fun D doc pm an cdv ct us ks hu hk => ?_
  match us, ks, hu, hk with
  | [a, b], [c, d, e, g, h], _, _ =>
    exact ⟨_, _, _, _, _, _, rfl, rfl, _, _, _, _, _, _, rfl, rfl, _, _, _, _, _, _, rfl, rfl, _, _, _, _, _, _, rfl, rfl, _, _, _, _, _, _, rfl, rfl, rfl⟩
section
variable {P : Program} {w : World} {K : PySem.W.Frag} {mg : Str → Option Value} {base : Heap} {C : Addr}
def RInit (K : PySem.W.Frag) (C : Addr) : Con' := fun ds m Q => ∃ (a : Addr) (n : Nat), ds = [.loc a, .lst ((devs n).map .int), .int 0, .seq K [], .int 0, .seq K [], .non] ∧ n ≤ 100 ∧ m a = some (.ins C []) ∧ Q .non (m.put a (.ins C (dKnow (know0 n))))
theorem sc_init : FnScope ["self", "devices", "clock", "base", "upto", "rest", "knows", "device"] initPs (defScope (sKnow 0)) := ⟨rfl, rfl, rfl, by decide +kernel, rfl, by decide +kernel, by decide +kernel⟩
abbrev kf1 : List (Str × Da) := [("clock", .int 0)]
abbrev kf2 : List (Str × Da) := [("clock", .int 0), ("base", .lst [])]
abbrev kf3 : List (Str × Da) := [("clock", .int 0), ("base", .lst []), ("upto", .int 0)]
abbrev kf4 : List (Str × Da) := [("clock", .int 0), ("base", .lst []), ("upto", .int 0), ("rest", .lst [])]
abbrev kf5 (x : Da) : List (Str × Da) := [("clock", .int 0), ("base", .lst []), ("upto", .int 0), ("rest", .lst []), ("knows", x)]
theorem pd1 : putD "clock" (.int 0) [] = kf1 := by kernel_rfl
theorem pd2 : putD "base" (.lst []) kf1 = kf2 := by kernel_rfl
theorem pd3 : putD "upto" (.int 0) kf2 = kf3 := by kernel_rfl
theorem pd4 : putD "rest" (.lst []) kf3 = kf4 := by kernel_rfl
theorem pd5 (x : Da) : putD "knows" x kf4 = kf5 x := by kernel_rfl
theorem init_ok {f : Addr} {fd : FuncData} {kws : List (Str × V)} (F : FunD K "__init__" "Knowledge.__init__" (defArgs (sKnow 0)) (defBody (sKnow 0)) (defScope (sKnow 0)) [] kws f fd) (KC : KCls K C) (nI : mg "list" = none) : FnOk P w K mg base CX0 1 f fd initPs (spD 7 (RInit K C)) := by
  refine F.ok sc_init (spD_len rfl) fun cdv A outer s H vs Q E hr h => ?_
  obtain ⟨ds, m, Q', hl, hR, k0, hd, hq⟩ := h
  refine ⟨_, PSs.nox (t := tW (rho0 ["self", "devices", "clock", "base", "upto", "rest", "knows", "device"] ds) m { nx := fun _ m' => Q' .non m', rt := Q' }) ?_, holds_start k0 hd, fun r' m' σ' H' a b c => hq .non m' .non H' a b.1 c rfl, fun d m' v H' a b c e => hq d m' v H' a b c e, fun _ _ _ _ z => z.elim, fun _ _ _ _ z => z.elim⟩
  obtain ⟨a, n, rfl, hn, hm, hQ⟩ := hR
  have nd := sc_init.nd
  show ExW _ _ _ _ _
  have ld : (devs n).length = n := by unfold devs; simp
  refine w_cons (s_fld (ev_name 2) (ev_name 0) hm KC.cl KC.nC (by decide) ?_)
  rw [pd1]
  refine w_cons (s_fld (ev_callTy (ea_cons (ev_name 3) ea_nil) cd_listS nI (by decide +kernel)) (ev_name 0) Mem.put_same KC.cl KC.nB (by decide) ?_)
  rw [Mem.put_put, show ([] : List Int).map Da.int = [] from rfl, pd2]
  refine w_cons (s_fld (ev_name 4) (ev_name 0) Mem.put_same KC.cl KC.nU (by decide) ?_)
  rw [Mem.put_put, pd3]
  refine w_cons (s_fld (ev_callTy (ea_cons (ev_name 5) ea_nil) cd_listS nI (by decide +kernel)) (ev_name 0) Mem.put_same KC.cl KC.nR (by decide) ?_)
  rw [Mem.put_put, show ([] : List Int).map Da.int = [] from rfl, pd4]
  refine w_cons (s_fld (ev_lcM [("device", 7)] (.nm 7) (fun d : Int => dId (d, 0)) nd (it_lst (ev_name 1)) (fun Y hY => ?_) (by omega) fun d _ => ⟨_, rfl, fun m' hm' Y hY => ?_⟩) (ev_name 0) Mem.put_same KC.cl KC.nK (by decide) ?_)
  · obtain ⟨s', H', C', cl, fp, rfl⟩ := hY
    exact tg_nm nd
  · obtain ⟨s', H', C', cl, fp, rfl⟩ := hY
    exact ev_tup (ea_cons (ev_name 7) (ea_cons ev_int ea_nil))
  rw [Mem.put_put, pd5]
  refine w_cons (s_if (b := false) (et_cmp (ev_name 6) ev_non od_notN) (fun z => by cases z) fun _ => w_nil (w_nil ?_))
  have e : (know0 n).knows.map dId = (devs n).map fun d : Int => dId (d, 0) := by
    unfold know0
    rw [List.map_map]; rfl
  show Q' .non (m.put a (.ins C (kf5 (.lst ((devs n).map fun d : Int => dId (d, 0))))))
  rw [← e]
  exact hQ
/-- Knowledge(e) makes a new one -/
theorem evn_make {X : Cx} {r : Rho} {m : Mem} {e : Expr} {p pos : Pos} {n : Nat} (M : MkK X.K X.mg C) (KC : KCls X.K C) (nI : X.mg "list" = none) (hr : Room 2 X.A) (ha : EvD X e r m (.lst ((devs n).map .int)) m) (hn : n ≤ 100) (hg : Gl X "Knowledge" := by rfl)
    (hs : starEach [e] X.env = (false, eval e X.env) :: starEach [] X.env := by rfl) (hpl : (backTo pos (starEach [] X.env)).any (·.1) = false := by rfl) : EvN X (.Call (.Name "Knowledge" p) [e] [] pos) r m (.ins C (dKnow (know0 n))) := by
  obtain ⟨⟨f, fd, T1, T2, F, mk, h1, h2⟩, gl⟩ := M
  obtain ⟨ds, dv, hb⟩ := init_binds F
  refine en_of (pe_make mk (init_ok F KC nI) hr hg gl hb dv pass0 (ea_cons ha ea_nil hs) (by decide) hs hpl) fun σ H Q hh q => ?_
  refine ⟨hh, fun vs H1 k1 s1 d1 x dx nx ndx hne => ?_⟩
  have k2 := k1.new (o := .own x) ndx
  have nx2 : (upd H1 dx (.own x)) x = none := by rw [upd_ne hne.symm]; exact nx
  have k3 := k2.cell (c := .ins C []) (o := .ins C dx []) nx2 ⟨dx, [], upd_same, rfl⟩
  have s2 : Same (hide m H1) (hide (m.put x (.ins C [])) (upd (upd H1 dx (.own x)) x (.ins C dx []))) := (hide_new ndx).trans (hide_put_new nx2)
  have mx : m x = none := k1.free nx
  obtain ⟨v, w, rfl, dv1, hw⟩ := d1
  have hw' : w = [] := hw
  subst hw'
  refine ⟨[.loc x, .lst ((devs n).map .int), .int 0, .seq X.K [], .int 0, .seq X.K [], .non], m.put x (.ins C []), fun d m' => d = .non ∧ m' = (m.put x (.ins C [])).put x (.ins C (dKnow (know0 n))), rfl, ⟨x, n, rfl, hn, Mem.put_same, rfl, rfl⟩, k3, ?_, ?_⟩
  · exact ⟨.ref x, _, rfl, rfl, v, _, rfl, dv1.mono s2, .int 0, _, rfl, rfl, .ref T1, _, rfl, ⟨T1, rfl, .inr (h1 _)⟩, .int 0, _, rfl, rfl, .ref T2, _, rfl, ⟨T2, rfl, .inr (h2 _)⟩, .non, _, rfl, rfl, rfl⟩
  · rintro d m' v' H' ⟨rfl, rfl⟩ k4 s4 r4
    rw [Mem.put_put] at k4 s4
    exact ⟨r4, q x H' mx k4 ((s1.trans s2).trans s4)⟩
end
end FK
/-! The law's store. -/
namespace FK
open PySem PySem.Spec PyProof.Rows L2 DL
theorem rg_devs (n : Nat) : rgV 0 (n : Int) = (devs n).map V.int := by
  unfold rgV devs
  rw [List.map_map, show ((n : Int) - 0).toNat = n by omega]
  refine List.map_congr_left fun i _ => ?_
  show V.int (0 + (i : Int)) = V.int (i : Int)
  rw [Int.zero_add]
theorem devs_da (n : Nat) : (devs n).map Da.int = (List.range n).map fun (j : Nat) => Da.int (j : Int) := by
  unfold devs
  rw [List.map_map]; rfl
theorem rows_len (ns : List Int) : ∀ (n i : Nat) (mx : Int), (rowsGo ns n i mx).length = n
  | 0, _, _ => rfl
  | n + 1, i, mx => by
    show (rowOf ns i mx :: rowsGo ns n (i + 1) (rowMix ns i mx)).length = n + 1
    rw [List.length_cons, rows_len ns n]
section
variable {X : Cx} {r : Rho} {m m1 : Mem}
/-- list(range(a)) -/
theorem ev_listRg {a : Expr} {n : Nat} {p p2 p3 p4 : Pos} (ha : EvD X a r m (.int (n : Int)) m1) (hn : n ≤ 1000) (hL : X.mg "list" = none) (hR : X.mg "range" = none) (hc : X.calm = true := by rfl) (hg : Gl X "list" := by rfl) (hg2 : Gl X "range" := by rfl)
    (na : starEach [a] X.env = (false, eval a X.env) :: starEach [] X.env := by rfl) : EvD X (.Call (.Name "list" p) [.Call (.Name "range" p2) [a] [] p3] [] p4) r m (.lst ((devs n).map .int)) m1 :=
  ev_of (pe_listRg hc hg hL (prg_1 hg2 hR ha na)) fun σ H Q h q => ⟨h, fun v H1 k1 s1 r1 => ⟨(n : Int), r1, RgOk.of_le (by omega) (by omega) (by omega) (by omega), fun l hl => by
    rw [rg_devs]
    exact q _ _ (k1.new hl) (s1.trans (hide_new hl)) ⟨l, _, rfl, by rw [hide_none (k1.free hl), upd_same], ints_all _⟩⟩⟩
end
/-! ### the store -/
def dLetter (l : Nat × Nat × News) : Da := .tup [.int (l.1 : Int), .int (l.2.1 : Int), dNews l.2.2]
def hdCell (n : Nat) (S : Sys) (i : Nat) : Cell := .lst ((List.range n).map fun j => dClocks false (S.hd i j))
/-- where the law's objects stand -/
structure LawAd (n : Nat) (as hs : List Addr) (pl pe : Addr) : Prop where
  la : as.length = n
  lh : hs.length = n
  na : as.Nodup
  nh : hs.Nodup
  lth : pl ∉ hs
  edh : pe ∉ hs
  le : pl ≠ pe
structure LawMem (C T1 T2 : Addr) (n : Nat) (as hs : List Addr) (pl pe : Addr) (m : Mem) (S : Sys) : Prop where
  ks : ∀ i, i < n → ∃ a, as[i]? = some a ∧ m a = some (.ins C (dKnow (S.ks i)))
  hd : ∀ i, i < n → ∃ a, hs[i]? = some a ∧ m a = some (hdCell n S i)
  lt : m pl = some (.lst (S.lt.map dLetter))
  ed : m pe = some (.lst (S.ed.map dEdit))
  t1 : m T1 = some (.tab (lamQ "_law_known"))
  t2 : m T2 = some (.tab (lamQ "law"))
theorem nd_ix {as : List Addr} (nd : as.Nodup) {i j : Nat} {a : Addr} (h : as[i]? = some a) (k : as[j]? = some a) : i = j := by
  obtain ⟨h1, e1⟩ := List.getElem?_eq_some_iff.mp h
  obtain ⟨h2, e2⟩ := List.getElem?_eq_some_iff.mp k
  exact (List.getElem_inj nd).mp (e1.trans e2.symm)
theorem Mem.put_keep {m : Mem} {a b : Addr} {c : Cell} {x : Option Cell} (h : b ≠ a) (k : m b = x) : m.put a c b = x := by rw [Mem.put_ne h]; exact k
section
variable {C T1 T2 : Addr} {n : Nat} {as hs : List Addr} {pl pe : Addr} {m : Mem} {S : Sys}
/-- a device's object is written -/
theorem LawMem.know (L : LawMem C T1 T2 n as hs pl pe m S) (D : LawAd n as hs pl pe) {i : Nat} (hi : i < n) {a : Addr} (ha : as[i]? = some a) (k : Know) : LawMem C T1 T2 n as hs pl pe (m.put a (.ins C (dKnow k))) (S.set i k) := by
  obtain ⟨a', ha', hm⟩ := L.ks i hi
  rw [ha] at ha'
  cases ha'
  have ne : ∀ {b : Addr} {c : Cell}, m b = some c → (∀ fs, c ≠ .ins C fs) → b ≠ a := fun {b c} h q z => by
    rw [z, hm] at h
    exact q _ (Option.some.inj h).symm
  refine ⟨fun j hj => ?_, fun j hj => ?_, Mem.put_keep (ne L.lt fun _ z => by cases z) L.lt, Mem.put_keep (ne L.ed fun _ z => by cases z) L.ed, Mem.put_keep (ne L.t1 fun _ z => by cases z) L.t1, Mem.put_keep (ne L.t2 fun _ z => by cases z) L.t2⟩
  · obtain ⟨b, hb, hmb⟩ := L.ks j hj
    by_cases e : j = i
    · subst e
      rw [ha] at hb
      cases hb
      exact ⟨a, ha, by rw [Mem.put_same, set_self]⟩
    · have bne : b ≠ a := fun z => e (nd_ix D.na hb (by rw [z]; exact ha))
      exact ⟨b, hb, by rw [Mem.put_ne bne, set_ne _ _ e]; exact hmb⟩
  · obtain ⟨b, hb, hmb⟩ := L.hd j hj
    exact ⟨b, hb, Mem.put_keep (ne hmb fun _ z => by cases z) hmb⟩
theorem LawMem.tell (L : LawMem C T1 T2 n as hs pl pe m S) (D : LawAd n as hs pl pe) {i : Nat} (hi : i < n) {a : Addr} (ha : as[i]? = some a) (row : Int) :
    LawMem C T1 T2 n as hs pl pe ((m.put a (.ins C (dKnow ((S.ks i).make (i : Int) (tellEdit (S.ks i) (i : Int) row))))).put pe (.lst (S.ed.map dEdit ++ [dEdit (tellEdit (S.ks i) (i : Int) row)]))) (S.tell i row) := by
  have L1 := L.know D hi ha ((S.ks i).make (i : Int) (tellEdit (S.ks i) (i : Int) row))
  generalize (m.put a (.ins C (dKnow ((S.ks i).make (i : Int) (tellEdit (S.ks i) (i : Int) row))))) = m1 at L1
  have ne : ∀ {b : Addr} {c : Cell}, m1 b = some c → (∀ ds, c ≠ .lst ds) → b ≠ pe := fun {b c} h q z => by
    rw [z, L1.ed] at h
    exact q _ (Option.some.inj h).symm
  refine ⟨fun j hj => ?_, fun j hj => ?_, Mem.put_keep D.le L1.lt, ?_, Mem.put_keep (ne L1.t1 fun _ z => by cases z) L1.t1, Mem.put_keep (ne L1.t2 fun _ z => by cases z) L1.t2⟩
  · obtain ⟨b, hb, hmb⟩ := L1.ks j hj
    exact ⟨b, hb, Mem.put_keep (ne hmb fun _ z => by cases z) hmb⟩
  · obtain ⟨b, hb, hmb⟩ := L1.hd j hj
    exact ⟨b, hb, Mem.put_keep (fun z => D.edh (z ▸ List.mem_of_getElem? hb)) hmb⟩
  · rw [Mem.put_same]
    show some (Cell.lst _) = some (.lst ((S.ed ++ [tellEdit (S.ks i) (i : Int) row]).map dEdit))
    rw [List.map_append]; rfl
theorem LawMem.say (L : LawMem C T1 T2 n as hs pl pe m S) (D : LawAd n as hs pl pe) (l : Nat × Nat × News) : LawMem C T1 T2 n as hs pl pe (m.put pl (.lst (S.lt.map dLetter ++ [dLetter l]))) { S with lt := S.lt ++ [l] } := by
  have ne : ∀ {b : Addr} {c : Cell}, m b = some c → (∀ ds, c ≠ .lst ds) → b ≠ pl := fun {b c} h q z => by
    rw [z, L.lt] at h
    exact q _ (Option.some.inj h).symm
  refine ⟨fun j hj => ?_, fun j hj => ?_, ?_, Mem.put_keep D.le.symm L.ed, Mem.put_keep (ne L.t1 fun _ z => by cases z) L.t1, Mem.put_keep (ne L.t2 fun _ z => by cases z) L.t2⟩
  · obtain ⟨b, hb, hmb⟩ := L.ks j hj
    exact ⟨b, hb, Mem.put_keep (ne hmb fun _ z => by cases z) hmb⟩
  · obtain ⟨b, hb, hmb⟩ := L.hd j hj
    exact ⟨b, hb, Mem.put_keep (fun z => D.lth (z ▸ List.mem_of_getElem? hb)) hmb⟩
  · rw [Mem.put_same, List.map_append]; rfl
theorem set_rng {n j : Nat} (f : Nat → Clocks) (x : Clocks) : ((List.range n).map f).set j x = (List.range n).map fun d => if d = j then x else f d := by
  apply List.ext_getElem?
  intro i
  by_cases hi : i < n
  · have g : ∀ h : Nat → Clocks, ((List.range n).map h)[i]? = some (h i) := fun h => by
      rw [List.getElem?_map, List.getElem?_eq_getElem (by rw [List.length_range]; exact hi), List.getElem_range]; rfl
    rw [g]
    by_cases e : j = i
    · subst e
      rw [List.getElem?_set_self (by rw [List.length_map, List.length_range]; exact hi), if_pos rfl]
    · rw [List.getElem?_set_ne e, g, if_neg (fun z => e z.symm)]
  · rw [List.getElem?_eq_none (by rw [List.length_set, List.length_map, List.length_range]; omega), List.getElem?_eq_none (by rw [List.length_map, List.length_range]; omega)]
theorem LawMem.deliver (L : LawMem C T1 T2 n as hs pl pe m S) (D : LawAd n as hs pl pe) {rv sd : Nat} (hi : rv < n) {a b : Addr} (ha : as[rv]? = some a) (hb : hs[rv]? = some b) (ms : News) :
    LawMem C T1 T2 n as hs pl pe ((m.put a (.ins C (dKnow ((S.ks rv).hear (rv : Int) ms).forget))).put b (.lst ((((List.range n).map (S.hd rv)).set sd ms.knows).map (dClocks false)))) (S.deliver (rv, sd, ms)) := by
  have L1 := L.know D hi ha ((S.ks rv).hear (rv : Int) ms).forget
  generalize (m.put a (.ins C (dKnow ((S.ks rv).hear (rv : Int) ms).forget))) = m1 at L1
  obtain ⟨b', hb', hmb⟩ := L1.hd rv hi
  rw [hb] at hb'
  cases hb'
  have ne : ∀ {x : Addr} {c : Cell}, m1 x = some c → (∀ ds, c ≠ .lst ds) → x ≠ b := fun {x c} h q z => by
    rw [z, hmb] at h
    exact q _ (Option.some.inj h).symm
  have bh : b ∈ hs := List.mem_of_getElem? hb
  refine ⟨fun j hj => ?_, fun j hj => ?_, Mem.put_keep (fun z => D.lth (z ▸ bh)) L1.lt, Mem.put_keep (fun z => D.edh (z ▸ bh)) L1.ed, Mem.put_keep (ne L1.t1 fun _ z => by cases z) L1.t1, Mem.put_keep (ne L1.t2 fun _ z => by cases z) L1.t2⟩
  · obtain ⟨x, hx, hmx⟩ := L1.ks j hj
    exact ⟨x, hx, Mem.put_keep (ne hmx fun _ z => by cases z) hmx⟩
  · obtain ⟨x, hx, hmx⟩ := L1.hd j hj
    by_cases e : j = rv
    · subst e
      rw [hb] at hx
      cases hx
      refine ⟨b, hb, ?_⟩
      rw [Mem.put_same, set_rng, List.map_map]
      refine congrArg (fun z => some (Cell.lst z)) (List.map_congr_left fun d _ => ?_)
      show dClocks false (if d = sd then ms.knows else S.hd j d) = dClocks false (if j = j ∧ d = sd then ms.knows else S.hd j d)
      by_cases q : d = sd
      · rw [if_pos q, if_pos ⟨rfl, q⟩]
      · rw [if_neg q, if_neg (fun z => q z.2)]
    · have xne : x ≠ b := fun z => e (nd_ix D.nh hx (by rw [z]; exact hb))
      refine ⟨x, hx, ?_⟩
      rw [Mem.put_ne xne, hmx]
      refine congrArg (fun z => some (Cell.lst z)) (List.map_congr_left fun d _ => ?_)
      show dClocks false (S.hd j d) = dClocks false (if j = rv ∧ d = sd then ms.knows else S.hd j d)
      rw [if_neg (fun z => e z.1)]
end
end FK
/-! The law's steps over its store. -/
namespace FK
open PySem PySem.Spec PyProof.Rows L2 DL
theorem hdCell_eq (n : Nat) (S : Sys) (i : Nat) : hdCell n S i = .lst (((List.range n).map (S.hd i)).map (dClocks false)) := by
  unfold hdCell
  rw [List.map_map]; rfl
section
variable {C T1 T2 : Addr} {n B : Nat} {as hs : List Addr} {pl pe : Addr} {m : Mem} {S : Sys}
theorem rd_of (L : LawMem C T1 T2 n as hs pl pe m S) (D : LawAd n as hs pl pe) (I : SInv n B S) (hB : B ≤ 40) (hn : n ≤ 4) {rv sd : Nat} {ms : News} (LO : LetOk n S.ed (B : Int) S.ks rv sd ms) :
    ∃ m', RDeliver C [.lst (as.map .loc), .lst (hs.map .loc), .tup [.int (rv : Int), .int (sd : Int), dNews ms]] m (fun d x => d = .non ∧ x = m') ∧ LawMem C T1 T2 n as hs pl pe m' (S.deliver (rv, sd, ms)) := by
  obtain ⟨a, ha, hm⟩ := L.ks rv LO.hr
  obtain ⟨b, hb, hmb⟩ := L.hd rv LO.hr
  obtain ⟨DO, _, _, _⟩ := inv_deliver I hB hn LO
  have ne : a ≠ b := fun z => by
    rw [z, hmb] at hm
    cases hm
  rw [hdCell_eq] at hmb
  exact ⟨_, ⟨as, hs, sd, rv, a, b, S.ks rv, (List.range n).map (S.hd rv), ms, rfl, ha, hm, hb, hmb, ne, by rw [List.length_map, List.length_range]; exact LO.hs, DO.ok, DO.len, DO.fo, DO.ne, DO.kl, rfl, rfl⟩, L.deliver D LO.hr ha hb ms⟩
theorem rt_of (L : LawMem C T1 T2 n as hs pl pe m S) (D : LawAd n as hs pl pe) (I : SInv n B S) (hB : B ≤ 40) (hn : n ≤ 4) {i : Nat} (hi : i < n) (row : Int) :
    ∃ a e m', as[i]? = some a ∧ RTell C [.loc a, .int (i : Int), .int row] m (fun d x => d = dEdit e ∧ x = m') ∧ m' pe = some (.lst (S.ed.map dEdit)) ∧ LawMem C T1 T2 n as hs pl pe (m'.put pe (.lst (S.ed.map dEdit ++ [dEdit e]))) (S.tell i row) := by
  obtain ⟨a, ha, hm⟩ := L.ks i hi
  obtain ⟨l1, l2, l3⟩ := I.lens hB hi
  exact ⟨a, tellEdit (S.ks i) (i : Int) row, _, ha, ⟨a, S.ks i, (i : Int), row, rfl, hm, I.foldable hB hi, l1, by omega, rfl, rfl⟩, (L.know D hi ha _).ed, L.tell D hi ha row⟩
theorem rs_of (L : LawMem C T1 T2 n as hs pl pe m S) (D : LawAd n as hs pl pe) (I : SInv n B S) (hB : B ≤ 40) (hn : n ≤ 4) {sd rv : Nat} (hs' : sd < n) (hr : rv < n) (b : Bool) :
    RSay C [.lst (as.map .loc), .lst (hs.map .loc), .int (sd : Int), .int (rv : Int), .bl b] m (fun d x => d = dLetter (S.say sd rv b) ∧ x = m) := by
  obtain ⟨a, ha, hm⟩ := L.ks sd hs'
  obtain ⟨c, hc, hmc⟩ := L.hd sd hs'
  rw [hdCell_eq] at hmc
  obtain ⟨l1, l2, l3⟩ := I.lens hB hs'
  refine ⟨as, hs, sd, rv, b, a, c, S.ks sd, (List.range n).map (S.hd sd), S.hd sd rv, rfl, ha, hm, hc, hmc, ?_, by omega, by omega, rfl, rfl⟩
  rw [List.getElem?_map, List.getElem?_eq_getElem (by rw [List.length_range]; exact hr), List.getElem_range]; rfl
theorem known_sel (I : SInv n B S) {i : Nat} (k : Know) : Sel S.ed (fun e => e.id.1 ≤ clockIn k.knows e.id.2) (sortE (knownOf k S.ed)) := by
  refine ⟨sortE_asc (nd_map I.ed.nd _), fun e => ?_⟩
  rw [sortE_mem]
  unfold knownOf
  rw [List.mem_filter, decide_eq_true_eq]
theorem rf_of {S0 : Sys} {B0 : Nat} (L : LawMem C T1 T2 n as hs pl pe m S) (D : LawAd n as hs pl pe) (I : SInv n B S) (hB : B ≤ 40) (hn : n ≤ 4) (I0 : SInv n B0 S0) (mo : Mono n S0 S) :
    RFine C T1 [.lst (as.map .loc), .loc pe, .lst ((List.range n).map fun i => dClocks false ((S0.ks i).knows))] m (fun d x => d = .bl true ∧ x = m) := by
  refine ⟨n, as, S.ks, pe, S.ed, fun i => (S0.ks i).knows, rfl, hn, ⟨D.la, L.ks⟩, L.ed, Nat.le_trans I.len hB, L.t1, fun i hi => ?_, fun i j hi hj => ?_, rfl, rfl⟩
  · have sl := known_sel (i := i) I (S.ks i)
    exact ⟨I.foldable hB hi, eds_ok I.ed sl, known_lines I hi sl.asc sl.mem⟩
  · exact ⟨_, _, dev_get (I0.dev i hi).dev hj, dev_get (I.dev i hi).dev hj, mo i j hi hj⟩
theorem ev_to {X : Cx} {e : Expr} {r : Rho} {m m1 : Mem} {i j : Int} (h : EvD X e r m (.int i) m1) (q : i = j) : EvD X e r m (.int j) m1 := by
  rw [← q]; exact h
end
end FK
/-! Walk: the law. -/
namespace FK
open PySem PySem.Spec PyProof.Rows L2 DL
def RLaw (K : PySem.W.Frag) (T1 T2 : Addr) : Con' := fun ds m Q => ∃ ns, ds = [.seq K ns] ∧ m T1 = some (.tab (lamQ "_law_known")) ∧ m T2 = some (.tab (lamQ "law")) ∧ ∀ m', Q (.bl true) m'
abbrev lawN : List Str := ["_law_script", "_law_rows_here", "_law_many", "_law_devices", "_law_k", "_law_knows", "_law_heard", "_law_letters", "_law_edits_here", "_law_k_here", "_law_row", "_law_first", "_law_second", "_law_clocks", "_law_turn", "_law_lines", "_law_j", "_law_know"]
theorem sc_law : FnScope lawN ["_law_script"] (defScope (topS 48)) := ⟨rfl, rfl, rfl, by decide +kernel, rfl, by decide +kernel, by decide +kernel⟩
abbrev lawR (K : PySem.W.Frag) (ns : List Int) (n : Nat) (as hs : List Addr) (pl pe : Addr) (v4 v9 v10 v11 v12 v13 v14 v15 : Option Da) : Rho :=
  [some (.seq K ns), some (.lst ((lawRows ns 33).map .int)), some (.int (n : Int)), some (.lst ((devs n).map .int)), v4, some (.lst (as.map .loc)), some (.lst (hs.map .loc)), some (.loc pl), some (.loc pe), v9, v10, v11, v12, v13, v14, v15, none, none]
theorem locs_eq {as : List Addr} {n : Nat} (h : as.length = n) : as.map Da.loc = (List.range n).map fun (i : Nat) => Da.loc (as.getD i 0) := by
  apply List.ext_getElem?
  intro i
  by_cases hi : i < n
  · have e : as[i]? = some as[i] := List.getElem?_eq_getElem (by omega)
    rw [List.getElem?_map, List.getElem?_map, e, List.getElem?_eq_getElem (by rw [List.length_range]; exact hi), List.getElem_range]
    show some (Da.loc as[i]) = some (Da.loc (as.getD i 0))
    rw [List.getD_eq_getElem?_getD, e]; rfl
  · rw [List.getElem?_eq_none (by rw [List.length_map]; omega), List.getElem?_eq_none (by rw [List.length_map, List.length_range]; omega)]
theorem law_row (ns : List Int) {k : Nat} (h : k < 33) : ∃ x, ((lawRows ns 33).map Da.int)[(k : Int).toNat]? = some (.int x) := by
  have l : (lawRows ns 33).length = 33 := rows_len ns 33 0 1
  exact ⟨_, by rw [Int.toNat_natCast, List.getElem?_map, List.getElem?_eq_getElem (by omega)]; rfl⟩
section
variable {P : Program} {w : World} {K : PySem.W.Frag} {mg : Str → Option Value} {base : Heap} {C : Addr}
theorem law_ok {f c T1 T2 : Addr} {fd : FuncData} (F : FunD K "law" "law" (defArgs (topS 48)) (defBody (topS 48)) (defScope (topS 48)) [] [] f fd) (hcd : fd.code = .ref c) (TB : LamX.TabB base mg c T2) (KC : KCls K C) (MK : MkK K mg C)
    (G1 : Got P w K mg base "_law_rows" 1 2 (RRows K)) (G2 : Got P w K mg base "_law_tell" 9 3 (RTell C)) (G3 : Got P w K mg base "_law_say" 3 5 (RSay C)) (G4 : Got P w K mg base "_law_deliver" 10 3 (RDeliver C)) (G5 : Got P w K mg base "_law_fine" 9 3 (RFine C T1))
    (G6 : Got P w K mg base "lines_of" 8 1 RLinesOf) (G7 : GotM P w K mg base C "lines" 8 1 (RLines C)) (nInt : mg "int" = none) (nList : mg "list" = none) (nRange : mg "range" = none) (nLen : mg "len" = none) (nMin : mg "min" = none) (nSorted : mg "sorted" = none) (nAll : mg "all" = none) :
    FnOk P w K mg base CX0 11 f fd ["_law_script"] (spD 1 (RLaw K T1 T2)) := by
  refine fnC_ok F hcd sc_law rfl fun A outer s H E ds m Q hr h => ?_
  obtain ⟨ns, rfl, hT1, hT2, hQ⟩ := h
  have nd := sc_law.nd
  have hr1 : Room 1 _ := hr.mono (by decide)
  have hr2 : Room 2 _ := hr.mono (by decide)
  have hr3 : Room 3 _ := hr.mono (by decide)
  have hr4 : Room 4 _ := hr.mono (by decide)
  have hr8 : Room 8 _ := hr.mono (by decide)
  have hr9 : Room 9 _ := hr.mono (by decide)
  refine w_cons (s_set (i := 1) (ev_got G1 hr1 (ea_cons (ev_name 0) (ea_cons ev_int ea_nil)) rfl ⟨ns, 33, rfl, by decide, rfl, rfl⟩) ?_ nd)
  obtain ⟨x32, hx32⟩ := law_row ns (k := 32) (by decide)
  have b1 := Int.emod_nonneg x32 (show (3 : Int) ≠ 0 by decide)
  have b2 := Int.emod_lt_of_pos x32 (show (0 : Int) < 3 by decide)
  obtain ⟨n, hn⟩ : ∃ n : Nat, 2 + x32 % 3 = (n : Int) := ⟨(2 + x32 % 3).toNat, by omega⟩
  have n2 : 2 ≤ n := by omega
  have n4 : n ≤ 4 := by omega
  refine w_cons (s_set (i := 2) (d := .int (n : Int)) (ev_to (ev_bin ev_int (ev_bin (ev_callTy (ea_cons (ev_ix (ev_name 1) ev_int rfl (by decide) hx32) ea_nil) cd_int nInt (by decide +kernel)) ev_int (od_mod (by decide))) od_add) hn) ?_ nd)
  refine w_cons (s_set (i := 3) (ev_listRg (ev_name 2) (by omega) nList nRange) ?_ nd)
  refine w_cons (s_setLcN (i := 5) [("_law_k", 4)] (.nm 4) (.ins C (dKnow (know0 n))) nd (it_lst (ev_name 3)) (fun Y hY => ?_) (by unfold devs; simp; omega) (fun d _ => ⟨_, rfl, fun m' hm' Y hY => ?_⟩) fun as las nas fas => ?_)
  · obtain ⟨s', H', C', cl, fp, rfl⟩ := hY
    exact tg_nm nd
  · obtain ⟨s', H', C', cl, fp, rfl⟩ := hY
    exact evn_make MK KC nList hr2 (ev_name 3) (by omega)
  have las' : as.length = n := by rw [las]; unfold devs; simp
  refine w_cons (s_newlist (i := 6) nd fun ph hph => ?_)
  have hdsD : ∀ (j : Nat), j ∈ List.range n → j < n := fun j h => List.mem_range.1 h
  -- what was heard
  refine w_cons (s_for (t := .nm 4) (it_lst (ds := (List.range n).map fun (j : Nat) => Da.int (j : Int)) (by rw [← devs_da]; exact ev_name 3)) (tg_nm nd) ?_)
  refine for_ind (fun zs r m' => ∃ (pre : List Nat) (hs : List Addr) (v4 : Option Da), List.range n = pre ++ zs ∧ hs.length = pre.length ∧ hs.Nodup ∧ (∀ p ∈ hs, (m.puts as (.ins C (dKnow (know0 n)))) p = none) ∧ ph ∉ hs ∧
    r = [some (.seq K ns), some (.lst ((lawRows ns 33).map .int)), some (.int (n : Int)), some (.lst ((devs n).map .int)), v4, some (.lst (as.map .loc)), some (.loc ph), none, none, none, none, none, none, none, none, none, none, none] ∧
    m' = ((m.puts as (.ins C (dKnow (know0 n)))).puts hs (hdCell n (sys0 n) 0)).put ph (.lst (hs.map .loc))) ⟨[], [], none, rfl, rfl, List.nodup_nil, (fun _ z => by cases z), List.not_mem_nil, rfl, by rw [puts_nil]; rfl⟩ ?_ ?_
  rotate_left
  · rintro z zs _ _ ⟨pre, hs, v4, er, lh, nh, fh, phh, rfl, rfl⟩
    have lz := congrArg List.length er
    rw [List.length_range, List.length_append, List.length_cons] at lz
    refine ⟨trivial, _, rfl, w_one (s_appendN (ev_name 6) (evn_lc (xs := List.range n) [("_law_j", 16)] (.nm 16) (fun _ => dClocks false []) nd (it_lst (ds := (List.range n).map fun (j : Nat) => Da.int (j : Int)) (by rw [← devs_da]; exact ev_name 3)) (fun Y hY => ?_) (by rw [List.length_range]; omega) (fun d _ => ⟨_, rfl, fun m' hm' Y hY => ?_⟩)) Mem.put_same (by rw [List.length_map]; omega) fun p hp => ?_)⟩
    · obtain ⟨s', H', C', cl, fp, rfl⟩ := hY
      exact tg_nm nd
    · obtain ⟨s', H', C', cl, fp, rfl⟩ := hY
      exact ev_lst ea_nil
    · have pph : p ≠ ph := fun z => by rw [z, Mem.put_same] at hp; cases hp
      have phs : p ∉ hs := fun z => by rw [Mem.put_ne pph, puts_in z] at hp; cases hp
      have mp : (m.puts as (.ins C (dKnow (know0 n)))) p = none := by rw [Mem.put_ne pph, puts_out phs] at hp; exact hp
      refine ⟨pre ++ [z], hs ++ [p], _, by rw [er, List.append_assoc]; rfl, by rw [List.length_append, List.length_append, lh]; rfl, ?_, ?_, ?_, rfl, ?_⟩
      · exact List.nodup_append.2 ⟨nh, by simp, fun a ha b hb e => by rw [List.mem_singleton] at hb; rw [e, hb] at ha; exact phs ha⟩
      · intro q hq
        rcases List.mem_append.mp hq with w | w
        · exact fh q w
        · rw [List.mem_singleton] at w; rw [w]; exact mp
      · rw [List.mem_append, List.mem_singleton]
        rintro (w | w)
        · exact phh w
        · exact pph w.symm
      · rw [Mem.put_comm pph.symm, Mem.put_put]
        show (((m.puts as (.ins C (dKnow (know0 n)))).puts hs (hdCell n (sys0 n) 0)).put p (hdCell n (sys0 n) 0)).put ph _ = _
        rw [puts_snoc, List.map_append]; rfl
  rintro _ _ ⟨pre, hs, v4, er, lh, nh, fh, phh, rfl, rfl⟩
  rw [List.append_nil] at er
  have lhs : hs.length = n := by rw [lh, ← er, List.length_range]
  refine ⟨trivial, w_freeze 6 rfl Mem.put_same ?_⟩
  have nph : ((m.puts as (.ins C (dKnow (know0 n)))).puts hs (hdCell n (sys0 n) 0)) ph = none := by rw [puts_out phh]; exact hph
  rw [Mem.del_put nph]
  refine w_cons (s_newlist (i := 7) nd fun pl hpl => ?_)
  refine w_cons (s_newlist (i := 8) nd fun pe hpe => ?_)
  have ple : pl ≠ pe := fun z => by rw [z, Mem.put_same] at hpe; cases hpe
  have hpe' : ((m.puts as (.ins C (dKnow (know0 n)))).puts hs (hdCell n (sys0 n) 0)) pe = none := by rw [Mem.put_ne ple.symm] at hpe; exact hpe
  have plh : pl ∉ hs := fun z => by rw [puts_in z] at hpl; cases hpl
  have peh : pe ∉ hs := fun z => by rw [puts_in z] at hpe'; cases hpe'
  have pla : pl ∉ as := fun z => by rw [puts_out plh, puts_in z] at hpl; cases hpl
  have pea : pe ∉ as := fun z => by rw [puts_out peh, puts_in z] at hpe'; cases hpe'
  have AD : LawAd n as hs pl pe := ⟨las', lhs, nas, nh, plh, peh, ple⟩
  have ash : ∀ a ∈ as, a ∉ hs := fun a ha z => by
    have := fh a z
    rw [puts_in ha] at this; cases this
  have mlt : ∀ {b : Addr} {c : Cell}, m b = some c → b ≠ pl ∧ b ≠ pe ∧ b ∉ hs ∧ b ∉ as := fun {b c} hb => by
    have nb : b ∉ as := fun z => by rw [fas b z] at hb; cases hb
    have nb2 : b ∉ hs := fun z => by have := fh b z; rw [puts_out nb] at this; rw [this] at hb; cases hb
    refine ⟨fun z => ?_, fun z => ?_, nb2, nb⟩
    · rw [← z, puts_out nb2, puts_out nb] at hpl; rw [hpl] at hb; cases hb
    · rw [← z, puts_out nb2, puts_out nb] at hpe'; rw [hpe'] at hb; cases hb
  have L0 : LawMem C T1 T2 n as hs pl pe ((((m.puts as (.ins C (dKnow (know0 n)))).puts hs (hdCell n (sys0 n) 0)).put pl (.lst [])).put pe (.lst [])) (sys0 n) := by
    refine ⟨fun i hi => ?_, fun i hi => ?_, ?_, Mem.put_same, ?_, ?_⟩
    · have ia : as[i]? = some as[i] := List.getElem?_eq_getElem (by omega)
      have ma := List.mem_of_getElem? ia
      have q1 : as[i] ≠ pe := fun z => pea (by rw [← z]; exact ma)
      have q2 : as[i] ≠ pl := fun z => pla (by rw [← z]; exact ma)
      refine ⟨_, ia, ?_⟩
      rw [Mem.put_ne q1, Mem.put_ne q2, puts_out (ash _ ma), puts_in ma]; rfl
    · have ia : hs[i]? = some hs[i] := List.getElem?_eq_getElem (by omega)
      have ma := List.mem_of_getElem? ia
      have q1 : hs[i] ≠ pe := fun z => peh (by rw [← z]; exact ma)
      have q2 : hs[i] ≠ pl := fun z => plh (by rw [← z]; exact ma)
      refine ⟨_, ia, ?_⟩
      rw [Mem.put_ne q1, Mem.put_ne q2, puts_in ma]; rfl
    · rw [Mem.put_ne ple, Mem.put_same]; rfl
    · obtain ⟨z1, z2, z3, z4⟩ := mlt hT1
      rw [Mem.put_ne z2, Mem.put_ne z1, puts_out z3, puts_out z4]; exact hT1
    · obtain ⟨z1, z2, z3, z4⟩ := mlt hT2
      rw [Mem.put_ne z2, Mem.put_ne z1, puts_out z3, puts_out z4]; exact hT2
  have I0 := inv0 n
  generalize ((((m.puts as (.ins C (dKnow (know0 n)))).puts hs (hdCell n (sys0 n) 0)).put pl (.lst [])).put pe (.lst [])) = m0 at L0
  refine w_cons (s_for (t := .nm 9) (it_rangeN 32 ev_int rfl (by decide) nRange) (tg_nm nd) ?_)
  refine for_rng (fun k r m' => ∃ (S : Sys) (v9 v10 v11 v12 v13 : Option Da), r = lawR K ns n as hs pl pe v4 v9 v10 v11 v12 v13 none none ∧ LawMem C T1 T2 n as hs pl pe m' S ∧ SInv n k S ∧ S.lt.length ≤ k) ⟨sys0 n, none, none, none, none, none, rfl, L0, I0, Nat.le_refl _⟩ ?_ ?_
  rotate_left
  · rintro k _ m1 hk ⟨S, v9, v10, v11, v12, v13, rfl, L, I, lk⟩
    have z0 : (0 : Int) + (k : Int) = (k : Int) := Int.zero_add _
    rw [z0]
    obtain ⟨x, hx⟩ := law_row ns (k := k) (by omega)
    refine ⟨trivial, _, rfl, w_cons (s_set (i := 10) (ev_callTy (ea_cons (ev_bin (ev_ix (ev_name 1) (ev_name 9) rfl (by omega) hx) ev_int (od_fdiv (by decide))) ea_nil) cd_int nInt (by decide +kernel)) ?_ nd)⟩
    generalize x / 6 = row
    have np : (0 : Int) < (n : Int) := by omega
    have c1 := Int.emod_nonneg row (show (n : Int) ≠ 0 by omega)
    have c2 := Int.emod_lt_of_pos row np
    obtain ⟨f1, hf1⟩ : ∃ f1 : Nat, row % (n : Int) = (f1 : Int) := ⟨(row % (n : Int)).toNat, by omega⟩
    have f1n : f1 < n := by omega
    refine w_cons (s_set (i := 11) (d := .int (f1 : Int)) (ev_to (ev_bin (ev_callTy (ea_cons (ev_name 10) ea_nil) cd_int nInt (by decide +kernel)) (ev_name 2) (od_mod np)) hf1) ?_ nd)
    have d1 := Int.emod_nonneg ((f1 : Int) + 1 + row / (n : Int) % ((n : Int) - 1)) (show (n : Int) ≠ 0 by omega)
    have d2 := Int.emod_lt_of_pos ((f1 : Int) + 1 + row / (n : Int) % ((n : Int) - 1)) np
    obtain ⟨f2, hf2⟩ : ∃ f2 : Nat, ((f1 : Int) + 1 + row / (n : Int) % ((n : Int) - 1)) % (n : Int) = (f2 : Int) := ⟨(((f1 : Int) + 1 + row / (n : Int) % ((n : Int) - 1)) % (n : Int)).toNat, by omega⟩
    have f2n : f2 < n := by omega
    refine w_cons (s_set (i := 12) (d := .int (f2 : Int)) (ev_to (ev_bin (ev_callTy (ea_cons (ev_bin (ev_bin (ev_name 11) ev_int od_add) (ev_bin (ev_callTy (ea_cons (ev_bin (ev_name 10) (ev_name 2) (od_fdiv ⟨np, by omega⟩)) ea_nil) cd_int nInt (by decide +kernel)) (ev_bin (ev_name 2) ev_int od_sub) (od_mod (by omega))) od_add) ea_nil) cd_int nInt (by decide +kernel)) (ev_name 2) (od_mod np)) hf2) ?_ nd)
    refine w_cons (s_setLcM (i := 13) (enc := fun (i : Nat) => Da.loc (as.getD i 0)) (xs := List.range n) [("_law_know", 17)] (.nm 17) (fun i => dClocks false (S.ks i).knows) nd (it_lst (ds := (List.range n).map fun (i : Nat) => Da.loc (as.getD i 0)) (by rw [← locs_eq las']; exact ev_name 5)) (fun Y hY => ?_) (by rw [List.length_range]; omega) (fun i hi => ⟨_, rfl, fun m' hm' Y hY => ?_⟩) ?_)
    · obtain ⟨s', H', C', cl, fp, rfl⟩ := hY
      exact tg_nm nd
    · obtain ⟨a, ia, hma⟩ := L.ks i (List.mem_range.1 hi)
      have ea : as.getD i 0 = a := by rw [List.getD_eq_getElem?_getD, ia]; rfl
      obtain ⟨s', H', C', cl, fp, rfl⟩ := hY
      exact ev_callTy (ea_cons (ev_fld (ev_name 17) (hm' _ _ (by rw [ea]; exact hma)) (fl_knows _) KC.cl KC.nK) ea_nil) (cd_list rfl) nList (by decide +kernel)
    have kb : k ≤ 40 := by omega
    have ll : S.lt.length < 1000 := by omega
    have itl : itemsOf m1 (.loc pl) = some (S.lt.map dLetter) := by simp only [itemsOf, L.lt]
    refine w_cons (s_ifj (b := decide (x % 6 ≤ 1)) (m1 := m1) (I := fun r' m' => ∃ S' : Sys, r' = lawR K ns n as hs pl pe v4 (some (.int (k : Int))) (some (.int row)) (some (.int (f1 : Int))) (some (.int (f2 : Int))) (some (.lst ((List.range n).map fun i => dClocks false (S.ks i).knows))) none none ∧ LawMem C T1 T2 n as hs pl pe m' S' ∧ SInv n (k + 1) S' ∧ Mono n S S' ∧ S'.lt.length ≤ k + 1)
      (et_cmp (ev_bin (ev_callTy (ea_cons (ev_ix (ev_name 1) (ev_name 9) rfl (by omega) hx) ea_nil) cd_int nInt (by decide +kernel)) ev_int (od_mod (by decide))) ev_int od_le) (fun e => ?_) (fun e => ?_) ?_)
    · obtain ⟨a, ed, m2, ia, hR, hpe2, L2⟩ := rt_of L AD I kb n4 f1n (row / 50)
      have le := I.len
      obtain ⟨i1, i2⟩ := inv_tell I f1n (row / 50)
      exact w_one (s_append (ev_name 8) (ev_got G2 hr9 (ea_cons (ev_ix (ev_name 5) (ev_name 11) rfl (by omega) (ix_loc ia)) (ea_cons (ev_name 11) (ea_cons (ev_bin (ev_name 10) ev_int (od_fdiv (by decide))) ea_nil))) rfl hR) ⟨_, L.ed⟩ hpe2 (by rw [List.length_map]; omega) ⟨_, rfl, L2, i1, i2, Nat.le_succ_of_le lk⟩)
    · refine w_one (s_if (b := decide (x % 6 ≤ 3)) (m1 := m1) (et_cmp (ev_bin (ev_callTy (ea_cons (ev_ix (ev_name 1) (ev_name 9) rfl (by omega) hx) ea_nil) cd_int nInt (by decide +kernel)) ev_int (od_mod (by decide))) ev_int od_le) (fun e => ?_) (fun e => ?_))
      · have hR := rs_of L AD I kb n4 f1n f2n (decide (row / 40 % 4 = 0))
        exact w_one (s_append (ev_name 7) (ev_got G3 hr3 (ea_cons (ev_name 5) (ea_cons (ev_name 6) (ea_cons (ev_name 11) (ea_cons (ev_name 12) (ea_cons (ev_cmp (ev_bin (ev_callTy (ea_cons (ev_bin (ev_name 10) ev_int (od_fdiv (by decide))) ea_nil) cd_int nInt (by decide +kernel)) ev_int (od_mod (by decide))) ev_int od_eqI) ea_nil))))) rfl hR) ⟨_, L.lt⟩ L.lt (by rw [List.length_map]; exact ll)
          ⟨_, rfl, L.say AD _, (inv_say I f1n f2n _).up (Nat.le_succ _), Mono.rfl' _, by rw [List.length_append]; exact Nat.succ_le_succ lk⟩)
      · refine w_one (s_if (b := decide ((0 : Int) < ((S.lt.map dLetter).length : Int))) (m1 := m1) (et_cmp (ev_callB (ea_cons (ev_name 7) ea_nil) (cd_len itl) nLen PySem.boot_len) ev_int od_gt) (fun e => ?_) (fun e => w_nil ⟨S, rfl, L, I.up (Nat.le_succ _), Mono.rfl' _, Nat.le_succ_of_le lk⟩))
        have e' : (0 : Int) < ((S.lt.map dLetter).length : Int) := of_decide_eq_true e
        generalize hM : (if ((S.lt.map dLetter).length : Int) < 12 then ((S.lt.map dLetter).length : Int) else 12) = M
        have M1 : 0 < M := by rw [← hM]; split <;> omega
        have M2 : M ≤ ((S.lt.map dLetter).length : Int) := by rw [← hM]; split <;> omega
        have e1 := Int.emod_nonneg (row / 40) (show M ≠ 0 by omega)
        have e2 := Int.emod_lt_of_pos (row / 40) M1
        have hlt : (((S.lt.map dLetter).length : Int) - 1 - row / 40 % M).toNat < S.lt.length := by rw [List.length_map] at e' M2 ⊢; omega
        obtain ⟨l, hl⟩ : ∃ l, S.lt[(((S.lt.map dLetter).length : Int) - 1 - row / 40 % M).toNat]? = some l := ⟨_, List.getElem?_eq_getElem hlt⟩
        have hl2 : (S.lt.map dLetter)[(((S.lt.map dLetter).length : Int) - 1 - row / 40 % M).toNat]? = some (dLetter l) := by rw [List.getElem?_map, hl]; rfl
        obtain ⟨rv, sd, ms⟩ := l
        have LO := I.let_ _ (List.mem_of_getElem? hl)
        obtain ⟨m2, hR, L2⟩ := rd_of L AD I kb n4 LO
        obtain ⟨_, i1, i2, _⟩ := inv_deliver I kb n4 LO
        exact w_one (s_expr (ev_got G4 hr (ea_cons (ev_name 5) (ea_cons (ev_name 6) (ea_cons (ev_ix (ev_name 7) (ev_bin (ev_bin (ev_callB (ea_cons (ev_name 7) ea_nil) (cd_len itl) nLen PySem.boot_len) ev_int od_sub) (ev_bin (ev_callTy (ea_cons (ev_bin (ev_name 10) ev_int (od_fdiv (by decide))) ea_nil) cd_int nInt (by decide +kernel)) (ev_to (ev_callB (ea_cons ev_int (ea_cons (ev_callB (ea_cons (ev_name 7) ea_nil) (cd_len itl) nLen PySem.boot_len) ea_nil)) (cd_min2 rfl) nMin (by decide +kernel)) hM) (od_mod M1)) od_sub) itl (by omega) hl2) ea_nil))) rfl hR) ⟨_, rfl, L2, i1.up (Nat.le_succ _), i2, Nat.le_succ_of_le lk⟩)
    · rintro _ m2 ⟨S', rfl, L', I', mo, lk'⟩
      exact w_one (s_if (b := false) (et_not (k := true) (et_val (ev_got G5 hr9 (ea_cons (ev_name 5) (ea_cons (ev_name 8) (ea_cons (ev_name 13) ea_nil))) rfl (rf_of L' AD I' (by omega) n4 I mo)))) (fun z => by cases z) fun _ => w_nil ⟨S', _, _, _, _, _, rfl, L', I', lk'⟩)
  rintro _ m2 ⟨S, v9, v10, v11, v12, v13, rfl, L, I, _⟩
  have kb : 32 ≤ 40 := by decide
  refine ⟨trivial, w_cons (s_for (t := .nm 14) (it_rangeN 3 ev_int rfl (by decide) nRange) (tg_nm nd) ?_)⟩
  refine for_rng (fun t r m' => ∃ (S : Sys) (v11 v12 v14 : Option Da), r = lawR K ns n as hs pl pe v4 v9 v10 v11 v12 v13 v14 none ∧ LawMem C T1 T2 n as hs pl pe m' S ∧ SInv n 32 S ∧ (1 ≤ t → ∀ i j, i < n → j < n → Kn S i j)) ⟨S, v11, v12, none, rfl, L, I, fun h => absurd h (by decide)⟩ ?_ ?_
  rotate_left
  · rintro t _ m3 ht ⟨S, v11, v12, v14, rfl, L, I, hk⟩
    refine ⟨trivial, _, rfl, w_one (s_for (t := .nm 11) (it_lst (ds := (List.range n).map fun (j : Nat) => Da.int (j : Int)) (by rw [← devs_da]; exact ev_name 3)) (tg_nm nd) ?_)⟩
    refine for_ind (fun zs r m' => ∃ (S : Sys) (pre : List Nat) (v11 v12 : Option Da), List.range n = pre ++ zs ∧ r = lawR K ns n as hs pl pe v4 v9 v10 v11 v12 v13 (some (.int (0 + (t : Int)))) none ∧ LawMem C T1 T2 n as hs pl pe m' S ∧ SInv n 32 S ∧ ∀ i, i ∈ pre → ∀ j, j < n → Kn S i j) ⟨S, [], v11, v12, rfl, rfl, L, I, fun _ z => by cases z⟩ ?_ ?_
    · rintro _ _ ⟨S, pre, v11, v12, er, rfl, L, I, hp⟩
      rw [List.append_nil] at er
      exact ⟨trivial, S, v11, v12, _, rfl, L, I, fun _ i j hi hj => hp i (by rw [← er]; exact List.mem_range.2 hi) j hj⟩
    · rintro i zs _ m4 ⟨S, pre, v11, v12, er, rfl, L, I, hp⟩
      have hi : i < n := List.mem_range.1 (by rw [er]; exact List.mem_append_right _ List.mem_cons_self)
      refine ⟨trivial, _, rfl, w_one (s_for (t := .nm 12) (it_lst (ds := (List.range n).map fun (j : Nat) => Da.int (j : Int)) (by rw [← devs_da]; exact ev_name 3)) (tg_nm nd) ?_)⟩
      refine for_ind (fun zs2 r m' => ∃ (S : Sys) (pre2 : List Nat) (v12 : Option Da), List.range n = pre2 ++ zs2 ∧ r = lawR K ns n as hs pl pe v4 v9 v10 (some (.int (i : Int))) v12 v13 (some (.int (0 + (t : Int)))) none ∧ LawMem C T1 T2 n as hs pl pe m' S ∧ SInv n 32 S ∧ (∀ a, a ∈ pre → ∀ j, j < n → Kn S a j) ∧ ∀ j, j ∈ pre2 → Kn S i j) ⟨S, [], v12, rfl, rfl, L, I, hp, fun _ z => by cases z⟩ ?_ ?_
      · rintro _ _ ⟨S, pre2, v12, er2, rfl, L, I, hp, hp2⟩
        rw [List.append_nil] at er2
        refine ⟨trivial, S, pre ++ [i], _, _, by rw [er, List.append_assoc]; rfl, rfl, L, I, fun a ha j hj => ?_⟩
        rcases List.mem_append.mp ha with w | w
        · exact hp a w j hj
        · rw [List.mem_singleton] at w
          rw [w]
          exact hp2 j (by rw [← er2]; exact List.mem_range.2 hj)
      · rintro j zs2 _ m5 ⟨S, pre2, v12, er2, rfl, L, I, hp, hp2⟩
        have hj : j < n := List.mem_range.1 (by rw [er2]; exact List.mem_append_right _ List.mem_cons_self)
        have er3 : List.range n = (pre2 ++ [j]) ++ zs2 := by rw [er2, List.append_assoc]; rfl
        refine ⟨trivial, _, rfl, w_one (s_if (et_cmp (ev_name 11) (ev_name 12) od_neI) (fun e => ?_) (fun e => w_nil ?_))⟩
        · have LO := say_ok I hi hj false
          obtain ⟨m6, hR, L2⟩ := rd_of L AD I kb n4 LO
          obtain ⟨_, i1, i2, _⟩ := inv_deliver I kb n4 LO
          have hk2 : Kn (S.deliver (S.say i j false)) i j := kn_deliver I kb n4 hi hj false
          have hS := rs_of L AD I kb n4 hi hj false
          refine w_one (s_expr (ev_got G4 hr (ea_cons (ev_name 5) (ea_cons (ev_name 6) (ea_cons (ev_got G3 hr3 (ea_cons (ev_name 5) (ea_cons (ev_name 6) (ea_cons (ev_name 11) (ea_cons (ev_name 12) (ea_cons ev_bl ea_nil))))) rfl hS) ea_nil))) rfl hR) ⟨S.deliver (S.say i j false), pre2 ++ [j], _, er3, rfl, L2, i1, fun a ha x hx => ?_, fun x hx => ?_⟩)
          · have an : a < n := List.mem_range.1 (by rw [er]; exact List.mem_append_left _ ha)
            exact (hp a ha x hx).mono i2 rfl an hx
          · rcases List.mem_append.mp hx with w | w
            · have xn : x < n := List.mem_range.1 (by rw [er2]; exact List.mem_append_left _ w)
              exact (hp2 x w).mono i2 rfl hi xn
            · rw [List.mem_singleton] at w
              rw [w]; exact hk2
        · have eij : (i : Int) = (j : Int) := by
            rw [Bool.not_eq_false'] at e
            exact of_decide_eq_true e
          have eij' : i = j := by omega
          refine ⟨S, pre2 ++ [j], _, er3, rfl, L, I, hp, fun x hx => ?_⟩
          rcases List.mem_append.mp hx with w | w
          · exact hp2 x w
          · rw [List.mem_singleton] at w
            rw [w, ← eij']; exact kn_self I hi
  rintro _ m3 ⟨S, v11, v12, v14, rfl, L, I, hk⟩
  have hk' := hk (by decide)
  have sm : ∀ e, e ∈ sortE S.ed ↔ e ∈ S.ed := fun e => sortE_mem
  have sa := sortE_asc I.ed.nd
  have le := I.len
  have sl : (sortE S.ed).length = S.ed.length := (List.mergeSort_perm _ _).length_eq
  have eo : EdsOk [] (sortE S.ed) := eds_ok (P := fun _ => True) I.ed ⟨sa, fun e => (sm e).trans ⟨fun z => ⟨z, trivial⟩, fun z => z.1⟩⟩
  have hu : (A.deeper (envOfC "law" (defScope (topS 48)) s.heap.objs.size f (.ref c))).units + 64 < cLine := by have := hr.un; omega
  refine ⟨trivial, w_cons (s_set (i := 15) (ev_got G6 hr8 (ea_cons (ev_sorted (ev_name 8) (.inr ⟨pe, rfl, L.ed⟩) L.t2 TB rfl rfl nSorted hr4 (by omega)) ea_nil) rfl ⟨sortE S.ed, rfl, eo, by omega, rfl, rfl⟩) ?_ nd)⟩
  refine w_one (s_ret (ev_callB (ea_cons (ev_lcM (enc := fun (i : Nat) => Da.loc (as.getD i 0)) (xs := List.range n) [("_law_know", 17)] (.nm 17) (fun _ => Da.bl true) nd (it_lst (ds := (List.range n).map fun (i : Nat) => Da.loc (as.getD i 0)) (by rw [← locs_eq las']; exact ev_name 5)) (fun Y hY => ?_) (by rw [List.length_range]; omega) fun i hi => ⟨_, rfl, fun m' hm' Y hY => ?_⟩) ea_nil) (cd_allT (f := fun _ => true) rfl fun _ _ => rfl) nAll (by decide +kernel)) (hQ _))
  · obtain ⟨s', H', C', cl, fp, rfl⟩ := hY
    exact tg_nm nd
  · have hi' := List.mem_range.1 hi
    obtain ⟨a, ia, hma⟩ := L.ks i hi'
    have ea : as.getD i 0 = a := by rw [List.getD_eq_getElem?_getD, ia]; rfl
    have hma' : m' (as.getD i 0) = some (.ins C (dKnow (S.ks i))) := hm' _ _ (by rw [ea]; exact hma)
    obtain ⟨s', H', C', cl, fp, rfl⟩ := hY
    exact ev_cmp (ev_gotm0 G7 hr8 KC.cl (ev_name 17) hma' (no_lines _) rfl ⟨_, S.ks i, rfl, hma', I.foldable kb hi', rfl, rfl⟩) (ev_name 15) (od_to (od_eqD hu (shp_lines _) (shp_lines _)) (by rw [full_lines I hk' sa sm hi', eqv_lines]))
end
end FK
/-! The head: facts by names, the run. -/
namespace FKH
open PySem PySem.Spec PyProof.Rows L2 FK
def dF (x : Str) (i : Nat) : He.DefD := ⟨(x, none), x, x, defArgs (topS i), defBody (topS i), defScope (topS i), [], []⟩
def dM (y q : Str) (j : Nat) : He.DefD := ⟨("Knowledge", some y), y, q, defArgs (sKnow j), defBody (sKnow j), defScope (sKnow j), [], []⟩
/-- a keyword-only default of Knowledge, if it is an object -/
def kwAt (x : Str) (K : PySem.W.Frag) : Addr := match K.lookup (He.fAd K ("Knowledge", some "__init__")) with
  | some ⟨_, _, .func fd, _⟩ => (match fd.kwdefaults with
    | .ref D => (match PySem.W.nsIn K D x with
      | some (some (.ref a)) => a
      | _ => 0)
    | _ => 0)
  | _ => 0
def dInit : He.DefD := ⟨("Knowledge", some "__init__"), "__init__", "Knowledge.__init__", defArgs (sKnow 0), defBody (sKnow 0), defScope (sKnow 0), [], [("clock", .int 0), ("base", .adr (kwAt "base")), ("upto", .int 0), ("rest", .adr (kwAt "rest")), ("knows", .non)]⟩
def emptyT (K : PySem.W.Frag) (a : Addr) : Bool := match K.lookup a with
  | some ⟨.type c, _, .seq its _, _⟩ => decide (c = "tuple") && its.isEmpty
  | _ => false
abbrev tf : List He.Defn := [("_law_known", none), ("law", none)]
def ex (K : PySem.W.Frag) : Bool := emptyT K (kwAt "base" K) && (emptyT K (kwAt "rest" K) && !decide ((He.cT K ("_law_known", none)).2 = (He.cT K ("law", none)).2))
def fn0 : List He.DefD := [dF "find_line" 2, dF "find_head" 3, dF "find_folder" 4, dF "settle" 5, dF "stands_in" 6, dF "end_line" 7, dF "end_heads" 8, dF "new_line" 9, dF "continued" 10, dF "write_lines" 11, dF "move_line" 12, dF "lines_after" 13, dF "fold_lines" 14, dF "lines_of" 15, dF "clock_in" 18, dF "with_clock" 19, dF "ascending" 22, dF "is_rooted" 23, dF "lines_sound" 24, dF "place_sound" 25]
def fn1 : List He.DefD := [dF "edit_sound" 26, dF "edits_sound" 27, dF "news_sound" 28, dF "can_hear" 29, dF "joined_edits" 30, dF "hear_news" 31, dF "news_for" 32, dF "forget_up_to" 33, dF "forget" 34, dF "_law_rows" 36, dF "_law_path" 37, dF "_law_pick" 38, dF "_law_place" 39, dF "_law_heads" 40, dF "_law_edit" 41, dF "_law_tell" 43, dF "_law_say" 46, dF "_law_deliver" 47, dF "_law_known" 44, dF "_law_fine" 45]
def fn2 : List He.DefD := [dF "law" 48, dM "lines" "Knowledge.lines" 1, dM "known_up_to" "Knowledge.known_up_to" 3, dM "next_id" "Knowledge.next_id" 4, dM "make" "Knowledge.make" 5, dM "write" "Knowledge.write" 6, dM "drop" "Knowledge.drop" 7, dM "move" "Knowledge.move" 8, dInit]
def fn : List He.DefD := fn0 ++ (fn1 ++ (fn2))
def fa0 : List He.Fa := [.glo "find_line", .glo "find_head", .glo "find_folder", .glo "settle", .glo "stands_in", .glo "end_line", .glo "end_heads", .glo "new_line", .glo "continued", .glo "write_lines", .glo "move_line", .glo "lines_after", .glo "fold_lines", .glo "lines_of", .glo "clock_in", .glo "with_clock", .glo "ascending", .glo "is_rooted", .glo "lines_sound", .glo "place_sound"]
def fa1 : List He.Fa := [.glo "edit_sound", .glo "edits_sound", .glo "news_sound", .glo "can_hear", .glo "joined_edits", .glo "hear_news", .glo "news_for", .glo "forget_up_to", .glo "forget", .glo "_law_rows", .glo "_law_path", .glo "_law_pick", .glo "_law_place", .glo "_law_heads", .glo "_law_edit", .glo "_law_tell", .glo "_law_say", .glo "_law_deliver", .glo "_law_known", .glo "_law_fine"]
def fa2 : List He.Fa := [.glo "law", .glo "Knowledge", .free "range", .free "len", .free "list", .free "tuple", .free "int", .free "min", .free "max", .free "set", .free "all", .free "sorted", .int "MOST_CLOCK" 4294967295, .cls "Knowledge", .noat "Knowledge" "clock", .noat "Knowledge" "base", .noat "Knowledge" "upto", .noat "Knowledge" "rest", .noat "Knowledge" "knows", .meth "Knowledge" "lines"]
def fa3 : List He.Fa := [.meth "Knowledge" "known_up_to", .meth "Knowledge" "next_id", .meth "Knowledge" "make", .meth "Knowledge" "write", .meth "Knowledge" "drop", .meth "Knowledge" "move", .mkr "Knowledge"]
def fa : List He.Fa := fa0 ++ (fa1 ++ (fa2 ++ (fa3)))
def loose0 : List Str := ["_wall", "find_line", "find_head", "find_folder", "settle", "stands_in", "end_line", "end_heads", "new_line", "continued", "write_lines", "move_line", "lines_after", "fold_lines", "lines_of", "Knowledge", "clock_in", "with_clock", "MOST_CLOCK", "ascending"]
def loose1 : List Str := ["is_rooted", "lines_sound", "place_sound", "edit_sound", "edits_sound", "news_sound", "can_hear", "joined_edits", "hear_news", "news_for", "forget_up_to", "forget", "_law_rows", "_law_path", "_law_pick", "_law_place", "_law_heads", "_law_edit", "_law_edits", "_law_tell"]
def loose2 : List Str := ["_law_known", "_law_fine", "_law_say", "_law_deliver"]
def loose : List Str := loose0 ++ (loose1 ++ (loose2))
abbrev R : PySem.W.OpenRow := PySem.W.OpenLaw.row PySem.Challenge.rw_foldkeep_k19_whole_devices_come_to_know
abbrev hk : PySem.W.Hook := He.hookX 6 fa fn [] tf ex
def ob (s : PySem.W.SharedT) : He.AlX := He.obsX 6 fa fn [] tf ex (HandSHeadRun.getT s)
theorem ob_eq (s : PySem.W.SharedT) : ob s = hk.obs s.abs := He.obsX_eq (HandSHeadRun.getT_eq s)
theorem run (w : World) : HandSHeadRun.RunEq R (PySem.W.view R.prog [48]) hk ob 3000 loose w := by
  intro os
  kernel_rfl
end FKH
/-! The end. -/
namespace FKH
open PySem PySem.Spec PyProof.Rows L2 DL FK
theorem emptyT_ok {K : PySem.W.Frag} {a : Addr} (h : emptyT K a = true) (H : Hp) : SqT K H a [] := by
  unfold emptyT at h
  cases q : K.lookup a with
  | none => rw [q] at h; cases h
  | some o =>
    obtain ⟨oc, od, dt, osl⟩ := o
    rw [q] at h
    cases oc with
    | type c =>
      cases dt with
      | seq its n =>
        obtain ⟨h1, h2⟩ := He.ba (show (decide (c = "tuple") && its.isEmpty) = true from h)
        obtain rfl : its = #[] := Array.isEmpty_iff.mp h2
        exact .inr ⟨_, #[], n, q, congrArg Value.type (of_decide_eq_true h1), rfl, Nat.zero_le _, .nil⟩
      | _ => cases h
    | _ => cases dt <;> cases h
section
variable {w : World} {K : PySem.W.Frag} {h : Heap} {mg : Str → Option Value}
/-- the base's facts -/
structure Base (w : World) (h : Heap) (mg : Str → Option Value) (K : PySem.W.Frag) : Prop where
  X : K.In h
  G : h.Ns mainGlobals mg
  c : He.SaysX fa fn [] tf ex w h K
theorem Base.fact (B : Base w h mg K) {f : He.Fa} (i : Nat) (e : fa[i]? = some f) : f.ok K = true := B.c.t.d.fact i e
theorem Base.free (B : Base w h mg K) {x : Str} (i : Nat) (e : fa[i]? = some (.free x)) : mg x = none := He.free_ok B.X B.G (B.fact i e)
theorem Base.glo (B : Base w h mg K) {x : Str} (i : Nat) (e : fa[i]? = some (.glo x)) : mg x = some (.ref (He.ga K x)) := He.glo_ok B.X B.G (B.fact i e)
abbrev kC (K : PySem.W.Frag) : Addr := He.ga K "Knowledge"
theorem Base.dfn (B : Base w h mg K) {x : Str} {i : Nat} (a b : Nat) (hd : fn[a]? = some (dF x i)) (hf : fa[b]? = some (.glo x)) {ps : List Str}
    (hb : ∀ (kV doc pm : Value) (an : Option Addr) (cdv ct : Value) (us : List Value), us.length = ps.length → bindArgs (PySem.W.fnOf x x (defArgs (topS i)) (defBody (topS i)) (defScope (topS i)) .none kV doc pm an cdv ct) ⟨us, []⟩ = pure (ps.zip us)) : Dfn K mg x (topS i) ps := by
  obtain ⟨fd, F⟩ := B.c.t.d.def_ a hd
  have F' : FunD K x x (defArgs (topS i)) (defBody (topS i)) (defScope (topS i)) [] [] (He.ga K x) fd := F
  exact ⟨_, fd, F', B.glo b hf, F'.bindsN hb⟩
theorem Base.mfn (B : Base w h mg K) {y q : Str} {j : Nat} (a b : Nat) (hd : fn[a]? = some (dM y q j)) (hf : fa[b]? = some (.meth "Knowledge" y)) {ps : List Str}
    (hb : ∀ (kV doc pm : Value) (an : Option Addr) (cdv ct : Value) (us : List Value), us.length = ps.length → bindArgs (PySem.W.fnOf y q (defArgs (sKnow j)) (defBody (sKnow j)) (defScope (sKnow j)) .none kV doc pm an cdv ct) ⟨us, []⟩ = pure (ps.zip us)) : Mfn K (kC K) y q (sKnow j) ps := by
  obtain ⟨fd, F⟩ := B.c.t.d.def_ a hd
  have F' : FunD K y q (defArgs (sKnow j)) (defBody (sKnow j)) (defScope (sKnow j)) [] [] (He.ma K (He.ga K "Knowledge") y) fd := F
  exact ⟨_, fd, F', He.meth_ok (B.fact b hf), F'.bindsN hb⟩
theorem Base.code (B : Base w h mg K) {x : Str} {i : Nat} {f : Addr} {fd : FuncData} (F : FunD K x x (defArgs (topS i)) (defBody (topS i)) (defScope (topS i)) [] [] f fd) (hf : f = He.ga K x) : fd.code = .ref (He.cT K (x, none)).1 := by
  obtain ⟨_, _, _, _, _, _, _, code, _, _, rfl, there, named, _, _⟩ := F.ex
  obtain ⟨c, e⟩ := He.codeIn_ref named
  subst e
  subst hf
  exact congrArg Value.ref (He.codeOf_eq (p := (x, none)) there rfl).symm
theorem Base.dfnC (B : Base w h mg K) {x : Str} {i : Nat} {ps : List Str} (D : Dfn K mg x (topS i) ps) (b : Nat) (hf : fa[b]? = some (.glo x)) : DfnC K mg x (topS i) ps (He.cT K (x, none)).1 := by
  obtain ⟨f, fd, F, hm, hb⟩ := D.ex
  have e := hm.symm.trans (B.glo b hf)
  have e' : f = He.ga K x := by
    injection e with e1
    injection e1
  exact ⟨f, fd, F, hm, hb, B.code F e'⟩
theorem Base.kcls (B : Base w h mg K) : KCls K (kC K) := ⟨He.cls_ok (B.fact 53 (f := .cls "Knowledge") rfl), He.noat_ok (B.fact 54 (f := .noat "Knowledge" "clock") rfl), He.noat_ok (B.fact 55 (f := .noat "Knowledge" "base") rfl), He.noat_ok (B.fact 56 (f := .noat "Knowledge" "upto") rfl), He.noat_ok (B.fact 57 (f := .noat "Knowledge" "rest") rfl), He.noat_ok (B.fact 58 (f := .noat "Knowledge" "knows") rfl)⟩
theorem Base.mkk (B : Base w h mg K) : MkK K mg (kC K) := by
  obtain ⟨fd, F⟩ := B.c.t.d.def_ 48 (d := dInit) rfl
  obtain ⟨e1, e2⟩ := He.ba B.c.more
  obtain ⟨e3, _⟩ := He.ba e2
  exact ⟨⟨_, fd, kwAt "base" K, kwAt "rest" K, F, He.mkr_ok (B.fact 66 (f := .mkr "Knowledge") rfl), emptyT_ok e1, emptyT_ok e3⟩, B.glo 41 rfl⟩
theorem f_find_line (B : Base w h mg K) : Dfn K mg "find_line" (topS 2) ["lines", "line_id"] := B.dfn 0 0 rfl rfl fun _ _ _ _ _ _ us hl => match us, hl with | [_, _], _ => rfl
theorem f_find_head (B : Base w h mg K) : Dfn K mg "find_head" (topS 3) ["lines", "head"] := B.dfn 1 1 rfl rfl fun _ _ _ _ _ _ us hl => match us, hl with | [_, _], _ => rfl
theorem f_find_folder (B : Base w h mg K) : Dfn K mg "find_folder" (topS 4) ["lines", "line_id"] := B.dfn 2 2 rfl rfl fun _ _ _ _ _ _ us hl => match us, hl with | [_, _], _ => rfl
theorem f_settle (B : Base w h mg K) : Dfn K mg "settle" (topS 5) ["lines", "place"] := B.dfn 3 3 rfl rfl fun _ _ _ _ _ _ us hl => match us, hl with | [_, _], _ => rfl
theorem f_stands_in (B : Base w h mg K) : Dfn K mg "stands_in" (topS 6) ["lines", "inside", "line_id"] := B.dfn 4 4 rfl rfl fun _ _ _ _ _ _ us hl => match us, hl with | [_, _, _], _ => rfl
theorem f_end_line (B : Base w h mg K) : Dfn K mg "end_line" (topS 7) ["lines", "gone"] := B.dfn 5 5 rfl rfl fun _ _ _ _ _ _ us hl => match us, hl with | [_, _], _ => rfl
theorem f_end_heads (B : Base w h mg K) : Dfn K mg "end_heads" (topS 8) ["lines", "heads"] := B.dfn 6 6 rfl rfl fun _ _ _ _ _ _ us hl => match us, hl with | [_, _], _ => rfl
theorem f_new_line (B : Base w h mg K) : Dfn K mg "new_line" (topS 9) ["lines", "edit_id", "place", "content", "meant"] := B.dfn 7 7 rfl rfl fun _ _ _ _ _ _ us hl => match us, hl with | [_, _, _, _, _], _ => rfl
theorem f_continued (B : Base w h mg K) : Dfn K mg "continued" (topS 10) ["lines", "replaces"] := B.dfn 8 8 rfl rfl fun _ _ _ _ _ _ us hl => match us, hl with | [_, _], _ => rfl
theorem f_write_lines (B : Base w h mg K) : Dfn K mg "write_lines" (topS 11) ["lines", "edit"] := B.dfn 9 9 rfl rfl fun _ _ _ _ _ _ us hl => match us, hl with | [_, _], _ => rfl
theorem f_move_line (B : Base w h mg K) : Dfn K mg "move_line" (topS 12) ["lines", "head", "line_id", "place"] := B.dfn 10 10 rfl rfl fun _ _ _ _ _ _ us hl => match us, hl with | [_, _, _, _], _ => rfl
theorem f_lines_after (B : Base w h mg K) : Dfn K mg "lines_after" (topS 13) ["lines", "edit"] := B.dfn 11 11 rfl rfl fun _ _ _ _ _ _ us hl => match us, hl with | [_, _], _ => rfl
theorem f_fold_lines (B : Base w h mg K) : Dfn K mg "fold_lines" (topS 14) ["lines", "edits"] := B.dfn 12 12 rfl rfl fun _ _ _ _ _ _ us hl => match us, hl with | [_, _], _ => rfl
theorem f_lines_of (B : Base w h mg K) : Dfn K mg "lines_of" (topS 15) ["edits"] := B.dfn 13 13 rfl rfl fun _ _ _ _ _ _ us hl => match us, hl with | [_], _ => rfl
theorem f_clock_in (B : Base w h mg K) : Dfn K mg "clock_in" (topS 18) ["clocks", "device"] := B.dfn 14 14 rfl rfl fun _ _ _ _ _ _ us hl => match us, hl with | [_, _], _ => rfl
theorem f_with_clock (B : Base w h mg K) : Dfn K mg "with_clock" (topS 19) ["clocks", "device", "clock"] := B.dfn 15 15 rfl rfl fun _ _ _ _ _ _ us hl => match us, hl with | [_, _, _], _ => rfl
theorem f_ascending (B : Base w h mg K) : Dfn K mg "ascending" (topS 22) ["ids"] := B.dfn 16 16 rfl rfl fun _ _ _ _ _ _ us hl => match us, hl with | [_], _ => rfl
theorem f_is_rooted (B : Base w h mg K) : Dfn K mg "is_rooted" (topS 23) ["lines", "inside"] := B.dfn 17 17 rfl rfl fun _ _ _ _ _ _ us hl => match us, hl with | [_, _], _ => rfl
theorem f_lines_sound (B : Base w h mg K) : Dfn K mg "lines_sound" (topS 24) ["lines"] := B.dfn 18 18 rfl rfl fun _ _ _ _ _ _ us hl => match us, hl with | [_], _ => rfl
theorem f_place_sound (B : Base w h mg K) : Dfn K mg "place_sound" (topS 25) ["place"] := B.dfn 19 19 rfl rfl fun _ _ _ _ _ _ us hl => match us, hl with | [_], _ => rfl
theorem f_edit_sound (B : Base w h mg K) : Dfn K mg "edit_sound" (topS 26) ["edit"] := B.dfn 20 20 rfl rfl fun _ _ _ _ _ _ us hl => match us, hl with | [_], _ => rfl
theorem f_edits_sound (B : Base w h mg K) : Dfn K mg "edits_sound" (topS 27) ["edits"] := B.dfn 21 21 rfl rfl fun _ _ _ _ _ _ us hl => match us, hl with | [_], _ => rfl
theorem f_news_sound (B : Base w h mg K) : Dfn K mg "news_sound" (topS 28) ["news"] := B.dfn 22 22 rfl rfl fun _ _ _ _ _ _ us hl => match us, hl with | [_], _ => rfl
theorem f_can_hear (B : Base w h mg K) : Dfn K mg "can_hear" (topS 29) ["knowledge", "me", "news"] := B.dfn 23 23 rfl rfl fun _ _ _ _ _ _ us hl => match us, hl with | [_, _, _], _ => rfl
theorem f_joined (B : Base w h mg K) : Dfn K mg "joined_edits" (topS 30) ["own", "others"] := B.dfn 24 24 rfl rfl fun _ _ _ _ _ _ us hl => match us, hl with | [_, _], _ => rfl
theorem f_hear (B : Base w h mg K) : Dfn K mg "hear_news" (topS 31) ["knowledge", "me", "news"] := B.dfn 25 25 rfl rfl fun _ _ _ _ _ _ us hl => match us, hl with | [_, _, _], _ => rfl
theorem f_news_for (B : Base w h mg K) : Dfn K mg "news_for" (topS 32) ["knowledge", "since"] := B.dfn 26 26 rfl rfl fun _ _ _ _ _ _ us hl => match us, hl with | [_, _], _ => rfl
theorem f_forget_up_to (B : Base w h mg K) : Dfn K mg "forget_up_to" (topS 33) ["knowledge", "clock"] := B.dfn 27 27 rfl rfl fun _ _ _ _ _ _ us hl => match us, hl with | [_, _], _ => rfl
theorem f_forget (B : Base w h mg K) : Dfn K mg "forget" (topS 34) ["knowledge"] := B.dfn 28 28 rfl rfl fun _ _ _ _ _ _ us hl => match us, hl with | [_], _ => rfl
theorem f_rows (B : Base w h mg K) : Dfn K mg "_law_rows" (topS 36) ["_law_script", "_law_count"] := B.dfn 29 29 rfl rfl fun _ _ _ _ _ _ us hl => match us, hl with | [_, _], _ => rfl
theorem f_path (B : Base w h mg K) : Dfn K mg "_law_path" (topS 37) ["_law_row", "_law_most"] := B.dfn 30 30 rfl rfl fun _ _ _ _ _ _ us hl => match us, hl with | [_, _], _ => rfl
theorem f_pick (B : Base w h mg K) : Dfn K mg "_law_pick" (topS 38) ["_law_row", "_law_ids"] := B.dfn 31 31 rfl rfl fun _ _ _ _ _ _ us hl => match us, hl with | [_, _], _ => rfl
theorem f_place (B : Base w h mg K) : Dfn K mg "_law_place" (topS 39) ["_law_row", "_law_ids"] := B.dfn 32 32 rfl rfl fun _ _ _ _ _ _ us hl => match us, hl with | [_, _], _ => rfl
theorem f_heads (B : Base w h mg K) : Dfn K mg "_law_heads" (topS 40) ["_law_row", "_law_ids"] := B.dfn 33 33 rfl rfl fun _ _ _ _ _ _ us hl => match us, hl with | [_, _], _ => rfl
theorem f_edit (B : Base w h mg K) : Dfn K mg "_law_edit" (topS 41) ["_law_row", "_law_edit_id", "_law_ids"] := B.dfn 34 34 rfl rfl fun _ _ _ _ _ _ us hl => match us, hl with | [_, _, _], _ => rfl
theorem f_tell (B : Base w h mg K) : Dfn K mg "_law_tell" (topS 43) ["_law_know", "_law_me", "_law_row"] := B.dfn 35 35 rfl rfl fun _ _ _ _ _ _ us hl => match us, hl with | [_, _, _], _ => rfl
theorem f_say (B : Base w h mg K) : Dfn K mg "_law_say" (topS 46) ["_law_knows", "_law_heard", "_law_sender", "_law_receiver", "_law_by_nothing"] := B.dfn 36 36 rfl rfl fun _ _ _ _ _ _ us hl => match us, hl with | [_, _, _, _, _], _ => rfl
theorem f_deliver (B : Base w h mg K) : Dfn K mg "_law_deliver" (topS 47) ["_law_knows", "_law_heard", "_law_letter"] := B.dfn 37 37 rfl rfl fun _ _ _ _ _ _ us hl => match us, hl with | [_, _, _], _ => rfl
theorem f_known (B : Base w h mg K) : Dfn K mg "_law_known" (topS 44) ["_law_know", "_law_edits_here"] := B.dfn 38 38 rfl rfl fun _ _ _ _ _ _ us hl => match us, hl with | [_, _], _ => rfl
theorem f_fine (B : Base w h mg K) : Dfn K mg "_law_fine" (topS 45) ["_law_knows", "_law_edits_here", "_law_clocks"] := B.dfn 39 39 rfl rfl fun _ _ _ _ _ _ us hl => match us, hl with | [_, _, _], _ => rfl
theorem f_law (B : Base w h mg K) : Dfn K mg "law" (topS 48) ["_law_script"] := B.dfn 40 40 rfl rfl fun _ _ _ _ _ _ us hl => match us, hl with | [_], _ => rfl
theorem f_lines (B : Base w h mg K) : Mfn K (kC K) "lines" "Knowledge.lines" (sKnow 1) ["self"] := B.mfn 41 59 rfl rfl fun _ _ _ _ _ _ us hl => match us, hl with | [_], _ => rfl
theorem f_known_up_to (B : Base w h mg K) : Mfn K (kC K) "known_up_to" "Knowledge.known_up_to" (sKnow 3) ["self", "device"] := B.mfn 42 60 rfl rfl fun _ _ _ _ _ _ us hl => match us, hl with | [_, _], _ => rfl
theorem f_next_id (B : Base w h mg K) : Mfn K (kC K) "next_id" "Knowledge.next_id" (sKnow 4) ["self", "me"] := B.mfn 43 61 rfl rfl fun _ _ _ _ _ _ us hl => match us, hl with | [_, _], _ => rfl
theorem f_make (B : Base w h mg K) : Mfn K (kC K) "make" "Knowledge.make" (sKnow 5) ["self", "me", "edit"] := B.mfn 44 62 rfl rfl fun _ _ _ _ _ _ us hl => match us, hl with | [_, _, _], _ => rfl
theorem f_write (B : Base w h mg K) : Mfn K (kC K) "write" "Knowledge.write" (sKnow 6) ["self", "me", "place", "content", "line", "replaces"] := B.mfn 45 63 rfl rfl fun _ _ _ _ _ _ us hl => match us, hl with | [_, _, _, _, _, _], _ => rfl
theorem f_drop (B : Base w h mg K) : Mfn K (kC K) "drop" "Knowledge.drop" (sKnow 7) ["self", "me", "replaces"] := B.mfn 46 64 rfl rfl fun _ _ _ _ _ _ us hl => match us, hl with | [_, _, _], _ => rfl
theorem f_move (B : Base w h mg K) : Mfn K (kC K) "move" "Knowledge.move" (sKnow 8) ["self", "me", "moved"] := B.mfn 47 65 rfl rfl fun _ _ _ _ _ _ us hl => match us, hl with | [_, _, _], _ => rfl
end
section
variable {P : Program} {w : World} {K : PySem.W.Frag} {h base : Heap} {mg : Str → Option Value}
/-- the law's promise, from the head's facts -/
theorem law_all (B : Base w h mg K) (TB1 : LamX.TabB base mg (He.cT K ("_law_known", none)).1 (He.cT K ("_law_known", none)).2) (TB2 : LamX.TabB base mg (He.cT K ("law", none)).1 (He.cT K ("law", none)).2) {f : Addr} {fd : FuncData}
    (F : FunD K "law" "law" (defArgs (topS 48)) (defBody (topS 48)) (defScope (topS 48)) [] [] f fd) (hf : f = He.ga K "law") : FnOk P w K mg base CX0 11 f fd ["_law_script"] (spD 1 (RLaw K (He.cT K ("_law_known", none)).2 (He.cT K ("law", none)).2)) := by
  have g_find_line := got_find_line (P := P) (w := w) (K := K) (mg := mg) (base := base) (f_find_line B)
  have g_find_head := got_find_head (P := P) (w := w) (K := K) (mg := mg) (base := base) (f_find_head B)
  have g_find_folder := got_find_folder (P := P) (w := w) (K := K) (mg := mg) (base := base) (f_find_folder B) g_find_line
  have g_settle := got_settle (P := P) (w := w) (K := K) (mg := mg) (base := base) (f_settle B) g_find_folder
  have g_stands_in := got_stands_in (P := P) (w := w) (K := K) (mg := mg) (base := base) (f_stands_in B) g_find_folder (B.free 42 rfl) (B.free 43 rfl)
  have g_end_line := got_end_line (P := P) (w := w) (K := K) (mg := mg) (base := base) (f_end_line B)
  have g_end_heads := got_end_heads (P := P) (w := w) (K := K) (mg := mg) (base := base) (f_end_heads B) g_find_head g_end_line
  have g_new_line := got_new_line (P := P) (w := w) (K := K) (mg := mg) (base := base) (f_new_line B) g_find_line g_settle
  have g_continued := got_continued (P := P) (w := w) (K := K) (mg := mg) (base := base) (f_continued B)
  have g_write_lines := got_write_lines (P := P) (w := w) (K := K) (mg := mg) (base := base) (f_write_lines B) g_continued g_new_line g_end_heads
  have g_move_line := got_move_line (P := P) (w := w) (K := K) (mg := mg) (base := base) (f_move_line B) g_find_head g_find_line g_settle g_stands_in
  have g_lines_after := got_lines_after (P := P) (w := w) (K := K) (mg := mg) (base := base) (f_lines_after B) g_write_lines g_end_heads g_move_line (B.free 44 rfl)
  have g_fold_lines := got_fold_lines (P := P) (w := w) (K := K) (mg := mg) (base := base) (f_fold_lines B) g_lines_after (B.free 44 rfl)
  have g_lines_of := got_lines_of (P := P) (w := w) (K := K) (mg := mg) (base := base) (f_lines_of B) g_fold_lines
  have g_clock_in := got_clock_in (P := P) (w := w) (K := K) (mg := mg) (base := base) (f_clock_in B)
  have g_with_clock := got_with_clock (P := P) (w := w) (K := K) (mg := mg) (base := base) (f_with_clock B)
  have g_ascending := got_ascending (P := P) (w := w) (K := K) (mg := mg) (base := base) (f_ascending B) (B.free 42 rfl) (B.free 43 rfl)
  have g_is_rooted := got_is_rooted (P := P) (w := w) (K := K) (mg := mg) (base := base) (f_is_rooted B) g_find_folder (B.free 42 rfl) (B.free 43 rfl)
  have g_lines_sound := got_lines_sound (P := P) (w := w) (K := K) (mg := mg) (base := base) (f_lines_sound B) g_ascending g_is_rooted (B.free 49 rfl) (B.free 43 rfl)
  have g_place_sound := got_place_sound (P := P) (w := w) (K := K) (mg := mg) (base := base) (f_place_sound B) (B.free 43 rfl)
  have g_edit_sound := got_edit_sound (P := P) (w := w) (K := K) (mg := mg) (base := base) (f_edit_sound B) g_place_sound (B.free 43 rfl) (B.free 50 rfl)
  have g_edits_sound := got_edits_sound (P := P) (w := w) (K := K) (mg := mg) (base := base) (f_edits_sound B) g_ascending g_edit_sound (B.free 50 rfl)
  have g_news_sound := got_news_sound (P := P) (w := w) (K := K) (mg := mg) (base := base) (f_news_sound B) g_lines_sound g_edits_sound g_clock_in (He.int_ok B.X B.G (B.fact 52 (f := .int "MOST_CLOCK" 4294967295) rfl))
  have g_lines := got_lines (P := P) (w := w) (K := K) (mg := mg) (base := base) (C := kC K) (f_lines B) B.kcls g_fold_lines
  have g_known_up_to := got_known_up_to (P := P) (w := w) (K := K) (mg := mg) (base := base) (C := kC K) (f_known_up_to B) B.kcls g_clock_in
  have g_next_id := got_next_id (P := P) (w := w) (K := K) (mg := mg) (base := base) (C := kC K) (f_next_id B) B.kcls
  have g_make := got_make (P := P) (w := w) (K := K) (mg := mg) (base := base) (C := kC K) (f_make B) B.kcls g_with_clock
  have g_write := got_write (P := P) (w := w) (K := K) (mg := mg) (base := base) (C := kC K) (f_write B) B.kcls g_make g_next_id (B.free 45 rfl)
  have g_drop := got_drop (P := P) (w := w) (K := K) (mg := mg) (base := base) (C := kC K) (f_drop B) B.kcls g_make g_next_id (B.free 45 rfl)
  have g_move := got_move (P := P) (w := w) (K := K) (mg := mg) (base := base) (C := kC K) (f_move B) B.kcls g_make g_next_id (B.free 45 rfl)
  have g_can_hear := got_can_hear (P := P) (w := w) (K := K) (mg := mg) (base := base) (C := kC K) (f_can_hear B) B.kcls g_news_sound g_clock_in g_known_up_to
  have g_joined := got_joined (P := P) (w := w) (K := K) (mg := mg) (base := base) (f_joined B) (B.free 43 rfl) (B.free 44 rfl)
  have g_hear := got_hear (P := P) (w := w) (K := K) (mg := mg) (base := base) (C := kC K) (f_hear B) B.kcls g_can_hear g_joined g_clock_in g_with_clock (B.free 44 rfl) (B.free 48 rfl)
  have g_news_for := got_news_for (P := P) (w := w) (K := K) (mg := mg) (base := base) (C := kC K) (f_news_for B) B.kcls g_clock_in (B.free 45 rfl) (B.free 50 rfl)
  have g_forget_up_to := got_forget_up_to (P := P) (w := w) (K := K) (mg := mg) (base := base) (C := kC K) (f_forget_up_to B) B.kcls g_fold_lines (B.free 48 rfl)
  have g_forget := got_forget (P := P) (w := w) (K := K) (mg := mg) (base := base) (C := kC K) (f_forget B) B.kcls g_forget_up_to (B.free 47 rfl)
  have g_rows := got_rows (P := P) (w := w) (K := K) (mg := mg) (base := base) (f_rows B) (B.free 42 rfl) (B.free 43 rfl) (B.free 46 rfl)
  have g_path := got_path (P := P) (w := w) (K := K) (mg := mg) (base := base) (f_path B) (B.free 42 rfl) (B.free 45 rfl) (B.free 46 rfl)
  have g_pick := got_pick (P := P) (w := w) (K := K) (mg := mg) (base := base) (f_pick B) (B.free 43 rfl) (B.free 46 rfl) (B.free 47 rfl)
  have g_place := got_place (P := P) (w := w) (K := K) (mg := mg) (base := base) (f_place B) g_pick g_path
  have g_heads := got_heads (P := P) (w := w) (K := K) (mg := mg) (base := base) (f_heads B) g_pick (B.free 42 rfl) (B.free 45 rfl) (B.free 46 rfl)
  have g_edit := got_edit (P := P) (w := w) (K := K) (mg := mg) (base := base) (f_edit B) g_pick g_place g_heads (B.free 42 rfl) (B.free 45 rfl) (B.free 46 rfl) (B.free 43 rfl)
  have g_tell := got_tell (P := P) (w := w) (K := K) (mg := mg) (base := base) (C := kC K) (f_tell B) B.kcls g_lines g_edit g_write g_drop g_move
  have g_say := got_say (P := P) (w := w) (K := K) (mg := mg) (base := base) (C := kC K) (f_say B) g_news_for
  have g_deliver := got_deliver (P := P) (w := w) (K := K) (mg := mg) (base := base) (C := kC K) (f_deliver B) g_hear g_forget (B.free 44 rfl)
  have g_known := got_known (P := P) (w := w) (K := K) (mg := mg) (base := base) (C := kC K) (B.dfnC (f_known B) 38 rfl) TB1 B.kcls g_known_up_to (B.free 51 rfl)
  have g_fine := got_fine (P := P) (w := w) (K := K) (mg := mg) (base := base) (C := kC K) (f_fine B) B.kcls g_lines g_lines_of g_known (B.free 42 rfl) (B.free 43 rfl)
  exact law_ok F (B.code F hf) TB2 B.kcls B.mkk g_rows g_tell g_say g_deliver g_fine g_lines_of g_lines (B.free 46 rfl) (B.free 44 rfl) (B.free 42 rfl) (B.free 43 rfl) (B.free 47 rfl) (B.free 51 rfl) (B.free 50 rfl)
end
end FKH
/-! The law holds. -/
namespace FKH
open PySem PySem.Spec PyProof.Rows L2 DL FK
theorem tabs_at {H : Hp} {K : PySem.W.Frag} {T1 T2 a : Addr} {ns : List Int} (ne : T1 ≠ T2) (h1 : H T1 = some (.tbl #[])) (h2 : H T2 = some (.tbl #[])) (hS : SqL K H a (ns.map V.int)) :
    spD 1 (RLaw K T1 T2) [.ref a] H (fun v _ => v = .bl true) fun _ _ _ => False := by
  have m1 : (fun b => if b = T1 then some (Cell.tab (lamQ "_law_known")) else if b = T2 then some (Cell.tab (lamQ "law")) else none : Mem) T1 = some (.tab (lamQ "_law_known")) := if_pos rfl
  have m2 : (fun b => if b = T1 then some (Cell.tab (lamQ "_law_known")) else if b = T2 then some (Cell.tab (lamQ "law")) else none : Mem) T2 = some (.tab (lamQ "law")) := (if_neg ne.symm).trans (if_pos rfl)
  have m3 : ∀ b c, (fun b => if b = T1 then some (Cell.tab (lamQ "_law_known")) else if b = T2 then some (Cell.tab (lamQ "law")) else none : Mem) b = some c → (b = T1 ∨ b = T2) ∧ ∃ q, c = .tab q := fun b c e => by
    by_cases q1 : b = T1
    · have e' := (if_pos q1).symm.trans e
      exact ⟨.inl q1, _, (Option.some.inj e').symm⟩
    · have e' := (if_neg q1).symm.trans e
      by_cases q2 : b = T2
      · have e2 := (if_pos q2).symm.trans e'
        exact ⟨.inr q2, _, (Option.some.inj e2).symm⟩
      · have e2 := (if_neg q2).symm.trans e'
        cases e2
  generalize (fun b => if b = T1 then some (Cell.tab (lamQ "_law_known")) else if b = T2 then some (Cell.tab (lamQ "law")) else none : Mem) = m at m1 m2 m3
  have vis : ∀ b o, H b = some o → (∀ ps, o ≠ .tbl ps) → hide m H b = some o := fun b o e n => by
    cases q : m b with
    | none => rw [hide_none q]; exact e
    | some c =>
      rcases (m3 b c q).1 with z | z
      · rw [z, h1] at e; exact absurd (Option.some.inj e).symm (n _)
      · rw [z, h2] at e; exact absurd (Option.some.inj e).symm (n _)
  have hS' : SqL K (hide m H) a (ns.map V.int) := by
    rcases hS with (z | ⟨ob, z⟩) | z
    · exact .inl (.inl (vis _ _ z fun _ q => by cases q))
    · exact .inl (.inr ⟨ob, vis _ _ z fun _ q => by cases q⟩)
    · exact .inr z
  refine ⟨[.seq K ns], m, fun d _ => d = .bl true, rfl, ⟨ns, rfl, m1, m2, fun _ => rfl⟩, fun b c e => ?_, ⟨.ref a, [], rfl, ⟨a, rfl, .inl hS'⟩, rfl⟩, fun d m' v H' e _ _ r => ?_⟩
  · obtain ⟨z, q, rfl⟩ := m3 b c e
    refine ⟨#[], ?_, trivial, fun p cv hc => ?_⟩
    · rcases z with rfl | rfl
      · exact h1
      · exact h2
    · have z : codeAmong p [] = some cv := hc
      simp [codeAmong] at z
  · subst e
    exact r
theorem law_at {l : PySem.W.OpenLaw} {w : World} {mg : Str → Option Value} {f : Addr} {h : Heap} (Y : hk.says w h) (G : h.Ns mainGlobals mg) (hmg : mg ("law" : Str) = some (.ref f)) : ∃ K : PySem.W.Frag, K.In h ∧ LamX.LawAtS l w K CX0 11 63 "_law_script" mg f h := by
  obtain ⟨K, X, c⟩ := Y
  have B : Base w h mg K := ⟨X, G, c⟩
  obtain ⟨f', fd, F, hm, hb⟩ := (f_law B).ex
  have ef : f = f' := by
    have e := hmg.symm.trans hm
    injection e with e1
    injection e1
  subst ef
  have eg : f = He.ga K "law" := by
    have e := hmg.symm.trans (B.glo 40 rfl)
    injection e with e1
    injection e1
  have ne : (He.cT K ("_law_known", none)).2 ≠ (He.cT K ("law", none)).2 := by
    obtain ⟨_, e2⟩ := He.ba c.more
    obtain ⟨_, e3⟩ := He.ba e2
    intro z
    rw [decide_eq_true z] at e3
    cases e3
  have mem1 : He.cT K ("_law_known", none) ∈ tf.map (He.cT K) := List.mem_cons_self
  have mem2 : He.cT K ("law", none) ∈ tf.map (He.cT K) := List.mem_cons_of_mem _ List.mem_cons_self
  have b := FunD.bindsA (ps := ["_law_script"]) F fun _ _ _ _ _ _ us hl => match us, hl with | [_], _ => rfl
  refine ⟨K, X, fd, tf.map (He.cT K), spD 1 (RLaw K (He.cT K ("_law_known", none)).2 (He.cT K ("law", none)).2), fun p hp => ?_, fun p hp => ?_, fun p hp => ?_, fun s u => b s [u] rfl, fun H a ns _ _ hH hS => tabs_at ne (hH _ mem1) (hH _ mem2) hS, fun base _ _ TB => law_all B (TB _ mem1) (TB _ mem2) F eg⟩
  · obtain ⟨q, hq, rfl⟩ := List.mem_map.mp hp
    exact c.empty q hq
  · obtain ⟨q, hq, rfl⟩ := List.mem_map.mp hp
    exact c.out q hq
  · obtain ⟨q, hq, rfl⟩ := List.mem_map.mp hp
    exact PySem.W.codeHd_of_K X (c.hd q hq)
end FKH
open PySem PyProof.Rows PySem.W PySem.Calls
theorem PySem.Challenge.cw_foldkeep_k19_whole_devices_come_to_know_holds : PySem.Challenge.rw_foldkeep_k19_whole_devices_come_to_know.Holds := by
  w_on; o_law
  refine HandSHeadRun.head_any (r := OpenLaw.row PySem.Challenge.rw_foldkeep_k19_whole_devices_come_to_know) (q := view (OpenLaw.row PySem.Challenge.rw_foldkeep_k19_whole_devices_come_to_know).prog [48]) (H := FKH.hk) (ob := FKH.ob) (M := 3000) (loose := FKH.loose) (d := HandSHeadRun.topDef (OpenLaw.row PySem.Challenge.rw_foldkeep_k19_whole_devices_come_to_know).prog 48) (kwd := []) FKH.ob_eq
    (by kernel_rfl) (fun s => by kernel_rfl) FKH.run (by kernel_rfl) (by kernel_rfl) (by kernel_rfl) (by rfl) (by first | assumption | decide +kernel) (by decide +kernel) ⟨rfl, rfl, rfl, rfl, rfl, by decide +kernel⟩ ?hw ?hc
  case hw => w_witness2
  case hc =>
    refine LamX.walk_ofTsE (l := PySem.Challenge.rw_foldkeep_k19_whole_devices_come_to_know) (n := 63) (k := 11) (x := "_law_script") (CX := fun _ => L2.CX0) rfl (by decide) (by kernel_rfl) ⟨rfl, by decide, by decide⟩ ?F (fun _ _ _ _ _ z => z)
    intro w mg fa h Y G hmg0
    have hmg : mg ("law" : PySem.Str) = some (.ref fa) := by
      have e : (HandSHeadRun.topDef (OpenLaw.row PySem.Challenge.rw_foldkeep_k19_whole_devices_come_to_know).prog 48).name = ("law" : PySem.Str) := by kernel_rfl
      rw [← e]
      exact hmg0
    exact FKH.law_at Y G hmg
