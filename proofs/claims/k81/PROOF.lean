import PyProof.Rows.All
import Wide.All
import OpenK.AllK
import Wide.FinOn
import HandS.ForMost
import HandS.IsInst
import HandS.Wide
import HandS.Zip
import HandS.Strs
import PyProof.Rows.SortShellAny
import PySem.Challenge.RW_kindbooks_k81_what_things_lean_on
set_option Elab.async false
set_option linter.all false
set_option maxRecDepth 100000
set_option maxHeartbeats 4000000
/-! Pure data, a store of lists, and what each construct does with them: ties to the rules of the hand layer. -/
namespace Fw
open PySem PySem.Spec PyProof.Rows L2

/-- data that never change -/
inductive D where
  | non | bl (b : Bool) | int (i : Int) | str (s : Str) | tup (ds : List D)
  deriving Inhabited
/-- what a name may hold: data, the script, a list by its place in the store, a tuple of data and lists -/
inductive W where
  | d (x : D) | scr (ns : List Int) | loc (n : Nat) | tp (ws : List (Sum D Nat))
  deriving Inhabited
inductive Cell where
  | lst (ds : List D)
  deriving Inhabited

mutual
def Rep (H : Hp) : V → D → Prop
  | v, .non => v = .non
  | v, .bl b => v = .bl b
  | v, .int i => v = .int i
  | v, .str s => v = .str s ∧ PyData.strOk s = true
  | v, .tup ds => ∃ a vs, v = .ref a ∧ H a = some (.tup vs) ∧ Reps H vs ds
def Reps (H : Hp) : List V → List D → Prop
  | vs, [] => vs = []
  | vs, d :: ds => ∃ v r, vs = v :: r ∧ Rep H v d ∧ Reps H r ds
end

def ScrAt (K : PySem.W.Frag) (H : Hp) (a : Addr) (ns : List Int) : Prop :=
  (∃ o, H a = some (.frz o (.lst (ns.map V.int)))) ∨
    ∃ (o : Obj) (its : Array Value) (n : Nat), K.lookup a = some o ∧ o.cls = .type "list" ∧ o.dict = none ∧ o.data = .seq its n ∧ its.size ≤ sizeLine ∧ Vals (ns.map V.int) its.toList
theorem ScrAt.sq {K : PySem.W.Frag} {H : Hp} {a : Addr} {ns : List Int} (h : ScrAt K H a ns) : SqL K H a (ns.map V.int) := h.imp (fun ⟨o, e⟩ => .inr ⟨o, e⟩) id

def RepS (m : List Addr) (H : Hp) : V → Sum D Nat → Prop
  | v, .inl d => Rep H v d
  | v, .inr n => ∃ a, m[n]? = some a ∧ v = .ref a
def RepSs (m : List Addr) (H : Hp) : List V → List (Sum D Nat) → Prop
  | vs, [] => vs = []
  | vs, s :: ss => ∃ v r, vs = v :: r ∧ RepS m H v s ∧ RepSs m H r ss
def RepW (K : PySem.W.Frag) (m : List Addr) (H : Hp) : V → W → Prop
  | v, .d x => Rep H v x
  | v, .scr ns => ∃ a, v = .ref a ∧ ScrAt K H a ns
  | v, .loc n => ∃ a, m[n]? = some a ∧ v = .ref a
  | v, .tp ws => ∃ a vs, v = .ref a ∧ H a = some (.tup vs) ∧ RepSs m H vs ws
def RepWs (K : PySem.W.Frag) (m : List Addr) (H : Hp) : List V → List W → Prop
  | vs, [] => vs = []
  | vs, w :: ws => ∃ v r, vs = v :: r ∧ RepW K m H v w ∧ RepWs K m H r ws

def CellAt (H : Hp) (a : Addr) : Cell → Prop
  | .lst ds => ∃ vs, H a = some (.lst vs) ∧ Reps H vs ds

structure Rel (H : Hp) (m : List Addr) (S : List Cell) : Prop where
  len : m.length = S.length
  nd : m.Nodup
  cell : ∀ (i : Nat) a c, m[i]? = some a → S[i]? = some c → CellAt H a c

structure Step (m : List Addr) (H : Hp) (m' : List Addr) (H' : Hp) : Prop where
  pre : ∃ n, m' = m ++ n
  keep : ∀ a o, a ∉ m → H a = some o → H' a = some o
  new : ∀ a, a ∈ m' → a ∉ m → H a = none

theorem Step.refl (m : List Addr) (H : Hp) : Step m H m H := ⟨⟨[], by simp⟩, fun _ _ _ h => h, fun _ a b => absurd a b⟩
theorem Step.trans {m m1 m2 : List Addr} {H H1 H2 : Hp} (a : Step m H m1 H1) (b : Step m1 H1 m2 H2) : Step m H m2 H2 := by
  obtain ⟨n1, e1⟩ := a.pre
  obtain ⟨n2, e2⟩ := b.pre
  refine ⟨⟨n1 ++ n2, by rw [e2, e1, List.append_assoc]⟩, fun x o hx ho => ?_, fun x hx hn => ?_⟩
  · refine b.keep x o (fun z => ?_) (a.keep x o hx ho)
    have q := a.new x z hx
    rw [ho] at q
    cases q
  · by_cases h1 : x ∈ m1
    · exact a.new x h1 hn
    · cases q : H x with
      | none => rfl
      | some o =>
        have q1 := a.keep x o hn q
        rw [b.new x hx h1] at q1
        cases q1
theorem Step.get {m m' : List Addr} {H H' : Hp} (s : Step m H m' H') {i : Nat} {a : Addr} (h : m[i]? = some a) : m'[i]? = some a := by
  obtain ⟨n, e⟩ := s.pre
  have hi : i < m.length := (List.getElem?_eq_some_iff.mp h).1
  rw [e, List.getElem?_append_left hi]
  exact h
/-- the heap grows, the store stays -/
theorem Step.same {m : List Addr} {H H' : Hp} (h : Same H H') : Step m H m H' := ⟨⟨[], by simp⟩, fun a o _ e => h a o e, fun _ a b => absurd a b⟩

theorem Rel.there {H : Hp} {m : List Addr} {S : List Cell} (R : Rel H m S) {a : Addr} (h : a ∈ m) : ∃ (i : Nat) (c : Cell), m[i]? = some a ∧ S[i]? = some c ∧ CellAt H a c := by
  obtain ⟨i, hi⟩ := List.mem_iff_getElem?.mp h
  have hl : i < S.length := by rw [← R.len]; exact (List.getElem?_eq_some_iff.mp hi).1
  exact ⟨i, S[i], hi, List.getElem?_eq_getElem hl, R.cell i a _ hi (List.getElem?_eq_getElem hl)⟩
theorem Rel.lst {H : Hp} {m : List Addr} {S : List Cell} (R : Rel H m S) {a : Addr} (h : a ∈ m) : ∃ vs, H a = some (.lst vs) := by
  obtain ⟨i, c, _, _, q⟩ := R.there h
  cases c with
  | lst ds =>
    obtain ⟨vs, e, _⟩ := q
    exact ⟨vs, e⟩
theorem Rel.nin {H : Hp} {m : List Addr} {S : List Cell} (R : Rel H m S) {a : Addr} {o : HO} (h : H a = some o) (hn : ∀ xs, o ≠ .lst xs) : a ∉ m := fun z => by
  obtain ⟨vs, e⟩ := R.lst z
  rw [h] at e
  exact hn vs (Option.some.inj e)
theorem Rel.ninN {H : Hp} {m : List Addr} {S : List Cell} (R : Rel H m S) {a : Addr} (h : H a = none) : a ∉ m := fun z => by
  obtain ⟨vs, e⟩ := R.lst z
  rw [h] at e
  cases e

mutual
theorem Rep.move {H H' : Hp} (k : ∀ a vs, H a = some (.tup vs) → H' a = some (.tup vs)) : ∀ (d : D) {v : V}, Rep H v d → Rep H' v d
  | .non, _, h => h
  | .bl _, _, h => h
  | .int _, _, h => h
  | .str _, _, h => h
  | .tup ds, _, h => by
    obtain ⟨a, vs, e, ho, r⟩ := h
    exact ⟨a, vs, e, k a vs ho, Reps.move k ds r⟩
theorem Reps.move {H H' : Hp} (k : ∀ a vs, H a = some (.tup vs) → H' a = some (.tup vs)) : ∀ (ds : List D) {vs : List V}, Reps H vs ds → Reps H' vs ds
  | [], _, h => h
  | d :: ds, _, h => by
    obtain ⟨v, r, e, h1, h2⟩ := h
    exact ⟨v, r, e, Rep.move k d h1, Reps.move k ds h2⟩
end
theorem Rel.tups {H H' : Hp} {m m' : List Addr} {S : List Cell} (R : Rel H m S) (s : Step m H m' H') : ∀ a vs, H a = some (.tup vs) → H' a = some (.tup vs) :=
  fun a vs h => s.keep a _ (R.nin h fun _ z => nomatch z) h
theorem Rep.step {H H' : Hp} {m m' : List Addr} {S : List Cell} (R : Rel H m S) (s : Step m H m' H') {v : V} {d : D} (h : Rep H v d) : Rep H' v d := Rep.move (R.tups s) d h
theorem Reps.step {H H' : Hp} {m m' : List Addr} {S : List Cell} (R : Rel H m S) (s : Step m H m' H') {v : List V} {d : List D} (h : Reps H v d) : Reps H' v d := Reps.move (R.tups s) d h
theorem RepS.step {H H' : Hp} {m m' : List Addr} {S : List Cell} (R : Rel H m S) (s : Step m H m' H') {v : V} : ∀ {d : Sum D Nat}, RepS m H v d → RepS m' H' v d
  | .inl _, h => Rep.step R s (show Rep H v _ from h)
  | .inr _, ⟨a, h1, h2⟩ => ⟨a, s.get h1, h2⟩
theorem RepSs.step {H H' : Hp} {m m' : List Addr} {S : List Cell} (R : Rel H m S) (s : Step m H m' H') : ∀ {vs : List V} {ds : List (Sum D Nat)}, RepSs m H vs ds → RepSs m' H' vs ds
  | _, [], h => h
  | _, _ :: _, ⟨v, r, e, h1, h2⟩ => ⟨v, r, e, RepS.step R s h1, RepSs.step R s h2⟩
theorem ScrAt.step {K : PySem.W.Frag} {H H' : Hp} {m m' : List Addr} {S : List Cell} (R : Rel H m S) (s : Step m H m' H') {a : Addr} {ns : List Int} (h : ScrAt K H a ns) : ScrAt K H' a ns :=
  h.imp (fun ⟨o, e⟩ => ⟨o, s.keep a _ (R.nin e fun _ z => nomatch z) e⟩) id
theorem RepW.step {K : PySem.W.Frag} {H H' : Hp} {m m' : List Addr} {S : List Cell} (R : Rel H m S) (s : Step m H m' H') {v : V} : ∀ {w : W}, RepW K m H v w → RepW K m' H' v w
  | .d _, h => Rep.step R s (show Rep H v _ from h)
  | .scr _, ⟨a, e, h⟩ => ⟨a, e, h.step R s⟩
  | .loc _, ⟨a, h1, h2⟩ => ⟨a, s.get h1, h2⟩
  | .tp _, ⟨a, vs, e, h, r⟩ => ⟨a, vs, e, R.tups s a vs h, RepSs.step R s r⟩
theorem RepWs.step {K : PySem.W.Frag} {H H' : Hp} {m m' : List Addr} {S : List Cell} (R : Rel H m S) (s : Step m H m' H') : ∀ {vs : List V} {ws : List W}, RepWs K m H vs ws → RepWs K m' H' vs ws
  | _, [], h => h
  | _, _ :: _, ⟨v, r, e, h1, h2⟩ => ⟨v, r, e, RepW.step R s h1, RepWs.step R s h2⟩
theorem RepWs.length {K : PySem.W.Frag} {H : Hp} {m : List Addr} : ∀ {vs : List V} {ws : List W}, RepWs K m H vs ws → vs.length = ws.length
  | _, [], h => by cases (show _ = [] from h); rfl
  | _, _ :: ws, ⟨v, r, e, _, h2⟩ => by subst e; simp [RepWs.length h2]
theorem Reps.length {H : Hp} : ∀ {vs : List V} {ds : List D}, Reps H vs ds → vs.length = ds.length
  | _, [], h => by cases (show _ = [] from h); rfl
  | _, _ :: _, ⟨v, r, e, _, h2⟩ => by subst e; simp [Reps.length h2]
theorem Reps.get {H : Hp} : ∀ {vs : List V} {ds : List D} {i : Nat} {d : D}, Reps H vs ds → ds[i]? = some d → ∃ v, vs[i]? = some v ∧ Rep H v d
  | _, [], _, _, _, e => by simp at e
  | _, d :: ds, 0, _, ⟨v, r, e, h1, _⟩, q => by
    subst e
    simp only [List.getElem?_cons_zero, Option.some.injEq] at q
    subst q
    exact ⟨v, by simp, h1⟩
  | _, d :: ds, i + 1, _, ⟨v, r, e, _, h2⟩, q => by
    subst e
    simp only [List.getElem?_cons_succ] at q
    obtain ⟨v', e', r'⟩ := Reps.get h2 q
    exact ⟨v', by simpa using e', r'⟩
theorem Reps.append {H : Hp} : ∀ {vs us : List V} {ds es : List D}, Reps H vs ds → Reps H us es → Reps H (vs ++ us) (ds ++ es)
  | _, _, [], _, h, g => by cases (show _ = [] from h); exact g
  | _, _, _ :: _, _, ⟨v, r, e, h1, h2⟩, g => by subst e; exact ⟨v, r ++ _, rfl, h1, Reps.append h2 g⟩
theorem Reps.take {H : Hp} : ∀ {vs : List V} {ds : List D} (n : Nat), Reps H vs ds → Reps H (vs.take n) (ds.take n)
  | _, [], n, h => by cases (show _ = [] from h); simp; exact rfl
  | _, _ :: _, 0, _ => by simp; exact rfl
  | _, _ :: _, n + 1, ⟨v, r, e, h1, h2⟩ => by subst e; exact ⟨v, r.take n, rfl, h1, Reps.take n h2⟩
theorem Reps.drop {H : Hp} : ∀ {vs : List V} {ds : List D} (n : Nat), Reps H vs ds → Reps H (vs.drop n) (ds.drop n)
  | _, [], n, h => by cases (show _ = [] from h); simp; exact rfl
  | _, _ :: _, 0, h => h
  | _, _ :: _, n + 1, ⟨v, r, e, _, h2⟩ => by subst e; exact Reps.drop n h2
theorem Reps.set {H : Hp} : ∀ {vs : List V} {ds : List D} (i : Nat) {v : V} {d : D}, Reps H vs ds → Rep H v d → Reps H (vs.set i v) (ds.set i d)
  | _, [], i, _, _, h, _ => by cases (show _ = [] from h); exact rfl
  | _, _ :: _, 0, _, _, ⟨v, r, e, _, h2⟩, g => by subst e; exact ⟨_, r, rfl, g, h2⟩
  | _, _ :: _, i + 1, _, _, ⟨v, r, e, h1, h2⟩, g => by subst e; exact ⟨v, r.set i _, rfl, h1, Reps.set i h2 g⟩
theorem Reps.reverse {H : Hp} : ∀ {vs : List V} {ds : List D}, Reps H vs ds → Reps H vs.reverse ds.reverse
  | _, [], h => by cases (show _ = [] from h); exact rfl
  | _, _ :: _, ⟨v, r, e, h1, h2⟩ => by
    subst e
    rw [List.reverse_cons, List.reverse_cons]
    exact Reps.append (Reps.reverse h2) ⟨v, [], rfl, h1, rfl⟩

/-! ### the store changes -/
theorem Rel.grow {H H' : Hp} {m : List Addr} {S : List Cell} (R : Rel H m S) (h : Same H H') : Rel H' m S := by
  refine ⟨R.len, R.nd, fun i a c hi hc => ?_⟩
  have q := R.cell i a c hi hc
  cases c with
  | lst ds =>
    obtain ⟨vs, e, r⟩ := q
    exact ⟨vs, h a _ e, Reps.step R (Step.same h) r⟩
/-- a new list -/
theorem Rel.alloc {H : Hp} {m : List Addr} {S : List Cell} (R : Rel H m S) {p : Addr} (hp : H p = none) {vs : List V} {ds : List D} (r : Reps H vs ds) :
    Step m H (m ++ [p]) (upd H p (.lst vs)) ∧ Rel (upd H p (.lst vs)) (m ++ [p]) (S ++ [.lst ds]) ∧ (m ++ [p])[S.length]? = some p := by
  have hs : Same H (upd H p (.lst vs)) := fun a o e => by rw [upd_ne (ne_of_none e hp)]; exact e
  have st : Step m H (m ++ [p]) (upd H p (.lst vs)) := by
    refine ⟨⟨[p], rfl⟩, fun a o _ e => hs a o e, fun a ha hn => ?_⟩
    rcases List.mem_append.mp ha with z | z
    · exact absurd z hn
    · rw [List.mem_singleton.mp z]; exact hp
  refine ⟨st, ⟨by simp [R.len], ?_, fun i a c hi hc => ?_⟩, by rw [← R.len]; simp⟩
  · rw [List.nodup_append]
    refine ⟨R.nd, by simp, fun a ha b hb => ?_⟩
    rw [List.mem_singleton.mp hb]
    intro z
    subst z
    exact R.ninN hp ha
  · have Rg := R.grow hs
    by_cases hlt : i < m.length
    · rw [List.getElem?_append_left hlt] at hi
      rw [List.getElem?_append_left (by rw [← R.len]; exact hlt)] at hc
      exact Rg.cell i a c hi hc
    · have hi2 : i = m.length := by
        have := (List.getElem?_eq_some_iff.mp hi).1
        simp at this
        omega
      subst hi2
      simp at hi
      rw [R.len] at hc
      simp at hc
      subst hi hc
      exact ⟨vs, upd_same, Reps.step R (Step.same hs) r⟩
/-- a list is written -/
theorem Rel.write {H : Hp} {m : List Addr} {S : List Cell} (R : Rel H m S) {i : Nat} {p : Addr} (hi : m[i]? = some p) {vs : List V} {ds : List D} (r : Reps H vs ds) :
    Step m H m (upd H p (.lst vs)) ∧ Rel (upd H p (.lst vs)) m (S.set i (.lst ds)) := by
  have hm : p ∈ m := List.mem_of_getElem? hi
  have st : Step m H m (upd H p (.lst vs)) := ⟨⟨[], by simp⟩, fun a o ha e => by rw [upd_ne (fun z => ha (by rw [z]; exact hm))]; exact e, fun _ a b => absurd a b⟩
  refine ⟨st, ⟨by simp [R.len], R.nd, fun j a c hj hc => ?_⟩⟩
  have hil : i < S.length := by rw [← R.len]; exact (List.getElem?_eq_some_iff.mp hi).1
  by_cases e : j = i
  · subst e
    rw [hi] at hj
    cases hj
    rw [List.getElem?_set_self hil] at hc
    cases hc
    exact ⟨vs, upd_same, Reps.step R st r⟩
  · rw [List.getElem?_set_ne (Ne.symm e)] at hc
    have ne : a ≠ p := fun z => by
      subst z
      obtain ⟨h1, e1⟩ := List.getElem?_eq_some_iff.mp hj
      obtain ⟨h2, e2⟩ := List.getElem?_eq_some_iff.mp hi
      exact e ((List.getElem_inj R.nd).mp (e1.trans e2.symm))
    have q := R.cell j a c hj hc
    cases c with
    | lst es =>
      obtain ⟨us, e', r'⟩ := q
      exact ⟨us, by rw [upd_ne ne]; exact e', Reps.step R st r'⟩

/-! ### names -/
abbrev Slots := List (Option W)
structure SlotsOk (K : PySem.W.Frag) (m : List Addr) (H : Hp) (σc : L2.St) (σ : Slots) : Prop where
  len : σc.length = σ.length
  get : ∀ (i : Nat) w, σ[i]? = some (some w) → ∃ v, σc[i]? = some (some v) ∧ RepW K m H v w
theorem SlotsOk.step {K : PySem.W.Frag} {H H' : Hp} {m m' : List Addr} {S : List Cell} {σc : L2.St} {σ : Slots} (R : Rel H m S) (s : Step m H m' H') (h : SlotsOk K m H σc σ) : SlotsOk K m' H' σc σ :=
  ⟨h.len, fun i w e => let ⟨v, e', r⟩ := h.get i w e; ⟨v, e', RepW.step R s r⟩⟩
theorem SlotsOk.set {K : PySem.W.Frag} {H : Hp} {m : List Addr} {σc : L2.St} {σ : Slots} (h : SlotsOk K m H σc σ) (i : Nat) {v : V} {w : W} (r : RepW K m H v w) : SlotsOk K m H (σc.set i (some v)) (σ.set i (some w)) := by
  refine ⟨by simp [h.len], fun j x e => ?_⟩
  by_cases hj : j = i
  · subst hj
    have hl : j < σ.length := by
      have := (List.getElem?_eq_some_iff.mp e).1
      simpa using this
    rw [List.getElem?_set_self hl] at e
    cases e
    exact ⟨v, List.getElem?_set_self (by rw [h.len]; exact hl), r⟩
  · rw [List.getElem?_set_ne (Ne.symm hj)] at e
    obtain ⟨v', e', r'⟩ := h.get j x e
    exact ⟨v', by rw [List.getElem?_set_ne (Ne.symm hj)]; exact e', r'⟩
theorem SlotsOk.unset {K : PySem.W.Frag} {H : Hp} {m : List Addr} {σc : L2.St} {σ : Slots} (h : SlotsOk K m H σc σ) (i : Nat) : SlotsOk K m H (σc.set i none) (σ.set i none) := by
  refine ⟨by simp [h.len], fun j x e => ?_⟩
  by_cases hj : j = i
  · subst hj
    have hl : j < σ.length := by
      have := (List.getElem?_eq_some_iff.mp e).1
      simpa using this
    rw [List.getElem?_set_self hl] at e
    cases e
  · rw [List.getElem?_set_ne (Ne.symm hj)] at e
    obtain ⟨v', e', r'⟩ := h.get j x e
    exact ⟨v', by rw [List.getElem?_set_ne (Ne.symm hj)]; exact e', r'⟩

/-! ### what the pieces of a def do -/
abbrev Store := List Cell
abbrev Fn := List W → Store → Option (W × Store)
abbrev EvE := Slots → Store → Option (W × Store)
abbrev EvT := Slots → Store → Option (Bool × Store)
abbrev EvA := Slots → Store → Option (List W × Store)
inductive Fl where
  | nx (σ : Slots) | rt (w : W) | bk (σ : Slots) | ct (σ : Slots)
abbrev EvS := Slots → Store → Option (Fl × Store)

def SdE (K : PySem.W.Frag) (t : TE) (f : EvE) : Prop := ∀ (m : List Addr) (S : Store) (H : Hp) (σc : L2.St) (σ : Slots) (w : W) (S' : Store), Rel H m S → SlotsOk K m H σc σ → f σ S = some (w, S') →
  ∀ Q : VK, (∀ v m' H', Step m H m' H' → Rel H' m' S' → RepW K m' H' v w → Q v H') → t σc H Q
def SdT (K : PySem.W.Frag) (t : TT) (f : EvT) : Prop := ∀ (m : List Addr) (S : Store) (H : Hp) (σc : L2.St) (σ : Slots) (b : Bool) (S' : Store), Rel H m S → SlotsOk K m H σc σ → f σ S = some (b, S') →
  ∀ Q : Bool → Hp → Prop, (∀ m' H', Step m H m' H' → Rel H' m' S' → Q b H') → t σc H Q
def SdA (K : PySem.W.Frag) (t : TA) (f : EvA) : Prop := ∀ (m : List Addr) (S : Store) (H : Hp) (σc : L2.St) (σ : Slots) (ws : List W) (S' : Store), Rel H m S → SlotsOk K m H σc σ → f σ S = some (ws, S') →
  ∀ Q : List V → Hp → Prop, (∀ vs m' H', Step m H m' H' → Rel H' m' S' → RepWs K m' H' vs ws → Q vs H') → t σc H Q
def FlOk (K : PySem.W.Frag) (m : List Addr) (H : Hp) (S' : Store) (D : Ends) : Fl → Prop
  | .nx σ' => ∀ σc' m' H', Step m H m' H' → Rel H' m' S' → SlotsOk K m' H' σc' σ' → D.nx σc' H'
  | .rt w => ∀ v m' H', Step m H m' H' → Rel H' m' S' → RepW K m' H' v w → D.rt v H'
  | .bk σ' => ∀ σc' m' H', Step m H m' H' → Rel H' m' S' → SlotsOk K m' H' σc' σ' → D.bk σc' H'
  | .ct σ' => ∀ σc' m' H', Step m H m' H' → Rel H' m' S' → SlotsOk K m' H' σc' σ' → D.ct σc' H'
def SdS (K : PySem.W.Frag) (t : TS) (f : EvS) : Prop := ∀ (m : List Addr) (S : Store) (H : Hp) (σc : L2.St) (σ : Slots) (fl : Fl) (S' : Store), Rel H m S → SlotsOk K m H σc σ → f σ S = some (fl, S') →
  ∀ D : Ends, FlOk K m H S' D fl → t D σc H
theorem FlOk.back {K : PySem.W.Frag} {m m1 : List Addr} {H H1 : Hp} {S' : Store} {D : Ends} (s : Step m H m1 H1) : ∀ {fl : Fl}, FlOk K m H S' D fl → FlOk K m1 H1 S' D fl
  | .nx _, h => fun σc' m' H' s' => h σc' m' H' (s.trans s')
  | .rt _, h => fun σc' m' H' s' => h σc' m' H' (s.trans s')
  | .bk _, h => fun σc' m' H' s' => h σc' m' H' (s.trans s')
  | .ct _, h => fun σc' m' H' s' => h σc' m' H' (s.trans s')

/-- an expression, its rule, what it does -/
def PX (X : Cx) (e : Expr) (f : EvE) : Prop := ∃ t, PE X e t ∧ SdE X.K t f
def PXT (X : Cx) (e : Expr) (f : EvT) : Prop := ∃ t, PT X e t ∧ SdT X.K t f
def PXW (X : Cx) (e : Expr) (f : EvT) : Prop := ∃ t, PW X e t ∧ SdT X.K t f
def PXA (X : Cx) (es : List Expr) (f : EvA) : Prop := ∃ t, PA X es t ∧ SdA X.K t f
def PXS (X : Cx) (s : Stmt) (f : EvS) : Prop := ∃ t, PS X s t ∧ SdS X.K t f
def PXB (X : Cx) (ss : List Stmt) (f : EvS) : Prop := ∃ t, PSs X ss t ∧ SdS X.K t f

end Fw
namespace Fw
open PySem PySem.Spec PyProof.Rows L2

section
variable {X : Cx} {K : PySem.W.Frag} {pos : Pos}

/-! ### names, constants -/
def eSlot (i : Nat) : EvE := fun σ S => (σ[i]?).bind fun o => o.map fun w => (w, S)
theorem sd_slot (i : Nat) : SdE K (tVar i) (eSlot i) := by
  intro m S H σc σ w S' R Z h Q q
  unfold eSlot at h
  cases e : σ[i]? with
  | none => rw [e] at h; cases h
  | some o =>
    cases o with
    | none => rw [e] at h; cases h
    | some u =>
      rw [e] at h
      cases h
      obtain ⟨v, e', r⟩ := Z.get i _ e
      exact ⟨v, e', q v m H (Step.refl m H) R r⟩
theorem px_slot (i : Nat) {x : Str} (hN : X.N[i]? = some x := by rfl) (hv : Vis X.env.scope x := by first | exact Or.inl rfl | exact Or.inr (Or.inl rfl) | exact Or.inr (Or.inr rfl)) (hd : (x == ("__debug__" : Str)) = false := by decide)
    (hcd : (x == ("__classdict__" : Str)) = false := by decide) : PX X (.Name x pos) (eSlot i) := ⟨_, pe_var hN hv hd hcd, sd_slot i⟩
def eC (d : D) : EvE := fun _ S => some (.d d, S)
theorem sd_c {v : V} {d : D} (r : ∀ H, Rep H v d) : SdE K (tC v) (eC d) := by
  intro m S H σc σ w S' R Z h Q q
  cases h
  exact q v m H (Step.refl m H) R (r H)
theorem px_int {i : Int} {j : Nat} : PX X (.Constant (.int i) j pos) (eC (.int i)) := ⟨_, pe_int, sd_c fun _ => rfl⟩
theorem px_bl {i : Bool} {j : Nat} : PX X (.Constant (.bool i) j pos) (eC (.bl i)) := ⟨_, pe_bl, sd_c fun _ => rfl⟩
theorem px_non {j : Nat} : PX X (.Constant .none j pos) (eC .non) := ⟨_, pe_non, sd_c fun _ => rfl⟩
theorem px_str {s : Str} {j : Nat} (h : PyData.strOk s = true := by decide +kernel) : PX X (.Constant (.str s) j pos) (eC (.str s)) := ⟨_, pe_str, sd_c fun _ => ⟨rfl, h⟩⟩

/-! ### arguments -/
def aNil : EvA := fun _ S => some ([], S)
def aCons (f : EvE) (g : EvA) : EvA := fun σ S => (f σ S).bind fun p => (g σ p.2).bind fun q => some (p.1 :: q.1, q.2)
theorem sda_nil : SdA K tNil aNil := by
  intro m S H σc σ ws S' R Z h Q q
  cases h
  exact q [] m H (Step.refl m H) R rfl
theorem sda_cons {ta : TE} {tr : TA} {f : EvE} {g : EvA} (ha : SdE K ta f) (hr : SdA K tr g) : SdA K (tCons ta tr) (aCons f g) := by
  intro m S H σc σ ws S' R Z h Q q
  unfold aCons at h
  obtain ⟨⟨w1, S1⟩, h1, h⟩ := Option.bind_eq_some_iff.mp h
  obtain ⟨⟨w2, S2⟩, h2, h⟩ := Option.bind_eq_some_iff.mp h
  cases h
  refine ha m S H σc σ w1 S1 R Z h1 _ fun v m1 H1 s1 R1 r1 => ?_
  refine hr m1 S1 H1 σc σ w2 S2 R1 (Z.step R s1) h2 _ fun vs m2 H2 s2 R2 r2 => ?_
  exact q _ m2 H2 (s1.trans s2) R2 ⟨v, vs, rfl, RepW.step R1 s2 r1, r2⟩
/-- with how many there are -/
def PXL (X : Cx) (es : List Expr) (f : EvA) : Prop := PXA X es f ∧ ∀ σ S ws S', f σ S = some (ws, S') → ws.length = es.length
theorem pxa_nil : PXL X [] aNil := ⟨⟨_, pa_nil, sda_nil⟩, fun _ _ _ _ h => by cases h; rfl⟩
theorem pxa_cons {e : Expr} {es : List Expr} {f : EvE} {g : EvA} (ha : PX X e f) (hr : PXL X es g) (hs : starEach (e :: es) X.env = (false, eval e X.env) :: starEach es X.env := by rfl) : PXL X (e :: es) (aCons f g) := by
  obtain ⟨ta, p1, s1⟩ := ha
  obtain ⟨⟨tr, p2, s2⟩, hl⟩ := hr
  refine ⟨⟨_, pa_cons p1 p2 hs, sda_cons s1 s2⟩, fun σ S ws S' h => ?_⟩
  unfold aCons at h
  obtain ⟨⟨w1, S1⟩, h1, h⟩ := Option.bind_eq_some_iff.mp h
  obtain ⟨⟨w2, S2⟩, h2, h⟩ := Option.bind_eq_some_iff.mp h
  cases h
  simp [hl _ _ _ _ h2]

def allD : List W → Option (List D)
  | [] => some []
  | .d x :: r => (allD r).map (x :: ·)
  | _ :: _ => none
def allS : List W → Option (List (Sum D Nat))
  | [] => some []
  | .d x :: r => (allS r).map (.inl x :: ·)
  | .loc n :: r => (allS r).map (.inr n :: ·)
  | _ :: _ => none
def mkTup (ws : List W) : Option W := match allD ws with
  | some ds => some (.d (.tup ds))
  | none => (allS ws).map .tp
theorem reps_of {m : List Addr} {H : Hp} : ∀ {ws : List W} {ds : List D} {vs : List V}, allD ws = some ds → RepWs K m H vs ws → Reps H vs ds
  | [], ds, vs, h, r => by cases h; exact r
  | .d x :: ws, ds, vs, h, ⟨v, r, e, h1, h2⟩ => by
    obtain ⟨es, h', e'⟩ := Option.map_eq_some_iff.mp h
    subst e'
    exact ⟨v, r, e, h1, reps_of h' h2⟩
  | .scr _ :: _, _, _, h, _ => by cases h
  | .loc _ :: _, _, _, h, _ => by cases h
  | .tp _ :: _, _, _, h, _ => by cases h
theorem repSs_of {m : List Addr} {H : Hp} : ∀ {ws : List W} {ds : List (Sum D Nat)} {vs : List V}, allS ws = some ds → RepWs K m H vs ws → RepSs m H vs ds
  | [], ds, vs, h, r => by cases h; exact r
  | .d x :: ws, ds, vs, h, ⟨v, r, e, h1, h2⟩ => by
    obtain ⟨es, h', e'⟩ := Option.map_eq_some_iff.mp h
    subst e'
    exact ⟨v, r, e, h1, repSs_of h' h2⟩
  | .loc x :: ws, ds, vs, h, ⟨v, r, e, h1, h2⟩ => by
    obtain ⟨es, h', e'⟩ := Option.map_eq_some_iff.mp h
    subst e'
    exact ⟨v, r, e, h1, repSs_of h' h2⟩
  | .scr _ :: _, _, _, h, _ => by cases h
  | .tp _ :: _, _, _, h, _ => by cases h
def eTup (g : EvA) : EvE := fun σ S => (g σ S).bind fun p => (mkTup p.1).map fun w => (w, p.2)
def eLst (g : EvA) : EvE := fun σ S => (g σ S).bind fun p => (allD p.1).map fun ds => (.loc p.2.length, p.2 ++ [.lst ds])
theorem new_same {H : Hp} {p : Addr} (h : H p = none) (o : HO) : Same H (upd H p o) := fun b u q => by rw [upd_ne (ne_of_none q h)]; exact q
theorem px_tup {es : List Expr} {k : Nat} {g : EvA} (h : PXL X es g) (hl : es.length ≤ 1000 := by decide) : PX X (.Tuple es k pos) (eTup g) := by
  obtain ⟨⟨t, p, sd⟩, len⟩ := h
  refine ⟨_, pe_tup p, ?_⟩
  intro m S H σc σ w S' R Z h Q q
  unfold eTup at h
  obtain ⟨⟨ws, S1⟩, h1, h⟩ := Option.bind_eq_some_iff.mp h
  obtain ⟨w', h2, h⟩ := Option.map_eq_some_iff.mp h
  cases h
  refine sd m S H σc σ ws S1 R Z h1 _ fun vs m1 H1 s1 R1 r1 => ?_
  refine ⟨?_, fun a ha => ?_⟩
  · have e1 := r1.length
    have e2 := len _ _ _ _ h1
    rw [e1, e2, sizeLine_eq]
    omega
  · have sm := new_same ha (.tup vs)
    have st := Step.same (m := m1) sm
    refine q _ m1 _ (s1.trans st) (R1.grow sm) ?_
    unfold mkTup at h2
    split at h2
    · rename_i ds hd
      cases h2
      exact ⟨a, vs, rfl, upd_same, Reps.step R1 st (reps_of hd r1)⟩
    · obtain ⟨ss, hs, e⟩ := Option.map_eq_some_iff.mp h2
      subst e
      exact ⟨a, vs, rfl, upd_same, RepSs.step R1 st (repSs_of hs r1)⟩
theorem px_lst {es : List Expr} {g : EvA} (h : PXL X es g) (hl : es.length ≤ 1000 := by decide) : PX X (.List es pos) (eLst g) := by
  obtain ⟨⟨t, p, sd⟩, len⟩ := h
  refine ⟨_, pe_lst p, ?_⟩
  intro m S H σc σ w S' R Z h Q q
  unfold eLst at h
  obtain ⟨⟨ws, S1⟩, h1, h⟩ := Option.bind_eq_some_iff.mp h
  obtain ⟨ds, h2, h⟩ := Option.map_eq_some_iff.mp h
  cases h
  refine sd m S H σc σ ws S1 R Z h1 _ fun vs m1 H1 s1 R1 r1 => ?_
  refine ⟨?_, fun a ha => ?_⟩
  · have e1 := r1.length
    have e2 := len _ _ _ _ h1
    rw [e1, e2, sizeLine_eq]
    omega
  · obtain ⟨st, R2, e⟩ := R1.alloc ha (reps_of h2 r1)
    exact q _ _ _ (s1.trans st) R2 ⟨a, e, rfl⟩

/-! ### operators by values -/
abbrev Op2 := W → W → Store → Option (W × Store)
def OpS (K : PySem.W.Frag) (r : R2) (op : Op2) : Prop := ∀ (m : List Addr) (S : Store) (H : Hp) (vx vy : V) (x y w : W) (S' : Store), Rel H m S → RepW K m H vx x → RepW K m H vy y → op x y S = some (w, S') →
  ∀ Q : VK, (∀ v m' H', Step m H m' H' → Rel H' m' S' → RepW K m' H' v w → Q v H') → r vx vy H Q
def eBin (op : Op2) (f g : EvE) : EvE := fun σ S => (f σ S).bind fun p => (g σ p.2).bind fun q => op p.1 q.1 q.2
theorem sd_bin {r : R2} {op : Op2} {ta tb : TE} {f g : EvE} (ho : OpS K r op) (ha : SdE K ta f) (hb : SdE K tb g) : SdE K (tOp r ta tb) (eBin op f g) := by
  intro m S H σc σ w S' R Z h Q q
  unfold eBin at h
  obtain ⟨⟨w1, S1⟩, h1, h⟩ := Option.bind_eq_some_iff.mp h
  obtain ⟨⟨w2, S2⟩, h2, h⟩ := Option.bind_eq_some_iff.mp h
  refine ha m S H σc σ w1 S1 R Z h1 _ fun v m1 H1 s1 R1 r1 => ?_
  refine hb m1 S1 H1 σc σ w2 S2 R1 (Z.step R s1) h2 _ fun u m2 H2 s2 R2 r2 => ?_
  refine ho m2 S2 H2 v u w1 w2 w S' R2 (RepW.step R1 s2 r1) r2 h Q fun v3 m3 H3 s3 R3 r3 => ?_
  exact q v3 m3 H3 ((s1.trans s2).trans s3) R3 r3
theorem px_bin {o : Operator} {r : R2} {op : Op2} {a b : Expr} {f g : EvE} (ho : OpR X (binaryOp o) r) (hs : OpS X.K r op) (ha : PX X a f) (hb : PX X b g) : PX X (.BinOp a o b pos) (eBin op f g) := by
  obtain ⟨ta, p1, s1⟩ := ha
  obtain ⟨tb, p2, s2⟩ := hb
  exact ⟨_, pe_op ho p1 p2, sd_bin hs s1 s2⟩
theorem px_cmp {o : CmpOp} {r : R2} {op : Op2} {a b : Expr} {f g : EvE} (ho : OpR X (compareOp o) r) (hs : OpS X.K r op) (ha : PX X a f) (hb : PX X b g) (hm : behindInMarks o b = false := by rfl) : PX X (.Compare a [o] [b] pos) (eBin op f g) := by
  obtain ⟨ta, p1, s1⟩ := ha
  obtain ⟨tb, p2, s2⟩ := hb
  exact ⟨_, pe_cmpR ho p1 p2 hm, sd_bin hs s1 s2⟩
theorem px_ix {r : R2} {op : Op2} {a b : Expr} {f g : EvE} (ho : IxR X r) (hs : OpS X.K r op) (ha : PX X a f) (hb : PX X b g) (hp : PlainIx b := by exact fun _ _ => rfl) : PX X (.Subscript a b pos) (eBin op f g) := by
  obtain ⟨ta, p1, s1⟩ := ha
  obtain ⟨tb, p2, s2⟩ := hb
  exact ⟨_, pe_ix ho p1 p2 hp, sd_bin hs s1 s2⟩

/-! ### tests -/
def tV (f : EvE) : EvT := fun σ S => (f σ S).bind fun p => match p.1 with | .d (.bl b) => some (b, p.2) | _ => none
theorem sdt_val {te : TE} {f : EvE} (h : SdE K te f) : SdT K (tB te) (tV f) := by
  intro m S H σc σ b S' R Z h0 Q q
  unfold tV at h0
  obtain ⟨⟨w1, S1⟩, h1, h2⟩ := Option.bind_eq_some_iff.mp h0
  refine h m S H σc σ w1 S1 R Z h1 _ fun v m1 H1 s1 R1 r1 => ?_
  dsimp only at h2
  split at h2
  · cases h2
    exact ⟨_, r1, q m1 H1 s1 R1⟩
  · cases h2
/-- a comparison as a test -/
theorem pt_cmpV {o : CmpOp} {r : R2} {op : Op2} {a b : Expr} {f g : EvE} (ho : OpR X (compareOp o) r) (hs : OpS X.K r op) (ha : PX X a f) (hb : PX X b g) (hm : behindInMarks o b = false := by rfl) : PXT X (.Compare a [o] [b] pos) (tV (eBin op f g)) := by
  obtain ⟨ta, p1, s1⟩ := ha
  obtain ⟨tb, p2, s2⟩ := hb
  refine ⟨_, pt_cmpR ho p1 p2 hm, ?_⟩
  exact sdt_val (sd_bin hs s1 s2)
theorem pt_v {e : Expr} {f : EvE} (h : PX X e f) (he : ∀ whole, isTrue e X.env whole = (do let v ← whole; standAt e.pos; holding [v] (truthy v)) := by intro _; rfl) : PXT X e (tV f) := by
  obtain ⟨t, p, s⟩ := h
  exact ⟨_, pt_val p he, sdt_val s⟩
def tAndF (f g : EvT) : EvT := fun σ S => (f σ S).bind fun p => if p.1 = true then g σ p.2 else some (false, p.2)
def tOrF (f g : EvT) : EvT := fun σ S => (f σ S).bind fun p => if p.1 = true then some (true, p.2) else g σ p.2
def tNotF (f : EvT) : EvT := fun σ S => (f σ S).map fun p => (!p.1, p.2)
theorem sdt_and {ta tb : TT} {f g : EvT} (ha : SdT K ta f) (hb : SdT K tb g) : SdT K (tAnd ta tb) (tAndF f g) := by
  intro m S H σc σ b S' R Z h Q q
  unfold tAndF at h
  obtain ⟨⟨b1, S1⟩, h1, h⟩ := Option.bind_eq_some_iff.mp h
  refine ha m S H σc σ b1 S1 R Z h1 _ fun m1 H1 s1 R1 => ?_
  cases b1 with
  | true =>
    refine iteT (hb m1 S1 H1 σc σ b S' R1 (Z.step R s1) h _ fun m2 H2 s2 R2 => q m2 H2 (s1.trans s2) R2)
  | false =>
    cases h
    exact iteF (q m1 H1 s1 R1)
theorem sdt_or {ta tb : TT} {f g : EvT} (ha : SdT K ta f) (hb : SdT K tb g) : SdT K (tOr ta tb) (tOrF f g) := by
  intro m S H σc σ b S' R Z h Q q
  unfold tOrF at h
  obtain ⟨⟨b1, S1⟩, h1, h⟩ := Option.bind_eq_some_iff.mp h
  refine ha m S H σc σ b1 S1 R Z h1 _ fun m1 H1 s1 R1 => ?_
  cases b1 with
  | false =>
    refine iteF (hb m1 S1 H1 σc σ b S' R1 (Z.step R s1) h _ fun m2 H2 s2 R2 => q m2 H2 (s1.trans s2) R2)
  | true =>
    cases h
    exact iteT (q m1 H1 s1 R1)
theorem sdt_not {ta : TT} {f : EvT} (ha : SdT K ta f) : SdT K (tNot ta) (tNotF f) := by
  intro m S H σc σ b S' R Z h Q q
  unfold tNotF at h
  obtain ⟨⟨b1, S1⟩, h1, h⟩ := Option.map_eq_some_iff.mp h
  cases h
  exact ha m S H σc σ b1 S1 R Z h1 _ fun m1 H1 s1 R1 => q m1 H1 s1 R1
variable {a b : Expr} {rest : List Expr} {f g : EvT}
theorem pw_a1 (h : PXT X a f) : PXW X (.BoolOp .And [a] pos) f := let ⟨_, p, s⟩ := h; ⟨_, pw_and1 p, s⟩
theorem pw_o1 (h : PXT X a f) : PXW X (.BoolOp .Or [a] pos) f := let ⟨_, p, s⟩ := h; ⟨_, pw_or1 p, s⟩
theorem pw_a (h : PXT X a f) (hr : PXW X (.BoolOp .And (b :: rest) pos) g) : PXW X (.BoolOp .And (a :: b :: rest) pos) (tAndF f g) := let ⟨_, p, s⟩ := h; let ⟨_, p', s'⟩ := hr; ⟨_, pw_and p p', sdt_and s s'⟩
theorem pw_o (h : PXT X a f) (hr : PXW X (.BoolOp .Or (b :: rest) pos) g) : PXW X (.BoolOp .Or (a :: b :: rest) pos) (tOrF f g) := let ⟨_, p, s⟩ := h; let ⟨_, p', s'⟩ := hr; ⟨_, pw_or p p', sdt_or s s'⟩
theorem pt_w (h : PXW X a f) : PXT X a f := let ⟨_, p, s⟩ := h; ⟨_, p.pt, s⟩
theorem pt_n (h : PXT X a f) : PXT X (.UnaryOp .Not a pos) (tNotF f) := let ⟨_, p, s⟩ := h; ⟨_, pt_not p, sdt_not s⟩
end

section
variable {X : Cx} {K : PySem.W.Frag} {pos : Pos} {a b : Expr} {rest : List Expr} {f g : EvE}
/-- and, or, not as values -/
def eAnd (f g : EvE) : EvE := fun σ S => (f σ S).bind fun p => match p.1 with | .d (.bl true) => g σ p.2 | .d (.bl false) => some (.d (.bl false), p.2) | _ => none
def eOr (f g : EvE) : EvE := fun σ S => (f σ S).bind fun p => match p.1 with | .d (.bl false) => g σ p.2 | .d (.bl true) => some (.d (.bl true), p.2) | _ => none
def eNot (f : EvE) : EvE := fun σ S => (f σ S).bind fun p => match p.1 with | .d (.bl c) => some (.d (.bl (!c)), p.2) | _ => none
theorem px_one {op : BoolOp} (h : PX X a f) : PX X (.BoolOp op [a] pos) f := let ⟨_, p, s⟩ := h; ⟨_, pe_one p, s⟩
theorem px_and (ha : PX X a f) (hb : PX X (.BoolOp .And (b :: rest) pos) g) : PX X (.BoolOp .And (a :: b :: rest) pos) (eAnd f g) := by
  obtain ⟨ta, p1, s1⟩ := ha
  obtain ⟨tb, p2, s2⟩ := hb
  refine ⟨_, pe_and p1 p2, ?_⟩
  intro m S H σc σ w S' R Z h Q q
  unfold eAnd at h
  obtain ⟨⟨w1, S1⟩, h1, h⟩ := Option.bind_eq_some_iff.mp h
  refine s1 m S H σc σ w1 S1 R Z h1 _ fun v m1 H1 st1 R1 r1 => ?_
  dsimp only at h
  split at h
  · exact ⟨true, r1, iteT (s2 m1 S1 H1 σc σ w S' R1 (Z.step R st1) h _ fun v2 m2 H2 st2 R2 r2 => q v2 m2 H2 (st1.trans st2) R2 r2)⟩
  · cases h
    exact ⟨false, r1, iteF (q _ m1 H1 st1 R1 rfl)⟩
  · cases h
theorem px_or (ha : PX X a f) (hb : PX X (.BoolOp .Or (b :: rest) pos) g) : PX X (.BoolOp .Or (a :: b :: rest) pos) (eOr f g) := by
  obtain ⟨ta, p1, s1⟩ := ha
  obtain ⟨tb, p2, s2⟩ := hb
  refine ⟨_, pe_or p1 p2, ?_⟩
  intro m S H σc σ w S' R Z h Q q
  unfold eOr at h
  obtain ⟨⟨w1, S1⟩, h1, h⟩ := Option.bind_eq_some_iff.mp h
  refine s1 m S H σc σ w1 S1 R Z h1 _ fun v m1 H1 st1 R1 r1 => ?_
  dsimp only at h
  split at h
  · exact ⟨false, r1, iteF (s2 m1 S1 H1 σc σ w S' R1 (Z.step R st1) h _ fun v2 m2 H2 st2 R2 r2 => q v2 m2 H2 (st1.trans st2) R2 r2)⟩
  · cases h
    exact ⟨true, r1, iteT (q _ m1 H1 st1 R1 rfl)⟩
  · cases h
theorem px_not (ha : PX X a f) : PX X (.UnaryOp .Not a pos) (eNot f) := by
  obtain ⟨ta, p1, s1⟩ := ha
  refine ⟨_, pe_not p1, ?_⟩
  intro m S H σc σ w S' R Z h Q q
  unfold eNot at h
  obtain ⟨⟨w1, S1⟩, h1, h⟩ := Option.bind_eq_some_iff.mp h
  refine s1 m S H σc σ w1 S1 R Z h1 _ fun v m1 H1 st1 R1 r1 => ?_
  dsimp only at h
  split at h
  · cases h
    exact ⟨_, r1, q _ m1 H1 st1 R1 rfl⟩
  · cases h
end

/-! ### statements -/
section
variable {X : Cx} {K : PySem.W.Frag} {pos : Pos} {st : Stmt} {ss : List Stmt}
def sNil : EvS := fun σ S => some (.nx σ, S)
def sSeq (f g : EvS) : EvS := fun σ S => (f σ S).bind fun p => match p.1 with | .nx σ' => g σ' p.2 | fl => some (fl, p.2)
theorem sds_nil : SdS K tNext sNil := by
  intro m S H σc σ fl S' R Z h D q
  cases h
  exact q σc m H (Step.refl m H) R Z
theorem sds_seq {t u : TS} {f g : EvS} (hf : SdS K t f) (hg : SdS K u g) : SdS K (tSeq t u) (sSeq f g) := by
  intro m S H σc σ fl S' R Z h D q
  unfold sSeq at h
  obtain ⟨⟨fl1, S1⟩, h1, h⟩ := Option.bind_eq_some_iff.mp h
  refine hf m S H σc σ fl1 S1 R Z h1 _ ?_
  cases fl1 with
  | nx σ1 => exact fun σc1 m1 H1 s1 R1 Z1 => hg m1 S1 H1 σc1 σ1 fl S' R1 Z1 h D (q.back s1)
  | rt w => cases h; exact q
  | bk w => cases h; exact q
  | ct w => cases h; exact q
theorem pb_nil : PXB X [] sNil := ⟨_, pss_nil, sds_nil⟩
theorem pb_cons {f g : EvS} (h : PXS X st f) (hr : PXB X ss g) : PXB X (st :: ss) (sSeq f g) := let ⟨_, p, s⟩ := h; let ⟨_, p', s'⟩ := hr; ⟨_, pss_cons p p', sds_seq s s'⟩
theorem pb_one {f : EvS} (h : PXS X st f) : PXB X [st] f := let ⟨_, p, s⟩ := h; ⟨_, pss_one p, s⟩
theorem ps_pas : PXS X (.Pass pos) sNil := ⟨_, ps_pass, sds_nil⟩
def sBrk : EvS := fun σ S => some (.bk σ, S)
def sCnt : EvS := fun σ S => some (.ct σ, S)
theorem ps_brk : PXS X (.Break pos) sBrk := ⟨_, ps_break, fun m S H σc σ fl S' R Z h D q => by cases h; exact q σc m H (Step.refl m H) R Z⟩
theorem ps_cnt : PXS X (.Continue pos) sCnt := ⟨_, ps_continue, fun m S H σc σ fl S' R Z h D q => by cases h; exact q σc m H (Step.refl m H) R Z⟩
variable {e : Expr} {f : EvE}
def sDrop (f : EvE) : EvS := fun σ S => (f σ S).map fun p => (.nx σ, p.2)
theorem ps_e (h : PX X e f) (hs : swapsWith e none pos.line X.env = pure false := by rfl) : PXS X (.Expr e pos) (sDrop f) := by
  obtain ⟨t, p, s⟩ := h
  refine ⟨_, ps_expr p hs, ?_⟩
  intro m S H σc σ fl S' R Z h D q
  unfold sDrop at h
  obtain ⟨⟨w, S1⟩, h1, h⟩ := Option.map_eq_some_iff.mp h
  cases h
  exact s m S H σc σ w S1 R Z h1 _ fun v m1 H1 s1 R1 r1 => q σc m1 H1 s1 R1 (Z.step R s1)
def sRet (f : EvE) : EvS := fun σ S => (f σ S).map fun p => (.rt p.1, p.2)
theorem ps_r (h : PX X e f) : PXS X (.Return (some e) pos) (sRet f) := by
  obtain ⟨t, p, s⟩ := h
  refine ⟨_, ps_ret p, ?_⟩
  intro m S H σc σ fl S' R Z h D q
  unfold sRet at h
  obtain ⟨⟨w, S1⟩, h1, h⟩ := Option.map_eq_some_iff.mp h
  cases h
  exact s m S H σc σ w S1 R Z h1 _ fun v m1 H1 s1 R1 r1 => q v m1 H1 s1 R1 r1
def sIf (c : EvT) (f g : EvS) : EvS := fun σ S => (c σ S).bind fun p => if p.1 = true then f σ p.2 else g σ p.2
theorem ps_i {c : Expr} {x y : List Stmt} {fc : EvT} {fx fy : EvS} (hc : PXT X c fc) (hx : PXB X x fx) (hy : PXB X y fy) : PXS X (.If c x y pos) (sIf fc fx fy) := by
  obtain ⟨tc, pc, sc⟩ := hc
  obtain ⟨tx, px, sx⟩ := hx
  obtain ⟨ty, py, sy⟩ := hy
  refine ⟨_, ps_if pc px py, ?_⟩
  intro m S H σc σ fl S' R Z h D q
  unfold sIf at h
  obtain ⟨⟨d, S1⟩, h1, h⟩ := Option.bind_eq_some_iff.mp h
  refine sc m S H σc σ d S1 R Z h1 _ fun m1 H1 s1 R1 => ?_
  cases d with
  | true => exact iteT (sx m1 S1 H1 σc σ fl S' R1 (Z.step R s1) h D (q.back s1))
  | false => exact iteF (sy m1 S1 H1 σc σ fl S' R1 (Z.step R s1) h D (q.back s1))
def sSet (i : Nat) (f : EvE) : EvS := fun σ S => (f σ S).map fun p => (.nx (σ.set i (some p.1)), p.2)
theorem sds_set {i : Nat} {te : TE} {f : EvE} (s : SdE K te f) : SdS K (tAsg te (gName i)) (sSet i f) := by
  intro m S H σc σ fl S' R Z h D q
  unfold sSet at h
  obtain ⟨⟨w, S1⟩, h1, h⟩ := Option.map_eq_some_iff.mp h
  cases h
  exact s m S H σc σ w S1 R Z h1 _ fun v m1 H1 s1 R1 r1 => q _ m1 H1 s1 R1 ((Z.step R s1).set i r1)
theorem ps_s (i : Nat) {x : Str} {pos' : Pos} (h : PX X e f) (hN : X.N.Nodup) (hi : X.N[i]? = some x := by rfl) (hx : Loc X.env.scope x := by first | exact Or.inl rfl | exact Or.inr rfl) (hs : swapsWith e (some (.Name x pos')) pos.line X.env = pure false := by rfl)
    (hf : X.fn x = true ∨ X.env.scope.names.lookup x = some .local := by first | exact .inl rfl | exact .inr rfl) : PXS X (.Assign [.Name x pos'] e pos) (sSet i f) := by
  obtain ⟨t, p, s⟩ := h
  exact ⟨_, ps_set hN hi hx p hs hf, sds_set s⟩
/-- a, b = e1, e2 -/
def sPar (i j : Nat) (g : EvA) : EvS := fun σ S => (g σ S).bind fun p => match p.1 with | [v, w] => some (.nx ((σ.set i (some v)).set j (some w)), p.2) | _ => none
theorem ps_p (i j : Nat) {x y : Str} {a b : Expr} {g : EvA} {px py pt : Pos} {kt k2 pt2} (hc : X.calm = true) (hN : X.N.Nodup) (ha : PXL X [a, b] g) (hi : X.N[i]? = some x := by rfl) (hj : X.N[j]? = some y := by rfl) (hij : i ≠ j := by decide)
    (hx : X.env.scope.names.lookup x = some .local := by rfl) (hy : X.env.scope.names.lookup y = some .local := by rfl)
    (hw : swappedStores [.Tuple [.Name x px, .Name y py] kt pt] (.Tuple [a, b] k2 pt2) X.env = pure (some [x, y]) := by rfl)
    (hs : swapsWithSole [.Tuple [.Name x px, .Name y py] kt pt] (.Tuple [a, b] k2 pt2) pos.line X.env = pure false := by rfl) :
    PXS X (.Assign [.Tuple [.Name x px, .Name y py] kt pt] (.Tuple [a, b] k2 pt2) pos) (sPar i j g) := by
  obtain ⟨⟨t, p, s⟩, _⟩ := ha
  refine ⟨_, ps_par hc hN hi hj hij hx hy p hw hs, ?_⟩
  intro m S H σc σ fl S' R Z h D q
  unfold sPar at h
  obtain ⟨⟨ws, S1⟩, h1, h⟩ := Option.bind_eq_some_iff.mp h
  refine s m S H σc σ ws S1 R Z h1 _ fun vs m1 H1 s1 R1 r1 => ?_
  dsimp only at h
  split at h
  · cases h
    obtain ⟨v, r, e1, g1, u, r', e2, g2, e3⟩ := r1
    subst e1 e2
    cases (show r' = [] from e3)
    exact ⟨v, u, rfl, q _ m1 H1 s1 R1 (((Z.step R s1).set i g1).set j g2)⟩
  · cases h

/-! ### targets that are tuples of names -/
def bindAll : List Nat → List W → Slots → Option Slots
  | [], [], σ => some σ
  | i :: is, w :: ws, σ => bindAll is ws (σ.set i (some w))
  | _, _, _ => none
/-- the parts of a tuple -/
def parts : W → Option (List W)
  | .d (.tup ds) => some (ds.map .d)
  | .tp ss => some (ss.map fun | .inl d => .d d | .inr n => .loc n)
  | _ => none
theorem repWs_map {m : List Addr} {H : Hp} : ∀ {ds : List D} {vs : List V}, Reps H vs ds → RepWs K m H vs (ds.map W.d)
  | [], _, h => h
  | _ :: _, _, ⟨v, r, e, h1, h2⟩ => ⟨v, r, e, h1, repWs_map h2⟩
theorem repWs_mapS {m : List Addr} {H : Hp} : ∀ {ds : List (Sum D Nat)} {vs : List V}, RepSs m H vs ds → RepWs K m H vs (ds.map fun | .inl d => W.d d | .inr n => W.loc n)
  | [], _, h => h
  | .inl _ :: _, _, ⟨v, r, e, h1, h2⟩ => ⟨v, r, e, h1, repWs_mapS h2⟩
  | .inr _ :: _, _, ⟨v, r, e, h1, h2⟩ => ⟨v, r, e, h1, repWs_mapS h2⟩
/-- the target's reading binds the slots -/
structure PGB (X : Cx) (es : List Expr) (is : List Nat) : Prop where
  ex : ∃ t : TGs, PGs X es t ∧ ∀ (vs : List V) (σ : L2.St) (H : Hp) (Q : L2.St → Hp → Prop), vs.length = is.length → Q ((is.zip vs).foldl (fun σ p => σ.set p.1 (some p.2)) σ) H → t vs σ H Q
theorem pgb_nil : PGB X [] [] := ⟨_, pgs_nil, fun vs σ H Q hl q => by
  cases vs with
  | nil => exact ⟨rfl, q⟩
  | cons v r => cases hl⟩
theorem pgb_cons (i : Nat) {x : Str} {es : List Expr} {is : List Nat} (hr : PGB X es is) (hN : X.N.Nodup) (hi : X.N[i]? = some x := by rfl) (hx : Loc X.env.scope x := by first | exact Or.inl rfl | exact Or.inr rfl) (hf : X.fn x = true ∨ X.env.scope.names.lookup x = some .local := by first | exact .inl rfl | exact .inr rfl)
    (hs : (assignEach (.Name x pos :: es) X.env).map (·.2) = assign (.Name x pos) X.env :: (assignEach es X.env).map (·.2) := by rfl) : PGB X (.Name x pos :: es) (i :: is) := by
  obtain ⟨t, p, s⟩ := hr.ex
  refine ⟨_, pgs_cons (pg_name hN hi hx hf) p hs, fun vs σ H Q hl q => ?_⟩
  cases vs with
  | nil => cases hl
  | cons v r => exact ⟨v, r, rfl, s r _ H Q (by simpa using hl) q⟩
theorem bind_ok {m : List Addr} {H : Hp} : ∀ {is : List Nat} {ws : List W} {vs : List V} {σ σ' : Slots} {σc : L2.St}, bindAll is ws σ = some σ' → RepWs K m H vs ws → SlotsOk K m H σc σ → SlotsOk K m H ((is.zip vs).foldl (fun σ p => σ.set p.1 (some p.2)) σc) σ' ∧ vs.length = is.length
  | [], [], vs, σ, σ', σc, h, r, Z => by cases h; cases (show vs = [] from r); exact ⟨Z, rfl⟩
  | i :: is, w :: ws, vs, σ, σ', σc, h, ⟨v, r, e, h1, h2⟩, Z => by
    subst e
    obtain ⟨Z', l⟩ := bind_ok (is := is) h h2 (Z.set i h1)
    exact ⟨Z', by simp [l]⟩
  | [], _ :: _, _, _, _, _, h, _, _ => by cases h
  | _ :: _, [], _, _, _, _, h, _, _ => by cases h
theorem parts_ok {m : List Addr} {H : Hp} {v : V} {w : W} {ws : List W} (h : parts w = some ws) (r : RepW K m H v w) : ∃ a vs, v = .ref a ∧ H a = some (.tup vs) ∧ RepWs K m H vs ws := by
  cases w with
  | d x =>
    cases x with
    | tup ds =>
      cases h
      obtain ⟨a, vs, e, ho, r⟩ := r
      exact ⟨a, vs, e, ho, repWs_map r⟩
    | _ => cases h
  | tp ss =>
    cases h
    obtain ⟨a, vs, e, ho, r⟩ := r
    exact ⟨a, vs, e, ho, repWs_mapS r⟩
  | _ => cases h
/-- (a, b) = f(..) -/
def sTup (is : List Nat) (f : EvE) : EvS := fun σ S => (f σ S).bind fun p => (parts p.1).bind fun ws => (bindAll is ws σ).map fun σ' => (.nx σ', p.2)
theorem ps_t {es : List Expr} {k : Nat} {is : List Nat} {tpos : Pos} (hc : X.calm = true) (h : PX X e f) (hg : PGB X es is) (hn : (assignEach es X.env).length = is.length := by rfl) (hst : (assignEach es X.env).findIdx? (·.1) = none := by rfl)
    (hs : swapsWithSole [.Tuple es k tpos] e pos.line X.env = pure false := by rfl) (hw : swappedStores [.Tuple es k tpos] e X.env = pure none := by rfl)
    (h1 : (assignEach [.Tuple es k tpos] X.env).map (·.2) = [assign (.Tuple es k tpos) X.env] := by rfl) : PXS X (.Assign [.Tuple es k tpos] e pos) (sTup is f) := by
  obtain ⟨t, p, s⟩ := h
  obtain ⟨tg, pg, sg⟩ := hg.ex
  refine ⟨_, ps_asg p (pg_tup hc pg hn hst) hs hw h1, ?_⟩
  intro m S H σc σ fl S' R Z h D q
  unfold sTup at h
  obtain ⟨⟨w, S1⟩, h1, h⟩ := Option.bind_eq_some_iff.mp h
  obtain ⟨ws, h2, h⟩ := Option.bind_eq_some_iff.mp h
  obtain ⟨σ', h3, h⟩ := Option.map_eq_some_iff.mp h
  cases h
  refine s m S H σc σ w S1 R Z h1 _ fun v m1 H1 s1 R1 r1 => ?_
  obtain ⟨a, vs, e, ho, rw'⟩ := parts_ok h2 r1
  obtain ⟨Z', l⟩ := bind_ok h3 rw' (Z.step R s1)
  exact ⟨a, vs, e, SqT.of ho, l, sg vs σc H1 _ l (q _ m1 H1 s1 R1 Z')⟩
end
end Fw
namespace Fw
open PySem PySem.Spec PyProof.Rows L2

/-! ### calls of defs -/
def spOf (K : PySem.W.Frag) (n : Nat) (F : Fn) : Sp := fun vs H Q _ => vs.length = n ∧ ∃ (m : List Addr) (S : Store) (ws : List W) (w : W) (S' : Store), Rel H m S ∧ RepWs K m H vs ws ∧ F ws S = some (w, S') ∧
  ∀ v m' H', Step m H m' H' → Rel H' m' S' → RepW K m' H' v w → Q v H'
structure CallOk (P : Program) (w : World) (K : PySem.W.Frag) (mg : Str → Option Value) (base : Heap) (k : Nat) (x : Str) (n : Nat) (F : Fn) : Prop where
  ex : ∃ (f : Addr) (fd : FuncData) (ps : List Str), ps.length = n ∧ FnOk P w K mg base CX0 k f fd ps (spOf K n F) ∧ mg x = some (.ref f) ∧ PySem.W.keepIn K (.ref f) = true ∧ Binds K fd ps []
def eCall (F : Fn) (g : EvA) : EvE := fun σ S => (g σ S).bind fun p => F p.1 p.2
section
variable {X : Cx} {K : PySem.W.Frag} {pos : Pos}
theorem px_call {k n : Nat} {x : Str} {F : Fn} {p : Pos} {e : Expr} {es : List Expr} {g : EvA} (C : CallOk X.prog X.w X.K X.mg X.base k x n F) (hr : Room k X.A) (h : PXL X (e :: es) g) (hl : (e :: es).length = n := by rfl) (hg : Gl X x := by rfl)
    (hdb : (x == ("__debug__" : Str)) = false := by decide) (he : starEach (e :: es) X.env = (false, eval e X.env) :: starEach es X.env := by rfl) (hpl : (backTo pos (starEach es X.env)).any (·.1) = false := by rfl) : PX X (.Call (.Name x p) (e :: es) [] pos) (eCall F g) := by
  obtain ⟨f, fd, ps, hps, G, hm, hk, hb⟩ := C.ex
  obtain ⟨⟨t, pa, sd⟩, len⟩ := h
  refine ⟨_, pe_call G hr hg hm hk hb .nil (E := E0) pass0 pa hdb he hpl, ?_⟩
  intro m S H σc σ w S' R Z h Q q
  unfold eCall at h
  obtain ⟨⟨ws, S1⟩, h1, h⟩ := Option.bind_eq_some_iff.mp h
  refine sd m S H σc σ ws S1 R Z h1 _ fun vs m1 H1 s1 R1 r1 => ?_
  rw [List.append_nil]
  refine ⟨by rw [r1.length, len _ _ _ _ h1, hl], m1, S1, ws, w, S', R1, r1, h, fun v m2 H2 s2 R2 r2 => q v m2 H2 (s1.trans s2) R2 r2⟩
end

/-! ### the end of a call: the lists that the callee made are dropped, but those that it hands back -/
def gcS (base : Nat) (S : Store) : List (Sum D Nat) → List Nat → Option (List (Sum D Nat) × List Nat)
  | [], acc => some ([], acc)
  | .inl d :: r, acc => (gcS base S r acc).map fun p => (.inl d :: p.1, p.2)
  | .inr n :: r, acc => if n < base then (gcS base S r acc).map fun p => (.inr n :: p.1, p.2) else
      if n < S.length ∧ n ∉ acc then (gcS base S r (acc ++ [n])).map fun p => (.inr (base + acc.length) :: p.1, p.2) else none
def gc (base : Nat) (w : W) (S : Store) : Option (W × Store) := match w with
  | .d x => some (.d x, S.take base)
  | .scr ns => some (.scr ns, S.take base)
  | .loc n => if n < base then some (.loc n, S.take base) else (S[n]?).map fun c => (.loc base, S.take base ++ [c])
  | .tp ss => (gcS base S ss []).map fun p => (.tp p.1, S.take base ++ p.2.map fun n => S.getD n (.lst []))

theorem rel_sub {H : Hp} {m : List Addr} {S : Store} (R : Rel H m S) {L : List Nat} (nd : L.Nodup) (lt : ∀ n ∈ L, n < m.length) : Rel H (L.map fun n => m.getD n 0) (L.map fun n => S.getD n (.lst [])) := by
  refine ⟨by simp, ?_, fun i a c hi hc => ?_⟩
  · refine List.Pairwise.map _ (R := fun i j => i ∈ L ∧ j ∈ L ∧ i ≠ j) ?_ ?_
    · rintro i j ⟨hi, hj, hij⟩ e
      have l1 := lt i hi
      have l2 := lt j hj
      rw [List.getD_eq_getElem?_getD, List.getD_eq_getElem?_getD, List.getElem?_eq_getElem l1, List.getElem?_eq_getElem l2] at e
      exact hij ((List.getElem_inj R.nd).mp (by simpa using e))
    · rw [List.pairwise_iff_getElem]
      intro i j hi hj hij
      refine ⟨List.getElem_mem hi, List.getElem_mem hj, fun e => ?_⟩
      have := (List.getElem_inj nd).mp e
      omega
  · rw [List.getElem?_map] at hi hc
    cases e : L[i]? with
    | none => rw [e] at hi; cases hi
    | some n =>
      rw [e] at hi hc
      have hn : n < m.length := lt n (List.mem_of_getElem? e)
      have hn2 : n < S.length := by rw [← R.len]; exact hn
      have e1 : m[n]? = some a := by
        have q : m.getD n 0 = a := Option.some.inj hi
        rw [List.getD_eq_getElem?_getD, List.getElem?_eq_getElem hn] at q
        rw [List.getElem?_eq_getElem hn]
        exact congrArg some q
      have e2 : S[n]? = some c := by
        have q : S.getD n (.lst []) = c := Option.some.inj hc
        rw [List.getD_eq_getElem?_getD, List.getElem?_eq_getElem hn2] at q
        rw [List.getElem?_eq_getElem hn2]
        exact congrArg some q
      exact R.cell n a c e1 e2
theorem take_map {α : Type} [Inhabited α] (xs : List α) (d : α) : ∀ n, n ≤ xs.length → (List.range n).map (fun i => xs.getD i d) = xs.take n := fun n hn => by
  apply List.ext_getElem
  · simp; omega
  · intro i h1 h2
    have hi : i < n := by simpa using h1
    have hl : i < xs.length := by omega
    simp [List.getD_eq_getElem?_getD, List.getElem?_eq_getElem hl]
/-- what is left: the caller's lists, and those of acc -/
theorem kept_ok {m0 m : List Addr} {H0 H : Hp} {S : Store} (s : Step m0 H0 m H) (R : Rel H m S) {acc : List Nat} (nd : acc.Nodup) (hb : ∀ n ∈ acc, m0.length ≤ n ∧ n < S.length) :
    Step m0 H0 (m0 ++ acc.map fun n => m.getD n 0) H ∧ Rel H (m0 ++ acc.map fun n => m.getD n 0) (S.take m0.length ++ acc.map fun n => S.getD n (.lst [])) := by
  obtain ⟨nw, e⟩ := s.pre
  have hle : m0.length ≤ m.length := by rw [e]; simp
  have hle2 : m0.length ≤ S.length := by rw [← R.len]; exact hle
  have em : m0 = (List.range m0.length).map fun n => m.getD n 0 := by
    rw [take_map m 0 _ hle, e]
    simp
  have R2 := rel_sub R (L := List.range m0.length ++ acc) (by
    rw [List.nodup_append]
    refine ⟨List.nodup_range, nd, fun a ha b hb' z => ?_⟩
    have h1 := List.mem_range.mp ha
    have h2 := (hb b hb').1
    omega) (fun n hn => by
    rcases List.mem_append.mp hn with z | z
    · have := List.mem_range.mp z
      omega
    · rw [R.len]; exact (hb n z).2)
  rw [List.map_append, List.map_append, take_map S _ _ hle2, ← em] at R2
  refine ⟨⟨⟨_, rfl⟩, s.keep, fun a ha hn => ?_⟩, R2⟩
  rcases List.mem_append.mp ha with z | z
  · exact absurd z hn
  · obtain ⟨n, hn', e'⟩ := List.mem_map.mp z
    have hl : n < m.length := by rw [R.len]; exact (hb n hn').2
    refine s.new a ?_ hn
    rw [← e', List.getD_eq_getElem?_getD, List.getElem?_eq_getElem hl]
    exact List.getElem_mem hl
theorem gcS_ok {base : Nat} {m0 m : List Addr} {H0 H : Hp} {S : Store} (s : Step m0 H0 m H) (R : Rel H m S) (hb : m0.length = base) : ∀ (ss : List (Sum D Nat)) (acc : List Nat) (ss' : List (Sum D Nat)) (acc' : List Nat) (vs : List V),
    gcS base S ss acc = some (ss', acc') → RepSs m H vs ss → acc.Nodup → (∀ n ∈ acc, base ≤ n ∧ n < S.length) →
      (∃ more, acc' = acc ++ more) ∧ acc'.Nodup ∧ (∀ n ∈ acc', base ≤ n ∧ n < S.length) ∧ RepSs (m0 ++ acc'.map fun n => m.getD n 0) H vs ss'
  | [], acc, ss', acc', vs, h, r, nd, ha => by
    cases h
    exact ⟨⟨[], by simp⟩, nd, ha, r⟩
  | .inl d :: ss, acc, ss', acc', vs, h, ⟨v, r, e, h1, h2⟩, nd, ha => by
    unfold gcS at h
    obtain ⟨⟨s1, a1⟩, g, h⟩ := Option.map_eq_some_iff.mp h
    cases h
    obtain ⟨q1, q2, q3, q4⟩ := gcS_ok s R hb ss acc s1 a1 r g h2 nd ha
    exact ⟨q1, q2, q3, v, r, e, h1, q4⟩
  | .inr n :: ss, acc, ss', acc', vs, h, ⟨v, r, e, ⟨a, h1, h1'⟩, h2⟩, nd, ha => by
    obtain ⟨nw, em⟩ := s.pre
    unfold gcS at h
    split at h
    · rename_i hn
      obtain ⟨⟨s1, a1⟩, g, h⟩ := Option.map_eq_some_iff.mp h
      cases h
      obtain ⟨q1, q2, q3, q4⟩ := gcS_ok s R hb ss acc s1 a1 r g h2 nd ha
      refine ⟨q1, q2, q3, v, r, e, ⟨a, ?_, h1'⟩, q4⟩
      rw [List.getElem?_append_left (by omega)]
      rw [em, List.getElem?_append_left (by omega)] at h1
      exact h1
    · rename_i hn
      split at h
      · rename_i hc
        obtain ⟨⟨s1, a1⟩, g, h⟩ := Option.map_eq_some_iff.mp h
        cases h
        obtain ⟨⟨more, q1⟩, q2, q3, q4⟩ := gcS_ok s R hb ss (acc ++ [n]) s1 a1 r g h2 (by
          rw [List.nodup_append]
          refine ⟨nd, by simp, fun x hx y hy z => ?_⟩
          rw [List.mem_singleton.mp hy] at z
          exact hc.2 (z ▸ hx)) (fun x hx => by
          rcases List.mem_append.mp hx with z | z
          · exact ha x z
          · rw [List.mem_singleton.mp z]; exact ⟨by omega, hc.1⟩)
        refine ⟨⟨[n] ++ more, by rw [q1, List.append_assoc]⟩, q2, q3, v, r, e, ⟨a, ?_, h1'⟩, q4⟩
        have hl : n < m.length := by rw [R.len]; exact hc.1
        have ea : m.getD n 0 = a := by
          rw [List.getD_eq_getElem?_getD, h1]
          rfl
        rw [q1, List.getElem?_append_right (by omega)]
        have e3 : base + acc.length - m0.length = acc.length := by omega
        rw [e3, List.map_append, List.map_append]
        rw [List.getElem?_append_left (by simp), List.getElem?_append_right (by simp)]
        simp [h1]
      · cases h
theorem gc_ok {K : PySem.W.Frag} {m0 m : List Addr} {H0 H : Hp} {S S' : Store} {v : V} {w w' : W} (s : Step m0 H0 m H) (R : Rel H m S) (r : RepW K m H v w) (h : gc m0.length w S = some (w', S')) :
    ∃ m', Step m0 H0 m' H ∧ Rel H m' S' ∧ RepW K m' H v w' := by
  obtain ⟨nw, em⟩ := s.pre
  have none_ := kept_ok s R (acc := []) List.nodup_nil (fun _ z => by cases z)
  simp only [List.map_nil, List.append_nil] at none_
  cases w with
  | d x => cases h; exact ⟨m0, none_.1, none_.2, r⟩
  | scr ns => cases h; exact ⟨m0, none_.1, none_.2, r⟩
  | loc n =>
    obtain ⟨a, h1, h1'⟩ := r
    unfold gc at h
    split at h
    · rename_i x y hw; cases hw
    · rename_i x y hw; cases hw
    · rename_i x y hw
      cases hw
      split at h
      · rename_i hn
        cases h
        refine ⟨m0, none_.1, none_.2, a, ?_, h1'⟩
        rw [em, List.getElem?_append_left hn] at h1
        exact h1
      · rename_i hn
        obtain ⟨c, hc, h⟩ := Option.map_eq_some_iff.mp h
        cases h
        have hl : n < S.length := (List.getElem?_eq_some_iff.mp hc).1
        have one := kept_ok s R (acc := [n]) (by simp) (fun x z => by rw [List.mem_singleton.mp z]; omega)
        have ea : m.getD n 0 = a := by rw [List.getD_eq_getElem?_getD, h1]; rfl
        have ec : S.getD n (.lst []) = c := by rw [List.getD_eq_getElem?_getD, hc]; rfl
        simp only [List.map_cons, List.map_nil, ea, ec] at one
        exact ⟨m0 ++ [a], one.1, one.2, a, by simp, h1'⟩
    · rename_i x y hw; cases hw
  | tp ss =>
    obtain ⟨a, vs, e, ho, r⟩ := r
    unfold gc at h
    obtain ⟨⟨s1, a1⟩, g, h⟩ := Option.map_eq_some_iff.mp h
    cases h
    obtain ⟨_, q2, q3, q4⟩ := gcS_ok s R rfl ss [] s1 a1 vs g r List.nodup_nil (fun _ z => by cases z)
    have all := kept_ok s R (acc := a1) q2 q3
    exact ⟨_, all.1, all.2, a, vs, e, ho, q4⟩

/-! ### a def, by its body -/
def runFn (n : Nat) (c : EvS) : Fn := fun ws S => (c (ws.map some ++ List.replicate (n - ws.length) none) S).bind fun p => match p.1 with
  | .rt w => gc S.length w p.2
  | .nx _ => gc S.length (.d .non) p.2
  | _ => none
theorem slots_start {K : PySem.W.Frag} {m : List Addr} {H : Hp} {N : List Str} {vs : List V} {ws : List W} (r : RepWs K m H vs ws) : SlotsOk K m H (L2.start N vs) (ws.map some ++ List.replicate (N.length - ws.length) none) := by
  have hl := r.length
  refine ⟨by simp [L2.start, hl], fun i w e => ?_⟩
  by_cases hi : i < ws.length
  · rw [List.getElem?_append_left (by simpa using hi), List.getElem?_map] at e
    have get : ∀ {vs : List V} {ws : List W} {i : Nat}, RepWs K m H vs ws → ∀ w, ws[i]? = some w → ∃ v, vs[i]? = some v ∧ RepW K m H v w := by
      intro vs ws
      induction ws generalizing vs with
      | nil => intro i _ w e; simp at e
      | cons w0 ws ih =>
        intro i r w e
        obtain ⟨v, r', e1, h1, h2⟩ := r
        subst e1
        cases i with
        | zero => simp only [List.getElem?_cons_zero, Option.some.injEq] at e; subst e; exact ⟨v, by simp, h1⟩
        | succ i =>
          simp only [List.getElem?_cons_succ] at e
          obtain ⟨v', e', r'⟩ := ih h2 w e
          exact ⟨v', by simpa using e', r'⟩
    cases q : ws[i]? with
    | none => rw [q] at e; cases e
    | some w' =>
      rw [q] at e
      cases e
      obtain ⟨v, e', r'⟩ := get r w q
      refine ⟨v, ?_, r'⟩
      unfold L2.start
      rw [List.getElem?_append_left (by simp [hl, hi]), List.getElem?_map, e']
      rfl
  · rw [List.getElem?_append_right (by simpa using hi)] at e
    have := List.getElem?_replicate (a := (none : Option W)) (n := N.length - ws.length) (i := i - (ws.map some).length)
    rw [this] at e
    split at e <;> cases e
theorem fn_sd {P : Program} {w : World} {K : PySem.W.Frag} {mg : Str → Option Value} {base : Heap} {x qual : Str} {st : Stmt} {f : Addr} {fd : FuncData} {N ps : List Str} {k : Nat} {c : EvS} (F : Fun K x qual st f fd) (S : FnScope N ps (defScope st))
    (hbody : ∀ (cdv : Value) (A : Around) (outer : List Env) (s : Shared) (H : Hp) (E : XK), Room k (A.deeper (envOfC qual (defScope st) s.heap.objs.size f cdv)) →
      PXB (cxOf CX0 P w K mg base N qual (defScope st) f cdv A outer s H E).nox (defBody st) c) : FnOk P w K mg base CX0 (k + 1) f fd ps (spOf K ps.length (runFn N.length c)) := by
  refine F.ok S (fun vs H Q E h => h.1) fun cdv A outer s H vs Q E hr h => ?_
  obtain ⟨t, p, sd⟩ := hbody cdv A outer s H E hr
  refine ⟨t, p, ?_⟩
  obtain ⟨_, m, S0, ws, w, S', R, r, h, q⟩ := h
  unfold runFn at h
  obtain ⟨⟨fl, S1⟩, h1, h⟩ := Option.bind_eq_some_iff.mp h
  refine sd m S0 H _ _ fl S1 R (slots_start r) h1 _ ?_
  have hl : m.length = S0.length := R.len
  cases fl with
  | rt w1 =>
    intro v m1 H1 s1 R1 r1
    have h' : gc m.length w1 S1 = some (w, S') := by rw [hl]; exact h
    obtain ⟨m', a, b, c'⟩ := gc_ok s1 R1 r1 h'
    exact q v m' H1 a b c'
  | nx σ1 =>
    intro σc1 m1 H1 s1 R1 Z1
    have h' : gc m.length (.d .non) S1 = some (w, S') := by rw [hl]; exact h
    obtain ⟨m', a, b, c'⟩ := gc_ok (K := K) (v := .non) (w := .d .non) s1 R1 rfl h'
    exact q .non m' H1 a b c'
  | bk σ1 => cases h
  | ct σ1 => cases h

/-! ### targets -/
abbrev Bd := W → Slots → Option Slots
def bName (i : Nat) : Bd := fun w σ => some (σ.set i (some w))
def bTup (is : List Nat) : Bd := fun w σ => (parts w).bind fun ws => bindAll is ws σ
def PGT (X : Cx) (tg : Expr) (b : Bd) : Prop := ∃ t : TG, PG X tg t ∧ ∀ (m : List Addr) (H : Hp) (v : V) (w : W) (σc : L2.St) (σ σ' : Slots), b w σ = some σ' → RepW X.K m H v w → SlotsOk X.K m H σc σ →
  ∀ Q : L2.St → Hp → Prop, (∀ σc', SlotsOk X.K m H σc' σ' → Q σc' H) → t v σc H Q
section
variable {X : Cx} {K : PySem.W.Frag} {pos : Pos}
theorem pg_n (i : Nat) {x : Str} (hN : X.N.Nodup) (hi : X.N[i]? = some x := by rfl) (hx : Loc X.env.scope x := by first | exact Or.inl rfl | exact Or.inr rfl) (hf : X.fn x = true ∨ X.env.scope.names.lookup x = some .local := by first | exact .inl rfl | exact .inr rfl) : PGT X (.Name x pos) (bName i) := by
  refine ⟨_, pg_name hN hi hx hf, fun m H v w σc σ σ' h r Z Q q => ?_⟩
  cases h
  exact q _ (Z.set i r)
theorem pg_t {es : List Expr} {k : Nat} {is : List Nat} (hc : X.calm = true) (hg : PGB X es is) (hn : (assignEach es X.env).length = is.length := by rfl) (hst : (assignEach es X.env).findIdx? (·.1) = none := by rfl) : PGT X (.Tuple es k pos) (bTup is) := by
  obtain ⟨t, p, s⟩ := hg.ex
  refine ⟨_, pg_tup hc p hn hst, fun m H v w σc σ σ' h r Z Q q => ?_⟩
  obtain ⟨ws, h1, h2⟩ := Option.bind_eq_some_iff.mp h
  obtain ⟨a, vs, e, ho, r'⟩ := parts_ok h1 r
  obtain ⟨Z', l⟩ := bind_ok h2 r' Z
  exact ⟨a, vs, e, SqT.of ho, l, s vs σc H _ l (q _ Z')⟩

/-! ### for -/
def loopD (b : Bd) (body : EvS) : List W → EvS
  | [], σ, S => some (.nx σ, S)
  | w :: ws, σ, S => (b w σ).bind fun σ1 => (body σ1 S).bind fun p => match p.1 with
    | .nx σ' => loopD b body ws σ' p.2
    | .ct σ' => loopD b body ws σ' p.2
    | .bk σ' => some (.nx σ', p.2)
    | .rt w => some (.rt w, p.2)
/-- what is walked gives these values one by one, as long as what is tracked outside the store stands -/
structure Gives (K : PySem.W.Frag) (J : It) (m0 : List Addr) (H0 : Hp) (ws : List W) : Prop where
  go : ∀ i m H, i < ws.length → Step m0 H0 m H → J.go i H
  yld : ∀ (i : Nat) (m : List Addr) H x H' S, i < ws.length → Step m0 H0 m H → Rel H m S → J.yld i H x H' → ∃ w, ws[i]? = some w ∧ Step m H m H' ∧ RepW K m H' x w ∧ (Rel H' m S)
  stop : ∀ m H, Step m0 H0 m H → J.stop ws.length H
theorem loop_ok {g : TG} {tb : TS} {b : Bd} {body : EvS} {m0 : List Addr} {H0 : Hp} {J : It} {ws : List W} (G : Gives K J m0 H0 ws)
    (hg : ∀ (m : List Addr) (H : Hp) (v : V) (w : W) (σc : L2.St) (σ σ' : Slots), b w σ = some σ' → RepW K m H v w → SlotsOk K m H σc σ → ∀ Q : L2.St → Hp → Prop, (∀ σc', SlotsOk K m H σc' σ' → Q σc' H) → g v σc H Q)
    (hb : SdS K tb body) {S0 : Store} {σc : L2.St} {σ : Slots} {fl : Fl} {S' : Store} (R : Rel H0 m0 S0) (Z : SlotsOk K m0 H0 σc σ) (h : loopD b body ws σ S0 = some (fl, S')) {D : Ends} (q : FlOk K m0 H0 S' D fl) :
    ∃ Wv : Nat → Nat → L2.St → Hp → Prop, (∃ n, Wv 0 n σc H0) ∧ ∀ i n σ H, Wv i n σ H →
      (J.stop i H ∧ D.nx σ H) ∨ (J.go i H ∧ ∃ N : L2.St → Hp → Prop, (∀ σ' H', N σ' H' → ∃ n', n' < n ∧ Wv (i + 1) n' σ' H') ∧ ∀ x H', J.yld i H x H' → g x σ H' fun σ2 H2 => tb { D with nx := N, ct := N, bk := D.nx } σ2 H2) := by
  refine ⟨fun i n σc H => n = ws.length - i ∧ i ≤ ws.length ∧ ∃ m σ S, Step m0 H0 m H ∧ Rel H m S ∧ SlotsOk K m H σc σ ∧ loopD b body (ws.drop i) σ S = some (fl, S'), ⟨ws.length, by simp, Nat.zero_le _, m0, σ, S0, Step.refl _ _, R, Z, by simpa using h⟩, ?_⟩
  rintro i n σc1 H1 ⟨rfl, hi, m1, σ1, S1, s1, R1, Z1, h1⟩
  by_cases hlt : i < ws.length
  · refine .inr ⟨G.go i m1 H1 hlt s1, fun σc' H' => ws.length - (i + 1) < ws.length - i ∧ (i + 1 ≤ ws.length ∧ ∃ m σ S, Step m0 H0 m H' ∧ Rel H' m S ∧ SlotsOk K m H' σc' σ ∧ loopD b body (ws.drop (i + 1)) σ S = some (fl, S')), fun σ' H' hN => ⟨_, hN.1, rfl, hN.2⟩, fun x H' y => ?_⟩
    obtain ⟨w, hw, s2, r2, R2⟩ := G.yld i m1 H1 x H' S1 hlt s1 R1 y
    have ed : ws.drop i = w :: ws.drop (i + 1) := by
      rw [List.drop_eq_getElem_cons hlt]
      rw [List.getElem?_eq_getElem hlt] at hw
      rw [Option.some.inj hw]
    rw [ed] at h1
    unfold loopD at h1
    obtain ⟨σ2, b1, h1⟩ := Option.bind_eq_some_iff.mp h1
    obtain ⟨⟨fl1, S2⟩, b2, h1⟩ := Option.bind_eq_some_iff.mp h1
    refine hg m1 H' x w σc1 σ1 σ2 b1 r2 (Z1.step R1 s2) _ fun σc2 Z2 => ?_
    refine hb m1 S1 H' σc2 σ2 fl1 S2 R2 Z2 b2 _ ?_
    have s12 := s1.trans s2
    cases fl1 with
    | nx σ3 =>
      intro σc3 m3 H3 s3 R3 Z3
      exact ⟨by omega, hlt, m3, σ3, S2, s12.trans s3, R3, Z3, h1⟩
    | ct σ3 =>
      intro σc3 m3 H3 s3 R3 Z3
      exact ⟨by omega, hlt, m3, σ3, S2, s12.trans s3, R3, Z3, h1⟩
    | bk σ3 =>
      cases h1
      intro σc3 m3 H3 s3 R3 Z3
      exact q σc3 m3 H3 (s12.trans s3) R3 Z3
    | rt w3 =>
      cases h1
      intro v3 m3 H3 s3 R3 r3
      exact q v3 m3 H3 (s12.trans s3) R3 r3
  · have e : i = ws.length := by omega
    subst e
    rw [List.drop_length] at h1
    cases h1
    exact .inl ⟨G.stop m1 H1 s1, q σc1 m1 H1 s1 R1 Z1⟩
/-- what a for walks: its values, first -/
abbrev EvI := Slots → Store → Option (List W × Store)
def SdI (K : PySem.W.Frag) (t : TI) (f : EvI) : Prop := ∀ (m : List Addr) (S : Store) (H : Hp) (σc : L2.St) (σ : Slots) (ws : List W) (S' : Store), Rel H m S → SlotsOk K m H σc σ → f σ S = some (ws, S') →
  ∀ Q : It → Hp → Prop, (∀ J m' H', Step m H m' H' → Rel H' m' S' → Gives K J m' H' ws → Q J H') → t σc H Q
def PXI (X : Cx) (tg it : Expr) (f : EvI) : Prop := ∃ t, PI X tg it t ∧ SdI X.K t f
def sFor (it : EvI) (b : Bd) (body : EvS) : EvS := fun σ S => (it σ S).bind fun p => loopD b body p.1 σ p.2
theorem ps_f {tg it : Expr} {body : List Stmt} {fi : EvI} {b : Bd} {fb : EvS} (hp : PassesOwn (model X.prog X.w) X.A X.env X.xe) (hc : X.calm = true) (hi : PXI X tg it fi) (hg : PGT X tg b) (hb : PXB X body fb)
    (hs : ∀ x, foldedSetIterable it X.env x = pure x := by intro _; rfl) : PXS X (.For tg it body [] pos) (sFor fi b fb) := by
  obtain ⟨ti, pi, si⟩ := hi
  obtain ⟨tg', pg, sg⟩ := hg
  obtain ⟨tb, pb, sb⟩ := hb
  refine ⟨_, ps_for hp hc pi pg pb hs, ?_⟩
  intro m S H σc σ fl S' R Z h D q
  unfold sFor at h
  obtain ⟨⟨ws, S1⟩, h1, h⟩ := Option.bind_eq_some_iff.mp h
  exact si m S H σc σ ws S1 R Z h1 _ fun J m1 H1 s1 R1 G => loop_ok G sg sb R1 (Z.step R s1) h (q.back s1)

/-- the items of a tuple -/
def iTupF (f : EvE) : EvI := fun σ S => (f σ S).bind fun p => match p.1 with | .d (.tup ds) => some (ds.map W.d, p.2) | _ => none
theorem gives_tup {a : Addr} {vs : List V} {m : List Addr} {H : Hp} {S : Store} {ds : List D} (R : Rel H m S) (ho : H a = some (.tup vs)) (r : Reps H vs ds) : Gives K (Itt K a) m H (ds.map W.d) := by
  have here : ∀ {m1 H1}, Step m H m1 H1 → SqT K H1 a vs := fun s1 => SqT.of (R.tups s1 a vs ho)
  have uniq : ∀ {m1 H1} {xs : List V}, Step m H m1 H1 → SqT K H1 a xs → H1 a = some (.tup vs) := fun s1 _ => R.tups s1 a vs ho
  refine ⟨fun i m1 H1 hi s1 => ?_, fun i m1 H1 x H' S1 hi s1 R1 y => ?_, fun m1 H1 s1 => ⟨vs, here s1, by rw [r.length]; simp⟩⟩
  · have hi' : i < vs.length := by rw [r.length]; simpa using hi
    exact ⟨vs, vs[i], here s1, List.getElem?_eq_getElem hi'⟩
  · obtain ⟨e, y⟩ := y
    subst e
    have hx := y vs (here s1)
    have hi : i < ds.length := by rw [← r.length]; exact (List.getElem?_eq_some_iff.mp hx).1
    obtain ⟨v, e1, r1⟩ := r.get (List.getElem?_eq_getElem hi)
    rw [hx] at e1
    cases e1
    exact ⟨.d ds[i], by rw [List.getElem?_map, List.getElem?_eq_getElem hi]; rfl, Step.refl _ _, Rep.step R s1 r1, R1⟩
theorem pi_t {tg e : Expr} {f : EvE} (h : PX X e f) : PXI X tg e (iTupF f) := by
  obtain ⟨t, p, s⟩ := h
  refine ⟨_, pi_tup p, ?_⟩
  intro m S H σc σ ws S' R Z h Q q
  unfold iTupF at h
  obtain ⟨⟨w, S1⟩, h1, h⟩ := Option.bind_eq_some_iff.mp h
  refine s m S H σc σ w S1 R Z h1 _ fun v m1 H1 s1 R1 r1 => ?_
  dsimp only at h
  split at h
  · cases h
    obtain ⟨a, vs, e, ho, r⟩ := r1
    exact ⟨a, e, ⟨vs, SqT.of ho⟩, q _ m1 H1 s1 R1 (gives_tup R1 ho r)⟩
  · cases h
/-- range(n) -/
def rangeW (lo : Int) (n : Nat) : List W := (List.range n).map fun (i : Nat) => W.d (.int (lo + (i : Int)))
theorem gives_rng {m : List Addr} {H : Hp} (lo : Int) (n : Nat) : Gives K (Itr lo n) m H (rangeW lo n) := by
  have hl : (rangeW lo n).length = n := by simp [rangeW]
  refine ⟨fun i m1 H1 hi s1 => by show i < n; omega, fun i m1 H1 x H' S1 hi s1 R1 y => ?_, fun m1 H1 s1 => by show n ≤ _; omega⟩
  obtain ⟨e, y⟩ := y
  subst e y
  rw [hl] at hi
  exact ⟨.d (.int (lo + (i : Int))), by simp [rangeW, hi], Step.refl _ _, rfl, R1⟩
def rangeOk (i : Int) : Bool := decide (-(2 ^ 62) ≤ i) && decide (i < 2 ^ 62)
def iRng1F (g : EvA) : EvI := fun σ S => (g σ S).bind fun p => match p.1 with | [.d (.int j)] => if rangeOk j = true then some (rangeW 0 j.toNat, p.2) else none | _ => none
def iRng2F (g : EvA) : EvI := fun σ S => (g σ S).bind fun p => match p.1 with | [.d (.int i), .d (.int j)] => if rangeOk i = true ∧ rangeOk j = true then some (rangeW i (j - i).toNat, p.2) else none | _ => none
theorem rangeOk_iff {i : Int} (h : rangeOk i = true) : -(2 ^ 62) ≤ i ∧ i < 2 ^ 62 := by
  unfold rangeOk at h
  rw [Bool.and_eq_true, decide_eq_true_eq, decide_eq_true_eq] at h
  exact h
theorem pi_r1 {tg e : Expr} {g : EvA} {p : Pos} (hm : X.mg "range" = none) (h : PXL X [e] g) (hg : Gl X "range" := by rfl) (hs : starEach [e] X.env = [(false, eval e X.env)] := by rfl) : PXI X tg (.Call (.Name "range" p) [e] [] pos) (iRng1F g) := by
  obtain ⟨⟨t, pa, sd⟩, _⟩ := h
  refine ⟨_, pi_range1 hg hm pa hs, ?_⟩
  intro m S H σc σ ws S' R Z h Q q
  unfold iRng1F at h
  obtain ⟨⟨us, S1⟩, h1, h⟩ := Option.bind_eq_some_iff.mp h
  refine sd m S H σc σ us S1 R Z h1 _ fun vs m1 H1 s1 R1 r1 => ?_
  dsimp only at h
  split at h
  · split at h
    · rename_i j hj
      cases h
      obtain ⟨v, r, e1, g1, e2⟩ := r1
      subst e1
      cases (show r = [] from e2)
      cases (show v = V.int j from g1)
      exact ⟨j, rfl, (rangeOk_iff hj).1, (rangeOk_iff hj).2, q _ m1 H1 s1 R1 (gives_rng 0 j.toNat)⟩
    · cases h
  · cases h
theorem pi_r2 {tg e e' : Expr} {g : EvA} {p : Pos} (hm : X.mg "range" = none) (h : PXL X [e, e'] g) (hg : Gl X "range" := by rfl) (hs : starEach [e, e'] X.env = [(false, eval e X.env), (false, eval e' X.env)] := by rfl) (hs2 : starEach [e'] X.env = [(false, eval e' X.env)] := by rfl) : PXI X tg (.Call (.Name "range" p) [e, e'] [] pos) (iRng2F g) := by
  obtain ⟨⟨t, pa, sd⟩, _⟩ := h
  refine ⟨_, pi_range2 hg hm pa hs hs2, ?_⟩
  intro m S H σc σ ws S' R Z h Q q
  unfold iRng2F at h
  obtain ⟨⟨us, S1⟩, h1, h⟩ := Option.bind_eq_some_iff.mp h
  refine sd m S H σc σ us S1 R Z h1 _ fun vs m1 H1 s1 R1 r1 => ?_
  dsimp only at h
  split at h
  · split at h
    · rename_i i j hj
      cases h
      obtain ⟨v, r, e1, g1, u, r', e2, g2, e3⟩ := r1
      subst e1 e2
      cases (show r' = [] from e3)
      cases (show v = V.int i from g1)
      cases (show u = V.int j from g2)
      exact ⟨i, j, rfl, ⟨(rangeOk_iff hj.1).1, (rangeOk_iff hj.1).2, (rangeOk_iff hj.2).1, (rangeOk_iff hj.2).2⟩, q _ m1 H1 s1 R1 (gives_rng i (j - i).toNat)⟩
    · cases h
  · cases h
end
end Fw
namespace Fw
open PySem PySem.Spec PyProof.Rows L2 RZ

/-! ### one reading for what a piece does, whatever the context -/
def canE (K : PySem.W.Frag) (f : EvE) : TE := fun σc H Q => ∃ (m : List Addr) (S : Store) (σ : Slots) (w : W) (S' : Store), Rel H m S ∧ SlotsOk K m H σc σ ∧ f σ S = some (w, S') ∧ ∀ v m' H', Step m H m' H' → Rel H' m' S' → RepW K m' H' v w → Q v H'
def canT (K : PySem.W.Frag) (f : EvT) : TT := fun σc H Q => ∃ (m : List Addr) (S : Store) (σ : Slots) (b : Bool) (S' : Store), Rel H m S ∧ SlotsOk K m H σc σ ∧ f σ S = some (b, S') ∧ ∀ m' H', Step m H m' H' → Rel H' m' S' → Q b H'
theorem PX.can {X : Cx} {e : Expr} {f : EvE} (h : PX X e f) : PE X e (canE X.K f) := by
  obtain ⟨t, p, s⟩ := h
  refine ⟨fun pins s' σ H Q I hw => p.run pins s' σ H Q I ?_⟩
  obtain ⟨m, S, σa, w, S', R, Z, e, q⟩ := hw
  exact s m S H σ σa w S' R Z e Q q
theorem PXT.can {X : Cx} {e : Expr} {f : EvT} (h : PXT X e f) : PT X e (canT X.K f) := by
  obtain ⟨t, p, s⟩ := h
  refine ⟨fun pins s' σ H Q I hw => p.run pins s' σ H Q I ?_⟩
  obtain ⟨m, S, σa, w, S', R, Z, e, q⟩ := hw
  exact s m S H σ σa w S' R Z e Q q
def canG (K : PySem.W.Frag) (b : Bd) : TG := fun v σc H Q => ∃ (m : List Addr) (w : W) (σ σ' : Slots), b w σ = some σ' ∧ RepW K m H v w ∧ SlotsOk K m H σc σ ∧ ∀ σc', SlotsOk K m H σc' σ' → Q σc' H
theorem PGT.can {X : Cx} {e : Expr} {b : Bd} (h : PGT X e b) : PG X e (canG X.K b) := by
  obtain ⟨t, p, s⟩ := h
  refine ⟨fun pins s' σ H v u Q I r hw => p.run pins s' σ H v u Q I r ?_⟩
  obtain ⟨m, w, σa, σb, e, rw', Z, q⟩ := hw
  exact s m H v w σ σa σb e rw' Z Q q
/-- the same, and the slots is alone are changed -/
def canG2 (K : PySem.W.Frag) (b : Bd) (is : List Nat) : TG := fun v σc H Q => ∃ (m : List Addr) (w : W) (σ σ' : Slots), b w σ = some σ' ∧ RepW K m H v w ∧ SlotsOk K m H σc σ ∧
  ∀ σc', SlotsOk K m H σc' σ' → (σc'.length = σc.length ∧ ∀ j, j ∉ is → σc'[j]? = σc[j]?) → Q σc' H
def PGT2 (X : Cx) (tg : Expr) (b : Bd) (is : List Nat) : Prop := PG X tg (canG2 X.K b is)
section
variable {X : Cx} {K : PySem.W.Frag} {pos : Pos}
theorem foldl_set_keep : ∀ (ps : List (Nat × V)) (σ : L2.St), (ps.foldl (fun σ p => σ.set p.1 (some p.2)) σ).length = σ.length ∧ ∀ j, j ∉ ps.map (·.1) → (ps.foldl (fun σ p => σ.set p.1 (some p.2)) σ)[j]? = σ[j]?
  | [], σ => ⟨rfl, fun _ _ => rfl⟩
  | p :: ps, σ => by
    obtain ⟨h1, h2⟩ := foldl_set_keep ps (σ.set p.1 (some p.2))
    refine ⟨by simpa using h1, fun j hj => ?_⟩
    simp only [List.map_cons, List.mem_cons, not_or] at hj
    show (ps.foldl _ (σ.set p.1 (some p.2)))[j]? = _
    rw [h2 j hj.2, List.getElem?_set_ne (Ne.symm hj.1)]
theorem pg2_n (i : Nat) {x : Str} (hN : X.N.Nodup) (hi : X.N[i]? = some x := by rfl) (hx : Loc X.env.scope x := by first | exact Or.inl rfl | exact Or.inr rfl) (hf : X.fn x = true ∨ X.env.scope.names.lookup x = some .local := by first | exact .inl rfl | exact .inr rfl) : PGT2 X (.Name x pos) (bName i) [i] := by
  refine ⟨fun pins s' σ H v u Q I r hw => (pg_name hN hi hx hf).run pins s' σ H v u Q I r ?_⟩
  obtain ⟨m, w, σa, σb, e, rw', Z, q⟩ := hw
  cases e
  refine q _ (Z.set i rw') ⟨by simp, fun j hj => ?_⟩
  rw [List.getElem?_set_ne (fun z => hj (by simp [z]))]
theorem pg2_t {es : List Expr} {k : Nat} {is : List Nat} (hc : X.calm = true) (hg : PGB X es is) (hn : (assignEach es X.env).length = is.length := by rfl) (hst : (assignEach es X.env).findIdx? (·.1) = none := by rfl) : PGT2 X (.Tuple es k pos) (bTup is) is := by
  obtain ⟨t, p, s⟩ := hg.ex
  refine ⟨fun pins s' σ H v u Q I r hw => (pg_tup hc p hn hst).run pins s' σ H v u Q I r ?_⟩
  obtain ⟨m, w, σa, σb, e, rw', Z, q⟩ := hw
  obtain ⟨ws, h1, h2⟩ := Option.bind_eq_some_iff.mp e
  obtain ⟨a, vs, e, ho, r'⟩ := parts_ok h1 rw'
  obtain ⟨Z', l⟩ := bind_ok h2 r' Z
  refine ⟨a, vs, e, SqT.of ho, l, s vs σ H _ l ?_⟩
  obtain ⟨k1, k2⟩ := foldl_set_keep (is.zip vs) σ
  refine q _ Z' ⟨k1, fun j hj => k2 j fun z => hj ?_⟩
  obtain ⟨p, hp, e⟩ := List.mem_map.mp z
  obtain ⟨i, x⟩ := p
  subst e
  exact (List.of_mem_zip hp).1

/-! ### list comprehensions -/
def wipeW (σ : Slots) : List Nat → Slots
  | [] => σ
  | v :: vs => (wipeW σ vs).set v none
theorem slots_wipe {m : List Addr} {H : Hp} {σc : L2.St} {σ : Slots} (Z : SlotsOk K m H σc σ) : ∀ vs, SlotsOk K m H (wipe σc vs) (wipeW σ vs)
  | [] => Z
  | v :: vs => (slots_wipe Z vs).unset v
theorem wipe_get (σ : L2.St) : ∀ (vs : List Nat) (j : Nat), (wipe σ vs)[j]? = if j ∈ vs then (if j < σ.length then some none else none) else σ[j]?
  | [], j => by simp [wipe]
  | v :: vs, j => by
    unfold wipe
    by_cases e : j = v
    · subst e
      by_cases hl : j < σ.length
      · rw [List.getElem?_set_self (by rw [wipe_length]; exact hl)]
        simp [hl]
      · rw [List.getElem?_eq_none (by rw [List.length_set, wipe_length]; omega)]
        simp [hl]
    · rw [List.getElem?_set_ne (Ne.symm e), wipe_get σ vs j]
      simp [e]
theorem wipe_same {σ σ2 : L2.St} {vs is : List Nat} (hs : ∀ i ∈ is, i ∈ vs) (h : σ2.length = (wipe σ vs).length ∧ ∀ j, j ∉ is → σ2[j]? = (wipe σ vs)[j]?) : wipe σ2 vs = wipe σ vs := by
  apply List.ext_getElem?
  intro j
  rw [wipe_get σ2 vs j, wipe_get σ vs j]
  have hl : σ2.length = σ.length := by rw [h.1, wipe_length]
  by_cases e : j ∈ vs
  · simp [e, hl]
  · simp only [e, if_false]
    rw [h.2 j (fun z => e (hs j z)), wipe_get σ vs j]
    simp [e]
def loopC (b : Bd) (test : EvT) (elt : EvE) (σ0 : Slots) : List W → List D → Store → Option (List D × Store)
  | [], acc, S => some (acc, S)
  | w :: ws, acc, S => (b w σ0).bind fun σ1 => (test σ1 S).bind fun p => if p.1 = true then
      (elt σ1 p.2).bind fun q => match q.1 with | .d x => loopC b test elt σ0 ws (acc ++ [x]) q.2 | _ => none
    else loopC b test elt σ0 ws acc p.2
def eComp (vs : List Nat) (it : EvI) (b : Bd) (test : EvT) (elt : EvE) : EvE := fun σ S => (it σ S).bind fun p => if p.1.length < 100000 then
  (loopC b test elt (wipeW σ vs) p.1 [] p.2).map fun q => (.loc q.2.length, q.2 ++ [.lst q.1]) else none
/-- an object outside the store changes, that is no tuple -/
theorem Rel.other {H : Hp} {m : List Addr} {S : Store} (R : Rel H m S) {p : Addr} {xs ys : List V} (hp : p ∉ m) (ho : H p = some (.lst xs)) : Rel (upd H p (.lst ys)) m S := by
  have k : ∀ a vs, H a = some (.tup vs) → upd H p (.lst ys) a = some (.tup vs) := fun a vs e => by
    rw [upd_ne (fun z => by subst z; rw [ho] at e; cases e)]; exact e
  refine ⟨R.len, R.nd, fun i a c hi hc => ?_⟩
  have q := R.cell i a c hi hc
  have ne : a ≠ p := fun z => hp (z ▸ List.mem_of_getElem? hi)
  cases c with
  | lst ds =>
    obtain ⟨us, e, r⟩ := q
    exact ⟨us, by rw [upd_ne ne]; exact e, Reps.move k ds r⟩
theorem Rel.adopt {H : Hp} {m : List Addr} {S : Store} (R : Rel H m S) {p : Addr} {xs : List V} {ds : List D} (hp : p ∉ m) (ho : H p = some (.lst xs)) (r : Reps H xs ds) : Rel H (m ++ [p]) (S ++ [.lst ds]) ∧ (m ++ [p])[S.length]? = some p := by
  refine ⟨⟨by simp [R.len], ?_, fun i a c hi hc => ?_⟩, by rw [← R.len]; simp⟩
  · rw [List.nodup_append]
    refine ⟨R.nd, by simp, fun a ha b hb z => ?_⟩
    rw [List.mem_singleton.mp hb] at z
    exact hp (z ▸ ha)
  · by_cases hlt : i < m.length
    · rw [List.getElem?_append_left hlt] at hi
      rw [List.getElem?_append_left (by rw [← R.len]; exact hlt)] at hc
      exact R.cell i a c hi hc
    · have hi2 : i = m.length := by
        have := (List.getElem?_eq_some_iff.mp hi).1
        simp at this
        omega
      subst hi2
      simp at hi
      rw [R.len] at hc
      simp at hc
      subst hi hc
      exact ⟨xs, ho, r⟩
def tTrue : EvT := fun _ S => some (true, S)
def PXTs (X : Cx) (ifs : List Expr) (f : EvT) : Prop := PTs X ifs (canT X.K f)
theorem pxt_nil : PXTs X [] tTrue := by
  refine ⟨fun pins s σ H Q I hw => pts_nil.run pins s σ H Q I ?_⟩
  obtain ⟨m, S, σa, b, S', R, Z, e, q⟩ := hw
  cases e
  exact q m H (Step.refl m H) R
theorem pxt_one {c : Expr} {f : EvT} (h : PXT X c f) : PXTs X [c] f := pts_one h.can
/-- the comprehension's reading -/
theorem sd_comp {ti : TI} {fi : EvI} {vs is : List Nat} {b : Bd} {test : EvT} {elt : EvE} (hs : ∀ i ∈ is, i ∈ vs) (si : SdI K ti fi) :
    SdE K (tLc ti (canG2 K b is) (canT K test) (canE K elt) vs) (eComp vs fi b test elt) := by
  intro m S H σc σ w S' R Z h Q q
  unfold eComp at h
  obtain ⟨⟨ws, S1⟩, h1, h⟩ := Option.bind_eq_some_iff.mp h
  dsimp only at h
  split at h
  · rename_i hlen
    obtain ⟨⟨accF, SF⟩, h2, h⟩ := Option.map_eq_some_iff.mp h
    cases h
    refine si m S H σc σ ws S1 R Z h1 _ fun J m1 H1 s1 R1 G => ?_
    intro p hp
    have Zw := slots_wipe (Z.step R s1) vs
    refine ⟨fun i n H' => n = ws.length - i ∧ i ≤ ws.length ∧ ∃ (m2 : List Addr) (S2 : Store) (acc : List D) (vacc : List V), Step m1 H1 m2 H' ∧ Rel H' m2 S2 ∧ H' p = some (.lst vacc) ∧ Reps H' vacc acc ∧ acc.length ≤ i ∧ p ∉ m2 ∧ loopC b test elt (wipeW σ vs) (ws.drop i) acc S2 = some (accF, SF), ⟨ws.length, by simp, Nat.zero_le _, ?_⟩, ?_⟩
    · have sm := new_same hp (.lst [])
      exact ⟨m1, S1, [], [], Step.same sm, R1.grow sm, upd_same, rfl, Nat.zero_le _, R1.ninN hp, by simpa using h2⟩
    · rintro i n H2 ⟨rfl, hi, m2, S2, acc, vacc, s2, R2, hD, rA, hA, nD, hl⟩
      by_cases hlt : i < ws.length
      · refine .inr ⟨G.go i m2 H2 hlt s2, fun H' => ws.length - (i + 1) < ws.length - i ∧ (i + 1 ≤ ws.length ∧ ∃ (m2 : List Addr) (S2 : Store) (acc : List D) (vacc : List V), Step m1 H1 m2 H' ∧ Rel H' m2 S2 ∧ H' p = some (.lst vacc) ∧ Reps H' vacc acc ∧ acc.length ≤ i + 1 ∧ p ∉ m2 ∧ loopC b test elt (wipeW σ vs) (ws.drop (i + 1)) acc S2 = some (accF, SF)), fun H' hN => ⟨_, hN.1, rfl, hN.2⟩, fun x H3 y => ?_⟩
        obtain ⟨w, hw, s3, r3, R3⟩ := G.yld i m2 H2 x H3 S2 hlt s2 R2 y
        have ed : ws.drop i = w :: ws.drop (i + 1) := by
          rw [List.drop_eq_getElem_cons hlt]
          rw [List.getElem?_eq_getElem hlt] at hw
          rw [Option.some.inj hw]
        rw [ed] at hl
        unfold loopC at hl
        obtain ⟨σ2, b1, hl⟩ := Option.bind_eq_some_iff.mp hl
        obtain ⟨⟨tb, S3⟩, b2, hl⟩ := Option.bind_eq_some_iff.mp hl
        have s13 := s2.trans s3
        have Z3 : SlotsOk K m2 H3 (wipe σc vs) (wipeW σ vs) := Zw.step R1 s13
        refine ⟨m2, w, wipeW σ vs, σ2, b1, r3, Z3, fun σc2 Z4 same => ⟨wipe_same hs same, ?_⟩⟩
        refine ⟨m2, S2, σ2, tb, S3, R3, Z4, b2, fun m4 H4 s4 R4 => ?_⟩
        have keepD : ∀ {ma mb : List Addr} {Ha Hb : Hp} {vv : List V}, Step ma Ha mb Hb → p ∉ ma → Ha p = some (.lst vv) → Hb p = some (.lst vv) ∧ p ∉ mb := fun s nn e => ⟨s.keep p _ nn e, fun z => by
          have := s.new p z nn
          rw [e] at this
          cases this⟩
        obtain ⟨hD3, nD3⟩ := keepD s3 nD hD
        obtain ⟨hD4, nD4⟩ := keepD s4 nD3 hD3
        have s14 := s13.trans s4
        have rA4 : Reps H4 vacc acc := Reps.step R3 s4 (Reps.step R2 s3 rA)
        cases tb with
        | false =>
          refine iteF ?_
          exact ⟨by omega, hlt, m4, S3, acc, vacc, s14, R4, hD4, rA4, by omega, nD4, hl⟩
        | true =>
          refine iteT ?_
          have hl : ((elt σ2 S3).bind fun q => match q.1 with | .d x => loopC b test elt (wipeW σ vs) (ws.drop (i + 1)) (acc ++ [x]) q.2 | _ => none) = some (accF, SF) := hl
          obtain ⟨⟨we, S5⟩, b3, hl⟩ := Option.bind_eq_some_iff.mp hl
          refine ⟨m4, S3, σ2, we, S5, R4, Z4.step R3 s4, b3, fun v5 m5 H5 s5 R5 r5 => ?_⟩
          obtain ⟨hD5, nD5⟩ := keepD s5 nD4 hD4
          have rA5 := Reps.step R4 s5 rA4
          dsimp only at hl
          split at hl
          · rename_i xd
            have hz : acc.length < sizeLine := by rw [sizeLine_eq]; omega
            refine ⟨vacc, hD5, by rw [rA5.length]; exact hz, by omega, hlt, m5, S5, acc ++ [xd], vacc ++ [v5], ?_, R5.other nD5 hD5, upd_same, ?_, by simp; omega, nD5, hl⟩
            · have s15 := s14.trans s5
              refine ⟨s15.pre, fun a o ha ho => ?_, s15.new⟩
              rw [upd_ne (ne_of_none ho hp)]
              exact s15.keep a o ha ho
            · have k : ∀ a us, H5 a = some (.tup us) → upd H5 p (.lst (vacc ++ [v5])) a = some (.tup us) := fun a us e => by
                rw [upd_ne (fun z => by subst z; rw [hD5] at e; cases e)]; exact e
              exact Reps.append (Reps.move k acc rA5) ⟨v5, [], rfl, Rep.move k xd r5, rfl⟩
          · cases hl
      · have e : i = ws.length := by omega
        subst e
        rw [List.drop_length] at hl
        cases hl
        obtain ⟨R3, e3⟩ := R2.adopt nD hD rA
        refine .inl ⟨G.stop m2 H2 s2, q _ (m2 ++ [p]) H2 ?_ R3 ⟨p, e3, rfl⟩⟩
        have s12 := s1.trans s2
        obtain ⟨nw, en⟩ := s12.pre
        refine ⟨⟨nw ++ [p], by rw [en, List.append_assoc]⟩, s12.keep, fun a ha hn => ?_⟩
        rcases List.mem_append.mp ha with z | z
        · exact s12.new a z hn
        · rw [List.mem_singleton.mp z]
          cases e : H p with
          | none => rfl
          | some o =>
            have hpm : p ∉ m := by
              rw [← List.mem_singleton.mp z]
              exact hn
            have := s1.keep p o hpm e
            rw [hp] at this
            cases this
  · cases h
section
variable {elt tg iter : Expr} {ifs : List Expr} {scope : Scope} {own : List (Str × Nat)} {spos : Pos} {fi : EvI} {is : List Nat} {b : Bd} {test : EvT} {fe : EvE}
theorem px_lc (hc : X.calm = true) (hN : X.N.Nodup) (hi : PXI X tg iter fi) (ok : BlkOk X.N X.env.scope scope own)
    (hg : ∀ (s : Shared) (H : Hp) (C : Addr) (cl : List (Str × Addr)) (fp : List Addr), PGT2 (X.blk s H scope (compEnvC scope cl C X.env) fp) tg b is) (ht : ∀ (s : Shared) (H : Hp) (C : Addr) (cl : List (Str × Addr)) (fp : List Addr), PXTs (X.blk s H scope (compEnvC scope cl C X.env) fp) ifs test)
    (he : ∀ (s : Shared) (H : Hp) (C : Addr) (cl : List (Str × Addr)) (fp : List Addr), PX (X.blk s H scope (compEnvC scope cl C X.env) fp) elt fe) (hv : ∀ i ∈ is, i ∈ own.map (·.2) := by decide) (hs : ∀ x, foldedSetIterable iter X.env x = pure x := by intro _; rfl) :
    PX X (.ListComp elt [⟨tg, iter, ifs, 0⟩] scope pos) (eComp (own.map (·.2)) fi b test fe) := by
  obtain ⟨ti, pi, si⟩ := hi
  exact ⟨_, pe_lc (g := canG2 X.K b is) (tt := canT X.K test) (te := canE X.K fe) hc hN pi ok hg ht (fun s H C cl fp => (he s H C cl fp).can) hs, sd_comp hv si⟩
theorem ps_slc (i : Nat) {y : Str} {py : Pos} (hc : X.calm = true) (hN : X.N.Nodup) (hi : PXI X tg iter fi) (ok : BlkOk X.N X.env.scope scope own)
    (hg : ∀ (s : Shared) (H : Hp) (C : Addr) (cl : List (Str × Addr)) (fp : List Addr), PGT2 (X.blk s H scope (compEnvC scope cl C X.env) fp) tg b is) (ht : ∀ (s : Shared) (H : Hp) (C : Addr) (cl : List (Str × Addr)) (fp : List Addr), PXTs (X.blk s H scope (compEnvC scope cl C X.env) fp) ifs test)
    (he : ∀ (s : Shared) (H : Hp) (C : Addr) (cl : List (Str × Addr)) (fp : List Addr), PX (X.blk s H scope (compEnvC scope cl C X.env) fp) elt fe)
    (hy : X.N[i]? = some y := by rfl) (hyl : X.env.scope.names.lookup y = some .local := by rfl) (hsw : swapsWith (.ListComp elt [⟨tg, iter, ifs, 0⟩] scope pos) (some (.Name y py)) spos.line X.env = pure true := by exact sw_true rfl rfl rfl (by decide +kernel))
    (hv : ∀ i ∈ is, i ∈ own.map (·.2) := by decide) (hs : ∀ x, foldedSetIterable iter X.env x = pure x := by intro _; rfl) :
    PXS X (.Assign [.Name y py] (.ListComp elt [⟨tg, iter, ifs, 0⟩] scope pos) spos) (sSet i (eComp (own.map (·.2)) fi b test fe)) := by
  obtain ⟨ti, pi, si⟩ := hi
  exact ⟨_, ps_setLc (g := canG2 X.K b is) (tt := canT X.K test) (te := canE X.K fe) hc hN hy hyl hsw pi ok hg ht (fun s H C cl fp => (he s H C cl fp).can) hs, sds_set (sd_comp hv si)⟩
end

/-! ### zip of two tuples -/
def iZipF (g : EvA) : EvI := fun σ S => (g σ S).bind fun p => match p.1 with | [.d (.tup ds), .d (.tup es)] => some (List.zipWith (fun x y => W.d (.tup [x, y])) ds es, p.2) | _ => none
theorem gives_zip {a c : Addr} {vs us : List V} {m : List Addr} {H : Hp} {S : Store} {ds es : List D} (R : Rel H m S) (ho : H a = some (.tup vs)) (r : Reps H vs ds) (ho2 : H c = some (.tup us)) (r2 : Reps H us es) : Gives K (ItzT K a c) m H (List.zipWith (fun x y => W.d (.tup [x, y])) ds es) := by
  have here : ∀ {m1 H1}, Step m H m1 H1 → SqT K H1 a vs := fun s1 => SqT.of (R.tups s1 a vs ho)
  have here2 : ∀ {m1 H1}, Step m H m1 H1 → SqT K H1 c us := fun s1 => SqT.of (R.tups s1 c us ho2)
  have l1 := r.length
  have l2 := r2.length
  refine ⟨fun i m1 H1 hi s1 => ?_, fun i m1 H1 x H' S1 hi s1 R1 y => ?_, fun m1 H1 s1 => ⟨vs, us, here s1, here2 s1, by rw [List.length_zipWith]; omega⟩⟩
  · rw [List.length_zipWith] at hi
    exact ⟨vs, us, vs[i]'(by omega), us[i]'(by omega), here s1, here2 s1, List.getElem?_eq_getElem _, List.getElem?_eq_getElem _⟩
  · obtain ⟨T, x1, y1, e, hT, eH, k1, k2⟩ := y
    subst e eH
    have q1 := k1 vs (here s1)
    have q2 := k2 us (here2 s1)
    rw [List.length_zipWith] at hi
    have hi1 : i < ds.length := by omega
    have hi2 : i < es.length := by omega
    obtain ⟨v1, e1, g1⟩ := r.get (List.getElem?_eq_getElem hi1)
    obtain ⟨v2, e2, g2⟩ := r2.get (List.getElem?_eq_getElem hi2)
    rw [q1] at e1
    rw [q2] at e2
    cases e1
    cases e2
    have sm := new_same hT (.tup [x1, y1])
    refine ⟨.d (.tup [ds[i], es[i]]), ?_, Step.same sm, ?_, R1.grow sm⟩
    · rw [List.getElem?_zipWith, List.getElem?_eq_getElem hi1, List.getElem?_eq_getElem hi2]
    · have st := s1.trans (Step.same sm)
      exact ⟨T, [x1, y1], rfl, upd_same, x1, [y1], rfl, Rep.step R st g1, y1, [], rfl, Rep.step R st g2, rfl⟩
theorem pi_z {tpos : Pos} {elts : List Expr} {kk : Nat} {e e' : Expr} {g : EvA} {p : Pos} (hm : X.mg "zip" = none) (h : PXL X [e, e'] g) (hg : Gl X "zip" := by rfl) (hs : starEach [e, e'] X.env = (false, eval e X.env) :: starEach [e'] X.env := by rfl) (hpl : (backTo pos (starEach [e'] X.env)).any (·.1) = false := by rfl) :
    PXI X (.Tuple elts kk tpos) (.Call (.Name "zip" p) [e, e'] [] pos) (iZipF g) := by
  obtain ⟨⟨t, pa, sd⟩, _⟩ := h
  refine ⟨_, pi_zipA hg hm pa hs hpl, ?_⟩
  intro m S H σc σ ws S' R Z h Q q
  unfold iZipF at h
  obtain ⟨⟨us, S1⟩, h1, h⟩ := Option.bind_eq_some_iff.mp h
  refine sd m S H σc σ us S1 R Z h1 _ fun vs m1 H1 s1 R1 r1 => ?_
  dsimp only at h
  split at h
  · cases h
    obtain ⟨v, r, e1, ⟨a, xs, ea, ho, ra⟩, u, r', e2, ⟨c, ys, ec, ho2, rc⟩, e3⟩ := r1
    subst e1 e2 ea ec
    cases (show r' = [] from e3)
    exact ⟨a, c, xs, ys, rfl, .inr ⟨SqT.of ho, SqT.of ho2, q _ m1 H1 s1 R1 (gives_zip R1 ho ra ho2 rc)⟩⟩
  · cases h
end
end Fw
namespace Fw
open PySem PySem.Spec PyProof.Rows L2 RZ

/-! ### data as the library's data, equality -/
mutual
def D.py : D → PyData
  | .non => .none
  | .bl b => .bool b
  | .int i => .int i
  | .str s => .str s
  | .tup ds => .tuple (pys ds)
def pys : List D → List PyData
  | [] => []
  | d :: ds => d.py :: pys ds
end
mutual
theorem rep_dp {K : PySem.W.Frag} {H : Hp} : ∀ (d : D) {v : V}, Rep H v d → Dp K H v d.py ∧ d.py.canLay0 = true
  | .non, v, h => by cases (show v = V.non from h); exact ⟨.non, rfl⟩
  | .bl b, v, h => by cases (show v = V.bl b from h); exact ⟨.bl b, rfl⟩
  | .int b, v, h => by cases (show v = V.int b from h); exact ⟨.int b, rfl⟩
  | .str b, v, h => by
    obtain ⟨e, hk⟩ := (show v = V.str b ∧ _ from h)
    subst e
    exact ⟨.str b, by simpa [D.py, PyData.canLay0] using hk⟩
  | .tup ds, v, h => by
    obtain ⟨a, vs, e, ho, r⟩ := h
    subst e
    obtain ⟨h1, h2⟩ := reps_dp ds r
    exact ⟨.tup (SqT.of ho) h1, by simpa [D.py, PyData.canLay0] using h2⟩
theorem reps_dp {K : PySem.W.Frag} {H : Hp} : ∀ (ds : List D) {vs : List V}, Reps H vs ds → DpAll K H vs (pys ds) ∧ PyData.canLayAll0 (pys ds) = true
  | [], vs, h => by cases (show vs = [] from h); exact ⟨.nil, rfl⟩
  | d :: ds, vs, h => by
    obtain ⟨v, r, e, h1, h2⟩ := h
    subst e
    obtain ⟨a1, a2⟩ := rep_dp (K := K) d h1
    obtain ⟨b1, b2⟩ := reps_dp (K := K) ds h2
    exact ⟨.cons a1 b1, by simp [pys, PyData.canLayAll0, a2, b2]⟩
end
def eqD (x y : D) : Bool := PyData.eqv x.py y.py
def rEqM (K : PySem.W.Frag) (neg : Bool) : R2 := fun x y H Q => ∃ d e, Dp K H x d ∧ Dp K H y e ∧ d.canLay0 = true ∧ e.canLay0 = true ∧ min d.depth e.depth ≤ 60 ∧ Q (.bl (if neg = true then !PyData.eqv d e else PyData.eqv d e)) H
section
variable {X : Cx} {K : PySem.W.Frag} {pos : Pos}
theorem op_eqM {k : Nat} (hr : Room k X.A) : OpR X (compareOp .Eq) (rEqM X.K false) := by
  intro pins s σ H x y v u Q I rx ry h
  obtain ⟨d, e, hd, he, h1, h2, h3, q⟩ := h
  obtain ⟨as, r1⟩ := Dp.reads I d x v hd rx
  obtain ⟨bs, r2⟩ := Dp.reads I e y u he ry
  have hu := hr.units
  exact SeqAt.compareEq_reads r1 r2 h1 h2 (by omega) ⟨.bl _, H, I, rfl, q⟩
theorem op_neM {k : Nat} (hr : Room k X.A) : OpR X (compareOp .NotEq) (rEqM X.K true) := by
  intro pins s σ H x y v u Q I rx ry h
  obtain ⟨d, e, hd, he, h1, h2, h3, q⟩ := h
  obtain ⟨as, r1⟩ := Dp.reads I d x v hd rx
  obtain ⟨bs, r2⟩ := Dp.reads I e y u he ry
  have hu := hr.units
  exact SeqAt.compareNe_reads r1 r2 h1 h2 (by omega) ⟨.bl _, H, I, rfl, q⟩
/-- data with data, of which one goes no deeper than 60; a list with a list of data -/
def eqOk (x y : D) : Bool := decide (min x.py.depth y.py.depth ≤ 60)
def opEq (neg : Bool) : Op2 := fun x y S => match x, y with
  | .d a, .d b => if eqOk a b = true then some (.d (.bl (if neg = true then !eqD a b else eqD a b)), S) else none
  | .loc i, .loc j => match S[i]?, S[j]? with
    | some (.lst a), some (.lst b) => if eqOk (.tup a) (.tup b) = true then some (.d (.bl (if neg = true then !eqD (.tup a) (.tup b) else eqD (.tup a) (.tup b))), S) else none
    | _, _ => none
  | _, _ => none
theorem ops_eq (neg : Bool) : OpS K (rEqM K neg) (opEq neg) := by
  intro m S H vx vy x y w S' R rx ry h Q q
  unfold opEq at h
  split at h
  · rename_i a b
    split at h
    · rename_i hk
      cases h
      obtain ⟨p1, c1⟩ := rep_dp (K := K) a (show Rep H vx a from rx)
      obtain ⟨p2, c2⟩ := rep_dp (K := K) b (show Rep H vy b from ry)
      exact ⟨a.py, b.py, p1, p2, c1, c2, of_decide_eq_true hk, q _ m H (Step.refl m H) R rfl⟩
    · cases h
  · rename_i i j
    split at h
    · rename_i a b e1 e2
      split at h
      · rename_i hk
        cases h
        obtain ⟨p1, g1, ex⟩ := rx
        obtain ⟨p2, g2, ey⟩ := ry
        subst ex ey
        obtain ⟨vs, o1, r1⟩ := R.cell i p1 _ g1 e1
        obtain ⟨us, o2, r2⟩ := R.cell j p2 _ g2 e2
        obtain ⟨d1, c1⟩ := reps_dp (K := K) a r1
        obtain ⟨d2, c2⟩ := reps_dp (K := K) b r2
        have hk' := of_decide_eq_true hk
        refine ⟨.list (pys a), .list (pys b), .lst (SqL.of o1) d1, .lst (SqL.of o2) d2, by simpa [PyData.canLay0] using c1, by simpa [PyData.canLay0] using c2, ?_, ?_⟩
        · simpa [D.py, PyData.depth] using hk'
        · have e : PyData.eqv (.list (pys a)) (.list (pys b)) = eqD (.tup a) (.tup b) := by simp [eqD, D.py, PyData.eqv]
          rw [e]
          exact q _ m H (Step.refl m H) R rfl
      · cases h
    · cases h
  · cases h

/-! ### arithmetic, joining -/
def opAdd : Op2 := fun x y S => match x, y with
  | .d (.int i), .d (.int j) => some (.d (.int (i + j)), S)
  | .d (.str a), .d (.str b) => if a.length + b.length ≤ 100000 then some (.d (.str (a ++ b)), S) else none
  | .d (.tup a), .d (.tup b) => if a.length ≠ 0 ∧ a.length + b.length ≤ 100000 then some (.d (.tup (a ++ b)), S) else none
  | .loc i, .loc j => match S[i]?, S[j]? with
    | some (.lst a), some (.lst b) => if a.length + b.length ≤ 100000 then some (.loc S.length, S ++ [.lst (a ++ b)]) else none
    | _, _ => none
  | _, _ => none
def rAddA (K : PySem.W.Frag) : R2 := fun x y H Q => rI0 (fun i j => .int (i + j)) x y H Q ∨ (∃ i j, x = .str i ∧ y = .str j ∧ i.length + j.length ≤ sizeLine ∧ Q (.str (i ++ j)) H) ∨ rCatT K x y H Q ∨ rCat x y H Q
theorem op_addA : OpR X (binaryOp .Add) (rAddA X.K) := op_add.or (op_add_str.or (op_catT.or op_cat))
theorem strOk_app {a b : Str} (h1 : PyData.strOk a = true) (h2 : PyData.strOk b = true) : PyData.strOk (a ++ b) = true := by
  have e : (a ++ b).cps = a.cps ++ b.cps := rfl
  unfold PyData.strOk at *
  rw [e, Array.all_append, h1, h2]
  rfl
theorem ops_add : OpS K (rAddA K) opAdd := by
  intro m S H vx vy x y w S' R rx ry h Q q
  unfold opAdd at h
  split at h
  · cases h
    exact .inl ⟨_, _, rx, ry, q _ m H (Step.refl m H) R rfl⟩
  · rename_i a b
    split at h
    · rename_i hl
      cases h
      obtain ⟨e1, k1⟩ := (show vx = V.str a ∧ _ from rx)
      obtain ⟨e2, k2⟩ := (show vy = V.str b ∧ _ from ry)
      exact .inr (.inl ⟨a, b, e1, e2, by rw [sizeLine_eq]; omega, q _ m H (Step.refl m H) R ⟨rfl, strOk_app k1 k2⟩⟩)
    · cases h
  · rename_i a b
    split at h
    · rename_i hl
      cases h
      obtain ⟨p1, vs, e1, o1, r1⟩ := rx
      obtain ⟨p2, us, e2, o2, r2⟩ := ry
      have l1 := r1.length
      have l2 := r2.length
      refine .inr (.inr (.inl ⟨p1, p2, vs, us, e1, e2, SqT.of o1, SqT.of o2, fun z => by subst z; simp at l1; omega, by rw [sizeLine_eq]; omega, fun z => ?_, fun z p hp => ?_⟩))
      · subst z
        have : b = [] := by cases b with | nil => rfl | cons _ _ => simp at l2
        subst this
        exact q _ m H (Step.refl m H) R ⟨p1, vs, rfl, o1, by rw [List.append_nil]; exact r1⟩
      · have sm := new_same hp (.tup (vs ++ us))
        exact q _ m _ (Step.same sm) (R.grow sm) ⟨p, vs ++ us, rfl, upd_same, Reps.append (Reps.step R (Step.same sm) r1) (Reps.step R (Step.same sm) r2)⟩
    · cases h
  · rename_i i j
    split at h
    · rename_i a b e1 e2
      split at h
      · rename_i hl
        cases h
        obtain ⟨p1, g1, ex⟩ := rx
        obtain ⟨p2, g2, ey⟩ := ry
        subst ex ey
        obtain ⟨vs, o1, r1⟩ := R.cell i p1 _ g1 e1
        obtain ⟨us, o2, r2⟩ := R.cell j p2 _ g2 e2
        have l1 := r1.length
        have l2 := r2.length
        refine .inr (.inr (.inr ⟨p1, p2, vs, us, rfl, rfl, o1, o2, by rw [sizeLine_eq]; omega, fun p hp => ?_⟩))
        obtain ⟨st, R2, e⟩ := R.alloc hp (Reps.append r1 r2)
        exact q _ _ _ st R2 ⟨p, e, rfl⟩
      · cases h
    · cases h
  · cases h
def opI (c : Int → Int → Bool) (f : Int → Int → D) : Op2 := fun x y S => match x, y with
  | .d (.int i), .d (.int j) => if c i j = true then some (.d (f i j), S) else none
  | _, _ => none
theorem ops_I {C : Int → Int → Prop} {g : Int → Int → V} {c : Int → Int → Bool} {f : Int → Int → D} (hc : ∀ i j, c i j = true → C i j) (hf : ∀ i j H, Rep H (g i j) (f i j)) : OpS K (rI C g) (opI c f) := by
  intro m S H vx vy x y w S' R rx ry h Q q
  unfold opI at h
  split at h
  · rename_i i j
    split at h
    · rename_i hk
      cases h
      exact ⟨_, _, rx, ry, hc _ _ hk, q _ m H (Step.refl m H) R (hf i j H)⟩
    · cases h
  · cases h
def opI0 (f : Int → Int → D) : Op2 := fun x y S => match x, y with
  | .d (.int i), .d (.int j) => some (.d (f i j), S)
  | _, _ => none
theorem ops_I0 {g : Int → Int → V} {f : Int → Int → D} (hf : ∀ i j H, Rep H (g i j) (f i j)) : OpS K (rI0 g) (opI0 f) := by
  intro m S H vx vy x y w S' R rx ry h Q q
  unfold opI0 at h
  split at h
  · rename_i i j
    cases h
    exact ⟨_, _, rx, ry, q _ m H (Step.refl m H) R (hf i j H)⟩
  · cases h
def opSub : Op2 := opI0 fun i j => .int (i - j)
def opMod : Op2 := opI (fun _ j => decide (0 < j)) fun i j => .int (i % j)
def opFdiv : Op2 := opI (fun _ j => decide (0 < j) && decide (j < 1073741824)) fun i j => .int (i / j)
def opPow : Op2 := opI (fun i j => decide (0 ≤ j) && decide (j ≤ 1000000) && decide (i.natAbs < 2 ^ 64)) fun i j => .int (i ^ j.toNat)
def opLt : Op2 := opI0 fun i j => .bl (decide (i < j))
def opLe : Op2 := opI0 fun i j => .bl (decide (i ≤ j))
def opGt : Op2 := opI0 fun i j => .bl (decide (j < i))
def opGe : Op2 := opI0 fun i j => .bl (decide (j ≤ i))
theorem ops_sub : OpS K (rI0 fun i j => .int (i - j)) opSub := ops_I0 fun _ _ _ => rfl
theorem ops_mod : OpS K (rI (fun _ j => 0 < j) fun i j => .int (i % j)) opMod := ops_I (fun _ _ h => of_decide_eq_true h) fun _ _ _ => rfl
theorem ops_fdiv : OpS K (rI CDiv fun i j => .int (i / j)) opFdiv := ops_I (fun _ _ h => by
  rw [Bool.and_eq_true, decide_eq_true_eq, decide_eq_true_eq] at h
  exact h) fun _ _ _ => rfl
theorem ops_pow : OpS K (rI CPow fun i j => .int (i ^ j.toNat)) opPow := ops_I (fun _ _ h => by
  rw [Bool.and_eq_true, Bool.and_eq_true, decide_eq_true_eq, decide_eq_true_eq, decide_eq_true_eq] at h
  exact ⟨h.1.1, h.1.2, h.2⟩) fun _ _ _ => rfl
theorem ops_lt : OpS K (rI0 fun i j => .bl (decide (i < j))) opLt := ops_I0 fun _ _ _ => rfl
theorem ops_le : OpS K (rI0 fun i j => .bl (decide (i ≤ j))) opLe := ops_I0 fun _ _ _ => rfl
theorem ops_gt : OpS K (rI0 fun i j => .bl (decide (j < i))) opGt := ops_I0 fun _ _ _ => rfl
theorem ops_ge : OpS K (rI0 fun i j => .bl (decide (j ≤ i))) opGe := ops_I0 fun _ _ _ => rfl
/-- int * int, list * int -/
def opMul : Op2 := fun x y S => match x, y with
  | .d (.int i), .d (.int j) => if -(2 ^ 64) < i ∧ i < 2 ^ 64 then some (.d (.int (i * j)), S) else none
  | .loc i, .d (.int j) => match S[i]? with
    | some (.lst a) => if -1000 ≤ j ∧ j ≤ 1000 ∧ a.length ≤ 1000 then some (.loc S.length, S ++ [.lst (List.replicate j.toNat a).flatten]) else none
    | _ => none
  | _, _ => none
def rMulA : R2 := fun x y H Q => rI CMul (fun i j => .int (i * j)) x y H Q ∨ rRep x y H Q
theorem op_mulA : OpR X (binaryOp .Mult) rMulA := op_mul.or op_rep
theorem Reps.rep {H : Hp} {vs : List V} {ds : List D} (r : Reps H vs ds) : ∀ k : Nat, Reps H (List.replicate k vs).flatten (List.replicate k ds).flatten
  | 0 => rfl
  | k + 1 => by
    rw [List.replicate_succ, List.replicate_succ, List.flatten_cons, List.flatten_cons]
    exact Reps.append r (Reps.rep r k)
theorem ops_mul : OpS K rMulA opMul := by
  intro m S H vx vy x y w S' R rx ry h Q q
  unfold opMul at h
  split at h
  · split at h
    · rename_i hk
      cases h
      exact .inl ⟨_, _, rx, ry, .inl hk, q _ m H (Step.refl m H) R rfl⟩
    · cases h
  · rename_i i j
    split at h
    · rename_i a e1
      split at h
      · rename_i hk
        cases h
        obtain ⟨p1, g1, ex⟩ := rx
        subst ex
        obtain ⟨vs, o1, r1⟩ := R.cell i p1 _ g1 e1
        have l1 := r1.length
        refine .inr ⟨p1, j, vs, rfl, ry, o1, by omega, by omega, ?_, fun p hp => ?_⟩
        · rw [sizeLine_eq]
          have : vs.length * j.toNat ≤ 1000 * 1000 := Nat.mul_le_mul (by omega) (by omega)
          omega
        · obtain ⟨st, R2, e⟩ := R.alloc hp (r1.rep j.toNat)
          exact q _ _ _ st R2 ⟨p, e, rfl⟩
      · cases h
    · cases h
  · cases h
/-- is None, is not None -/
def opIs (neg : Bool) : Op2 := fun x y S => match x, y with
  | .d .non, .d .non => some (.d (.bl (!neg)), S)
  | _, .d .non => some (.d (.bl neg), S)
  | _, _ => none
def rIsA (neg : Bool) : R2 := fun x y H Q => y = .non ∧ Q (.bl (if neg = true then !decide (x = .non) else decide (x = .non))) H
theorem op_isA : OpR X (compareOp .Is) (rIsA false) := op_isN
theorem op_isNA : OpR X (compareOp .IsNot) (rIsA true) := op_notN
theorem rep_non {m : List Addr} {H : Hp} {v : V} {w : W} (r : RepW K m H v w) (h : w ≠ .d .non) : v ≠ .non := by
  cases w with
  | d x =>
    cases x with
    | non => exact absurd rfl h
    | bl b => cases (show v = V.bl b from r); exact fun z => nomatch z
    | int b => cases (show v = V.int b from r); exact fun z => nomatch z
    | str b => cases (show v = V.str b ∧ _ from r).1; exact fun z => nomatch z
    | tup b => obtain ⟨a, vs, e, _⟩ := r; subst e; exact fun z => nomatch z
  | scr ns => obtain ⟨a, e, _⟩ := r; subst e; exact fun z => nomatch z
  | loc n => obtain ⟨a, _, e⟩ := r; subst e; exact fun z => nomatch z
  | tp ws => obtain ⟨a, vs, e, _⟩ := r; subst e; exact fun z => nomatch z
theorem ops_is (neg : Bool) : OpS K (rIsA neg) (opIs neg) := by
  intro m S H vx vy x y w S' R rx ry h Q q
  unfold opIs at h
  split at h
  · cases h
    refine ⟨ry, ?_⟩
    have e : decide (vx = V.non) = true := decide_eq_true (show vx = V.non from rx)
    rw [e]
    refine q _ m H (Step.refl m H) R ?_
    cases neg <;> rfl
  · rename_i hx
    cases h
    refine ⟨ry, ?_⟩
    have e : decide (vx = V.non) = false := decide_eq_false (rep_non rx fun z => hx z)
    rw [e]
    refine q _ m H (Step.refl m H) R ?_
    cases neg <;> rfl
  · cases h
/-- one sign in a text -/
def opInS (neg : Bool) : Op2 := fun x y S => match x, y with
  | .d (.str a), .d (.str b) => match a.cps.toList with
    | [c] => some (.d (.bl (if neg = true then !decide (c ∈ b.cps.toList) else decide (c ∈ b.cps.toList))), S)
    | _ => none
  | _, _ => none
def rInSA (neg : Bool) : R2 := fun x y H Q => ∃ (c : Nat) (z : Str), x = .str ⟨#[c]⟩ ∧ y = .str z ∧ Q (.bl (if neg = true then !decide (c ∈ z.cps.toList) else decide (c ∈ z.cps.toList))) H
theorem op_inSA : OpR X (compareOp .In) (rInSA false) := op_in_sign
theorem op_notInSA : OpR X (compareOp .NotIn) (rInSA true) := op_notIn_sign
theorem ops_inS (neg : Bool) : OpS K (rInSA neg) (opInS neg) := by
  intro m S H vx vy x y w S' R rx ry h Q q
  unfold opInS at h
  split at h
  · rename_i a b
    split at h
    · rename_i c hc
      cases h
      obtain ⟨e1, _⟩ := (show vx = V.str a ∧ _ from rx)
      obtain ⟨e2, _⟩ := (show vy = V.str b ∧ _ from ry)
      have ea : a = ⟨#[c]⟩ := by
        obtain ⟨arr⟩ := a
        have : arr = #[c] := by
          apply Array.ext'
          simpa using hc
        rw [this]
      exact ⟨c, b, by rw [e1, ea], e2, q _ m H (Step.refl m H) R rfl⟩
    · cases h
  · cases h

/-! ### subscripts -/
def opIx : Op2 := fun x y S => match x, y with
  | .d (.tup ds), .d (.int i) => (atI ds i).map fun d => (.d d, S)
  | .loc n, .d (.int i) => match S[n]? with
    | some (.lst ds) => (atI ds i).map fun d => (.d d, S)
    | _ => none
  | .scr ns, .d (.int i) => (atI ns i).map fun d => (.d (.int d), S)
  | .d (.str s), .d (.int i) => if s.length ≤ 100000 then (atI s.cps.toList i).map fun c => (.d (.str ⟨#[c]⟩), S) else none
  | .tp ss, .d (.int i) => (atI ss i).map fun | .inl d => (.d d, S) | .inr n => (.loc n, S)
  | _, _ => none
theorem atI_reps {H : Hp} {vs : List V} {ds : List D} {i : Int} {d : D} (r : Reps H vs ds) (h : atI ds i = some d) : ∃ v, atI vs i = some v ∧ Rep H v d := by
  unfold atI at *
  rw [r.length]
  obtain ⟨j, h1, h2⟩ := Option.bind_eq_some_iff.mp h
  obtain ⟨v, e, q⟩ := r.get h2
  exact ⟨v, by rw [h1]; exact e, q⟩
theorem repSs_get {m : List Addr} {H : Hp} : ∀ {vs : List V} {ds : List (Sum D Nat)} {i : Nat} {d : Sum D Nat}, RepSs m H vs ds → ds[i]? = some d → ∃ v, vs[i]? = some v ∧ RepS m H v d
  | _, [], _, _, _, e => by simp at e
  | _, d :: ds, 0, _, ⟨v, r, e, h1, _⟩, q => by
    subst e
    simp only [List.getElem?_cons_zero, Option.some.injEq] at q
    subst q
    exact ⟨v, by simp, h1⟩
  | _, d :: ds, i + 1, _, ⟨v, r, e, _, h2⟩, q => by
    subst e
    simp only [List.getElem?_cons_succ] at q
    obtain ⟨v', e', r'⟩ := repSs_get h2 q
    exact ⟨v', by simpa using e', r'⟩
theorem repSs_len {m : List Addr} {H : Hp} : ∀ {vs : List V} {ds : List (Sum D Nat)}, RepSs m H vs ds → vs.length = ds.length
  | _, [], h => by cases (show _ = [] from h); rfl
  | _, _ :: _, ⟨v, r, e, _, h2⟩ => by subst e; simp [repSs_len h2]
theorem strOk_one {c : Nat} {s : Str} (h : PyData.strOk s = true) (hc : c ∈ s.cps.toList) : PyData.strOk ⟨#[c]⟩ = true := by
  unfold PyData.strOk at *
  rw [Array.all_eq_true] at h
  obtain ⟨i, hi, e⟩ := List.getElem_of_mem hc
  have := h i (by simpa using hi)
  simp at *
  rw [← e]
  simpa using this
theorem ops_ix : OpS K (rIx K) opIx := by
  intro m S H vx vy x y w S' R rx ry h Q q
  unfold opIx at h
  split at h
  · rename_i ds i
    obtain ⟨d, hd, h⟩ := Option.map_eq_some_iff.mp h
    cases h
    obtain ⟨a, vs, e, ho, r⟩ := rx
    obtain ⟨v, hv, rv⟩ := atI_reps r hd
    exact .inr (.inl ⟨a, vs, i, v, e, ry, SqT.of ho, hv, q _ m H (Step.refl m H) R rv⟩)
  · rename_i n i
    split at h
    · rename_i ds e1
      obtain ⟨d, hd, h⟩ := Option.map_eq_some_iff.mp h
      cases h
      obtain ⟨a, g1, e⟩ := rx
      obtain ⟨vs, ho, r⟩ := R.cell n a _ g1 e1
      obtain ⟨v, hv, rv⟩ := atI_reps r hd
      exact .inl ⟨a, vs, i, v, e, ry, SqL.of ho, hv, q _ m H (Step.refl m H) R rv⟩
    · cases h
  · rename_i ns i
    obtain ⟨d, hd, h⟩ := Option.map_eq_some_iff.mp h
    cases h
    obtain ⟨a, e, hs⟩ := rx
    refine .inl ⟨a, ns.map V.int, i, .int d, e, ry, hs.sq, ?_, q _ m H (Step.refl m H) R rfl⟩
    unfold atI at *
    rw [List.length_map]
    obtain ⟨j, h1, h2⟩ := Option.bind_eq_some_iff.mp hd
    rw [h1]
    show (ns.map V.int)[j]? = _
    rw [List.getElem?_map, h2]
    rfl
  · rename_i s i
    split at h
    · rename_i hl
      obtain ⟨c, hc, h⟩ := Option.map_eq_some_iff.mp h
      cases h
      obtain ⟨e1, k1⟩ := (show vx = V.str s ∧ _ from rx)
      have hm : c ∈ s.cps.toList := by
        unfold atI at hc
        obtain ⟨j, _, h2⟩ := Option.bind_eq_some_iff.mp hc
        exact List.mem_of_getElem? h2
      exact .inr (.inr ⟨s, i, c, e1, ry, by rw [sizeLine_eq]; omega, hc, q _ m H (Step.refl m H) R ⟨rfl, strOk_one k1 hm⟩⟩)
    · cases h
  · rename_i ss i
    obtain ⟨d, hd, h⟩ := Option.map_eq_some_iff.mp h
    obtain ⟨a, vs, e, ho, r⟩ := rx
    have hx : ∃ v, atI vs i = some v ∧ RepS m H v d := by
      unfold atI at *
      rw [repSs_len r]
      obtain ⟨j, h1, h2⟩ := Option.bind_eq_some_iff.mp hd
      obtain ⟨v, e, q⟩ := repSs_get r h2
      exact ⟨v, by rw [h1]; exact e, q⟩
    obtain ⟨v, hv, rv⟩ := hx
    refine .inr (.inl ⟨a, vs, i, v, e, ry, SqT.of ho, hv, ?_⟩)
    cases d with
    | inl d => cases h; exact q _ m H (Step.refl m H) R rv
    | inr n => cases h; exact q _ m H (Step.refl m H) R rv
  · cases h

/-! ### slices -/
abbrev EvO := Slots → Store → Option (Option Int × Store)
def oNone : EvO := fun _ S => some (none, S)
def oSome (f : EvE) : EvO := fun σ S => (f σ S).bind fun p => match p.1 with | .d (.int i) => some (some i, p.2) | _ => none
def SdO (K : PySem.W.Frag) (t : TO) (f : EvO) : Prop := ∀ (m : List Addr) (S : Store) (H : Hp) (σc : L2.St) (σ : Slots) (o : Option Int) (S' : Store), Rel H m S → SlotsOk K m H σc σ → f σ S = some (o, S') →
  ∀ Q : Option Int → Hp → Prop, (∀ m' H', Step m H m' H' → Rel H' m' S' → Q o H') → t σc H Q
def PXO (X : Cx) (e : Option Expr) (f : EvO) : Prop := ∃ t, PO X e t ∧ SdO X.K t f
theorem pxo_none : PXO X none oNone := ⟨_, po_none, fun m S H σc σ o S' R Z h Q q => by cases h; exact q m H (Step.refl m H) R⟩
theorem pxo_some {e : Expr} {f : EvE} (h : PX X e f) : PXO X (some e) (oSome f) := by
  obtain ⟨t, p, s⟩ := h
  refine ⟨_, po_some p, fun m S H σc σ o S' R Z h Q q => ?_⟩
  unfold oSome at h
  obtain ⟨⟨w, S1⟩, h1, h⟩ := Option.bind_eq_some_iff.mp h
  refine s m S H σc σ w S1 R Z h1 _ fun v m1 H1 s1 R1 r1 => ?_
  dsimp only at h
  split at h
  · cases h
    exact ⟨_, r1, q m1 H1 s1 R1⟩
  · cases h
def cutD (ds : List D) (lo hi : Option Int) : List D := (ds.drop (HT.sIx ds.length 0 lo)).take (HT.sIx ds.length ds.length hi - HT.sIx ds.length 0 lo)
/-- a slice of a tuple that is not the whole; of a list -/
def opSl (x : W) (lo hi : Option Int) (S : Store) : Option (W × Store) := match x with
  | .d (.tup ds) => if HT.sIx ds.length 0 lo = 0 ∧ HT.sIx ds.length ds.length hi = ds.length then none else some (.d (.tup (cutD ds lo hi)), S)
  | .loc n => match S[n]? with
    | some (.lst ds) => some (.loc S.length, S ++ [.lst (cutD ds lo hi)])
    | _ => none
  | _ => none
def eSl (f : EvE) (lo hi : EvO) : EvE := fun σ S => (f σ S).bind fun p => (lo σ p.2).bind fun a => (hi σ a.2).bind fun b => opSl p.1 a.1 b.1 b.2
theorem reps_cut {H : Hp} {vs : List V} {ds : List D} (r : Reps H vs ds) (lo hi : Option Int) : Reps H (cutV vs lo hi) (cutD ds lo hi) := by
  unfold cutV cutD
  rw [r.length]
  exact Reps.take _ (Reps.drop _ r)
theorem px_sl {e : Expr} {f : EvE} {lo hi : Option Expr} {fl fh : EvO} {p2 : Pos} (h : PX X e f) (hl : PXO X lo fl) (hh : PXO X hi fh) : PX X (.Subscript e (.Slice lo hi none p2) pos) (eSl f fl fh) := by
  obtain ⟨t, p, s⟩ := h
  obtain ⟨tl, pl, sl⟩ := hl
  obtain ⟨th, ph, sh⟩ := hh
  refine ⟨_, pe_slice (sl_tup.or sl_list) p pl ph, ?_⟩
  intro m S H σc σ w S' R Z h Q q
  unfold eSl at h
  obtain ⟨⟨w1, S1⟩, h1, h⟩ := Option.bind_eq_some_iff.mp h
  obtain ⟨⟨o1, S2⟩, h2, h⟩ := Option.bind_eq_some_iff.mp h
  obtain ⟨⟨o2, S3⟩, h3, h⟩ := Option.bind_eq_some_iff.mp h
  refine s m S H σc σ w1 S1 R Z h1 _ fun v m1 H1 s1 R1 r1 => ?_
  refine sl m1 S1 H1 σc σ o1 S2 R1 (Z.step R s1) h2 _ fun m2 H2 s2 R2 => ?_
  refine sh m2 S2 H2 σc σ o2 S3 R2 (Z.step R (s1.trans s2)) h3 _ fun m3 H3 s3 R3 => ?_
  have r3 := RepW.step R2 s3 (RepW.step R1 s2 r1)
  have s13 := (s1.trans s2).trans s3
  unfold opSl at h
  dsimp only at h
  split at h
  · rename_i ds
    split at h
    · cases h
    · rename_i hk
      cases h
      obtain ⟨a, vs, e, ho, r⟩ := r3
      refine .inl ⟨a, vs, e, SqT.of ho, by rw [r.length]; exact hk, fun p hp => ?_⟩
      have sm := new_same hp (.tup (cutV vs o1 o2))
      exact q _ m3 _ (s13.trans (Step.same sm)) (R3.grow sm) ⟨p, _, rfl, upd_same, Reps.step R3 (Step.same sm) (reps_cut r o1 o2)⟩
  · rename_i n
    split at h
    · rename_i ds e1
      cases h
      obtain ⟨a, g1, e⟩ := r3
      obtain ⟨vs, ho, r⟩ := R3.cell _ a _ g1 e1
      refine .inr ⟨a, vs, e, SqL.of ho, fun p hp => ?_⟩
      obtain ⟨st, R4, e⟩ := R3.alloc hp (reps_cut r o1 o2)
      exact q _ _ _ (s13.trans st) R4 ⟨p, e, rfl⟩
    · cases h
  · cases h

/-! ### a store by place -/
def sPut (f o i : EvE) : EvS := fun σ S => (f σ S).bind fun p => (o σ p.2).bind fun a => (i σ a.2).bind fun b => match p.1, a.1, b.1 with
  | .d x, .loc n, .d (.int k) => match b.2[n]? with
    | some (.lst ds) => (ixN ds.length k).map fun j => (.nx σ, b.2.set n (.lst (ds.set j x)))
    | _ => none
  | _, _, _ => none
theorem ps_put {o i e : Expr} {f fo fi : EvE} {tpos : Pos} (h : PX X e f) (ho : PX X o fo) (hi : PX X i fi) (hs : swapsWithSole [.Subscript o i tpos] e pos.line X.env = pure false := by rfl) (hw : swappedStores [.Subscript o i tpos] e X.env = pure none := by rfl)
    (h1 : (assignEach [.Subscript o i tpos] X.env).map (·.2) = [assign (.Subscript o i tpos) X.env] := by rfl)
    (ha : ∀ v, assign (.Subscript o i tpos) X.env v = (do
      let ov ← holding [v] (eval o X.env)
      let iv ← holding [v, ov] (eval i X.env)
      standAt tpos
      holding [v, ov, iv] (setItem ov iv v)
      release [v, ov, iv] []) := by intro _; rfl) : PXS X (.Assign [.Subscript o i tpos] e pos) (sPut f fo fi) := by
  obtain ⟨t, p, s⟩ := h
  obtain ⟨to, po, so⟩ := ho
  obtain ⟨ti, pi, si⟩ := hi
  refine ⟨_, ps_asg p (pg_sub po pi set_list ha) hs hw h1, ?_⟩
  intro m S H σc σ fl S' R Z h D q
  unfold sPut at h
  obtain ⟨⟨w1, S1⟩, h1, h⟩ := Option.bind_eq_some_iff.mp h
  obtain ⟨⟨w2, S2⟩, h2, h⟩ := Option.bind_eq_some_iff.mp h
  obtain ⟨⟨w3, S3⟩, h3, h⟩ := Option.bind_eq_some_iff.mp h
  refine s m S H σc σ w1 S1 R Z h1 _ fun v m1 H1 s1 R1 r1 => ?_
  refine so m1 S1 H1 σc σ w2 S2 R1 (Z.step R s1) h2 _ fun v2 m2 H2 s2 R2 r2 => ?_
  refine si m2 S2 H2 σc σ w3 S3 R2 (Z.step R (s1.trans s2)) h3 _ fun v3 m3 H3 s3 R3 r3 => ?_
  dsimp only at h
  split at h
  · rename_i x n k
    split at h
    · rename_i ds e1
      obtain ⟨j, hj, h⟩ := Option.map_eq_some_iff.mp h
      cases h
      obtain ⟨a, g1, e⟩ := RepW.step R2 s3 r2
      obtain ⟨vs, hl, r⟩ := R3.cell _ a _ g1 e1
      have rx := RepW.step R2 s3 (RepW.step R1 s2 r1)
      refine ⟨a, vs, _, j, e, r3, hl, by rw [r.length]; exact hj, ?_⟩
      obtain ⟨st, R4⟩ := R3.write g1 (Reps.set j r rx)
      have s14 := ((s1.trans s2).trans s3).trans st
      exact q _ m3 _ s14 R4 (Z.step R s14)
    · cases h
  · cases h
end
end Fw
namespace Fw
open PySem PySem.Spec PyProof.Rows L2 RZ

/-! ### built-ins by their names -/
def CbS (K : PySem.W.Frag) (r : List V → Hp → VK → Prop) (op : Fn) : Prop := ∀ (m : List Addr) (S : Store) (H : Hp) (vs : List V) (ws : List W) (w : W) (S' : Store), Rel H m S → RepWs K m H vs ws → op ws S = some (w, S') →
  ∀ Q : VK, (∀ v m' H', Step m H m' H' → Rel H' m' S' → RepW K m' H' v w → Q v H') → r vs H Q
section
variable {X : Cx} {K : PySem.W.Frag} {pos : Pos}
theorem sd_cb {r : List V → Hp → VK → Prop} {op : Fn} {t : TA} {g : EvA} (hs : CbS K r op) (sd : SdA K t g) : SdE K (tCB r t) (eCall op g) := by
  intro m S H σc σ w S' R Z h Q q
  unfold eCall at h
  obtain ⟨⟨ws, S1⟩, h1, h⟩ := Option.bind_eq_some_iff.mp h
  refine sd m S H σc σ ws S1 R Z h1 _ fun vs m1 H1 s1 R1 r1 => ?_
  exact hs m1 S1 H1 vs ws w S' R1 r1 h Q fun v m2 H2 s2 R2 r2 => q v m2 H2 (s1.trans s2) R2 r2
theorem px_b {x : Str} {id : String} {p : Pos} {e : Expr} {es : List Expr} {r : List V → Hp → VK → Prop} {op : Fn} {g : EvA} (hc : CallR X (.builtin id) r) (hs : CbS X.K r op) (hm : X.mg x = none) (hv : bootBuiltins x = some (.builtin id)) (h : PXL X (e :: es) g) (hg : Gl X x := by rfl)
    (hn : x ≠ "__name__" := by decide) (hdb : (x == ("__debug__" : Str)) = false := by decide)
    (he : starEach (e :: es) X.env = (false, eval e X.env) :: starEach es X.env := by rfl) (hpl : (backTo pos (starEach es X.env)).any (·.1) = false := by rfl) : PX X (.Call (.Name x p) (e :: es) [] pos) (eCall op g) := by
  obtain ⟨⟨t, pa, sd⟩, _⟩ := h
  exact ⟨_, pe_callB hc hg hm hv pa hn hdb he hpl, sd_cb hs sd⟩
theorem px_ty {x : Str} {T : String} {p : Pos} {e : Expr} {es : List Expr} {r : List V → Hp → VK → Prop} {op : Fn} {g : EvA} (hc : CallR X (.type T) r) (hs : CbS X.K r op) (hm : X.mg x = none) (hv : bootBuiltins x = some (.type T)) (h : PXL X (e :: es) g) (hg : Gl X x := by rfl)
    (hn : x ≠ "__name__" := by decide) (hdb : (x == ("__debug__" : Str)) = false := by decide)
    (he : starEach (e :: es) X.env = (false, eval e X.env) :: starEach es X.env := by rfl) (hpl : (backTo pos (starEach es X.env)).any (·.1) = false := by rfl) : PX X (.Call (.Name x p) (e :: es) [] pos) (eCall op g) := by
  obtain ⟨⟨t, pa, sd⟩, _⟩ := h
  exact ⟨_, pe_callTy hc hg hm hv pa hn hdb he hpl, sd_cb hs sd⟩

/-- len -/
def bLen : Fn := fun ws S => match ws with
  | [.d (.tup ds)] => some (.d (.int ds.length), S)
  | [.loc n] => match S[n]? with
    | some (.lst ds) => some (.d (.int ds.length), S)
    | _ => none
  | [.scr ns] => some (.d (.int ns.length), S)
  | [.d (.str s)] => if s.length ≤ 100000 then some (.d (.int s.length), S) else none
  | _ => none
def rLenA (K : PySem.W.Frag) : List V → Hp → VK → Prop := fun xs H Q => (∃ p ys, xs = [.ref p] ∧ (SqL K H p ys ∨ SqT K H p ys) ∧ Q (.int ys.length) H) ∨ (∃ z, xs = [.str z] ∧ z.length ≤ sizeLine ∧ Q (.int z.length) H)
theorem cr_lenA : CallR X (.builtin "len") (rLenA X.K) := call_len_seq.or call_len_str
theorem one_of {m : List Addr} {H : Hp} {vs : List V} {w : W} (r : RepWs K m H vs [w]) : ∃ v, vs = [v] ∧ RepW K m H v w := by
  obtain ⟨v, r', e, h1, h2⟩ := r
  cases (show r' = [] from h2)
  exact ⟨v, e, h1⟩
theorem two_of {m : List Addr} {H : Hp} {vs : List V} {w u : W} (r : RepWs K m H vs [w, u]) : ∃ v z, vs = [v, z] ∧ RepW K m H v w ∧ RepW K m H z u := by
  obtain ⟨v, r', e, h1, h2⟩ := r
  obtain ⟨z, e', g⟩ := one_of h2
  subst e'
  exact ⟨v, z, e, h1, g⟩
theorem cb_len : CbS K (rLenA K) bLen := by
  intro m S H vs ws w S' R rs h Q q
  unfold bLen at h
  split at h
  · cases h
    obtain ⟨v, e, a, us, ea, ho, r⟩ := one_of rs
    subst e ea
    exact .inl ⟨a, us, rfl, .inr (SqT.of ho), q _ m H (Step.refl m H) R (by rw [r.length]; rfl)⟩
  · split at h
    · rename_i ds e1
      cases h
      obtain ⟨v, e, a, g1, ea⟩ := one_of rs
      subst e ea
      obtain ⟨us, ho, r⟩ := R.cell _ a _ g1 e1
      exact .inl ⟨a, us, rfl, .inl (SqL.of ho), q _ m H (Step.refl m H) R (by rw [r.length]; rfl)⟩
    · cases h
  · cases h
    obtain ⟨v, e, a, ea, hs⟩ := one_of rs
    subst e ea
    exact .inl ⟨a, _, rfl, .inl hs.sq, q _ m H (Step.refl m H) R (by rw [List.length_map]; rfl)⟩
  · split at h
    · rename_i hl
      cases h
      obtain ⟨v, e, ev, _⟩ := one_of rs
      subst e ev
      exact .inr ⟨_, rfl, by rw [sizeLine_eq]; omega, q _ m H (Step.refl m H) R rfl⟩
    · cases h
  · cases h
/-- int(i), int(flag) -/
def bInt : Fn := fun ws S => match ws with
  | [.d (.int i)] => some (.d (.int i), S)
  | [.d (.bl b)] => some (.d (.int (if b = true then 1 else 0)), S)
  | _ => none
theorem cb_int : CbS K (fun xs H Q => (∃ i, xs = [.int i] ∧ Q (.int i) H) ∨ ∃ k, xs = [.bl k] ∧ Q (.int (if k then 1 else 0)) H) bInt := by
  intro m S H vs ws w S' R rs h Q q
  unfold bInt at h
  split at h
  · cases h
    obtain ⟨v, e, ev⟩ := one_of rs
    cases (show v = V.int _ from ev)
    exact .inl ⟨_, e, q _ m H (Step.refl m H) R rfl⟩
  · cases h
    obtain ⟨v, e, ev⟩ := one_of rs
    cases (show v = V.bl _ from ev)
    exact .inr ⟨_, e, q _ m H (Step.refl m H) R rfl⟩
  · cases h
def bMax : Fn := fun ws S => match ws with
  | [.d (.int i), .d (.int j)] => some (.d (.int (if j > i then j else i)), S)
  | _ => none
def bMin : Fn := fun ws S => match ws with
  | [.d (.int i), .d (.int j)] => some (.d (.int (if j < i then j else i)), S)
  | _ => none
theorem cb_max : CbS K (fun xs H Q => ∃ i j, xs = [.int i, .int j] ∧ Q (.int (if j > i then j else i)) H) bMax := by
  intro m S H vs ws w S' R rs h Q q
  unfold bMax at h
  split at h
  · cases h
    obtain ⟨v, z, e, e1, e2⟩ := two_of rs
    cases (show v = V.int _ from e1)
    cases (show z = V.int _ from e2)
    exact ⟨_, _, e, q _ m H (Step.refl m H) R rfl⟩
  · cases h
theorem cb_min : CbS K (fun xs H Q => ∃ i j, xs = [.int i, .int j] ∧ Q (.int (if j < i then j else i)) H) bMin := by
  intro m S H vs ws w S' R rs h Q q
  unfold bMin at h
  split at h
  · cases h
    obtain ⟨v, z, e, e1, e2⟩ := two_of rs
    cases (show v = V.int _ from e1)
    cases (show z = V.int _ from e2)
    exact ⟨_, _, e, q _ m H (Step.refl m H) R rfl⟩
  · cases h
/-- tuple(..), list(..) -/
def bTuple : Fn := fun ws S => match ws with
  | [.d (.tup ds)] => some (.d (.tup ds), S)
  | [.loc n] => match S[n]? with
    | some (.lst ds) => some (.d (.tup ds), S)
    | _ => none
  | _ => none
theorem cb_tuple : CbS K (fun xs H Q => ∃ p ys, xs = [.ref p] ∧ ((SqL K H p ys ∧ ∀ l, H l = none → Q (.ref l) (upd H l (.tup ys))) ∨ (SqT K H p ys ∧ Q (.ref p) H))) bTuple := by
  intro m S H vs ws w S' R rs h Q q
  unfold bTuple at h
  split at h
  · cases h
    obtain ⟨v, e, a, us, ea, ho, r⟩ := one_of rs
    subst e ea
    exact ⟨a, us, rfl, .inr ⟨SqT.of ho, q _ m H (Step.refl m H) R ⟨a, us, rfl, ho, r⟩⟩⟩
  · split at h
    · rename_i ds e1
      cases h
      obtain ⟨v, e, a, g1, ea⟩ := one_of rs
      subst e ea
      obtain ⟨us, ho, r⟩ := R.cell _ a _ g1 e1
      refine ⟨a, us, rfl, .inl ⟨SqL.of ho, fun l hl => ?_⟩⟩
      have sm := new_same hl (.tup us)
      exact q _ m _ (Step.same sm) (R.grow sm) ⟨l, us, rfl, upd_same, Reps.step R (Step.same sm) r⟩
    · cases h
  · cases h
def bList : Fn := fun ws S => match ws with
  | [.d (.tup ds)] => some (.loc S.length, S ++ [.lst ds])
  | [.loc n] => match S[n]? with
    | some (.lst ds) => some (.loc S.length, S ++ [.lst ds])
    | _ => none
  | _ => none
theorem cb_list : CbS K (fun xs H Q => ∃ p ys, xs = [.ref p] ∧ (SqL K H p ys ∨ SqT K H p ys) ∧ ∀ l, H l = none → Q (.ref l) (upd H l (.lst ys))) bList := by
  intro m S H vs ws w S' R rs h Q q
  unfold bList at h
  split at h
  · cases h
    obtain ⟨v, e, a, us, ea, ho, r⟩ := one_of rs
    subst e ea
    refine ⟨a, us, rfl, .inr (SqT.of ho), fun l hl => ?_⟩
    obtain ⟨st, R2, e⟩ := R.alloc hl r
    exact q _ _ _ st R2 ⟨l, e, rfl⟩
  · split at h
    · rename_i ds e1
      cases h
      obtain ⟨v, e, a, g1, ea⟩ := one_of rs
      subst e ea
      obtain ⟨us, ho, r⟩ := R.cell _ a _ g1 e1
      refine ⟨a, us, rfl, .inl (SqL.of ho), fun l hl => ?_⟩
      obtain ⟨st, R2, e⟩ := R.alloc hl r
      exact q _ _ _ st R2 ⟨l, e, rfl⟩
    · cases h
  · cases h
/-- all(a list of truths) -/
def truths : List D → Option (List Bool)
  | [] => some []
  | .bl b :: r => (truths r).map (b :: ·)
  | _ :: _ => none
theorem truths_ok {H : Hp} : ∀ {ds : List D} {bs : List Bool} {vs : List V}, truths ds = some bs → Reps H vs ds → vs = bs.map V.bl
  | [], bs, vs, h, r => by cases h; exact r
  | .bl b :: ds, bs, vs, h, ⟨v, r, e, h1, h2⟩ => by
    obtain ⟨bs', h', e'⟩ := Option.map_eq_some_iff.mp h
    subst e' e
    cases (show v = V.bl b from h1)
    rw [truths_ok h' h2]
    rfl
  | .non :: _, _, _, h, _ => by cases h
  | .int _ :: _, _, _, h, _ => by cases h
  | .str _ :: _, _, _, h, _ => by cases h
  | .tup _ :: _, _, _, h, _ => by cases h
def bAll : Fn := fun ws S => match ws with
  | [.loc n] => match S[n]? with
    | some (.lst ds) => (truths ds).map fun bs => (.d (.bl (bs.all id)), S)
    | _ => none
  | _ => none
theorem cb_all : CbS K (rAll K) bAll := by
  intro m S H vs ws w S' R rs h Q q
  unfold bAll at h
  split at h
  · split at h
    · rename_i ds e1
      obtain ⟨bs, hb, h⟩ := Option.map_eq_some_iff.mp h
      cases h
      obtain ⟨v, e, a, g1, ea⟩ := one_of rs
      subst e ea
      obtain ⟨us, ho, r⟩ := R.cell _ a _ g1 e1
      have eu := truths_ok hb r
      subst eu
      exact ⟨a, bs, rfl, SqL.of ho, q _ m H (Step.refl m H) R rfl⟩
    · cases h
  · cases h

/-! ### isinstance -/
def tyN : W → String
  | .d .non => "NoneType"
  | .d (.bl _) => "bool"
  | .d (.int _) => "int"
  | .d (.str _) => "str"
  | .d (.tup _) => "tuple"
  | .scr _ => "list"
  | .loc _ => "list"
  | .tp _ => "tuple"
def isT (a b : String) : Bool := a == b || (a == "bool" && b == "int")
theorem kit_all : (["NoneType", "bool", "int", "str", "tuple", "list"].all fun a => ["str", "tuple", "int", "bool", "list", "dict"].all fun b => kitB a b == some (isT a b)) = true := by decide +kernel
theorem kit_one {w : W} {T : String} (h : (["str", "tuple", "int", "bool", "list", "dict"].contains T) = true) : kitB (tyN w) T = some (isT (tyN w) T) := by
  have q := kit_all
  rw [List.all_eq_true] at q
  have ha : tyN w ∈ ["NoneType", "bool", "int", "str", "tuple", "list"] := by
    cases w with
    | d x => cases x <;> simp [tyN]
    | _ => simp [tyN]
  have q1 := q _ ha
  rw [List.all_eq_true] at q1
  have q2 := q1 T (by simpa using h)
  exact eq_of_beq q2
theorem ty_of {m : List Addr} {H : Hp} {S : Store} {v : V} {w : W} (R : Rel H m S) (r : RepW K m H v w) : TyX K H v (.type (tyN w)) := by
  cases w with
  | d x =>
    cases x with
    | non => cases (show v = V.non from r); exact .base .non
    | bl b => cases (show v = V.bl b from r); exact .base (.bl b)
    | int b => cases (show v = V.int b from r); exact .base (.int b)
    | str b => cases (show v = V.str b ∧ _ from r).1; exact .base (.str b)
    | tup b => obtain ⟨a, vs, e, ho, _⟩ := r; subst e; exact .base (.tup ho)
  | scr ns =>
    obtain ⟨a, e, hs⟩ := r
    subst e
    rcases hs with ⟨o, ho⟩ | ⟨o, its, n, hk, hc, _⟩
    · exact .base (.frz ho)
    · exact .kList hk hc
  | loc n =>
    obtain ⟨a, g, e⟩ := r
    subst e
    obtain ⟨vs, ho⟩ := R.lst (List.mem_of_getElem? g)
    exact .base (.lst ho)
  | tp ws => obtain ⟨a, vs, e, ho, _⟩ := r; subst e; exact .base (.tup ho)
def eIsi (T : String) (f : EvE) : EvE := fun σ S => (f σ S).map fun p => (.d (.bl (isT (tyN p.1) T)), p.2)
theorem px_isi {T : String} {x : Str} {p p2 : Pos} {e : Expr} {f : EvE} (hm : X.mg "isinstance" = none) (hmT : X.mg x = none) (hv : bootBuiltins x = some (.type T)) (h : PX X e f) (hT : (["str", "tuple", "int", "bool", "list", "dict"].contains T) = true := by decide) (hg : Gl X "isinstance" := by rfl) (hg2 : Gl X x := by rfl)
    (hn : x ≠ "__name__" := by decide) (hdb : (x == ("__debug__" : Str)) = false := by decide)
    (he : starEach [e, .Name x p2] X.env = (false, eval e X.env) :: starEach [.Name x p2] X.env := by rfl) (hpl : (backTo pos (starEach [.Name x p2] X.env)).any (·.1) = false := by rfl) : PX X (.Call (.Name "isinstance" p) [e, .Name x p2] [] pos) (eIsi T f) := by
  obtain ⟨t, pa, s⟩ := h
  refine ⟨_, pe_callB call_isi hg hm (by decide +kernel) (pa_cons pa (pa_cons (pe_bltn (v := .ty T) hg2 hmT hv rfl hn hdb) pa_nil) he) (he := he) (hpl := hpl), ?_⟩
  intro m S H σc σ w S' R Z h Q q
  unfold eIsi at h
  obtain ⟨⟨w1, S1⟩, h1, h⟩ := Option.map_eq_some_iff.mp h
  cases h
  refine s m S H σc σ w1 S1 R Z h1 _ fun v m1 H1 s1 R1 r1 => ?_
  exact ⟨v, .ty T, .type (tyN w1), .type T, isT (tyN w1) T, rfl, .ty T, ty_of R1 r1, kit_ty (kit_one hT), q _ m1 H1 s1 R1 rfl⟩
def eIsi2 (T U : String) (f : EvE) : EvE := fun σ S => (f σ S).map fun p => (.d (.bl (isT (tyN p.1) T || isT (tyN p.1) U)), p.2)
theorem px_isi2 {T U : String} {x y : Str} {p p2 p3 p4 : Pos} {k : Nat} {e : Expr} {f : EvE} (hm : X.mg "isinstance" = none) (hmT : X.mg x = none) (hvT : bootBuiltins x = some (.type T)) (hmU : X.mg y = none) (hvU : bootBuiltins y = some (.type U)) (h : PX X e f)
    (hT : (["str", "tuple", "int", "bool", "list", "dict"].contains T) = true := by decide) (hU : (["str", "tuple", "int", "bool", "list", "dict"].contains U) = true := by decide) (hg : Gl X "isinstance" := by rfl) (hg2 : Gl X x := by rfl) (hg3 : Gl X y := by rfl)
    (hn : x ≠ "__name__" := by decide) (hdb : (x == ("__debug__" : Str)) = false := by decide) (hn2 : y ≠ "__name__" := by decide) (hdb2 : (y == ("__debug__" : Str)) = false := by decide)
    (hs1 : starEach [.Name x p2, .Name y p3] X.env = (false, eval (.Name x p2) X.env) :: starEach [.Name y p3] X.env := by rfl)
    (he : starEach [e, .Tuple [.Name x p2, .Name y p3] k p4] X.env = (false, eval e X.env) :: starEach [.Tuple [.Name x p2, .Name y p3] k p4] X.env := by rfl) (hpl : (backTo pos (starEach [.Tuple [.Name x p2, .Name y p3] k p4] X.env)).any (·.1) = false := by rfl) :
    PX X (.Call (.Name "isinstance" p) [e, .Tuple [.Name x p2, .Name y p3] k p4] [] pos) (eIsi2 T U f) := by
  obtain ⟨t, pa, s⟩ := h
  refine ⟨_, pe_callB call_isiT hg hm (by decide +kernel) (pa_cons pa (pa_cons (pe_tup (pa_cons (pe_bltn (v := .ty T) hg2 hmT hvT rfl hn hdb) (pa_cons (pe_bltn (v := .ty U) hg3 hmU hvU rfl hn2 hdb2) pa_nil) hs1)) pa_nil) he) (he := he) (hpl := hpl), ?_⟩
  intro m S H σc σ w S' R Z h Q q
  unfold eIsi2 at h
  obtain ⟨⟨w1, S1⟩, h1, h⟩ := Option.map_eq_some_iff.mp h
  cases h
  refine s m S H σc σ w1 S1 R Z h1 _ fun v m1 H1 s1 R1 r1 => ?_
  refine ⟨by show 2 ≤ sizeLine; decide, fun a ha => ?_⟩
  have sm := new_same ha (.tup [.ty T, .ty U])
  have st := Step.same (m := m1) sm
  have R2 := R1.grow sm
  refine ⟨v, a, [.ty T, .ty U], .type (tyN w1), [.type T, .type U], isT (tyN w1) T || isT (tyN w1) U, rfl, upd_same, .cons (.ty T) (.cons (.ty U) .nil), ty_of R2 (RepW.step R1 st r1), ?_, q _ m1 _ (s1.trans st) R2 rfl⟩
  exact kitAny_cons (kit_ty (kit_one hT)) (fun e1 => kitAny_cons (kit_ty (kit_one hU)) (fun e2 => by rw [e1, e2]; rfl) (fun e2 => by rw [e2, Bool.or_true])) (fun e1 => by rw [e1, Bool.true_or])

theorem reps_one {H : Hp} {v : V} {d : D} (h : Rep H v d) : Reps H [v] [d] := ⟨v, [], rfl, h, rfl⟩
/-! ### methods of lists and texts -/
def eApp (fo fe : EvE) : EvE := fun σ S => (fo σ S).bind fun p => (fe σ p.2).bind fun q => match p.1, q.1 with
  | .loc n, .d x => match q.2[n]? with
    | some (.lst ds) => if ds.length < 100000 then some (.d .non, q.2.set n (.lst (ds ++ [x]))) else none
    | _ => none
  | _, _ => none
theorem px_app {o e : Expr} {fo fe : EvE} {apos : Pos} (ho : PX X o fo) (he : PX X e fe)
    (hbase : attributeBase o "append" X.env (eval o X.env) = eval o X.env := by rfl)
    (hfew : ((backTo pos (starEach [e] X.env)).all (fun x => !x.1) && (backToKw pos (keywordEach [] X.env)).all (fun x => x.1.isSome)
      && decide ([e].length + ([] : List Keyword).length + (if ([] : List Keyword).isEmpty then 0 else 1) < 30)) = true := by rfl)
    (hline : (apos.endLine == pos.line) = true := by rfl) (hs : starEach [e] X.env = (false, eval e X.env) :: starEach [] X.env := by rfl) (hplain : (backTo pos (starEach [] X.env)).any (·.1) = false := by rfl) :
    PX X (.Call (.Attribute o "append" apos) [e] [] pos) (eApp fo fe) := by
  obtain ⟨to, po, so⟩ := ho
  obtain ⟨te, pe, se⟩ := he
  refine ⟨_, pe_bm PySem.F.plainAttrs_list PySem.F.slot_list_append PySem.F.type_list_append mt_append po (pa_cons pe pa_nil hs) hbase hfew hline hs hplain, ?_⟩
  intro m S H σc σ w S' R Z h Q q
  unfold eApp at h
  obtain ⟨⟨w1, S1⟩, h1, h⟩ := Option.bind_eq_some_iff.mp h
  obtain ⟨⟨w2, S2⟩, h2, h⟩ := Option.bind_eq_some_iff.mp h
  refine so m S H σc σ w1 S1 R Z h1 _ fun v m1 H1 s1 R1 r1 => ?_
  dsimp only at h
  split at h
  · rename_i n x
    split at h
    · rename_i ds e1
      split at h
      · rename_i hl
        cases h
        obtain ⟨a, g1, ea⟩ := r1
        subst ea
        obtain ⟨us, hu⟩ := R1.lst (List.mem_of_getElem? g1)
        refine ⟨.inl ⟨rfl, us, SqL.of hu⟩, ?_⟩
        refine se m1 S1 H1 σc σ _ S2 R1 (Z.step R s1) h2 _ fun v2 m2 H2 s2 R2 r2 => ?_
        have g2 := s2.get g1
        obtain ⟨vs, hv, r⟩ := R2.cell _ a _ g2 e1
        refine ⟨a, vs, v2, rfl, rfl, hv, by rw [r.length, sizeLine_eq]; omega, ?_⟩
        obtain ⟨st, R3⟩ := R2.write g2 (Reps.append r (reps_one r2))
        exact q _ m2 _ ((s1.trans s2).trans st) R3 rfl
      · cases h
    · cases h
  · cases h
def eExt (fo fe : EvE) : EvE := fun σ S => (fo σ S).bind fun p => (fe σ p.2).bind fun q => match p.1, q.1 with
  | .loc n, .loc k => match q.2[n]?, q.2[k]? with
    | some (.lst ds), some (.lst es) => if ds.length + es.length < 100000 then some (.d .non, q.2.set n (.lst (ds ++ es))) else none
    | _, _ => none
  | _, _ => none
theorem px_ext {o e : Expr} {fo fe : EvE} {apos : Pos} (ho : PX X o fo) (he : PX X e fe)
    (hbase : attributeBase o "extend" X.env (eval o X.env) = eval o X.env := by rfl)
    (hfew : ((backTo pos (starEach [e] X.env)).all (fun x => !x.1) && (backToKw pos (keywordEach [] X.env)).all (fun x => x.1.isSome)
      && decide ([e].length + ([] : List Keyword).length + (if ([] : List Keyword).isEmpty then 0 else 1) < 30)) = true := by rfl)
    (hline : (apos.endLine == pos.line) = true := by rfl) (hs : starEach [e] X.env = (false, eval e X.env) :: starEach [] X.env := by rfl) (hplain : (backTo pos (starEach [] X.env)).any (·.1) = false := by rfl) :
    PX X (.Call (.Attribute o "extend" apos) [e] [] pos) (eExt fo fe) := by
  obtain ⟨to, po, so⟩ := ho
  obtain ⟨te, pe, se⟩ := he
  refine ⟨_, pe_bm PySem.F.plainAttrs_list PySem.F.slot_list_extend PySem.F.type_list_extend mt_extend po (pa_cons pe pa_nil hs) hbase hfew hline hs hplain, ?_⟩
  intro m S H σc σ w S' R Z h Q q
  unfold eExt at h
  obtain ⟨⟨w1, S1⟩, h1, h⟩ := Option.bind_eq_some_iff.mp h
  obtain ⟨⟨w2, S2⟩, h2, h⟩ := Option.bind_eq_some_iff.mp h
  refine so m S H σc σ w1 S1 R Z h1 _ fun v m1 H1 s1 R1 r1 => ?_
  dsimp only at h
  split at h
  · rename_i n x
    split at h
    · rename_i ds es e1 e2
      split at h
      · rename_i hl
        cases h
        obtain ⟨a, g1, ea⟩ := r1
        subst ea
        obtain ⟨us, hu⟩ := R1.lst (List.mem_of_getElem? g1)
        refine ⟨.inl ⟨rfl, us, SqL.of hu⟩, ?_⟩
        refine se m1 S1 H1 σc σ _ S2 R1 (Z.step R s1) h2 _ fun v2 m2 H2 s2 R2 r2 => ?_
        have g2 := s2.get g1
        obtain ⟨b, g3, eb⟩ := r2
        subst eb
        obtain ⟨vs, hv, r⟩ := R2.cell _ a _ g2 e1
        obtain ⟨zs, hz, rz⟩ := R2.cell _ b _ g3 e2
        refine ⟨a, b, vs, zs, rfl, rfl, hv, hz, by rw [r.length, rz.length, sizeLine_eq]; omega, ?_⟩
        obtain ⟨st, R3⟩ := R2.write g2 (Reps.append r rz)
        exact q _ m2 _ ((s1.trans s2).trans st) R3 rfl
      · cases h
    · cases h
  · cases h
/-- s.partition(sep): a tuple of three -/
def ePart (fo fe : EvE) : EvE := fun σ S => (fo σ S).bind fun p => (fe σ p.2).bind fun q => match p.1, q.1 with
  | .d (.str a), .d (.str b) => if b.length ≠ 0 ∧ a.length ≤ 100000 ∧ PyData.strOk (Txt.partition a b).1 = true ∧ PyData.strOk (Txt.partition a b).2.1 = true ∧ PyData.strOk (Txt.partition a b).2.2 = true then
      some (.d (.tup [.str (Txt.partition a b).1, .str (Txt.partition a b).2.1, .str (Txt.partition a b).2.2]), q.2) else none
  | _, _ => none
theorem px_part {o e : Expr} {fo fe : EvE} {apos : Pos} (ho : PX X o fo) (he : PX X e fe) (hs : starEach [e] X.env = [(false, eval e X.env)] := by rfl) (hbase : attributeBase o "partition" X.env (eval o X.env) = eval o X.env := by rfl) (hline : (apos.endLine == pos.line) = true := by rfl) :
    PX X (.Call (.Attribute o "partition" apos) [e] [] pos) (ePart fo fe) := by
  obtain ⟨to, po, so⟩ := ho
  obtain ⟨te, pe, se⟩ := he
  refine ⟨_, pe_partition po pe hs hbase hline, ?_⟩
  intro m S H σc σ w S' R Z h Q q
  unfold ePart at h
  obtain ⟨⟨w1, S1⟩, h1, h⟩ := Option.bind_eq_some_iff.mp h
  obtain ⟨⟨w2, S2⟩, h2, h⟩ := Option.bind_eq_some_iff.mp h
  refine so m S H σc σ w1 S1 R Z h1 _ fun v m1 H1 s1 R1 r1 => ?_
  dsimp only at h
  split at h
  · rename_i a b
    split at h
    · rename_i hk
      cases h
      obtain ⟨ev, _⟩ := (show v = V.str _ ∧ _ from r1)
      refine ⟨⟨_, ev⟩, ?_⟩
      refine se m1 S1 H1 σc σ _ _ R1 (Z.step R s1) h2 _ fun v2 m2 H2 s2 R2 r2 => ?_
      obtain ⟨ev2, _⟩ := (show v2 = V.str _ ∧ _ from r2)
      subst ev ev2
      refine ⟨_, _, rfl, rfl, by simpa using hk.1, by rw [sizeLine_eq]; omega, fun p hp => ?_⟩
      have sm := new_same hp
      exact q _ m2 _ ((s1.trans s2).trans (Step.same (sm _))) (R2.grow (sm _)) ⟨p, _, rfl, upd_same, _, _, rfl, ⟨rfl, hk.2.2.1⟩, _, _, rfl, ⟨rfl, hk.2.2.2.1⟩, _, _, rfl, ⟨rfl, hk.2.2.2.2⟩, rfl⟩
    · cases h
  · cases h
end
end Fw
namespace Fw
open PySem PySem.Spec PyProof.Rows L2 RZ

/-! ### sets of texts -/
def keyS (e : Int × Value) : Str := match e.2 with | .str x _ => x | _ => Str.empty
def GoodS (w : World) (e : Int × Value) : Prop := ∃ x tk, e.2 = Value.str x tk ∧ e.1 = hashStr w x
def SetS (w : World) (h : Heap) (a : Addr) (S : Str → Bool) (n : Nat) : Prop :=
  ∃ o es ep t, h.get? a = some o ∧ o.ExactSet ∧ o.data = .set es ep t ∧ (∀ e ∈ es.toList, GoodS w e) ∧ (es.toList.map keyS).Nodup ∧ (∀ k, S k = true ↔ k ∈ es.toList.map keyS) ∧
    es.size < scanBound ∧ t.fits es.size = true ∧ es.size = n ∧ Ris t.place.toList ∧ (w.params.followText "set-order" = true ∨ t.led = true)
section
variable {P : Program} {w : World} {h h' : Heap} {a : Addr} {S : Str → Bool} {n : Nat}
theorem SetS.at (R : SetS w h a S n) (k : ∀ o, h.get? a = some o → h'.get? a = some o) : SetS w h' a S n := by
  obtain ⟨o, es, ep, t, ho, r⟩ := R
  exact ⟨o, es, ep, t, k o ho, r⟩
theorem SetS.congr {S' : Str → Bool} (R : SetS w h a S n) (e : ∀ k, S' k = S k) : SetS w h a S' n := by
  have q : S' = S := funext e
  rw [q]; exact R
theorem goodS_elems {l : List (Int × Value)} (g : ∀ e ∈ l, GoodS w e) : ElemsOf (PySem.strKind P w) l := fun e he => by
  obtain ⟨k, tk, h1, h2⟩ := g e he
  exact ⟨⟨k, by rw [h1]; exact strKind_is P w k tk, h2⟩, by rw [h1] <;> rfl⟩
theorem goodS_is {e : Int × Value} (g : GoodS w e) (k : Str) : (PySem.strKind P w).is k e.2 = true ↔ keyS e = k := by
  obtain ⟨k0, tk, h1, _⟩ := g
  unfold keyS
  rw [h1]
  constructor
  · intro z
    obtain ⟨t, e⟩ := Value.isStrOf_shape (x := k) (v := .str k0 tk) z
    cases e
    rfl
  · intro z
    subst z
    exact strKind_is P w k0 tk
theorem goodS_mem {l : List (Int × Value)} (g : ∀ e ∈ l, GoodS w e) (k : Str) : k ∈ l.map keyS ↔ ∃ e ∈ l, (PySem.strKind P w).is k e.2 = true := by
  rw [List.mem_map]
  constructor
  · rintro ⟨e, he, q⟩
    exact ⟨e, he, (goodS_is (g e he) k).2 q⟩
  · rintro ⟨e, he, q⟩
    exact ⟨e, he, (goodS_is (g e he) k).1 q⟩
end
section
variable {P : Program} {w : World} {A : Around} {E : Value → Shared → Prop} {s : Shared} {a : Addr} {S : Str → Bool} {n : Nat}
theorem setS_add_tail {g : Bool → Sem Unit} (hg : ∀ (b : Bool) (s₁ : Shared) (Q' : Unit → Shared → Prop), Q' () s₁ → wpAny (model P w) A (g b) Q' E s₁)
    {o : Obj} {es : Array (Int × Value)} {ep : Nat} {t : SetTable} (ho : s.heap.get? a = some o) (hex : o.ExactSet) (hd : o.data = .set es ep t)
    {es1 : Array (Int × Value)} {t2 : SetTable} {S' : Str → Bool} (g1 : ∀ e ∈ es1.toList, GoodS w e) (nd1 : (es1.toList.map keyS).Nodup) (m1 : ∀ k, S' k = true ↔ k ∈ es1.toList.map keyS)
    (hb1 : es1.size < scanBound) (hf2 : t2.fits es1.size = true) (hr : Ris t2.place.toList) (hl : w.params.followText "set-order" = true ∨ t2.led = true) {wasDummy : Bool} {R : Option Bool → Shared → Prop}
    (hR : ∀ h', Heap.SameBut a s.heap h' → SetS w h' a S' es1.size → R (some true) { s with heap := h' }) :
    wpAny (model P w) A (do
        storeSet a es1 t2
        if (!wasDummy && t2.tooFull) = true then do
            g (relayAll t2 es1 (SetTable.grown es1.size)).2.2
            storeSet a (relayAll t2 es1 (SetTable.grown es1.size)).1 (relayAll t2 es1 (SetTable.grown es1.size)).2.1
            pure (some true)
          else pure (some true)) R E s := by
  refine wpAny_bind (wpAny_storeSet_of ho hd ?_ (fits_of_scanBound hb1))
  have ho1 := store_at (es' := es1) (t' := t2) ho hd
  have sb1 := Heap.SameBut.update s.heap a (Obj.putSet es1 t2)
  split
  · have pm := relayAll_perm t2 es1 (SetTable.grown es1.size)
    have hf3 := relayAll_fits t2 es1 (SetTable.grown es1.size)
    have hr3 := relayAll_ris t2 es1 (SetTable.grown es1.size)
    have hl3 := relayAll_led t2 es1 (SetTable.grown es1.size)
    generalize relayAll t2 es1 (SetTable.grown es1.size) = Z at pm hf3 hr3 hl3 ⊢
    obtain ⟨es2, t3, gave⟩ := Z
    dsimp only at pm hf3 hr3 hl3 ⊢
    have hsz : es2.size = es1.size := by rw [← Array.length_toList, pm.length_eq, Array.length_toList]
    have hb2 : es2.size < scanBound := by rw [hsz]; exact hb1
    refine wpAny_bind (hg _ _ _ ?_)
    refine wpAny_bind (wpAny_storeSet_of ho1 rfl ?_ (fits_of_scanBound hb2))
    have ho2 := store_at (es' := es2) (t' := t3) ho1 rfl
    refine wpAny_pure (hR _ (sb1.trans (Heap.SameBut.update _ a _)) ?_)
    exact ⟨_, es2, _, t3, ho2, hex, rfl, fun e he => g1 e (pm.mem_iff.mp he), (pm.map keyS).nodup_iff.mpr nd1, fun k => (m1 k).trans (pm.map keyS).mem_iff.symm, hb2, hf3, hsz, hr3,
      hl.imp id fun z => by rw [hl3]; exact z⟩
  · exact wpAny_pure (hR _ sb1 ⟨_, es1, _, t2, ho1, hex, rfl, g1, nd1, m1, hb1, hf2, rfl, hr, hl⟩)

theorem setS_add_hashed {k : Str} {tk : Tok} {Q : Bool → Shared → Prop} (R : SetS w s.heap a S n) (room : n + 1 < scanBound)
    (hQ : ∀ h', Heap.SameBut a s.heap h' → SetS w h' a (fun j => S j || decide (j = k)) (if S k = true then n else n + 1) → Q (!S k) { s with heap := h' }) :
    wpAny (model P w) A (setAddHashed a (.str k tk) ((PySem.strKind P w).hash k)) Q E s := by
  obtain ⟨o, es, ep, t, ho, hex, hd, g, nd, hm, hb, hf, hn, hr, hl⟩ := R
  have hkey : (PySem.strKind P w).is k (.str k tk) = true := strKind_is P w k tk
  have hsc : (Value.str k tk).scannable = true := rfl
  have hel : ElemsOf (PySem.strKind P w) es.toList := goodS_elems g
  unfold setAddHashed setAddHashedIn
  refine wpAny_holding (wpAny_bind (wpAny_setState_of ho hd hf ?_))
  dsimp only
  rw [byScan_of hsc hb hel]
  simp only [↓reduceIte]
  unfold setAddByScan
  refine wpAny_bind ?_
  refine wpAny_bind (wpAny_rule ?_)
  refine wpAny_bind (wpAny_setScan_of hkey ho hd hf hel ?_)
  cases hfi : List.findIdx? (fun e => (PySem.strKind P w).is k e.2) es.toList with
  | some j =>
    dsimp only
    obtain ⟨hj, pj, _⟩ := List.findIdx?_eq_some_iff_getElem.mp hfi
    have hSk : S k = true := (hm k).2 ((goodS_mem (P := P) (w := w) g k).2 ⟨es.toList[j], List.getElem_mem hj, pj⟩)
    refine wpAny_pure (wpAny_pure ?_)
    have q := hQ s.heap (Heap.SameBut.refl a s.heap) ⟨o, es, ep, t, ho, hex, hd, g, nd, fun i => by
      rw [Bool.or_eq_true, decide_eq_true_eq, ← hm i]
      exact ⟨fun z => z.elim id (fun e => e ▸ hSk), .inl⟩, hb, hf, by rw [if_pos hSk]; exact hn, hr, hl⟩
    rw [hSk] at q
    exact q
  | none =>
    dsimp only
    have hnk : k ∉ es.toList.map keyS := fun z => by
      obtain ⟨e, he, q⟩ := (goodS_mem (P := P) (w := w) g k).1 z
      have c := List.findIdx?_eq_none_iff.mp hfi e he
      rw [q] at c
      cases c
    have hSk : S k = false := by
      cases q : S k with
      | false => rfl
      | true => exact absurd ((hm k).1 q) hnk
    have hgw : ∀ (b : Bool) {s₁ : Shared} {Q' : Unit → Shared → Prop}, Q' () s₁ → wpAny (model P w) A (match b with | true => rule "set.scan.the-table-gave-way" | false => pure ()) Q' E s₁ :=
      fun b s₁ Q' q => by cases b <;> first | exact wpAny_pure q | exact wpAny_rule q
    have pm := layNew_perm t es ((PySem.strKind P w).hash k) (.str k tk)
    have hf1 := layNew_fits t es ((PySem.strKind P w).hash k) (.str k tk)
    have hr1 := layNew_ris t es ((PySem.strKind P w).hash k) (.str k tk) hr
    have hl1 := layNew_led t es ((PySem.strKind P w).hash k) (.str k tk)
    generalize layNew t es ((PySem.strKind P w).hash k) (.str k tk) = Z at pm hf1 hr1 hl1 ⊢
    obtain ⟨es1, t1, wasDummy, gave⟩ := Z
    dsimp only at pm hf1 hr1 hl1 ⊢
    rw [Array.toList_push] at pm
    have pc : es1.toList.Perm (((PySem.strKind P w).hash k, Value.str k tk) :: es.toList) := pm.trans (List.perm_append_singleton _ _)
    have pk : (es1.toList.map keyS).Perm (k :: es.toList.map keyS) := pc.map keyS
    have g1 : ∀ e ∈ es1.toList, GoodS w e := fun e he => by
      rcases List.mem_cons.mp (pc.mem_iff.mp he) with z | z
      · rw [z]; exact ⟨k, tk, rfl, rfl⟩
      · exact g e z
    have nd1 : (es1.toList.map keyS).Nodup := pk.nodup_iff.mpr (List.nodup_cons.mpr ⟨hnk, nd⟩)
    have m1 : ∀ i, (S i || decide (i = k)) = true ↔ i ∈ es1.toList.map keyS := fun i => by
      rw [Bool.or_eq_true, decide_eq_true_eq, hm i, pk.mem_iff, List.mem_cons]
      exact Or.comm
    have hsz : es1.size = n + 1 := by rw [← Array.length_toList, pc.length_eq, List.length_cons, Array.length_toList, hn]
    have hb1 : es1.size < scanBound := by rw [hsz]; exact room
    have hled : w.params.followText "set-order" = true ∨ t1.led = true := hl.imp id fun z => by rw [hl1]; exact z
    have fin : ∀ h', Heap.SameBut a s.heap h' → SetS w h' a (fun j => S j || decide (j = k)) es1.size → Q true { s with heap := h' } := fun h' sb r => by
      have q := hQ h' sb
      rw [hSk] at q
      rw [hsz] at r
      exact q r
    refine wpAny_bind (hgw _ ?_)
    split
    · refine wpAny_bind ?_
      rw [hashByValue_scannable 8 hsc]
      refine wpAny_pure ?_
      refine setS_add_tail ?_ ho hex hd g1 nd1 m1 hb1 ?_ ?_ ?_ ?_
      · intro b s₁ Q' q; cases b <;> first | exact wpAny_pure q | exact wpAny_rule q
      · first | (split <;> first | exact hf1 | exact SetTable.fits_plain_off hf1) | exact hf1
      · first | (split <;> exact hr1) | exact hr1
      · first | (split <;> exact hled) | exact hled
      · intro h' sb r; dsimp only; exact wpAny_pure (fin h' sb r)
    · refine wpAny_bind (wpAny_pure ?_)
      simp only [↓reduceIte]
      refine setS_add_tail ?_ ho hex hd g1 nd1 m1 hb1 hf1 hr1 hled ?_
      · intro b s₁ Q' q; cases b <;> first | exact wpAny_pure q | exact wpAny_rule q
      · intro h' sb r; dsimp only; exact wpAny_pure (fin h' sb r)

theorem setS_fresh {h : Heap} (w : World) : SetS w (h.push { cls := .type "set", dict := none, data := .set #[] 0 (.fresh 0 0 (!w.params.followText "set-order")) }) h.objs.size (fun _ => false) 0 :=
  ⟨_, #[], 0, _, Heap.get?_push_size _ rfl, ⟨rfl, rfl, rfl⟩, rfl, (fun e he => by simp at he), (by simp), (fun k => by simp), (by decide), (by rfl), rfl, (by exact List.Pairwise.nil), by
    show _ ∨ (!w.params.followText "set-order") = true
    cases w.params.followText "set-order"
    · exact .inr rfl
    · exact .inl rfl⟩
end

/-! ### set(a list of texts) -/
section
variable {prog : Program} {w : World} {A : Around} {R : Result → Shared → Prop} {I : Addr} {fp wr : List Addr} {G : Array GenState → Array GenState → Prop} {n : Nat} {P : Nat → Value → Prop} {St : Nat → Shared → Prop}
theorem loopTx (W : WalksS prog w A.in1 I fp wr G n P St) (S : Addr) (hSf : S ∉ fp) (xs : List Str) (hsz : xs.length = n) (hn1 : n < 4000)
    (hval : ∀ i v, P i v → ∃ t, v = .str (xs.getD i Str.empty) t) :
    ∀ (k i : Nat) (s : Shared), n - i = k → i ≤ n → St i s →
      (∃ c, c ≤ i ∧ SetS w s.heap S (fun k' => decide (k' ∈ xs.take i)) c) →
      (∀ s', Moved (S :: wr) G s s' → (∃ c, c ≤ n ∧ SetS w s'.heap S (fun k' => decide (k' ∈ xs.take n)) c) → R (.ok (.ret .none)) s') →
      codeAny (model prog w) A (.builtin "set.update.loop" ⟨[.ref S, .ref I], []⟩) R s := by
  have hSw : S ∉ wr := fun h => hSf (W.sub _ h)
  have hsub : ∀ b ∈ wr, b ∈ S :: wr := fun b hb => List.mem_cons_of_mem _ hb
  intro k
  induction k with
  | zero =>
    intro i s hk hi hst hS hR
    have hin : i = n := by omega
    subst hin
    refine codeAny_builtin PyProof.Rows.F.entry_set_update_loop ?_
    rw [Around.under_plainId PyProof.Rows.F.plain_set_update_loop _]
    show wpAny _ A.in1 (pyNext (.ref I) >>= _) _ _ s
    refine wpAny_bind (W.done s _ _ hst fun s' hm => ?_)
    show wpAny _ A.in1 (ret Value.none) _ _ s'
    obtain ⟨c, hc, hS⟩ := hS
    exact wpAny_pure (hR s' (hm.mono hsub) ⟨c, hc, hS.at fun o ho => hm.heap S o hSw ho⟩)
  | succ k ih =>
    intro i s hk hi hst hS hR
    have hlt : i < n := by omega
    refine codeAny_builtin PyProof.Rows.F.entry_set_update_loop ?_
    rw [Around.under_plainId PyProof.Rows.F.plain_set_update_loop _]
    show wpAny _ A.in1 (pyNext (.ref I) >>= _) _ _ s
    refine wpAny_bind (W.item i s _ _ hlt hst fun v s' hP hst' hm => ?_)
    obtain ⟨t, rfl⟩ := hval i v hP
    obtain ⟨c, hc, hS⟩ := hS
    have hS' : SetS w s'.heap S (fun k' => decide (k' ∈ xs.take i)) c := hS.at fun o ho => hm.heap S o hSw ho
    show wpAny _ A.in1 (holding [Value.str (xs.getD i Str.empty) t] (setAdd S (.str (xs.getD i Str.empty) t)) >>= _) _ _ s'
    refine wpAny_bind (wpAny_holding ?_)
    unfold setAdd
    refine wpAny_holding ?_
    refine wpAny_bind ((PySem.strKind prog w).pyHash (k := xs.getD i Str.empty) (strKind_is _ _ _ _) ?_)
    refine setS_add_hashed (P := prog) (s := { s' with toks := s'.toks + 1 }) hS' (by unfold scanBound; omega) fun h' hsb hS2 => ?_
    have hil : i < xs.length := by omega
    have hget : xs.getD i Str.empty = xs[i] := by rw [List.getD_eq_getElem?_getD, List.getElem?_eq_getElem hil]; rfl
    have hSi : SetS w h' S (fun k' => decide (k' ∈ xs.take (i + 1))) (if decide (xs.getD i Str.empty ∈ xs.take i) = true then c else c + 1) := by
      refine hS2.congr fun k' => ?_
      rw [List.take_succ_eq_append_getElem hil, hget, Bool.eq_iff_iff]
      simp only [decide_eq_true_eq, Bool.or_eq_true, List.mem_append, List.mem_singleton]
    have hc2 : (if decide (xs.getD i Str.empty ∈ xs.take i) = true then c else c + 1) ≤ i + 1 := by split <;> omega
    refine wpAny_pure ⟨plainId_quiet PyProof.Rows.F.plain_set_update_loop _, ih (i + 1) _ (by omega) hlt (W.frame _ s' _ _ hst' (Nat.le_succ _) fun b hb o e => ?_) ⟨_, hc2, hSi⟩ fun s'' hm'' hS'' => ?_⟩
    · rw [hsb.2 b (fun h : b = S => hSf (by rw [← h]; exact hb))]; exact e
    · refine hR s'' (Moved.trans W.gtrans ((hm.mono hsub).then_heap (Nat.le_succ _) fun b o hb e => ?_) hm'') hS''
      rw [hsb.2 b (fun h : b = S => hb (by rw [h]; exact List.mem_cons_self))]; exact e
end
section
variable {prog : Program} {w : World} {A : Around} {E : Value → Shared → Prop} {s : Shared}
/-- the empty set that set(a) lays first: its mark is the world's -/
theorem new_of_set (a : Value) {Q₁ : Value → Shared → Prop}
    (h : Q₁ (.ref s.heap.objs.size) { s with heap := s.heap.push { cls := .type "set", dict := none, data := .set #[] 0 (.fresh 0 0 (!w.params.followText "set-order")) } }) :
    codeAny (model prog w) A (.call (.builtin "set.__new__") ⟨[.type "set", a], []⟩) (wants Q₁ E) s := by
  refine codeAny_of_tree ?_
  show wpAny _ A.in1 (do checkBuiltinCall "set.__new__" ⟨[.type "set", a], []⟩; again (.builtin "set.__new__" ⟨[.type "set", a], []⟩)) _ _ s
  refine wpAny_bind (wpAny_of_eq (F.newCall_set_1 a) (wpAny_pure ⟨plainId_quiet F.plain_set_new _, codeAny_builtin F.entry_set_new ?_⟩))
  rw [Around.under_plainId F.plain_set_new _]
  unfold Builtin.«set.__new__» Builtin.Frozenset.newClass
  have hsub := sub_set_self
  obtain ⟨hp, g, d, tk, os⟩ := s
  dsimp only
  wp_walk
  refine wpAny_askSetting (wpAny_pure ?_)
  dsimp only
  simp only [newObj]
  refine wpAny_bind (wpAny_alloc (wpAny_pure ?_))
  exact wpAny_pure h
set_option maxHeartbeats 8000000 in
theorem call_set_texts {l : Addr} {items : Array Value} {xs : List Str} {Q : Value → Shared → Prop}
    (hh : A.handled = none) (hl : s.heap.IsList l items) (hi : PyProof.Rows.StrsAre items.toList xs) (hn1 : xs.length < 4000)
    (h : ∀ (h' : Heap) (tk : Nat) (c : Nat), c ≤ xs.length → SetS w h' s.heap.objs.size (fun k' => decide (k' ∈ xs)) c →
      (∀ b o, b < s.heap.objs.size → s.heap.get? b = some o → h'.get? b = some o) → Q (.ref s.heap.objs.size) { s with heap := h', toks := tk }) :
    wpAny (model prog w) A (call (.type "set") [.ref l]) Q E s := by
  obtain ⟨c, tl, hmro⟩ := PySem.F.called_set.mro
  have hmade := PySem.F.called_set.made
  have hsub := PySem.F.called_set.sub
  refine wpAny_call (codeAny_of_tree ?_)
  show wpAny _ _ (callAny (.type "set") _) _ _ _
  refine wpAny_pure ⟨Code.quiet_builtin _ (by decide +kernel), codeAny_builtin PySem.F.entry_type_call ?_⟩
  rw [Around.under_plain (weight_type_call_type "set" [.ref l] []) rfl]
  have h1 := PySem.F.called_set.notType
  have h2 := PySem.F.called_set.canCreate
  have hct := PySem.F.typeCall_set_1 (.ref l)
  repeat (any_goals (first | assumption | wp_step))
  refine codeAny_mono (new_of_set (.ref l) (E := E) (Q₁ := fun obj s₁ => obj = .ref s.heap.objs.size ∧ s₁ = { s with heap := s.heap.push { cls := .type "set", dict := none, data := .set #[] 0 (.fresh 0 0 (!w.params.followText "set-order")) } }) ⟨rfl, rfl⟩) fun r s₁ hr => ?_
  have hF := setS_fresh (h := s.heap) w
  have hSz : (s.heap.push { cls := .type "set", dict := none, data := .set #[] 0 (.fresh 0 0 (!w.params.followText "set-order")) }).get? s.heap.objs.size = some { cls := .type "set", dict := none, data := .set #[] 0 (.fresh 0 0 (!w.params.followText "set-order")) } := Heap.get?_push_size _ rfl
  generalize hG : (!w.params.followText "set-order") = led at hr hF hSz
  cases r with
  | error e => exact hr
  | ok fl =>
    cases fl with
    | ret obj =>
      obtain ⟨rfl, rfl⟩ := hr
      have hS := hSz
      have hT : Shared.TypeIs { s with heap := s.heap.push { cls := .type "set", dict := none, data := .set #[] 0 (.fresh 0 0 led) } } (.ref s.heap.objs.size) "set" := ⟨_, hS, rfl⟩
      have hli := PySem.F.called_set.init.lookup
      have hbi := PySem.F.called_set.init.bind (.ref s.heap.objs.size)
      repeat (any_goals (first | assumption | wp_step))
      refine codeAny_mono (codeAny_call_builtin (R := wants (fun r s₂ => r = .none ∧ ∃ h' tk c, s₂ = { s with heap := h', toks := tk } ∧ c ≤ xs.length ∧
          SetS w h' s.heap.objs.size (fun k' => decide (k' ∈ xs)) c ∧
          (∀ b o, b < s.heap.objs.size → s.heap.get? b = some o → h'.get? b = some o)) E) PySem.F.called_set.init.plain PySem.F.entry_set_init (check_set_init_1 hT ?_)) fun r₂ s₂ hr₂ => ?_
      · obtain ⟨ol, hol, hcl, nl, hdl⟩ := hl
        obtain ⟨ocls, odict, odata, oslots⟩ := ol
        simp only at hcl hdl
        subst hcl; subst hdl
        have hol' : (s.heap.push { cls := .type "set", dict := none, data := .set #[] 0 (.fresh 0 0 led) }).get? l = some { cls := .type "list", dict := odict, data := .seq items nl, slots := oslots } := Heap.get?_push_of_some _ hol
        have hsls := PySem.F.sub_list_set
        have hslf := PySem.F.sub_list_frozenset
        have hne : (Value.type "list" == Value.type "dict") = false := by decide
        have hl1 : (s.heap.push { cls := .type "set", dict := none, data := .set #[] 0 (.fresh 0 0 led) }).IsList l items := ⟨_, hol', rfl, nl, rfl⟩
        unfold Builtin.«set.__init__» noKeywords Builtin.Frozenset.updateFrom
        generalize hPI : pyIter = PI
        wp_walk
        subst hPI
        refine wpAny_pyIter_list hl1 ?_
        refine wpAny_bind (wpAny_runValue ?_)
        have hlS : l < s.heap.objs.size := Heap.lt_size hol
        have hh3 : A.in1.in1.in1.handled = none := by simp [hh]
        have hneI : l ≠ (s.heap.push { cls := .type "set", dict := none, data := .set #[] 0 (.fresh 0 0 led) }).objs.size := by
          rw [Heap.size_push]; exact Nat.ne_of_lt (Nat.lt_succ_of_lt hlS)
        have hSf : s.heap.objs.size ∉ [(s.heap.push { cls := .type "set", dict := none, data := .set #[] 0 (.fresh 0 0 led) }).objs.size, l] := by
          rw [Heap.size_push]; simp only [List.mem_cons, List.mem_singleton, List.not_mem_nil, or_false, not_or]
          exact ⟨Nat.ne_of_lt (Nat.lt_succ_self _), Nat.ne_of_gt hlS⟩
        have hsz : xs.length = items.size := by rw [← StrsAre.len_eq hi, Array.length_toList]
        have hval : ∀ (i : Nat) (v : Value), items[i]? = some v → ∃ t, v = .str (xs.getD i Str.empty) t := fun i v hv => SS.strs_at hi i v (by rw [Array.getElem?_toList]; exact hv)
        refine loopTx ((Walks.list hh3 _ l hneI items).toS) s.heap.objs.size
          hSf xs hsz (by rw [← hsz]; exact hn1) hval (items.size - 0) 0 _ (by omega) (Nat.zero_le _)
          ⟨⟨_, Heap.get?_push_size _ rfl, rfl, rfl⟩, (hl1.push _)⟩ ?hS0 ?hR
        case hS0 =>
          refine ⟨0, Nat.le_refl _, (hF.at fun o ho => Heap.get?_push_of_some _ ho).congr fun k => ?_⟩
          simp
        case hR =>
          intro s' hm hS'
          obtain ⟨h', g', d', tk', os'⟩ := s'
          have eg : g' = s.gens := hm.gens
          have ed : d' = s.drawn := hm.drawn
          have eo : os' = s.os := hm.os
          subst eg; subst ed; subst eo
          show wpAny _ _ _ _ _ _
          refine wpAny_pure ?_
          show wpAny _ _ (ret Value.none) _ _ _
          obtain ⟨c, hc, hS'⟩ := hS'
          refine wpAny_pure ⟨rfl, h', tk', c, rfl, by omega, ?_, fun b o hb e => ?_⟩
          · refine hS'.congr fun k => ?_
            rw [← hsz, List.take_length]
          · have hb1 : b ≠ s.heap.objs.size := Nat.ne_of_lt hb
            have hb2 : b ≠ (s.heap.push { cls := .type "set", dict := none, data := .set #[] 0 (.fresh 0 0 led) }).objs.size := by
              rw [Heap.size_push]; exact Nat.ne_of_lt (Nat.lt_succ_of_lt hb)
            exact hm.heap b o (by simp only [List.mem_cons, List.mem_singleton, List.not_mem_nil, or_false, not_or]; exact ⟨hb1, hb2⟩) (Heap.get?_push_of_some _ (Heap.get?_push_of_some _ e))
      · cases r₂ with
        | error e => exact hr₂
        | ok fl₂ =>
          cases fl₂ with
          | ret r =>
            obtain ⟨rfl, h', tk, c, rfl, hc, hS', hk'⟩ := hr₂
            repeat (any_goals (first | assumption | wp_step))
            exact h _ _ c hc hS' hk'
          | _ => exact hr₂.elim
    | _ => exact hr.elim

/-! ### sorted(a set of texts) -/
theorem texts_of (w : World) : ∀ (l : List (Int × Value)) (vs : List Value), (∀ e ∈ l, GoodS w e) → vs.Perm (l.map (·.2)) → StrsAre vs (vs.map fun v => keyS (0, v)) := fun l vs g pm => by
  have hv : ∀ v ∈ vs, ∃ x tk, v = Value.str x tk := fun v hv => by
    obtain ⟨e, he, q⟩ := List.mem_map.mp (pm.mem_iff.mp hv)
    obtain ⟨x, tk, h1, _⟩ := g e he
    exact ⟨x, tk, q ▸ h1⟩
  clear pm
  induction vs with
  | nil => exact .nil
  | cons v r ih =>
    obtain ⟨x, tk, e⟩ := hv v List.mem_cons_self
    subst e
    exact .cons x tk (ih fun u hu => hv u (List.mem_cons_of_mem _ hu))
theorem sorted_texts {a : Addr} {S : Str → Bool} {n : Nat} {Q : Value → Shared → Prop} (R : SetS w s.heap a S n) (hh : A.handled = none)
    (hQ : ∀ s' p (out : Array Value) (c : Nat) (ys : List Str), (∀ b o, s.heap.get? b = some o → s'.heap.get? b = some o) → s'.gens = s.gens → s'.os = s.os → s.heap.objs.size ≤ p →
      s'.heap.get? p = some (seqObj "list" out c) → StrsAre out.toList ys → sortedS ys = true → ys.Nodup → (∀ k, k ∈ ys ↔ S k = true) → ys.length = n → Q (.ref p) s') :
    wpAny (model prog w) A (call (.builtin "sorted") [.ref a]) Q E s := by
  obtain ⟨o, es, ep, t, ho, hex, hd, g, nd, hm, hb, hf, hn, hr, hl⟩ := R
  refine Calls.call_function_entry kind_sorted plain_sorted entry_sorted (args_sorted1 _) ?_
  unfold Builtin.«sorted»
  refine wpAny_bind (m := checkCount "sorted" 1 1 _) (wpAny_pure ?_)
  refine wpAny_bind (collect_set (A := A.in1) hh ⟨o, ho, hex.1, hd⟩ hf hb hr hl fun s1 vs k1 hz g1 o1 pm => ?_)
  have hvl : vs.length = n := by rw [pm.length_eq, List.length_map, Array.length_toList]; exact hn
  have hI : StrsAre vs (vs.map fun v => keyS (0, v)) := texts_of w es.toList vs g pm
  have pk : (vs.map fun v => keyS (0, v)).Perm (es.toList.map keyS) := by
    have q := pm.map fun v => keyS (0, v)
    rw [List.map_map] at q
    exact q
  have hsmall : vs.length ≤ sizeLine := by
    rw [hvl, ← hn]
    exact fits_of_scanBound hb
  refine wpAny_bind (wpAny_newList ?_ hsmall)
  have hoL : (s1.heap.push (seqObj "list" vs.toArray 0)).get? s1.heap.objs.size = some (seqObj "list" vs.toArray 0) := Heap.get?_push_size _ rfl
  refine wpAny_bind (wpAny_holding (wpAny_call_entry slot_list_sort ⟨_, hoL, rfl⟩ entry_list_sort (list_sort_treeKAny strKind_oneLt hoL hI.keysOf (fun v₁ v₂ rest e => keyKind_strs (by rw [← e]; exact hI)) hsmall fun st' a1 a2 => ⟨_, rfl, ?_⟩) (args_list_sort _)))
  obtain ⟨ys, b1, b2, b3⟩ := sorted_out_str hI a1 a2
  obtain ⟨c, hc⟩ := sortedHeap_at (vs := vs) (out := (arrOf st').map (·.2)) hoL
  have pn : ys.Perm (es.toList.map keyS) := b2.trans pk
  refine wpAny_pure ⟨_, rfl, hQ _ s1.heap.objs.size _ c ys (fun b u e => ?_) g1 o1 hz hc b1 b3 (pn.nodup_iff.mpr nd) (fun k => by rw [pn.mem_iff, ← hm k]) ?_⟩
  · have q := k1 b u e
    have hlt := Heap.lt_size q
    show (sortedHeap (s1.heap.push (seqObj "list" vs.toArray 0)) s1.heap.objs.size vs _).get? b = some u
    rw [sortedHeap_old (Nat.ne_of_lt hlt) (by rw [size_push']; exact Nat.lt_succ_of_lt hlt)]
    exact Heap.get?_push_of_some _ q
  · rw [pn.length_eq, List.length_map, Array.length_toList]; exact hn
end
end Fw
namespace Fw
open PySem PySem.Spec PyProof.Rows L2 RZ

/-! ### texts in order, each once -/
theorem lt_irr : ∀ a : List Nat, ltCps a a = false
  | [] => rfl
  | a :: r => by simp [ltCps, lt_irr r]
theorem lt_tr : ∀ a b c : List Nat, ltCps a b = true → ltCps b c = true → ltCps a c = true
  | [], [], _, h, _ => by cases h
  | [], _ :: _, [], _, h => by cases h
  | [], _ :: _, _ :: _, _, _ => rfl
  | _ :: _, [], _, h, _ => by cases h
  | _ :: _, _ :: _, [], _, h => by cases h
  | a :: r, b :: s, c :: t, h, g => by
    simp only [ltCps, Bool.or_eq_true, decide_eq_true_eq, Bool.and_eq_true, beq_iff_eq] at *
    rcases h with h | ⟨rfl, h⟩
    · rcases g with g | ⟨rfl, g⟩
      · exact .inl (by omega)
      · exact .inl h
    · rcases g with g | ⟨rfl, g⟩
      · exact .inl g
      · exact .inr ⟨rfl, lt_tr r s t h g⟩
theorem lt_tri : ∀ a b : List Nat, ltCps a b = false → ltCps b a = false → a = b
  | [], [], _, _ => rfl
  | [], _ :: _, h, _ => by cases h
  | _ :: _, [], _, h => by cases h
  | a :: r, b :: s, h, g => by
    simp only [ltCps, Bool.or_eq_false_iff, decide_eq_false_iff_not, Bool.and_eq_false_imp, beq_iff_eq] at *
    have e : a = b := by omega
    subst e
    rw [lt_tri r s (h.2 rfl) (g.2 rfl)]
def ltT (a b : Str) : Bool := ltCps a.cps.toList b.cps.toList
theorem ltT_tri {a b : Str} (h : ltT a b = false) (g : ltT b a = false) : a = b := by
  have e := lt_tri _ _ h g
  obtain ⟨x⟩ := a
  obtain ⟨y⟩ := b
  have : x = y := Array.ext' e
  rw [this]
abbrev Strict (l : List Str) : Prop := l.Pairwise fun a b => ltT a b = true
theorem strict_of : ∀ l : List Str, sortedS l = true → l.Nodup → Strict l
  | [], _, _ => List.Pairwise.nil
  | [x], _, _ => by simp
  | x :: y :: t, h, nd => by
    have h' : (!ltT y x && risingS y t) = true := h
    rw [Bool.and_eq_true] at h'
    have st := strict_of (y :: t) h'.2 (List.nodup_cons.mp nd).2
    have hxy : ltT x y = true := by
      cases e : ltT x y with
      | true => rfl
      | false =>
        have g : ltT y x = false := by simpa using h'.1
        exact absurd (ltT_tri e g) (by
          have := (List.nodup_cons.mp nd).1
          intro z
          exact this (by rw [z]; exact List.mem_cons_self))
    refine List.pairwise_cons.mpr ⟨fun b hb => ?_, st⟩
    rcases List.mem_cons.mp hb with z | z
    · rw [z]; exact hxy
    · exact lt_tr _ _ _ hxy ((List.pairwise_cons.mp st).1 b z)
theorem strict_uniq : ∀ l m : List Str, Strict l → Strict m → (∀ k, k ∈ l ↔ k ∈ m) → l = m
  | [], [], _, _, _ => rfl
  | [], b :: _, _, _, h => absurd ((h b).mpr List.mem_cons_self) (by simp)
  | a :: _, [], _, _, h => absurd ((h a).mp List.mem_cons_self) (by simp)
  | a :: r, b :: s, hl, hm, h => by
    obtain ⟨l1, l2⟩ := List.pairwise_cons.mp hl
    obtain ⟨m1, m2⟩ := List.pairwise_cons.mp hm
    have e : a = b := by
      rcases List.mem_cons.mp ((h a).mp List.mem_cons_self) with z | z
      · exact z
      · rcases List.mem_cons.mp ((h b).mpr List.mem_cons_self) with y | y
        · exact y.symm
        · have c := lt_tr _ _ _ (m1 a z) (l1 b y)
          rw [lt_irr] at c
          cases c
    subst e
    have nin : ∀ {t : List Str}, (∀ k ∈ t, ltT a k = true) → a ∉ t := fun q z => by
      have c : ltT a a = true := q a z
      unfold ltT at c
      rw [lt_irr] at c
      cases c
    rw [strict_uniq r s l2 m2 fun k => ?_]
    constructor
    · intro z
      rcases List.mem_cons.mp ((h k).mp (List.mem_cons_of_mem _ z)) with y | y
      · exact absurd (y ▸ z) (nin l1)
      · exact y
    · intro z
      rcases List.mem_cons.mp ((h k).mpr (List.mem_cons_of_mem _ z)) with y | y
      · exact absurd (y ▸ z) (nin m1)
      · exact y
def insU (x : Str) : List Str → List Str
  | [] => [x]
  | y :: r => if x = y then y :: r else if ltT x y = true then x :: y :: r else y :: insU x r
def sortU (xs : List Str) : List Str := xs.foldr insU []
theorem mem_insU (x k : Str) : ∀ l : List Str, k ∈ insU x l ↔ k = x ∨ k ∈ l
  | [] => by simp [insU]
  | y :: r => by
    unfold insU
    split
    · rename_i e
      subst e
      simp
    · split
      · simp
      · rw [List.mem_cons, mem_insU x k r, List.mem_cons]
        constructor
        · rintro (z | z | z)
          · exact .inr (.inl z)
          · exact .inl z
          · exact .inr (.inr z)
        · rintro (z | z | z)
          · exact .inr (.inl z)
          · exact .inl z
          · exact .inr (.inr z)
theorem strict_insU (x : Str) : ∀ l : List Str, Strict l → Strict (insU x l)
  | [], _ => by simp [insU]
  | y :: r, h => by
    obtain ⟨h1, h2⟩ := List.pairwise_cons.mp h
    unfold insU
    split
    · exact h
    · rename_i ne
      split
      · rename_i lt
        refine List.pairwise_cons.mpr ⟨fun b hb => ?_, h⟩
        rcases List.mem_cons.mp hb with z | z
        · rw [z]; exact lt
        · exact lt_tr _ _ _ lt (h1 b z)
      · rename_i nlt
        refine List.pairwise_cons.mpr ⟨fun b hb => ?_, strict_insU x r h2⟩
        rcases (mem_insU x b r).mp hb with z | z
        · rw [z]
          cases e : ltT y x with
          | true => rfl
          | false => exact absurd (ltT_tri (by simpa using nlt) e) ne
        · exact h1 b z
theorem mem_sortU (k : Str) : ∀ xs : List Str, k ∈ sortU xs ↔ k ∈ xs
  | [] => by simp [sortU]
  | x :: r => by
    show k ∈ insU x (sortU r) ↔ _
    rw [mem_insU, mem_sortU k r, List.mem_cons]
theorem strict_sortU : ∀ xs : List Str, Strict (sortU xs)
  | [] => List.Pairwise.nil
  | x :: r => strict_insU x _ (strict_sortU r)

/-! ### sorted(set(a)) -/
def tSortSet (K : PySem.W.Frag) (ta : TE) : TE := fun σ H Q => ta σ H fun x H1 => ∃ l, ∃ xs : List Str, x = .ref l ∧ SqL K H1 l (xs.map V.str) ∧ xs.length < 4000 ∧ ∀ p, H1 p = none → Q (.ref p) (upd H1 p (.lst ((sortU xs).map V.str)))
section
variable {X : Cx} {K : PySem.W.Frag} {pos : Pos}
theorem pe_sortSet {a : Expr} {ta : TE} {p p2 q : Pos} (hc : X.calm = true) (hg : Gl X "sorted") (hm : X.mg "sorted" = none) (hg2 : Gl X "set") (hm2 : X.mg "set" = none) (ha : PE X a ta)
    (na : starEach [a] X.env = (false, eval a X.env) :: starEach [] X.env := by rfl) : PE X (.Call (.Name "sorted" p) [.Call (.Name "set" p2) [a] [] q] [] pos) (tSortSet X.K ta) := by
  refine ⟨fun pins s σ H Q I h => ?_⟩
  refine Call_ (ld_blt I hg hm boot_sorted ?_)
  refine PyProof.Rows.callWith_builtin1 (PyProof.Rows.args_cons ?_ rfl) rfl rfl
  refine Call_ (ld_blt I hg2 hm2 boot_set ?_)
  refine PyProof.Rows.callWith_type1 (PyProof.Rows.args_cons (thn (ha.run pins s σ H _ I h) fun v s1 ⟨x, H1, I1, r1, q1⟩ => PyProof.Rows.args_nil ?_) na) na rfl
  obtain ⟨l, xs, rfl, hq, hl, q1⟩ := q1
  cases r1
  obtain ⟨its, r, pl, hz⟩ := I1.list hq
  refine call_set_texts (I1.ok.hd hc) pl.isList (by simpa using strsAre_of r) hl fun h' tk c hc' hS hk => ?_
  refine PyProof.Rows.args_nil ?_
  refine sorted_texts (s := { s1 with heap := h', toks := tk }) hS (I1.ok.hd hc) fun s' p out c2 ys k g o hp hg' hi h3 hnd hmem hlen => ?_
  have ey : ys = sortU xs := strict_uniq _ _ (strict_of ys h3 hnd) (strict_sortU xs) fun k' => by rw [hmem k', mem_sortU, decide_eq_true_eq]
  subst ey
  have kk : ∀ b u, s1.heap.get? b = some u → s'.heap.get? b = some u := fun b u e => k b u (hk b u (Heap.lt_size e) e)
  have hlt : s1.heap.objs.size < h'.objs.size := by
    obtain ⟨_, _, _, _, ho, _⟩ := hS
    exact Heap.lt_size ho
  have hp1 : s1.heap.objs.size ≤ p := Nat.le_trans (Nat.le_of_lt hlt) hp
  have hn1 : H1 p = none := I1.hok.fresh hp1
  have hlen2 : ((sortU xs).map V.str).length ≤ sizeLine := by rw [List.length_map, hlen, sizeLine_eq]; omega
  have J : Inv X pins σ (upd H1 p (.lst ((sortU xs).map V.str))) { s1 with heap := s'.heap, gens := s'.gens, drawn := s'.drawn, toks := s'.toks } := by
    exact I1.call (ch := []) (Un.laid kk hp1 hn1) (I1.hok.laid kk hp1 ⟨hlen2, out.toList, c2, vals_of_strs hi, hg'⟩) (by rw [g]; exact I1.bare) (fun _ z => nomatch z)
  have e : s' = { s1 with heap := s'.heap, gens := s'.gens, drawn := s'.drawn, toks := s'.toks } := by
    cases s'
    cases s1
    cases o
    rfl
  rw [e]
  exact ⟨.ref p, _, J, rfl, q1 p hn1⟩
def strsOf : List D → Option (List Str)
  | [] => some []
  | .str x :: r => (strsOf r).map (x :: ·)
  | _ :: _ => none
theorem strsOf_ok {H : Hp} : ∀ {ds : List D} {xs : List Str} {vs : List V}, strsOf ds = some xs → Reps H vs ds → vs = xs.map V.str ∧ ∀ x ∈ xs, PyData.strOk x = true
  | [], xs, vs, h, r => by cases h; exact ⟨r, fun _ z => by cases z⟩
  | .str b :: ds, xs, vs, h, ⟨v, r, e, h1, h2⟩ => by
    obtain ⟨bs', h', e'⟩ := Option.map_eq_some_iff.mp h
    subst e' e
    obtain ⟨e1, k1⟩ := (show v = V.str b ∧ _ from h1)
    obtain ⟨e2, k2⟩ := strsOf_ok h' h2
    subst e1 e2
    exact ⟨rfl, fun x hx => (List.mem_cons.mp hx).elim (fun z => z ▸ k1) (k2 x)⟩
  | .non :: _, _, _, h, _ => by cases h
  | .int _ :: _, _, _, h, _ => by cases h
  | .bl _ :: _, _, _, h, _ => by cases h
  | .tup _ :: _, _, _, h, _ => by cases h
theorem reps_strs {H : Hp} : ∀ {xs : List Str}, (∀ x ∈ xs, PyData.strOk x = true) → Reps H (xs.map V.str) (xs.map D.str)
  | [], _ => rfl
  | x :: r, h => ⟨_, _, rfl, ⟨rfl, h x List.mem_cons_self⟩, reps_strs fun y hy => h y (List.mem_cons_of_mem _ hy)⟩
def eSortSet (f : EvE) : EvE := fun σ S => (f σ S).bind fun p => match p.1 with
  | .loc n => match p.2[n]? with
    | some (.lst ds) => (strsOf ds).bind fun xs => if xs.length < 4000 then some (.loc p.2.length, p.2 ++ [.lst ((sortU xs).map D.str)]) else none
    | _ => none
  | _ => none
theorem px_sortSet {a : Expr} {f : EvE} {p p2 q : Pos} (hc : X.calm = true) (hm : X.mg "sorted" = none) (hm2 : X.mg "set" = none) (h : PX X a f) (hg : Gl X "sorted" := by rfl) (hg2 : Gl X "set" := by rfl)
    (na : starEach [a] X.env = (false, eval a X.env) :: starEach [] X.env := by rfl) : PX X (.Call (.Name "sorted" p) [.Call (.Name "set" p2) [a] [] q] [] pos) (eSortSet f) := by
  obtain ⟨t, pa, s⟩ := h
  refine ⟨_, pe_sortSet hc hg hm hg2 hm2 pa na, ?_⟩
  intro m S H σc σ w S' R Z h Q q
  unfold eSortSet at h
  obtain ⟨⟨w1, S1⟩, h1, h⟩ := Option.bind_eq_some_iff.mp h
  refine s m S H σc σ w1 S1 R Z h1 _ fun v m1 H1 s1 R1 r1 => ?_
  dsimp only at h
  split at h
  · split at h
    · rename_i ds e1
      obtain ⟨xs, hx, h⟩ := Option.bind_eq_some_iff.mp h
      split at h
      · rename_i hl
        cases h
        obtain ⟨b, g1, eb⟩ := r1
        obtain ⟨us, ho, r⟩ := R1.cell _ b _ g1 e1
        obtain ⟨eu, hk⟩ := strsOf_ok hx r
        subst eu
        refine ⟨b, xs, eb, SqL.of ho, hl, fun p hp => ?_⟩
        obtain ⟨st, R2, e⟩ := R1.alloc hp (reps_strs (xs := sortU xs) fun x hx => hk x ((mem_sortU x xs).mp hx))
        exact q _ _ _ (s1.trans st) R2 ⟨p, e, rfl⟩
      · cases h
    · cases h
  · cases h
end
end Fw
namespace Fw
open PySem PySem.Spec PyProof.Rows L2 RZ
/-- the walk of a def, the numbers written -/
theorem fn_sdN {P : Program} {w : World} {K : PySem.W.Frag} {mg : Str → Option Value} {base : Heap} {x qual : Str} {st : Stmt} {f : Addr} {fd : FuncData} (N ps : List Str) {k : Nat} {c : EvS} {a n : Nat} (F : Fun K x qual st f fd) (S : FnScope N ps (defScope st)) (ha : ps.length = a) (hn : N.length = n)
    (hbody : ∀ (cdv : Value) (A : Around) (outer : List Env) (s : Shared) (H : Hp) (E : XK), Room k (A.deeper (envOfC qual (defScope st) s.heap.objs.size f cdv)) →
      PXB (cxOf CX0 P w K mg base N qual (defScope st) f cdv A outer s H E).nox (defBody st) c) : FnOk P w K mg base CX0 (k + 1) f fd ps (spOf K a (runFn n c)) := by
  subst ha hn
  exact fn_sd F S hbody
section
variable {X : Cx} {K : PySem.W.Frag} {pos : Pos}
/-- -n -/
def eNeg (f : EvE) : EvE := fun σ S => (f σ S).bind fun p => match p.1 with | .d (.int i) => some (.d (.int (-i)), p.2) | _ => none
theorem px_neg {a : Expr} {f : EvE} (h : PX X a f) : PX X (.UnaryOp .USub a pos) (eNeg f) := by
  obtain ⟨t, p, s⟩ := h
  refine ⟨_, pe_un un_neg p, fun m S H σc σ w S' R Z h Q q => ?_⟩
  unfold eNeg at h
  obtain ⟨⟨w1, S1⟩, h1, h⟩ := Option.bind_eq_some_iff.mp h
  refine s m S H σc σ w1 S1 R Z h1 _ fun v m1 H1 s1 R1 r1 => ?_
  dsimp only at h
  split at h
  · cases h
    exact ⟨_, r1, q _ m1 H1 s1 R1 rfl⟩
  · cases h

/-! ### a list that was made on the way, walked: it is no more in the store -/
def iTmpF (f : EvE) : EvI := fun σ S => (f σ S).bind fun p => match p.1 with
  | .loc n => if S.length ≤ n ∧ n + 1 = p.2.length then match p.2[n]? with
    | some (.lst ds) => some (ds.map W.d, p.2.take n)
    | _ => none else none
  | _ => none
theorem gives_lst {a : Addr} {vs : List V} {m : List Addr} {H : Hp} {S : Store} {ds : List D} (R : Rel H m S) (na : a ∉ m) (ho : H a = some (.lst vs)) (r : Reps H vs ds) : Gives K (Itl K a) m H (ds.map W.d) := by
  have at1 : ∀ {m1 H1}, Step m H m1 H1 → H1 a = some (.lst vs) := fun s1 => s1.keep a _ na ho
  refine ⟨fun i m1 H1 hi s1 => ?_, fun i m1 H1 x H' S1 hi s1 R1 y => ?_, fun m1 H1 s1 => ⟨vs, SqL.of (at1 s1), by rw [r.length]; simp⟩⟩
  · have hi' : i < vs.length := by rw [r.length]; simpa using hi
    exact ⟨vs, vs[i], SqL.of (at1 s1), List.getElem?_eq_getElem hi'⟩
  · obtain ⟨e, y⟩ := y
    subst e
    have hx := y vs (SqL.of (at1 s1))
    have hi : i < ds.length := by rw [← r.length]; exact (List.getElem?_eq_some_iff.mp hx).1
    obtain ⟨v, e1, r1⟩ := r.get (List.getElem?_eq_getElem hi)
    rw [hx] at e1
    cases e1
    exact ⟨.d ds[i], by rw [List.getElem?_map, List.getElem?_eq_getElem hi]; rfl, Step.refl _ _, Rep.step R s1 r1, R1⟩
theorem pi_tmp {tg e : Expr} {f : EvE} (h : PX X e f) : PXI X tg e (iTmpF f) := by
  obtain ⟨t, p, s⟩ := h
  refine ⟨_, pi_list p, ?_⟩
  intro m S H σc σ ws S' R Z h Q q
  unfold iTmpF at h
  obtain ⟨⟨w, S1⟩, h1, h⟩ := Option.bind_eq_some_iff.mp h
  refine s m S H σc σ w S1 R Z h1 _ fun v m1 H1 s1 R1 r1 => ?_
  dsimp only at h
  split at h
  · rename_i n
    split at h
    · rename_i hn
      split at h
      · rename_i ds e1
        cases h
        obtain ⟨a, g1, ea⟩ := r1
        obtain ⟨vs, ho, r⟩ := R1.cell n a _ g1 e1
        have hl := R.len
        have hl1 := R1.len
        obtain ⟨nw, en⟩ := s1.pre
        have R2 := rel_sub R1 (L := List.range n) List.nodup_range (fun i hi => by
          have := List.mem_range.mp hi
          omega)
        rw [take_map m1 0 n (by omega), take_map S1 _ n (by omega)] at R2
        have na : a ∉ m1.take n := fun z => by
          obtain ⟨j, hj⟩ := List.mem_iff_getElem?.mp z
          have hjn : j < n := by
            have := (List.getElem?_eq_some_iff.mp hj).1
            simp at this
            omega
          rw [List.getElem?_take_of_lt hjn] at hj
          obtain ⟨l1, q1⟩ := List.getElem?_eq_some_iff.mp hj
          obtain ⟨l2, q2⟩ := List.getElem?_eq_some_iff.mp g1
          have := (List.getElem_inj R1.nd).mp (q1.trans q2.symm)
          omega
        refine ⟨a, ea, ⟨vs, SqL.of ho⟩, q _ (m1.take n) H1 ⟨⟨nw.take (n - m.length), ?_⟩, s1.keep, fun x hx hn' => s1.new x (List.mem_of_mem_take hx) hn'⟩ R2 (gives_lst R2 na ho r)⟩
        rw [en, List.take_append]
        congr 1
        exact List.take_of_length_le (by omega)
      · cases h
    · cases h
  · cases h
end
end Fw
namespace Fw
open PySem PySem.Spec PyProof.Rows L2 RZ

/-! ### a list of the store, walked as it stands at each turn; its length stays -/
structure GivesL (K : PySem.W.Frag) (J : It) (m0 : List Addr) (H0 : Hp) (n cnt : Nat) : Prop where
  go : ∀ (i : Nat) m H S ds, Step m0 H0 m H → Rel H m S → S[n]? = some (.lst ds) → i < ds.length → J.go i H
  yld : ∀ (i : Nat) (m : List Addr) H x H' S ds, Step m0 H0 m H → Rel H m S → S[n]? = some (.lst ds) → J.yld i H x H' → ∃ d, ds[i]? = some d ∧ H' = H ∧ Rep H x d
  stop : ∀ m H S ds, Step m0 H0 m H → Rel H m S → S[n]? = some (.lst ds) → ds.length ≤ cnt → J.stop cnt H
theorem gives_loc {K : PySem.W.Frag} {a : Addr} {m : List Addr} {H : Hp} {n : Nat} (g : m[n]? = some a) (cnt : Nat) : GivesL K (Itl K a) m H n cnt := by
  refine ⟨fun i m1 H1 S ds s R e hi => ?_, fun i m1 H1 x H' S ds s R e y => ?_, fun m1 H1 S ds s R e hl => ?_⟩
  · obtain ⟨vs, ho, r⟩ := R.cell n a _ (s.get g) e
    have hi' : i < vs.length := by rw [r.length]; exact hi
    exact ⟨vs, vs[i], SqL.of ho, List.getElem?_eq_getElem hi'⟩
  · obtain ⟨vs, ho, r⟩ := R.cell n a _ (s.get g) e
    obtain ⟨eq, y⟩ := y
    have hx := y vs (SqL.of ho)
    have hi : i < ds.length := by rw [← r.length]; exact (List.getElem?_eq_some_iff.mp hx).1
    obtain ⟨v, e1, r1⟩ := r.get (List.getElem?_eq_getElem hi)
    rw [hx] at e1
    cases e1
    exact ⟨ds[i], List.getElem?_eq_getElem hi, eq, r1⟩
  · obtain ⟨vs, ho, r⟩ := R.cell n a _ (s.get g) e
    exact ⟨vs, SqL.of ho, by rw [r.length]; exact hl⟩
abbrev EvL := Slots → Store → Option ((Nat × Nat) × Store)
def SdL (K : PySem.W.Frag) (t : TI) (f : EvL) : Prop := ∀ (m : List Addr) (S : Store) (H : Hp) (σc : L2.St) (σ : Slots) (p : Nat × Nat) (S' : Store), Rel H m S → SlotsOk K m H σc σ → f σ S = some (p, S') →
  ∀ Q : It → Hp → Prop, (∀ J m' H', Step m H m' H' → Rel H' m' S' → GivesL K J m' H' p.1 p.2 → Q J H') → t σc H Q
def PXIL (X : Cx) (tg it : Expr) (f : EvL) : Prop := ∃ t, PI X tg it t ∧ SdL X.K t f
def iLocF (f : EvE) : EvL := fun σ S => (f σ S).bind fun p => match p.1 with
  | .loc n => match p.2[n]? with
    | some (.lst ds) => some ((n, ds.length), p.2)
    | _ => none
  | _ => none
section
variable {X : Cx} {K : PySem.W.Frag} {pos : Pos}
theorem pi_loc {tg e : Expr} {f : EvE} (h : PX X e f) : PXIL X tg e (iLocF f) := by
  obtain ⟨t, p, s⟩ := h
  refine ⟨_, pi_list p, ?_⟩
  intro m S H σc σ q S' R Z h Q k
  unfold iLocF at h
  obtain ⟨⟨w, S1⟩, h1, h⟩ := Option.bind_eq_some_iff.mp h
  refine s m S H σc σ w S1 R Z h1 _ fun v m1 H1 s1 R1 r1 => ?_
  dsimp only at h
  split at h
  · rename_i n
    split at h
    · rename_i ds e1
      cases h
      obtain ⟨a, g1, ea⟩ := r1
      obtain ⟨vs, ho, r⟩ := R1.cell n a _ g1 e1
      exact ⟨a, ea, ⟨vs, SqL.of ho⟩, k _ m1 H1 s1 R1 (gives_loc g1 _)⟩
    · cases h
  · cases h
/-- k turns are left of cnt -/
def loopCL (b : Bd) (test : EvT) (elt : EvE) (σ0 : Slots) (n cnt : Nat) : Nat → List D → Store → Option (List D × Store)
  | 0, acc, S => match S[n]? with
    | some (.lst ds) => if ds.length ≤ cnt then some (acc, S) else none
    | _ => none
  | k + 1, acc, S => match S[n]? with
    | some (.lst ds) => (ds[cnt - (k + 1)]?).bind fun d => (b (.d d) σ0).bind fun σ1 => (test σ1 S).bind fun p => if p.1 = true then
        (elt σ1 p.2).bind fun q => match q.1 with | .d x => loopCL b test elt σ0 n cnt k (acc ++ [x]) q.2 | _ => none
      else loopCL b test elt σ0 n cnt k acc p.2
    | _ => none
def eCompL (vs : List Nat) (it : EvL) (b : Bd) (test : EvT) (elt : EvE) : EvE := fun σ S => (it σ S).bind fun p => if p.1.2 < 100000 then
  (loopCL b test elt (wipeW σ vs) p.1.1 p.1.2 p.1.2 [] p.2).map fun q => (.loc q.2.length, q.2 ++ [.lst q.1]) else none
theorem sd_compL {ti : TI} {fi : EvL} {vs is : List Nat} {b : Bd} {test : EvT} {elt : EvE} (hs : ∀ i ∈ is, i ∈ vs) (si : SdL K ti fi) :
    SdE K (tLc ti (canG2 K b is) (canT K test) (canE K elt) vs) (eCompL vs fi b test elt) := by
  intro m S H σc σ w S' R Z h Q q
  unfold eCompL at h
  obtain ⟨⟨⟨n, cnt⟩, S1⟩, h1, h⟩ := Option.bind_eq_some_iff.mp h
  dsimp only at h
  split at h
  · rename_i hlen
    obtain ⟨⟨accF, SF⟩, h2, h⟩ := Option.map_eq_some_iff.mp h
    cases h
    refine si m S H σc σ (n, cnt) S1 R Z h1 _ fun J m1 H1 s1 R1 G => ?_
    intro p hp
    have Zw := slots_wipe (Z.step R s1) vs
    refine ⟨fun i k H' => k = cnt - i ∧ i ≤ cnt ∧ ∃ (m2 : List Addr) (S2 : Store) (acc : List D) (vacc : List V), Step m1 H1 m2 H' ∧ Rel H' m2 S2 ∧ H' p = some (.lst vacc) ∧ Reps H' vacc acc ∧ acc.length ≤ i ∧ p ∉ m2 ∧ loopCL b test elt (wipeW σ vs) n cnt k acc S2 = some (accF, SF), ⟨cnt, by simp, Nat.zero_le _, ?_⟩, ?_⟩
    · have sm := new_same hp (.lst [])
      exact ⟨m1, S1, [], [], Step.same sm, R1.grow sm, upd_same, rfl, Nat.zero_le _, R1.ninN hp, h2⟩
    · rintro i k H2 ⟨rfl, hi, m2, S2, acc, vacc, s2, R2, hD, rA, hA, nD, hl⟩
      by_cases hlt : i < cnt
      · obtain ⟨k', ek⟩ : ∃ k', cnt - i = k' + 1 := ⟨cnt - i - 1, by omega⟩
        rw [ek] at hl
        unfold loopCL at hl
        split at hl
        · rename_i ds eds
          obtain ⟨d, hd, hl⟩ := Option.bind_eq_some_iff.mp hl
          have ei : cnt - (k' + 1) = i := by omega
          rw [ei] at hd
          have hid : i < ds.length := (List.getElem?_eq_some_iff.mp hd).1
          refine .inr ⟨G.go i m2 H2 S2 ds s2 R2 eds hid, fun H' => k' < cnt - i ∧ (k' = cnt - (i + 1) ∧ i + 1 ≤ cnt ∧ ∃ (m2 : List Addr) (S2 : Store) (acc : List D) (vacc : List V), Step m1 H1 m2 H' ∧ Rel H' m2 S2 ∧ H' p = some (.lst vacc) ∧ Reps H' vacc acc ∧ acc.length ≤ i + 1 ∧ p ∉ m2 ∧ loopCL b test elt (wipeW σ vs) n cnt k' acc S2 = some (accF, SF)), fun H' hN => ⟨k', hN.1, hN.2⟩, fun x H3 y => ?_⟩
          obtain ⟨d', hd', eH, r3⟩ := G.yld i m2 H2 x H3 S2 ds s2 R2 eds y
          rw [hd] at hd'
          cases hd'
          subst eH
          obtain ⟨σ2, b1, hl⟩ := Option.bind_eq_some_iff.mp hl
          obtain ⟨⟨tb, S3⟩, b2, hl⟩ := Option.bind_eq_some_iff.mp hl
          have Z3 := Zw.step R1 s2
          refine ⟨m2, .d d, wipeW σ vs, σ2, b1, r3, Z3, fun σc2 Z4 same => ⟨wipe_same hs same, ?_⟩⟩
          refine ⟨m2, S2, σ2, tb, S3, R2, Z4, b2, fun m4 H4 s4 R4 => ?_⟩
          have keepD : ∀ {ma mb : List Addr} {Ha Hb : Hp} {vv : List V}, Step ma Ha mb Hb → p ∉ ma → Ha p = some (.lst vv) → Hb p = some (.lst vv) ∧ p ∉ mb := fun s nn e => ⟨s.keep p _ nn e, fun z => by
            have := s.new p z nn
            rw [e] at this
            cases this⟩
          obtain ⟨hD4, nD4⟩ := keepD s4 nD hD
          have s14 := s2.trans s4
          have rA4 : Reps H4 vacc acc := Reps.step R2 s4 rA
          cases tb with
          | false =>
            refine iteF ?_
            exact ⟨by omega, by omega, by omega, m4, S3, acc, vacc, s14, R4, hD4, rA4, by omega, nD4, hl⟩
          | true =>
            refine iteT ?_
            have hl : ((elt σ2 S3).bind fun q => match q.1 with | .d x => loopCL b test elt (wipeW σ vs) n cnt k' (acc ++ [x]) q.2 | _ => none) = some (accF, SF) := hl
            obtain ⟨⟨we, S5⟩, b3, hl⟩ := Option.bind_eq_some_iff.mp hl
            refine ⟨m4, S3, σ2, we, S5, R4, Z4.step R2 s4, b3, fun v5 m5 H5 s5 R5 r5 => ?_⟩
            obtain ⟨hD5, nD5⟩ := keepD s5 nD4 hD4
            have rA5 := Reps.step R4 s5 rA4
            dsimp only at hl
            split at hl
            · rename_i xd
              have hz : acc.length < sizeLine := by rw [sizeLine_eq]; omega
              refine ⟨vacc, hD5, by rw [rA5.length]; exact hz, by omega, by omega, by omega, m5, S5, acc ++ [xd], vacc ++ [v5], ?_, R5.other nD5 hD5, upd_same, ?_, by simp; omega, nD5, hl⟩
              · have s15 := s14.trans s5
                refine ⟨s15.pre, fun a o ha ho => ?_, s15.new⟩
                rw [upd_ne (ne_of_none ho hp)]
                exact s15.keep a o ha ho
              · have kk : ∀ a us, H5 a = some (.tup us) → upd H5 p (.lst (vacc ++ [v5])) a = some (.tup us) := fun a us e => by
                  rw [upd_ne (fun z => by subst z; rw [hD5] at e; cases e)]; exact e
                exact Reps.append (Reps.move kk acc rA5) ⟨v5, [], rfl, Rep.move kk xd r5, rfl⟩
            · cases hl
        · cases hl
      · have e : i = cnt := by omega
        subst e
        rw [Nat.sub_self] at hl
        unfold loopCL at hl
        split at hl
        · rename_i ds eds
          split at hl
          · rename_i hdl
            cases hl
            obtain ⟨R3, e3⟩ := R2.adopt nD hD rA
            refine .inl ⟨G.stop m2 H2 _ ds s2 R2 eds hdl, q _ (m2 ++ [p]) H2 ?_ R3 ⟨p, e3, rfl⟩⟩
            have s12 := s1.trans s2
            obtain ⟨nw, en⟩ := s12.pre
            refine ⟨⟨nw ++ [p], by rw [en, List.append_assoc]⟩, s12.keep, fun a ha hn => ?_⟩
            rcases List.mem_append.mp ha with z | z
            · exact s12.new a z hn
            · rw [List.mem_singleton.mp z]
              cases e : H p with
              | none => rfl
              | some o =>
                have hpm : p ∉ m := by
                  rw [← List.mem_singleton.mp z]
                  exact hn
                have := s1.keep p o hpm e
                rw [hp] at this
                cases this
          · cases hl
        · cases hl
  · cases h
section
variable {elt tg iter : Expr} {ifs : List Expr} {scope : Scope} {own : List (Str × Nat)} {spos : Pos} {fi : EvL} {is : List Nat} {b : Bd} {test : EvT} {fe : EvE}
theorem px_lcL (hc : X.calm = true) (hN : X.N.Nodup) (hi : PXIL X tg iter fi) (ok : BlkOk X.N X.env.scope scope own)
    (hg : ∀ (s : Shared) (H : Hp) (C : Addr) (cl : List (Str × Addr)) (fp : List Addr), PGT2 (X.blk s H scope (compEnvC scope cl C X.env) fp) tg b is) (ht : ∀ (s : Shared) (H : Hp) (C : Addr) (cl : List (Str × Addr)) (fp : List Addr), PXTs (X.blk s H scope (compEnvC scope cl C X.env) fp) ifs test)
    (he : ∀ (s : Shared) (H : Hp) (C : Addr) (cl : List (Str × Addr)) (fp : List Addr), PX (X.blk s H scope (compEnvC scope cl C X.env) fp) elt fe) (hv : ∀ i ∈ is, i ∈ own.map (·.2) := by decide) (hs : ∀ x, foldedSetIterable iter X.env x = pure x := by intro _; rfl) :
    PX X (.ListComp elt [⟨tg, iter, ifs, 0⟩] scope pos) (eCompL (own.map (·.2)) fi b test fe) := by
  obtain ⟨ti, pi, si⟩ := hi
  exact ⟨_, pe_lc (g := canG2 X.K b is) (tt := canT X.K test) (te := canE X.K fe) hc hN pi ok hg ht (fun s H C cl fp => (he s H C cl fp).can) hs, sd_compL hv si⟩
theorem ps_slcL (i : Nat) {y : Str} {py : Pos} (hc : X.calm = true) (hN : X.N.Nodup) (hi : PXIL X tg iter fi) (ok : BlkOk X.N X.env.scope scope own)
    (hg : ∀ (s : Shared) (H : Hp) (C : Addr) (cl : List (Str × Addr)) (fp : List Addr), PGT2 (X.blk s H scope (compEnvC scope cl C X.env) fp) tg b is) (ht : ∀ (s : Shared) (H : Hp) (C : Addr) (cl : List (Str × Addr)) (fp : List Addr), PXTs (X.blk s H scope (compEnvC scope cl C X.env) fp) ifs test)
    (he : ∀ (s : Shared) (H : Hp) (C : Addr) (cl : List (Str × Addr)) (fp : List Addr), PX (X.blk s H scope (compEnvC scope cl C X.env) fp) elt fe)
    (hy : X.N[i]? = some y := by rfl) (hyl : X.env.scope.names.lookup y = some .local := by rfl) (hsw : swapsWith (.ListComp elt [⟨tg, iter, ifs, 0⟩] scope pos) (some (.Name y py)) spos.line X.env = pure true := by exact sw_true rfl rfl rfl (by decide +kernel))
    (hv : ∀ i ∈ is, i ∈ own.map (·.2) := by decide) (hs : ∀ x, foldedSetIterable iter X.env x = pure x := by intro _; rfl) :
    PXS X (.Assign [.Name y py] (.ListComp elt [⟨tg, iter, ifs, 0⟩] scope pos) spos) (sSet i (eCompL (own.map (·.2)) fi b test fe)) := by
  obtain ⟨ti, pi, si⟩ := hi
  exact ⟨_, ps_setLc (g := canG2 X.K b is) (tt := canT X.K test) (te := canE X.K fe) hc hN hy hyl hsw pi ok hg ht (fun s H C cl fp => (he s H C cl fp).can) hs, sds_set (sd_compL hv si)⟩
end
end
end Fw
namespace Fw
open PySem PySem.Spec PyProof.Rows L2 RZ

/-! ### the defs of the top, and their calls -/
def DefAt (K : PySem.W.Frag) (mg : Str → Option Value) (x : Str) (st : Stmt) (ps : List Str) : Prop := ∃ (f : Addr) (fd : FuncData), Fun K x x st f fd ∧ mg x = some (.ref f) ∧ Binds K fd ps []
theorem def_at {K : PySem.W.Frag} {mg : Str → Option Value} {x : Str} {st : Stmt} {ps : List Str} {f : Addr} {fd : FuncData} (F : Fun K x x st f fd) (hm : mg x = some (.ref f))
    (h : ∀ (kV doc pm : Value) (an : Option Addr) (cdv ct : Value) (us : List Value), us.length = ps.length → bindArgs (PySem.W.fnOf x x (defArgs st) (defBody st) (defScope st) .none kV doc pm an cdv ct) ⟨us, []⟩ = pure (ps.zip us)) : DefAt K mg x st ps :=
  ⟨f, fd, F, hm, F.binds h⟩
section
variable {P : Program} {w : World} {K : PySem.W.Frag} {mg : Str → Option Value} {base : Heap}
theorem fn_no {n k : Nat} {f : Addr} {fd : FuncData} {ps : List Str} : FnOk P w K mg base CX0 k f fd ps (spOf K n fun _ _ => none) := by
  have no : ∀ vs H Q E, ¬ spOf K n (fun _ _ => none) vs H Q E := fun vs H Q E h => by
    obtain ⟨_, _, _, _, _, _, _, _, h, _⟩ := h
    cases h
  exact ⟨fun vs H Q E h => absurd h (no vs H Q E), fun A outer s H args us vs Q E _ _ _ _ h => absurd h (no vs H Q E)⟩
theorem call_ok {x : Str} {st : Stmt} {ps : List Str} {n k : Nat} {F : Fn} (D : DefAt K mg x st ps) (hn : ps.length = n) (h : ∀ f fd, Fun K x x st f fd → FnOk P w K mg base CX0 k f fd ps (spOf K n F)) : CallOk P w K mg base k x n F := by
  obtain ⟨f, fd, hf, hm, hb⟩ := D
  exact ⟨f, fd, ps, hn, h f fd hf, hm, hf.kp, hb⟩
theorem CallOk.mono {x : Str} {n j k : Nat} {F : Fn} (C : CallOk P w K mg base j x n F) (h : j ≤ k) : CallOk P w K mg base k x n F := by
  obtain ⟨f, fd, ps, hn, G, hm, hk, hb⟩ := C.ex
  exact ⟨f, fd, ps, hn, G.mono h, hm, hk, hb⟩
end
theorem rel_nil {H : Hp} : Rel H [] [] := ⟨rfl, List.nodup_nil, fun _ _ _ h _ => by simp at h⟩
theorem scr_at {K : PySem.W.Frag} {H : Hp} {a : Addr} {ns : List Int} (h : SqL K H a (ns.map V.int)) (o : Only H) : ScrAt K H a ns := by
  rcases h with h | h
  · refine .inl ?_
    rcases o a with e | ⟨o', xs, e⟩
    · rcases h with h | ⟨o2, h⟩
      · rw [e] at h; cases h
      · rw [e] at h; cases h
    · rcases h with h | ⟨o2, h⟩
      · rw [e] at h; cases h
      · exact ⟨o2, h⟩
  · exact .inr h
end Fw
namespace Law
open PySem PySem.Spec PyProof.Rows L2 RZ Fw
def topS (i : Nat) : Stmt := PySem.Challenge.pw_kindbooks_k81_what_things_lean_on.main.body.getD i (.Pass ⟨0, 0, 0, 0⟩)
/-- the names of built-ins that the text leaves as they are -/
structure Txt (mg : Str → Option Value) : Prop where
  z_all : mg "all" = none
  z_bool : mg "bool" = none
  z_int : mg "int" = none
  z_isinstance : mg "isinstance" = none
  z_len : mg "len" = none
  z_list : mg "list" = none
  z_max : mg "max" = none
  z_min : mg "min" = none
  z_range : mg "range" = none
  z_set : mg "set" = none
  z_sorted : mg "sorted" = none
  z_str : mg "str" = none
  z_tuple : mg "tuple" = none
  z_zip : mg "zip" = none

/-! ### words_within -/
abbrev s_words_within : Stmt := topS 1
theorem sc_words_within : FnScope ["thing", "found", "one"] ["thing"] (defScope s_words_within) := ⟨rfl, rfl, rfl, by decide +kernel, rfl, by decide +kernel, by decide +kernel⟩
def b_words_within (f_words_within : Fn) : EvS := (sSeq (sIf (tAndF (tV (eBin (opEq true) (eSlot 0) (eTup aNil))) (tAndF (tV (eBin (opEq false) (eBin opIx (eSlot 0) (eC (.int 0))) (eC (.str "of")))) (tV (eBin (opEq false) (eCall bLen (aCons (eSlot 0) aNil)) (eC (.int 4)))))) (sRet (eLst (aCons (eBin opIx (eSlot 0) (eC (.int 2))) aNil))) sNil)
  (sSeq (sSet 1 (eLst aNil))
  (sSeq (sIf (tAndF (tV (eBin (opEq true) (eSlot 0) (eTup aNil))) (tAndF (tV (eBin (opEq false) (eBin opIx (eSlot 0) (eC (.int 0))) (eC (.str "made")))) (tAndF (tV (eIsi "str" (eBin opIx (eSlot 0) (eC (.int 1))))) (tV (eBin (opInS false) (eC (.str ".")) (eBin opIx (eSlot 0) (eC (.int 1)))))))) (sDrop (eApp (eSlot 1) (eBin opIx (ePart (eBin opIx (eSlot 0) (eC (.int 1))) (eC (.str "."))) (eC (.int 0))))) sNil)
  (sSeq (sFor (iTupF (eSlot 0)) (bName 2) (sIf (tV (eIsi "tuple" (eSlot 2))) (sDrop (eExt (eSlot 1) (eCall f_words_within (aCons (eSlot 2) aNil)))) sNil))
  (sRet (eSlot 1))))))
theorem ok_words_within {P : Program} {w : World} {K : PySem.W.Frag} {mg : Str → Option Value} {base : Heap} {k : Nat} {f : Addr} {fd : FuncData} (F : Fun K "words_within" "words_within" s_words_within f fd) (T : Txt mg) {f_words_within : Fn} (C_words_within : CallOk P w K mg base k "words_within" 1 f_words_within) :
    FnOk P w K mg base CX0 (k + 1) f fd ["thing"] (spOf K 1 (runFn 3 (b_words_within f_words_within))) :=
  have nd := sc_words_within.nd
  fn_sdN (c := b_words_within f_words_within) ["thing", "found", "one"] ["thing"] F sc_words_within rfl rfl fun cdv A outer s H E hr =>
    (pb_cons (ps_i (pt_w (pw_a (pt_cmpV (op_neM hr) (ops_eq true) (px_slot 0) (px_tup pxa_nil)) (pw_a (pt_cmpV (op_eqM hr) (ops_eq false) (px_ix ix_seq ops_ix (px_slot 0) px_int) (px_str)) (pw_a1 (pt_cmpV (op_eqM hr) (ops_eq false) (px_b cr_lenA cb_len T.z_len PySem.boot_len (pxa_cons (px_slot 0) pxa_nil)) px_int))))) (pb_one (ps_r (px_lst (pxa_cons (px_ix ix_seq ops_ix (px_slot 0) px_int) pxa_nil)))) pb_nil)
    (pb_cons (ps_s 1 (px_lst pxa_nil) nd)
    (pb_cons (ps_i (pt_w (pw_a (pt_cmpV (op_neM hr) (ops_eq true) (px_slot 0) (px_tup pxa_nil)) (pw_a (pt_cmpV (op_eqM hr) (ops_eq false) (px_ix ix_seq ops_ix (px_slot 0) px_int) (px_str)) (pw_a (pt_v (px_isi T.z_isinstance T.z_str boot_str (px_ix ix_seq ops_ix (px_slot 0) px_int))) (pw_a1 (pt_cmpV op_inSA (ops_inS false) (px_str) (px_ix ix_seq ops_ix (px_slot 0) px_int))))))) (pb_one (ps_e (px_app (px_slot 1) (px_ix ix_seq ops_ix (px_part (px_ix ix_seq ops_ix (px_slot 0) px_int) (px_str)) px_int)))) pb_nil)
    (pb_cons (ps_f PassesOwn.never rfl (pi_t (px_slot 0)) (pg_n 2 nd) (pb_one (ps_i (pt_v (px_isi T.z_isinstance T.z_tuple boot_tuple (px_slot 2))) (pb_one (ps_e (px_ext (px_slot 1) (px_call C_words_within hr (pxa_cons (px_slot 2) pxa_nil))))) pb_nil)))
    (pb_one (ps_r (px_slot 1)))))))

/-! ### leans_on -/
abbrev s_leans_on : Stmt := topS 3
theorem sc_leans_on : FnScope ["thing", "found", "word"] ["thing"] (defScope s_leans_on) := ⟨rfl, rfl, rfl, by decide +kernel, rfl, by decide +kernel, by decide +kernel⟩
def b_leans_on (f_words_within : Fn) : EvS := (sSeq (sSet 1 (eLst aNil))
  (sSeq (sIf (tV (eBin (opEq false) (eBin opIx (eSlot 0) (eC (.int 0))) (eC (.str "use")))) (sSet 1 (eCall bList (aCons (eSl (eSlot 0) (oSome (eC (.int 3))) oNone) aNil))) (sIf (tV (eBin (opEq false) (eBin opIx (eSlot 0) (eC (.int 0))) (eC (.str "maker")))) (sSet 1 (eBin opAdd (eComp [2] (iTmpF (eCall f_words_within (aCons (eBin opIx (eSlot 0) (eC (.int 6))) aNil))) (bName 2) (tV (eBin (opEq true) (eSlot 2) (eBin opIx (eSlot 0) (eC (.int 3))))) (eSlot 2)) (eLst (aCons (eBin opIx (eSlot 0) (eC (.int 4))) aNil)))) (sSet 1 (eCall f_words_within (aCons (eSl (eSlot 0) (oSome (eC (.int 3))) oNone) aNil)))))
  (sSeq (sIf (tAndF (tV (eBin (opEq false) (eBin opIx (eSlot 0) (eC (.int 0))) (eC (.str "module")))) (tV (eBin (opIs true) (eBin opIx (eSlot 0) (eC (.int 3))) (eC .non)))) (sDrop (eApp (eSlot 1) (eBin opIx (eSlot 0) (eC (.int 3))))) sNil)
  (sSeq (sIf (tAndF (tV (eBin (opEq false) (eBin opIx (eSlot 0) (eC (.int 0))) (eC (.str "maker")))) (tV (eBin (opIs true) (eBin opIx (eSlot 0) (eC (.int 5))) (eC .non)))) (sDrop (eApp (eSlot 1) (eBin opIx (eSlot 0) (eC (.int 5))))) sNil)
  (sRet (eCall bTuple (aCons (eSortSet (eSlot 1)) aNil)))))))
theorem ok_leans_on {P : Program} {w : World} {K : PySem.W.Frag} {mg : Str → Option Value} {base : Heap} {k : Nat} {f : Addr} {fd : FuncData} (F : Fun K "leans_on" "leans_on" s_leans_on f fd) (T : Txt mg) {f_words_within : Fn} (C_words_within : CallOk P w K mg base k "words_within" 1 f_words_within) :
    FnOk P w K mg base CX0 (k + 1) f fd ["thing"] (spOf K 1 (runFn 3 (b_leans_on f_words_within))) :=
  have nd := sc_leans_on.nd
  fn_sdN (c := b_leans_on f_words_within) ["thing", "found", "word"] ["thing"] F sc_leans_on rfl rfl fun cdv A outer s H E hr =>
    (pb_cons (ps_s 1 (px_lst pxa_nil) nd)
    (pb_cons (ps_i (pt_cmpV (op_eqM hr) (ops_eq false) (px_ix ix_seq ops_ix (px_slot 0) px_int) (px_str)) (pb_one (ps_s 1 (px_ty call_list_of cb_list T.z_list PyProof.Rows.boot_list (pxa_cons (px_sl (px_slot 0) (pxo_some px_int) pxo_none) pxa_nil)) nd)) (pb_one (ps_i (pt_cmpV (op_eqM hr) (ops_eq false) (px_ix ix_seq ops_ix (px_slot 0) px_int) (px_str)) (pb_one (ps_s 1 (px_bin op_addA ops_add (px_lc (own := [("word", 2)]) rfl nd (pi_tmp (px_call C_words_within hr (pxa_cons (px_ix ix_seq ops_ix (px_slot 0) px_int) pxa_nil))) (blkOk_by (own := [("word", 2)]) (N := ["thing", "found", "word"]) (sc := defScope s_leans_on) (by decide +kernel)) (fun _ _ _ _ _ => (pg2_n 2 nd)) (fun _ _ _ _ _ => (pxt_one (pt_cmpV (op_neM hr) (ops_eq true) (px_slot 2) (px_ix ix_seq ops_ix (px_slot 0) px_int)))) (fun _ _ _ _ _ => (px_slot 2))) (px_lst (pxa_cons (px_ix ix_seq ops_ix (px_slot 0) px_int) pxa_nil))) nd)) (pb_one (ps_s 1 (px_call C_words_within hr (pxa_cons (px_sl (px_slot 0) (pxo_some px_int) pxo_none) pxa_nil)) nd)))))
    (pb_cons (ps_i (pt_w (pw_a (pt_cmpV (op_eqM hr) (ops_eq false) (px_ix ix_seq ops_ix (px_slot 0) px_int) (px_str)) (pw_a1 (pt_cmpV op_isNA (ops_is true) (px_ix ix_seq ops_ix (px_slot 0) px_int) px_non)))) (pb_one (ps_e (px_app (px_slot 1) (px_ix ix_seq ops_ix (px_slot 0) px_int)))) pb_nil)
    (pb_cons (ps_i (pt_w (pw_a (pt_cmpV (op_eqM hr) (ops_eq false) (px_ix ix_seq ops_ix (px_slot 0) px_int) (px_str)) (pw_a1 (pt_cmpV op_isNA (ops_is true) (px_ix ix_seq ops_ix (px_slot 0) px_int) px_non)))) (pb_one (ps_e (px_app (px_slot 1) (px_ix ix_seq ops_ix (px_slot 0) px_int)))) pb_nil)
    (pb_one (ps_r (px_ty call_tuple_of cb_tuple T.z_tuple PyProof.Rows.boot_tuple (pxa_cons (px_sortSet rfl T.z_sorted T.z_set (px_slot 1)) pxa_nil))))))))

/-! ### _law_cell -/
abbrev s__law_cell : Stmt := topS 5
theorem sc__law_cell : FnScope ["script", "k"] ["script", "k"] (defScope s__law_cell) := ⟨rfl, rfl, rfl, by decide +kernel, rfl, by decide +kernel, by decide +kernel⟩
def b__law_cell : EvS := (sSeq (sIf (tV (eBin opLt (eSlot 1) (eCall bLen (aCons (eSlot 0) aNil)))) (sRet (eBin opIx (eSlot 0) (eSlot 1))) sNil)
  (sRet (eBin opAdd (eBin opMul (eC (.int 7919)) (eSlot 1)) (eC (.int 13)))))
theorem ok__law_cell {P : Program} {w : World} {K : PySem.W.Frag} {mg : Str → Option Value} {base : Heap} {k : Nat} {f : Addr} {fd : FuncData} (F : Fun K "_law_cell" "_law_cell" s__law_cell f fd) (T : Txt mg) :
    FnOk P w K mg base CX0 (k + 1) f fd ["script", "k"] (spOf K 2 (runFn 2 (b__law_cell))) :=
  have nd := sc__law_cell.nd
  fn_sdN (c := b__law_cell) ["script", "k"] ["script", "k"] F sc__law_cell rfl rfl fun cdv A outer s H E hr =>
    (pb_cons (ps_i (pt_cmpV op_lt ops_lt (px_slot 1) (px_b cr_lenA cb_len T.z_len PySem.boot_len (pxa_cons (px_slot 0) pxa_nil))) (pb_one (ps_r (px_ix ix_seq ops_ix (px_slot 0) (px_slot 1)))) pb_nil)
    (pb_one (ps_r (px_bin op_addA ops_add (px_bin op_mulA ops_mul px_int (px_slot 1)) px_int))))

/-! ### _law_mixed -/
abbrev s__law_mixed : Stmt := topS 6
theorem sc__law_mixed : FnScope ["cell", "k", "number"] ["cell", "k"] (defScope s__law_mixed) := ⟨rfl, rfl, rfl, by decide +kernel, rfl, by decide +kernel, by decide +kernel⟩
def b__law_mixed : EvS := (sSeq (sSet 2 (eBin opMod (eBin opAdd (eBin opAdd (eSlot 0) (eBin opMul (eC (.int 7919)) (eSlot 1))) (eC (.int 12345))) (eC (.int 2147483629))))
  (sSeq (sSet 2 (eBin opMod (eBin opAdd (eBin opMul (eSlot 2) (eSlot 2)) (eBin opMul (eC (.int 48271)) (eSlot 1))) (eC (.int 2147483629))))
  (sRet (eBin opMod (eBin opMul (eSlot 2) (eSlot 2)) (eC (.int 2147483587))))))
theorem ok__law_mixed {P : Program} {w : World} {K : PySem.W.Frag} {mg : Str → Option Value} {base : Heap} {k : Nat} {f : Addr} {fd : FuncData} (F : Fun K "_law_mixed" "_law_mixed" s__law_mixed f fd) (T : Txt mg) :
    FnOk P w K mg base CX0 (k + 1) f fd ["cell", "k"] (spOf K 2 (runFn 3 (b__law_mixed))) :=
  have nd := sc__law_mixed.nd
  fn_sdN (c := b__law_mixed) ["cell", "k", "number"] ["cell", "k"] F sc__law_mixed rfl rfl fun cdv A outer s H E hr =>
    (pb_cons (ps_s 2 (px_bin op_mod ops_mod (px_bin op_addA ops_add (px_bin op_addA ops_add (px_slot 0) (px_bin op_mulA ops_mul px_int (px_slot 1))) px_int) px_int) nd)
    (pb_cons (ps_s 2 (px_bin op_mod ops_mod (px_bin op_addA ops_add (px_bin op_mulA ops_mul (px_slot 2) (px_slot 2)) (px_bin op_mulA ops_mul px_int (px_slot 1))) px_int) nd)
    (pb_one (ps_r (px_bin op_mod ops_mod (px_bin op_mulA ops_mul (px_slot 2) (px_slot 2)) px_int)))))

/-! ### _law_box -/
abbrev s__law_box : Stmt := topS 7
theorem sc__law_box : FnScope ["script", "k", "cell"] ["script", "k"] (defScope s__law_box) := ⟨rfl, rfl, rfl, by decide +kernel, rfl, by decide +kernel, by decide +kernel⟩
def b__law_box (f__law_cell : Fn) : EvS := (sSeq (sSet 2 (eCall f__law_cell (aCons (eSlot 0) (aCons (eSlot 1) aNil))))
  (sRet (eLst (aCons (eCall bMax (aCons (eC (.int 0)) (aCons (eBin opSub (eSlot 2) (eBin opPow (eC (.int 10)) (eC (.int 18)))) aNil))) (aCons (eBin opMod (eSlot 2) (eC (.int 2147483647))) (aCons (eC (.int 0)) (aCons (eC (.int 0)) aNil)))))))
theorem ok__law_box {P : Program} {w : World} {K : PySem.W.Frag} {mg : Str → Option Value} {base : Heap} {k : Nat} {f : Addr} {fd : FuncData} (F : Fun K "_law_box" "_law_box" s__law_box f fd) (T : Txt mg) {f__law_cell : Fn} (C__law_cell : CallOk P w K mg base k "_law_cell" 2 f__law_cell) :
    FnOk P w K mg base CX0 (k + 1) f fd ["script", "k"] (spOf K 2 (runFn 3 (b__law_box f__law_cell))) :=
  have nd := sc__law_box.nd
  fn_sdN (c := b__law_box f__law_cell) ["script", "k", "cell"] ["script", "k"] F sc__law_box rfl rfl fun cdv A outer s H E hr =>
    (pb_cons (ps_s 2 (px_call C__law_cell hr (pxa_cons (px_slot 0) (pxa_cons (px_slot 1) pxa_nil))) nd)
    (pb_one (ps_r (px_lst (pxa_cons (px_b (call_max2 rfl) cb_max T.z_max boot_max (pxa_cons px_int (pxa_cons (px_bin op_sub ops_sub (px_slot 2) (px_bin op_pow ops_pow px_int px_int)) pxa_nil))) (pxa_cons (px_bin op_mod ops_mod (px_slot 2) px_int) (pxa_cons px_int (pxa_cons px_int pxa_nil))))))))

/-! ### _law_take -/
abbrev s__law_take : Stmt := topS 8
theorem sc__law_take : FnScope ["box", "many", "digit"] ["box", "many"] (defScope s__law_take) := ⟨rfl, rfl, rfl, by decide +kernel, rfl, by decide +kernel, by decide +kernel⟩
def b__law_take (f__law_mixed : Fn) : EvS := (sSeq (sIf (tV (eBin opGt (eBin opIx (eSlot 0) (eC (.int 0))) (eC (.int 0)))) (sSeq (sSet 2 (eBin opMod (eBin opIx (eSlot 0) (eC (.int 0))) (eSlot 1)))
  (sSeq (sPut (eBin opFdiv (eBin opIx (eSlot 0) (eC (.int 0))) (eSlot 1)) (eSlot 0) (eC (.int 0)))
  (sRet (eSlot 2)))) sNil)
  (sSeq (sPut (eBin opAdd (eBin opIx (eSlot 0) (eC (.int 2))) (eC (.int 1))) (eSlot 0) (eC (.int 2)))
  (sRet (eBin opMod (eCall f__law_mixed (aCons (eBin opIx (eSlot 0) (eC (.int 1))) (aCons (eBin opIx (eSlot 0) (eC (.int 2))) aNil))) (eSlot 1)))))
theorem ok__law_take {P : Program} {w : World} {K : PySem.W.Frag} {mg : Str → Option Value} {base : Heap} {k : Nat} {f : Addr} {fd : FuncData} (F : Fun K "_law_take" "_law_take" s__law_take f fd) (T : Txt mg) {f__law_mixed : Fn} (C__law_mixed : CallOk P w K mg base k "_law_mixed" 2 f__law_mixed) :
    FnOk P w K mg base CX0 (k + 1) f fd ["box", "many"] (spOf K 2 (runFn 3 (b__law_take f__law_mixed))) :=
  have nd := sc__law_take.nd
  fn_sdN (c := b__law_take f__law_mixed) ["box", "many", "digit"] ["box", "many"] F sc__law_take rfl rfl fun cdv A outer s H E hr =>
    (pb_cons (ps_i (pt_cmpV op_gt ops_gt (px_ix ix_seq ops_ix (px_slot 0) px_int) px_int) (pb_cons (ps_s 2 (px_bin op_mod ops_mod (px_ix ix_seq ops_ix (px_slot 0) px_int) (px_slot 1)) nd)
    (pb_cons (ps_put (px_bin op_fdiv ops_fdiv (px_ix ix_seq ops_ix (px_slot 0) px_int) (px_slot 1)) (px_slot 0) px_int)
    (pb_one (ps_r (px_slot 2))))) pb_nil)
    (pb_cons (ps_put (px_bin op_addA ops_add (px_ix ix_seq ops_ix (px_slot 0) px_int) px_int) (px_slot 0) px_int)
    (pb_one (ps_r (px_bin op_mod ops_mod (px_call C__law_mixed hr (pxa_cons (px_ix ix_seq ops_ix (px_slot 0) px_int) (pxa_cons (px_ix ix_seq ops_ix (px_slot 0) px_int) pxa_nil))) (px_slot 1))))))

/-! ### _law_place -/
abbrev s__law_place : Stmt := topS 9
theorem sc__law_place : FnScope ["box"] ["box"] (defScope s__law_place) := ⟨rfl, rfl, rfl, by decide +kernel, rfl, by decide +kernel, by decide +kernel⟩
def b__law_place : EvS := (sSeq (sPut (eBin opAdd (eBin opIx (eSlot 0) (eC (.int 3))) (eC (.int 1))) (eSlot 0) (eC (.int 3)))
  (sRet (eBin opSub (eBin opIx (eSlot 0) (eC (.int 3))) (eC (.int 1)))))
theorem ok__law_place {P : Program} {w : World} {K : PySem.W.Frag} {mg : Str → Option Value} {base : Heap} {k : Nat} {f : Addr} {fd : FuncData} (F : Fun K "_law_place" "_law_place" s__law_place f fd) (T : Txt mg) :
    FnOk P w K mg base CX0 (k + 1) f fd ["box"] (spOf K 1 (runFn 1 (b__law_place))) :=
  have nd := sc__law_place.nd
  fn_sdN (c := b__law_place) ["box"] ["box"] F sc__law_place rfl rfl fun cdv A outer s H E hr =>
    (pb_cons (ps_put (px_bin op_addA ops_add (px_ix ix_seq ops_ix (px_slot 0) px_int) px_int) (px_slot 0) px_int)
    (pb_one (ps_r (px_bin op_sub ops_sub (px_ix ix_seq ops_ix (px_slot 0) px_int) px_int))))

/-! ### _law_word -/
abbrev s__law_word : Stmt := topS 10
theorem sc__law_word : FnScope ["box"] ["box"] (defScope s__law_word) := ⟨rfl, rfl, rfl, by decide +kernel, rfl, by decide +kernel, by decide +kernel⟩
def b__law_word (f__law_take : Fn) : EvS := (sRet (eBin opIx (eLst (aCons (eC (.str "na")) (aCons (eC (.str "nb")) (aCons (eC (.str "nc")) (aCons (eC (.str "xx")) (aCons (eC (.str "of")) (aCons (eC (.str "made")) aNil))))))) (eCall f__law_take (aCons (eSlot 0) (aCons (eC (.int 6)) aNil)))))
theorem ok__law_word {P : Program} {w : World} {K : PySem.W.Frag} {mg : Str → Option Value} {base : Heap} {k : Nat} {f : Addr} {fd : FuncData} (F : Fun K "_law_word" "_law_word" s__law_word f fd) (T : Txt mg) {f__law_take : Fn} (C__law_take : CallOk P w K mg base k "_law_take" 2 f__law_take) :
    FnOk P w K mg base CX0 (k + 1) f fd ["box"] (spOf K 1 (runFn 1 (b__law_word f__law_take))) :=
  have nd := sc__law_word.nd
  fn_sdN (c := b__law_word f__law_take) ["box"] ["box"] F sc__law_word rfl rfl fun cdv A outer s H E hr =>
    (pb_one (ps_r (px_ix ix_seq ops_ix (px_lst (pxa_cons (px_str) (pxa_cons (px_str) (pxa_cons (px_str) (pxa_cons (px_str) (pxa_cons (px_str) (pxa_cons (px_str) pxa_nil))))))) (px_call C__law_take hr (pxa_cons (px_slot 0) (pxa_cons px_int pxa_nil))))))

/-! ### _law_kind -/
abbrev s__law_kind : Stmt := topS 11
theorem sc__law_kind : FnScope ["box", "leans", "deep", "way", "word", "one"] ["box", "leans", "deep"] (defScope s__law_kind) := ⟨rfl, rfl, rfl, by decide +kernel, rfl, by decide +kernel, by decide +kernel⟩
def b__law_kind (f__law_take : Fn) (f__law_kind : Fn) (f__law_word : Fn) : EvS := (sSeq (sSet 3 (eCall f__law_take (aCons (eSlot 0) (aCons (eBin opIx (eLst (aCons (eC (.int 8)) (aCons (eC (.int 4)) aNil))) (eCall bInt (aCons (eBin opLt (eSlot 2) (eC (.int 1))) aNil))) aNil))))
  (sSeq (sIf (tV (eBin (opEq false) (eSlot 3) (eC (.int 0)))) (sRet (eTup (aCons (eC (.str "num")) aNil))) sNil)
  (sSeq (sIf (tV (eBin opLt (eSlot 3) (eC (.int 4)))) (sSeq (sSet 4 (eCall f__law_word (aCons (eSlot 0) aNil)))
  (sSeq (sIf (tV (eBin (opEq false) (eSlot 3) (eC (.int 1)))) (sRet (eTup (aCons (eC (.str "made")) (aCons (eSlot 4) (aCons (eTup aNil) aNil))))) sNil)
  (sSeq (sDrop (eApp (eSlot 1) (eSlot 4)))
  (sRet (eTup (aCons (eC (.str "made")) (aCons (eBin opAdd (eSlot 4) (eC (.str ".t"))) (aCons (eTup aNil) aNil)))))))) sNil)
  (sSeq (sSet 5 (eCall f__law_kind (aCons (eSlot 0) (aCons (eSlot 1) (aCons (eBin opSub (eSlot 2) (eC (.int 1))) aNil)))))
  (sSeq (sIf (tV (eBin (opEq false) (eSlot 3) (eC (.int 4)))) (sRet (eTup (aCons (eC (.str "ref")) (aCons (eSlot 5) aNil)))) sNil)
  (sSeq (sIf (tV (eBin (opEq false) (eSlot 3) (eC (.int 5)))) (sRet (eTup (aCons (eC (.str "made")) (aCons (eC (.str "box")) (aCons (eTup (aCons (eSlot 5) aNil)) aNil))))) sNil)
  (sRet (eTup (aCons (eC (.str "fn")) (aCons (eSlot 5) (aCons (eCall f__law_kind (aCons (eSlot 0) (aCons (eSlot 1) (aCons (eBin opSub (eSlot 2) (eC (.int 1))) aNil)))) aNil)))))))))))
theorem ok__law_kind {P : Program} {w : World} {K : PySem.W.Frag} {mg : Str → Option Value} {base : Heap} {k : Nat} {f : Addr} {fd : FuncData} (F : Fun K "_law_kind" "_law_kind" s__law_kind f fd) (T : Txt mg) {f__law_take : Fn} (C__law_take : CallOk P w K mg base k "_law_take" 2 f__law_take) {f__law_kind : Fn} (C__law_kind : CallOk P w K mg base k "_law_kind" 3 f__law_kind) {f__law_word : Fn} (C__law_word : CallOk P w K mg base k "_law_word" 1 f__law_word) :
    FnOk P w K mg base CX0 (k + 1) f fd ["box", "leans", "deep"] (spOf K 3 (runFn 6 (b__law_kind f__law_take f__law_kind f__law_word))) :=
  have nd := sc__law_kind.nd
  fn_sdN (c := b__law_kind f__law_take f__law_kind f__law_word) ["box", "leans", "deep", "way", "word", "one"] ["box", "leans", "deep"] F sc__law_kind rfl rfl fun cdv A outer s H E hr =>
    (pb_cons (ps_s 3 (px_call C__law_take hr (pxa_cons (px_slot 0) (pxa_cons (px_ix ix_seq ops_ix (px_lst (pxa_cons px_int (pxa_cons px_int pxa_nil))) (px_ty call_int1 cb_int T.z_int PyProof.Rows.boot_int (pxa_cons (px_cmp op_lt ops_lt (px_slot 2) px_int) pxa_nil))) pxa_nil))) nd)
    (pb_cons (ps_i (pt_cmpV (op_eqM hr) (ops_eq false) (px_slot 3) px_int) (pb_one (ps_r (px_tup (pxa_cons (px_str) pxa_nil)))) pb_nil)
    (pb_cons (ps_i (pt_cmpV op_lt ops_lt (px_slot 3) px_int) (pb_cons (ps_s 4 (px_call C__law_word hr (pxa_cons (px_slot 0) pxa_nil)) nd)
    (pb_cons (ps_i (pt_cmpV (op_eqM hr) (ops_eq false) (px_slot 3) px_int) (pb_one (ps_r (px_tup (pxa_cons (px_str) (pxa_cons (px_slot 4) (pxa_cons (px_tup pxa_nil) pxa_nil)))))) pb_nil)
    (pb_cons (ps_e (px_app (px_slot 1) (px_slot 4)))
    (pb_one (ps_r (px_tup (pxa_cons (px_str) (pxa_cons (px_bin op_addA ops_add (px_slot 4) (px_str)) (pxa_cons (px_tup pxa_nil) pxa_nil))))))))) pb_nil)
    (pb_cons (ps_s 5 (px_call C__law_kind hr (pxa_cons (px_slot 0) (pxa_cons (px_slot 1) (pxa_cons (px_bin op_sub ops_sub (px_slot 2) px_int) pxa_nil)))) nd)
    (pb_cons (ps_i (pt_cmpV (op_eqM hr) (ops_eq false) (px_slot 3) px_int) (pb_one (ps_r (px_tup (pxa_cons (px_str) (pxa_cons (px_slot 5) pxa_nil))))) pb_nil)
    (pb_cons (ps_i (pt_cmpV (op_eqM hr) (ops_eq false) (px_slot 3) px_int) (pb_one (ps_r (px_tup (pxa_cons (px_str) (pxa_cons (px_str) (pxa_cons (px_tup (pxa_cons (px_slot 5) pxa_nil)) pxa_nil)))))) pb_nil)
    (pb_one (ps_r (px_tup (pxa_cons (px_str) (pxa_cons (px_slot 5) (pxa_cons (px_call C__law_kind hr (pxa_cons (px_slot 0) (pxa_cons (px_slot 1) (pxa_cons (px_bin op_sub ops_sub (px_slot 2) px_int) pxa_nil)))) pxa_nil))))))))))))

/-! ### _law_pattern -/
abbrev s__law_pattern : Stmt := topS 12
theorem sc__law_pattern : FnScope ["box", "deep", "way"] ["box", "deep"] (defScope s__law_pattern) := ⟨rfl, rfl, rfl, by decide +kernel, rfl, by decide +kernel, by decide +kernel⟩
def b__law_pattern (f__law_take : Fn) (f__law_place : Fn) (f__law_word : Fn) (f__law_pattern : Fn) : EvS := (sSeq (sSet 2 (eCall f__law_take (aCons (eSlot 0) (aCons (eBin opIx (eLst (aCons (eC (.int 3)) (aCons (eC (.int 2)) aNil))) (eCall bInt (aCons (eBin opLt (eSlot 1) (eC (.int 1))) aNil))) aNil))))
  (sSeq (sIf (tV (eBin (opEq false) (eSlot 2) (eC (.int 0)))) (sRet (eTup (aCons (eC (.str "skip")) (aCons (eCall f__law_place (aCons (eSlot 0) aNil)) aNil)))) sNil)
  (sSeq (sIf (tV (eBin (opEq false) (eSlot 2) (eC (.int 1)))) (sRet (eTup (aCons (eC (.str "any")) (aCons (eCall f__law_place (aCons (eSlot 0) aNil)) (aCons (eCall f__law_word (aCons (eSlot 0) aNil)) aNil))))) sNil)
  (sRet (eTup (aCons (eC (.str "tag")) (aCons (eCall f__law_place (aCons (eSlot 0) aNil)) (aCons (eCall f__law_word (aCons (eSlot 0) aNil)) (aCons (eTup (aCons (eCall f__law_pattern (aCons (eSlot 0) (aCons (eBin opSub (eSlot 1) (eC (.int 1))) aNil))) (aCons (eTup (aCons (eC (.str "skip")) (aCons (eCall f__law_place (aCons (eSlot 0) aNil)) aNil))) aNil))) aNil)))))))))
theorem ok__law_pattern {P : Program} {w : World} {K : PySem.W.Frag} {mg : Str → Option Value} {base : Heap} {k : Nat} {f : Addr} {fd : FuncData} (F : Fun K "_law_pattern" "_law_pattern" s__law_pattern f fd) (T : Txt mg) {f__law_take : Fn} (C__law_take : CallOk P w K mg base k "_law_take" 2 f__law_take) {f__law_place : Fn} (C__law_place : CallOk P w K mg base k "_law_place" 1 f__law_place) {f__law_word : Fn} (C__law_word : CallOk P w K mg base k "_law_word" 1 f__law_word) {f__law_pattern : Fn} (C__law_pattern : CallOk P w K mg base k "_law_pattern" 2 f__law_pattern) :
    FnOk P w K mg base CX0 (k + 1) f fd ["box", "deep"] (spOf K 2 (runFn 3 (b__law_pattern f__law_take f__law_place f__law_word f__law_pattern))) :=
  have nd := sc__law_pattern.nd
  fn_sdN (c := b__law_pattern f__law_take f__law_place f__law_word f__law_pattern) ["box", "deep", "way"] ["box", "deep"] F sc__law_pattern rfl rfl fun cdv A outer s H E hr =>
    (pb_cons (ps_s 2 (px_call C__law_take hr (pxa_cons (px_slot 0) (pxa_cons (px_ix ix_seq ops_ix (px_lst (pxa_cons px_int (pxa_cons px_int pxa_nil))) (px_ty call_int1 cb_int T.z_int PyProof.Rows.boot_int (pxa_cons (px_cmp op_lt ops_lt (px_slot 1) px_int) pxa_nil))) pxa_nil))) nd)
    (pb_cons (ps_i (pt_cmpV (op_eqM hr) (ops_eq false) (px_slot 2) px_int) (pb_one (ps_r (px_tup (pxa_cons (px_str) (pxa_cons (px_call C__law_place hr (pxa_cons (px_slot 0) pxa_nil)) pxa_nil))))) pb_nil)
    (pb_cons (ps_i (pt_cmpV (op_eqM hr) (ops_eq false) (px_slot 2) px_int) (pb_one (ps_r (px_tup (pxa_cons (px_str) (pxa_cons (px_call C__law_place hr (pxa_cons (px_slot 0) pxa_nil)) (pxa_cons (px_call C__law_word hr (pxa_cons (px_slot 0) pxa_nil)) pxa_nil)))))) pb_nil)
    (pb_one (ps_r (px_tup (pxa_cons (px_str) (pxa_cons (px_call C__law_place hr (pxa_cons (px_slot 0) pxa_nil)) (pxa_cons (px_call C__law_word hr (pxa_cons (px_slot 0) pxa_nil)) (pxa_cons (px_tup (pxa_cons (px_call C__law_pattern hr (pxa_cons (px_slot 0) (pxa_cons (px_bin op_sub ops_sub (px_slot 1) px_int) pxa_nil))) (pxa_cons (px_tup (pxa_cons (px_str) (pxa_cons (px_call C__law_place hr (pxa_cons (px_slot 0) pxa_nil)) pxa_nil))) pxa_nil))) pxa_nil))))))))))

/-! ### _law_part -/
abbrev s__law_part : Stmt := topS 13
theorem sc__law_part : FnScope ["box", "leans", "deep", "way", "place", "one", "other", "last"] ["box", "leans", "deep"] (defScope s__law_part) := ⟨rfl, rfl, rfl, by decide +kernel, rfl, by decide +kernel, by decide +kernel⟩
def b__law_part (f__law_take : Fn) (f__law_place : Fn) (f__law_part : Fn) (f__law_word : Fn) (f__law_kind : Fn) (f__law_pattern : Fn) : EvS := (sSeq (sSet 3 (eCall f__law_take (aCons (eSlot 0) (aCons (eBin opIx (eLst (aCons (eC (.int 14)) (aCons (eC (.int 3)) aNil))) (eCall bInt (aCons (eOr (eBin opLt (eSlot 2) (eC (.int 1))) (eBin opGt (eBin opIx (eSlot 0) (eC (.int 3))) (eC (.int 20)))) aNil))) aNil))))
  (sSeq (sSet 4 (eCall f__law_place (aCons (eSlot 0) aNil)))
  (sSeq (sIf (tV (eBin (opEq false) (eSlot 3) (eC (.int 0)))) (sRet (eTup (aCons (eC (.str "num")) (aCons (eSlot 4) (aCons (eCall f__law_take (aCons (eSlot 0) (aCons (eC (.int 9)) aNil))) aNil))))) sNil)
  (sSeq (sIf (tV (eBin (opEq false) (eSlot 3) (eC (.int 1)))) (sRet (eTup (aCons (eC (.str "name")) (aCons (eSlot 4) (aCons (eCall f__law_word (aCons (eSlot 0) aNil)) aNil))))) sNil)
  (sSeq (sIf (tV (eBin (opEq false) (eSlot 3) (eC (.int 2)))) (sSeq (sDrop (eApp (eSlot 1) (eCall f__law_word (aCons (eSlot 0) aNil))))
  (sRet (eTup (aCons (eC (.str "of")) (aCons (eSlot 4) (aCons (eBin opIx (eSlot 1) (eNeg (eC (.int 1)))) (aCons (eCall f__law_word (aCons (eSlot 0) aNil)) aNil))))))) sNil)
  (sSeq (sSet 5 (eCall f__law_part (aCons (eSlot 0) (aCons (eSlot 1) (aCons (eBin opSub (eSlot 2) (eC (.int 1))) aNil)))))
  (sSeq (sIf (tV (eBin (opEq false) (eSlot 3) (eC (.int 3)))) (sRet (eTup (aCons (eC (.str "fn")) (aCons (eSlot 4) (aCons (eCall f__law_word (aCons (eSlot 0) aNil)) (aCons (eSlot 5) aNil)))))) sNil)
  (sSeq (sIf (tV (eBin (opEq false) (eSlot 3) (eC (.int 4)))) (sRet (eTup (aCons (eC (.str "loop")) (aCons (eSlot 4) (aCons (eC (.str "f")) (aCons (eCall f__law_word (aCons (eSlot 0) aNil)) (aCons (eSlot 5) aNil))))))) sNil)
  (sSeq (sIf (tV (eBin (opEq false) (eSlot 3) (eC (.int 5)))) (sRet (eTup (aCons (eC (.str "held")) (aCons (eSlot 4) (aCons (eSlot 5) (aCons (eCall f__law_kind (aCons (eSlot 0) (aCons (eSlot 1) (aCons (eC (.int 1)) aNil)))) aNil)))))) sNil)
  (sSeq (sIf (tV (eBin opLt (eSlot 3) (eC (.int 8)))) (sRet (eTup (aCons (eBin opIx (eLst (aCons (eC (.str "ref")) (aCons (eC (.str "get")) aNil))) (eBin opSub (eSlot 3) (eC (.int 6)))) (aCons (eSlot 4) (aCons (eSlot 5) aNil))))) sNil)
  (sSeq (sSet 6 (eCall f__law_part (aCons (eSlot 0) (aCons (eSlot 1) (aCons (eBin opSub (eSlot 2) (eC (.int 1))) aNil)))))
  (sSeq (sIf (tV (eBin (opEq false) (eSlot 3) (eC (.int 8)))) (sRet (eTup (aCons (eC (.str "call")) (aCons (eSlot 4) (aCons (eSlot 5) (aCons (eSlot 6) aNil)))))) sNil)
  (sSeq (sIf (tV (eBin (opEq false) (eSlot 3) (eC (.int 9)))) (sRet (eTup (aCons (eC (.str "let")) (aCons (eSlot 4) (aCons (eCall f__law_word (aCons (eSlot 0) aNil)) (aCons (eSlot 5) (aCons (eSlot 6) aNil))))))) sNil)
  (sSeq (sIf (tV (eBin (opEq false) (eSlot 3) (eC (.int 10)))) (sRet (eTup (aCons (eC (.str "math")) (aCons (eSlot 4) (aCons (eC (.str "add")) (aCons (eSlot 5) (aCons (eSlot 6) aNil))))))) sNil)
  (sSeq (sIf (tV (eBin (opEq false) (eSlot 3) (eC (.int 11)))) (sRet (eTup (aCons (eC (.str "tag")) (aCons (eSlot 4) (aCons (eCall f__law_word (aCons (eSlot 0) aNil)) (aCons (eTup (aCons (eSlot 5) (aCons (eSlot 6) aNil))) aNil)))))) sNil)
  (sSeq (sIf (tV (eBin (opEq false) (eSlot 3) (eC (.int 12)))) (sSeq (sSet 7 (eTup (aCons (eCall f__law_pattern (aCons (eSlot 0) (aCons (eC (.int 1)) aNil))) (aCons (eTup (aCons (eC (.str "num")) (aCons (eBin opAdd (eSlot 4) (eC (.int 5000))) (aCons (eC (.int 1)) aNil)))) aNil))))
  (sRet (eTup (aCons (eC (.str "choose")) (aCons (eSlot 4) (aCons (eSlot 5) (aCons (eTup (aCons (eTup (aCons (eCall f__law_pattern (aCons (eSlot 0) (aCons (eC (.int 1)) aNil))) (aCons (eSlot 6) aNil))) (aCons (eSlot 7) aNil))) aNil))))))) sNil)
  (sRet (eTup (aCons (eC (.str "put")) (aCons (eSlot 4) (aCons (eSlot 5) (aCons (eSlot 6) aNil))))))))))))))))))))))
theorem ok__law_part {P : Program} {w : World} {K : PySem.W.Frag} {mg : Str → Option Value} {base : Heap} {k : Nat} {f : Addr} {fd : FuncData} (F : Fun K "_law_part" "_law_part" s__law_part f fd) (T : Txt mg) {f__law_take : Fn} (C__law_take : CallOk P w K mg base k "_law_take" 2 f__law_take) {f__law_place : Fn} (C__law_place : CallOk P w K mg base k "_law_place" 1 f__law_place) {f__law_part : Fn} (C__law_part : CallOk P w K mg base k "_law_part" 3 f__law_part) {f__law_word : Fn} (C__law_word : CallOk P w K mg base k "_law_word" 1 f__law_word) {f__law_kind : Fn} (C__law_kind : CallOk P w K mg base k "_law_kind" 3 f__law_kind) {f__law_pattern : Fn} (C__law_pattern : CallOk P w K mg base k "_law_pattern" 2 f__law_pattern) :
    FnOk P w K mg base CX0 (k + 1) f fd ["box", "leans", "deep"] (spOf K 3 (runFn 8 (b__law_part f__law_take f__law_place f__law_part f__law_word f__law_kind f__law_pattern))) :=
  have nd := sc__law_part.nd
  fn_sdN (c := b__law_part f__law_take f__law_place f__law_part f__law_word f__law_kind f__law_pattern) ["box", "leans", "deep", "way", "place", "one", "other", "last"] ["box", "leans", "deep"] F sc__law_part rfl rfl fun cdv A outer s H E hr =>
    (pb_cons (ps_s 3 (px_call C__law_take hr (pxa_cons (px_slot 0) (pxa_cons (px_ix ix_seq ops_ix (px_lst (pxa_cons px_int (pxa_cons px_int pxa_nil))) (px_ty call_int1 cb_int T.z_int PyProof.Rows.boot_int (pxa_cons (px_or (px_cmp op_lt ops_lt (px_slot 2) px_int) (px_one (px_cmp op_gt ops_gt (px_ix ix_seq ops_ix (px_slot 0) px_int) px_int))) pxa_nil))) pxa_nil))) nd)
    (pb_cons (ps_s 4 (px_call C__law_place hr (pxa_cons (px_slot 0) pxa_nil)) nd)
    (pb_cons (ps_i (pt_cmpV (op_eqM hr) (ops_eq false) (px_slot 3) px_int) (pb_one (ps_r (px_tup (pxa_cons (px_str) (pxa_cons (px_slot 4) (pxa_cons (px_call C__law_take hr (pxa_cons (px_slot 0) (pxa_cons px_int pxa_nil))) pxa_nil)))))) pb_nil)
    (pb_cons (ps_i (pt_cmpV (op_eqM hr) (ops_eq false) (px_slot 3) px_int) (pb_one (ps_r (px_tup (pxa_cons (px_str) (pxa_cons (px_slot 4) (pxa_cons (px_call C__law_word hr (pxa_cons (px_slot 0) pxa_nil)) pxa_nil)))))) pb_nil)
    (pb_cons (ps_i (pt_cmpV (op_eqM hr) (ops_eq false) (px_slot 3) px_int) (pb_cons (ps_e (px_app (px_slot 1) (px_call C__law_word hr (pxa_cons (px_slot 0) pxa_nil))))
    (pb_one (ps_r (px_tup (pxa_cons (px_str) (pxa_cons (px_slot 4) (pxa_cons (px_ix ix_seq ops_ix (px_slot 1) (px_neg px_int)) (pxa_cons (px_call C__law_word hr (pxa_cons (px_slot 0) pxa_nil)) pxa_nil)))))))) pb_nil)
    (pb_cons (ps_s 5 (px_call C__law_part hr (pxa_cons (px_slot 0) (pxa_cons (px_slot 1) (pxa_cons (px_bin op_sub ops_sub (px_slot 2) px_int) pxa_nil)))) nd)
    (pb_cons (ps_i (pt_cmpV (op_eqM hr) (ops_eq false) (px_slot 3) px_int) (pb_one (ps_r (px_tup (pxa_cons (px_str) (pxa_cons (px_slot 4) (pxa_cons (px_call C__law_word hr (pxa_cons (px_slot 0) pxa_nil)) (pxa_cons (px_slot 5) pxa_nil))))))) pb_nil)
    (pb_cons (ps_i (pt_cmpV (op_eqM hr) (ops_eq false) (px_slot 3) px_int) (pb_one (ps_r (px_tup (pxa_cons (px_str) (pxa_cons (px_slot 4) (pxa_cons (px_str) (pxa_cons (px_call C__law_word hr (pxa_cons (px_slot 0) pxa_nil)) (pxa_cons (px_slot 5) pxa_nil)))))))) pb_nil)
    (pb_cons (ps_i (pt_cmpV (op_eqM hr) (ops_eq false) (px_slot 3) px_int) (pb_one (ps_r (px_tup (pxa_cons (px_str) (pxa_cons (px_slot 4) (pxa_cons (px_slot 5) (pxa_cons (px_call C__law_kind hr (pxa_cons (px_slot 0) (pxa_cons (px_slot 1) (pxa_cons px_int pxa_nil)))) pxa_nil))))))) pb_nil)
    (pb_cons (ps_i (pt_cmpV op_lt ops_lt (px_slot 3) px_int) (pb_one (ps_r (px_tup (pxa_cons (px_ix ix_seq ops_ix (px_lst (pxa_cons (px_str) (pxa_cons (px_str) pxa_nil))) (px_bin op_sub ops_sub (px_slot 3) px_int)) (pxa_cons (px_slot 4) (pxa_cons (px_slot 5) pxa_nil)))))) pb_nil)
    (pb_cons (ps_s 6 (px_call C__law_part hr (pxa_cons (px_slot 0) (pxa_cons (px_slot 1) (pxa_cons (px_bin op_sub ops_sub (px_slot 2) px_int) pxa_nil)))) nd)
    (pb_cons (ps_i (pt_cmpV (op_eqM hr) (ops_eq false) (px_slot 3) px_int) (pb_one (ps_r (px_tup (pxa_cons (px_str) (pxa_cons (px_slot 4) (pxa_cons (px_slot 5) (pxa_cons (px_slot 6) pxa_nil))))))) pb_nil)
    (pb_cons (ps_i (pt_cmpV (op_eqM hr) (ops_eq false) (px_slot 3) px_int) (pb_one (ps_r (px_tup (pxa_cons (px_str) (pxa_cons (px_slot 4) (pxa_cons (px_call C__law_word hr (pxa_cons (px_slot 0) pxa_nil)) (pxa_cons (px_slot 5) (pxa_cons (px_slot 6) pxa_nil)))))))) pb_nil)
    (pb_cons (ps_i (pt_cmpV (op_eqM hr) (ops_eq false) (px_slot 3) px_int) (pb_one (ps_r (px_tup (pxa_cons (px_str) (pxa_cons (px_slot 4) (pxa_cons (px_str) (pxa_cons (px_slot 5) (pxa_cons (px_slot 6) pxa_nil)))))))) pb_nil)
    (pb_cons (ps_i (pt_cmpV (op_eqM hr) (ops_eq false) (px_slot 3) px_int) (pb_one (ps_r (px_tup (pxa_cons (px_str) (pxa_cons (px_slot 4) (pxa_cons (px_call C__law_word hr (pxa_cons (px_slot 0) pxa_nil)) (pxa_cons (px_tup (pxa_cons (px_slot 5) (pxa_cons (px_slot 6) pxa_nil))) pxa_nil))))))) pb_nil)
    (pb_cons (ps_i (pt_cmpV (op_eqM hr) (ops_eq false) (px_slot 3) px_int) (pb_cons (ps_s 7 (px_tup (pxa_cons (px_call C__law_pattern hr (pxa_cons (px_slot 0) (pxa_cons px_int pxa_nil))) (pxa_cons (px_tup (pxa_cons (px_str) (pxa_cons (px_bin op_addA ops_add (px_slot 4) px_int) (pxa_cons px_int pxa_nil)))) pxa_nil))) nd)
    (pb_one (ps_r (px_tup (pxa_cons (px_str) (pxa_cons (px_slot 4) (pxa_cons (px_slot 5) (pxa_cons (px_tup (pxa_cons (px_tup (pxa_cons (px_call C__law_pattern hr (pxa_cons (px_slot 0) (pxa_cons px_int pxa_nil))) (pxa_cons (px_slot 6) pxa_nil))) (pxa_cons (px_slot 7) pxa_nil))) pxa_nil)))))))) pb_nil)
    (pb_one (ps_r (px_tup (pxa_cons (px_str) (pxa_cons (px_slot 4) (pxa_cons (px_slot 5) (pxa_cons (px_slot 6) pxa_nil)))))))))))))))))))))))

/-! ### _law_items -/
abbrev s__law_items : Stmt := topS 14
theorem sc__law_items : FnScope ["box", "leans", "items", "k", "word"] ["box", "leans"] (defScope s__law_items) := ⟨rfl, rfl, rfl, by decide +kernel, rfl, by decide +kernel, by decide +kernel⟩
def b__law_items (f__law_take : Fn) (f__law_place : Fn) (f__law_kind : Fn) (f__law_part : Fn) : EvS := (sSeq (sSet 2 (eLst aNil))
  (sSeq (sFor (iRng1F (aCons (eBin opAdd (eC (.int 1)) (eCall f__law_take (aCons (eSlot 0) (aCons (eC (.int 4)) aNil)))) aNil)) (bName 3) (sSeq (sSet 4 (eBin opIx (eC (.str "abcd")) (eSlot 3)))
  (sIf (tV (eBin (opEq false) (eCall f__law_take (aCons (eSlot 0) (aCons (eC (.int 3)) aNil))) (eC (.int 0)))) (sDrop (eApp (eSlot 2) (eTup (aCons (eC (.str "kind")) (aCons (eCall f__law_place (aCons (eSlot 0) aNil)) (aCons (eSlot 4) (aCons (eCall f__law_kind (aCons (eSlot 0) (aCons (eSlot 1) (aCons (eC (.int 2)) aNil)))) aNil))))))) (sDrop (eApp (eSlot 2) (eTup (aCons (eC (.str "let")) (aCons (eCall f__law_place (aCons (eSlot 0) aNil)) (aCons (eSlot 4) (aCons (eCall f__law_part (aCons (eSlot 0) (aCons (eSlot 1) (aCons (eC (.int 3)) aNil)))) aNil))))))))))
  (sRet (eCall bTuple (aCons (eSlot 2) aNil)))))
theorem ok__law_items {P : Program} {w : World} {K : PySem.W.Frag} {mg : Str → Option Value} {base : Heap} {k : Nat} {f : Addr} {fd : FuncData} (F : Fun K "_law_items" "_law_items" s__law_items f fd) (T : Txt mg) {f__law_take : Fn} (C__law_take : CallOk P w K mg base k "_law_take" 2 f__law_take) {f__law_place : Fn} (C__law_place : CallOk P w K mg base k "_law_place" 1 f__law_place) {f__law_kind : Fn} (C__law_kind : CallOk P w K mg base k "_law_kind" 3 f__law_kind) {f__law_part : Fn} (C__law_part : CallOk P w K mg base k "_law_part" 3 f__law_part) :
    FnOk P w K mg base CX0 (k + 1) f fd ["box", "leans"] (spOf K 2 (runFn 5 (b__law_items f__law_take f__law_place f__law_kind f__law_part))) :=
  have nd := sc__law_items.nd
  fn_sdN (c := b__law_items f__law_take f__law_place f__law_kind f__law_part) ["box", "leans", "items", "k", "word"] ["box", "leans"] F sc__law_items rfl rfl fun cdv A outer s H E hr =>
    (pb_cons (ps_s 2 (px_lst pxa_nil) nd)
    (pb_cons (ps_f PassesOwn.never rfl (pi_r1 T.z_range (pxa_cons (px_bin op_addA ops_add px_int (px_call C__law_take hr (pxa_cons (px_slot 0) (pxa_cons px_int pxa_nil)))) pxa_nil)) (pg_n 3 nd) (pb_cons (ps_s 4 (px_ix ix_seq ops_ix (px_str) (px_slot 3)) nd)
    (pb_one (ps_i (pt_cmpV (op_eqM hr) (ops_eq false) (px_call C__law_take hr (pxa_cons (px_slot 0) (pxa_cons px_int pxa_nil))) px_int) (pb_one (ps_e (px_app (px_slot 2) (px_tup (pxa_cons (px_str) (pxa_cons (px_call C__law_place hr (pxa_cons (px_slot 0) pxa_nil)) (pxa_cons (px_slot 4) (pxa_cons (px_call C__law_kind hr (pxa_cons (px_slot 0) (pxa_cons (px_slot 1) (pxa_cons px_int pxa_nil)))) pxa_nil)))))))) (pb_one (ps_e (px_app (px_slot 2) (px_tup (pxa_cons (px_str) (pxa_cons (px_call C__law_place hr (pxa_cons (px_slot 0) pxa_nil)) (pxa_cons (px_slot 4) (pxa_cons (px_call C__law_part hr (pxa_cons (px_slot 0) (pxa_cons (px_slot 1) (pxa_cons px_int pxa_nil)))) pxa_nil))))))))))))
    (pb_one (ps_r (px_ty call_tuple_of cb_tuple T.z_tuple PyProof.Rows.boot_tuple (pxa_cons (px_slot 2) pxa_nil))))))

/-! ### _law_rows -/
abbrev s__law_rows : Stmt := topS 15
theorem sc__law_rows : FnScope ["box", "leans", "rows", "k", "head", "row"] ["box", "leans"] (defScope s__law_rows) := ⟨rfl, rfl, rfl, by decide +kernel, rfl, by decide +kernel, by decide +kernel⟩
def b__law_rows (f__law_take : Fn) (f__law_place : Fn) (f__law_kind : Fn) : EvS := (sSeq (sSet 2 (eLst aNil))
  (sSeq (sFor (iRng1F (aCons (eBin opAdd (eC (.int 1)) (eCall f__law_take (aCons (eSlot 0) (aCons (eC (.int 4)) aNil)))) aNil)) (bName 3) (sSeq (sSet 4 (eBin opIx (eLst (aCons (eC (.str "hidden")) (aCons (eC (.str "kind")) (aCons (eC (.str "val")) aNil)))) (eCall f__law_take (aCons (eSlot 0) (aCons (eC (.int 3)) aNil)))))
  (sSeq (sSet 5 (eTup (aCons (eSlot 4) (aCons (eCall f__law_place (aCons (eSlot 0) aNil)) (aCons (eBin opIx (eC (.str "abcd")) (eSlot 3)) aNil)))))
  (sSeq (sIf (tV (eBin (opEq true) (eSlot 4) (eC (.str "hidden")))) (sSet 5 (eBin opAdd (eSlot 5) (eTup (aCons (eCall f__law_kind (aCons (eSlot 0) (aCons (eSlot 1) (aCons (eC (.int 2)) aNil)))) aNil)))) sNil)
  (sDrop (eApp (eSlot 2) (eSlot 5)))))))
  (sRet (eCall bTuple (aCons (eSlot 2) aNil)))))
theorem ok__law_rows {P : Program} {w : World} {K : PySem.W.Frag} {mg : Str → Option Value} {base : Heap} {k : Nat} {f : Addr} {fd : FuncData} (F : Fun K "_law_rows" "_law_rows" s__law_rows f fd) (T : Txt mg) {f__law_take : Fn} (C__law_take : CallOk P w K mg base k "_law_take" 2 f__law_take) {f__law_place : Fn} (C__law_place : CallOk P w K mg base k "_law_place" 1 f__law_place) {f__law_kind : Fn} (C__law_kind : CallOk P w K mg base k "_law_kind" 3 f__law_kind) :
    FnOk P w K mg base CX0 (k + 1) f fd ["box", "leans"] (spOf K 2 (runFn 6 (b__law_rows f__law_take f__law_place f__law_kind))) :=
  have nd := sc__law_rows.nd
  fn_sdN (c := b__law_rows f__law_take f__law_place f__law_kind) ["box", "leans", "rows", "k", "head", "row"] ["box", "leans"] F sc__law_rows rfl rfl fun cdv A outer s H E hr =>
    (pb_cons (ps_s 2 (px_lst pxa_nil) nd)
    (pb_cons (ps_f PassesOwn.never rfl (pi_r1 T.z_range (pxa_cons (px_bin op_addA ops_add px_int (px_call C__law_take hr (pxa_cons (px_slot 0) (pxa_cons px_int pxa_nil)))) pxa_nil)) (pg_n 3 nd) (pb_cons (ps_s 4 (px_ix ix_seq ops_ix (px_lst (pxa_cons (px_str) (pxa_cons (px_str) (pxa_cons (px_str) pxa_nil)))) (px_call C__law_take hr (pxa_cons (px_slot 0) (pxa_cons px_int pxa_nil)))) nd)
    (pb_cons (ps_s 5 (px_tup (pxa_cons (px_slot 4) (pxa_cons (px_call C__law_place hr (pxa_cons (px_slot 0) pxa_nil)) (pxa_cons (px_ix ix_seq ops_ix (px_str) (px_slot 3)) pxa_nil)))) nd)
    (pb_cons (ps_i (pt_cmpV (op_neM hr) (ops_eq true) (px_slot 4) (px_str)) (pb_one (ps_s 5 (px_bin op_addA ops_add (px_slot 5) (px_tup (pxa_cons (px_call C__law_kind hr (pxa_cons (px_slot 0) (pxa_cons (px_slot 1) (pxa_cons px_int pxa_nil)))) pxa_nil))) nd)) pb_nil)
    (pb_one (ps_e (px_app (px_slot 2) (px_slot 5))))))))
    (pb_one (ps_r (px_ty call_tuple_of cb_tuple T.z_tuple PyProof.Rows.boot_tuple (pxa_cons (px_slot 2) pxa_nil))))))

/-! ### _law_thing -/
abbrev s__law_thing : Stmt := topS 16
theorem sc__law_thing : FnScope ["box", "leans", "way", "f", "a", "seal", "items", "some", "rows", "word"] ["box"] (defScope s__law_thing) := ⟨rfl, rfl, rfl, by decide +kernel, rfl, by decide +kernel, by decide +kernel⟩
def b__law_thing (f__law_take : Fn) (f__law_items : Fn) (f__law_word : Fn) (f__law_part : Fn) (f__law_rows : Fn) : EvS := (sSeq (sSet 1 (eLst aNil))
  (sSeq (sSet 2 (eCall f__law_take (aCons (eSlot 0) (aCons (eC (.int 5)) aNil))))
  (sSeq (sIf (tV (eBin (opEq false) (eSlot 2) (eC (.int 0)))) (sRet (eTup (aCons (eTup (aCons (eC (.str "main")) (aCons (eC (.int 9000)) (aCons (eC (.str "w")) (aCons (eCall f__law_part (aCons (eSlot 0) (aCons (eSlot 1) (aCons (eC (.int 4)) aNil)))) aNil))))) (aCons (eSlot 1) aNil)))) sNil)
  (sSeq (sIf (tV (eBin (opEq false) (eSlot 2) (eC (.int 1)))) (sRet (eTup (aCons (eTup (aCons (eC (.str "face")) (aCons (eC (.int 9000)) (aCons (eC (.str "s")) (aCons (eCall f__law_rows (aCons (eSlot 0) (aCons (eSlot 1) aNil))) aNil))))) (aCons (eSlot 1) aNil)))) sNil)
  (sSeq (sIf (tV (eBin (opEq false) (eSlot 2) (eC (.int 2)))) (sSeq (sSet 3 (eCall f__law_word (aCons (eSlot 0) aNil)))
  (sSeq (sSet 4 (eCall f__law_word (aCons (eSlot 0) aNil)))
  (sRet (eTup (aCons (eTup (aCons (eC (.str "use")) (aCons (eC (.int 9000)) (aCons (eC (.str "m")) (aCons (eSlot 3) (aCons (eSlot 4) aNil)))))) (aCons (eLst (aCons (eSlot 3) (aCons (eSlot 4) aNil))) aNil)))))) sNil)
  (sSeq (sSet 5 (eBin opIx (eLst (aCons (eC .non) (aCons (eC (.str "sa")) (aCons (eC (.str "xx")) (aCons (eC (.str "of")) aNil))))) (eCall f__law_take (aCons (eSlot 0) (aCons (eC (.int 4)) aNil)))))
  (sSeq (sSet 6 (eCall f__law_items (aCons (eSlot 0) (aCons (eSlot 1) aNil))))
  (sSeq (sIf (tV (eBin (opEq false) (eSlot 2) (eC (.int 3)))) (sRet (eTup (aCons (eTup (aCons (eC (.str "module")) (aCons (eC (.int 9000)) (aCons (eC (.str "m")) (aCons (eSlot 5) (aCons (eSlot 6) aNil)))))) (aCons (eBin opAdd (eSlot 1) (eBin opMul (eLst (aCons (eSlot 5) aNil)) (eCall bInt (aCons (eBin (opIs true) (eSlot 5) (eC .non)) aNil)))) aNil)))) sNil)
  (sSeq (sSet 7 (eCompL [9] (iLocF (eSlot 1)) (bName 9) (tV (eBin (opEq true) (eSlot 9) (eC (.str "xx")))) (eSlot 9)))
  (sSeq (sSet 8 (eBin opIx (eLst (aCons (eC (.str "sa")) (aCons (eC (.str "xx")) (aCons (eC (.str "sb")) aNil)))) (eCall f__law_take (aCons (eSlot 0) (aCons (eC (.int 3)) aNil)))))
  (sRet (eTup (aCons (eTup (aCons (eC (.str "maker")) (aCons (eC (.int 9000)) (aCons (eC (.str "f")) (aCons (eC (.str "xx")) (aCons (eSlot 8) (aCons (eSlot 5) (aCons (eSlot 6) aNil)))))))) (aCons (eBin opAdd (eBin opAdd (eSlot 7) (eLst (aCons (eSlot 8) aNil))) (eBin opMul (eLst (aCons (eSlot 5) aNil)) (eCall bInt (aCons (eBin (opIs true) (eSlot 5) (eC .non)) aNil)))) aNil))))))))))))))
theorem ok__law_thing {P : Program} {w : World} {K : PySem.W.Frag} {mg : Str → Option Value} {base : Heap} {k : Nat} {f : Addr} {fd : FuncData} (F : Fun K "_law_thing" "_law_thing" s__law_thing f fd) (T : Txt mg) {f__law_take : Fn} (C__law_take : CallOk P w K mg base k "_law_take" 2 f__law_take) {f__law_items : Fn} (C__law_items : CallOk P w K mg base k "_law_items" 2 f__law_items) {f__law_word : Fn} (C__law_word : CallOk P w K mg base k "_law_word" 1 f__law_word) {f__law_part : Fn} (C__law_part : CallOk P w K mg base k "_law_part" 3 f__law_part) {f__law_rows : Fn} (C__law_rows : CallOk P w K mg base k "_law_rows" 2 f__law_rows) :
    FnOk P w K mg base CX0 (k + 1) f fd ["box"] (spOf K 1 (runFn 10 (b__law_thing f__law_take f__law_items f__law_word f__law_part f__law_rows))) :=
  have nd := sc__law_thing.nd
  fn_sdN (c := b__law_thing f__law_take f__law_items f__law_word f__law_part f__law_rows) ["box", "leans", "way", "f", "a", "seal", "items", "some", "rows", "word"] ["box"] F sc__law_thing rfl rfl fun cdv A outer s H E hr =>
    (pb_cons (ps_s 1 (px_lst pxa_nil) nd)
    (pb_cons (ps_s 2 (px_call C__law_take hr (pxa_cons (px_slot 0) (pxa_cons px_int pxa_nil))) nd)
    (pb_cons (ps_i (pt_cmpV (op_eqM hr) (ops_eq false) (px_slot 2) px_int) (pb_one (ps_r (px_tup (pxa_cons (px_tup (pxa_cons (px_str) (pxa_cons px_int (pxa_cons (px_str) (pxa_cons (px_call C__law_part hr (pxa_cons (px_slot 0) (pxa_cons (px_slot 1) (pxa_cons px_int pxa_nil)))) pxa_nil))))) (pxa_cons (px_slot 1) pxa_nil))))) pb_nil)
    (pb_cons (ps_i (pt_cmpV (op_eqM hr) (ops_eq false) (px_slot 2) px_int) (pb_one (ps_r (px_tup (pxa_cons (px_tup (pxa_cons (px_str) (pxa_cons px_int (pxa_cons (px_str) (pxa_cons (px_call C__law_rows hr (pxa_cons (px_slot 0) (pxa_cons (px_slot 1) pxa_nil))) pxa_nil))))) (pxa_cons (px_slot 1) pxa_nil))))) pb_nil)
    (pb_cons (ps_i (pt_cmpV (op_eqM hr) (ops_eq false) (px_slot 2) px_int) (pb_cons (ps_s 3 (px_call C__law_word hr (pxa_cons (px_slot 0) pxa_nil)) nd)
    (pb_cons (ps_s 4 (px_call C__law_word hr (pxa_cons (px_slot 0) pxa_nil)) nd)
    (pb_one (ps_r (px_tup (pxa_cons (px_tup (pxa_cons (px_str) (pxa_cons px_int (pxa_cons (px_str) (pxa_cons (px_slot 3) (pxa_cons (px_slot 4) pxa_nil)))))) (pxa_cons (px_lst (pxa_cons (px_slot 3) (pxa_cons (px_slot 4) pxa_nil))) pxa_nil))))))) pb_nil)
    (pb_cons (ps_s 5 (px_ix ix_seq ops_ix (px_lst (pxa_cons px_non (pxa_cons (px_str) (pxa_cons (px_str) (pxa_cons (px_str) pxa_nil))))) (px_call C__law_take hr (pxa_cons (px_slot 0) (pxa_cons px_int pxa_nil)))) nd)
    (pb_cons (ps_s 6 (px_call C__law_items hr (pxa_cons (px_slot 0) (pxa_cons (px_slot 1) pxa_nil))) nd)
    (pb_cons (ps_i (pt_cmpV (op_eqM hr) (ops_eq false) (px_slot 2) px_int) (pb_one (ps_r (px_tup (pxa_cons (px_tup (pxa_cons (px_str) (pxa_cons px_int (pxa_cons (px_str) (pxa_cons (px_slot 5) (pxa_cons (px_slot 6) pxa_nil)))))) (pxa_cons (px_bin op_addA ops_add (px_slot 1) (px_bin op_mulA ops_mul (px_lst (pxa_cons (px_slot 5) pxa_nil)) (px_ty call_int1 cb_int T.z_int PyProof.Rows.boot_int (pxa_cons (px_cmp op_isNA (ops_is true) (px_slot 5) px_non) pxa_nil)))) pxa_nil))))) pb_nil)
    (pb_cons (ps_slcL (own := [("word", 9)]) 7 rfl nd (pi_loc (px_slot 1)) (blkOk_by (own := [("word", 9)]) (N := ["box", "leans", "way", "f", "a", "seal", "items", "some", "rows", "word"]) (sc := defScope s__law_thing) (by decide +kernel)) (fun _ _ _ _ _ => (pg2_n 9 nd)) (fun _ _ _ _ _ => (pxt_one (pt_cmpV (op_neM hr) (ops_eq true) (px_slot 9) (px_str)))) (fun _ _ _ _ _ => (px_slot 9)))
    (pb_cons (ps_s 8 (px_ix ix_seq ops_ix (px_lst (pxa_cons (px_str) (pxa_cons (px_str) (pxa_cons (px_str) pxa_nil)))) (px_call C__law_take hr (pxa_cons (px_slot 0) (pxa_cons px_int pxa_nil)))) nd)
    (pb_one (ps_r (px_tup (pxa_cons (px_tup (pxa_cons (px_str) (pxa_cons px_int (pxa_cons (px_str) (pxa_cons (px_str) (pxa_cons (px_slot 8) (pxa_cons (px_slot 5) (pxa_cons (px_slot 6) pxa_nil)))))))) (pxa_cons (px_bin op_addA ops_add (px_bin op_addA ops_add (px_slot 7) (px_lst (pxa_cons (px_slot 8) pxa_nil))) (px_bin op_mulA ops_mul (px_lst (pxa_cons (px_slot 5) pxa_nil)) (px_ty call_int1 cb_int T.z_int PyProof.Rows.boot_int (pxa_cons (px_cmp op_isNA (ops_is true) (px_slot 5) px_non) pxa_nil)))) pxa_nil)))))))))))))))

/-! ### _law_same -/
abbrev s__law_same : Stmt := topS 17
theorem sc__law_same : FnScope ["found", "due", "one", "there"] ["found", "due"] (defScope s__law_same) := ⟨rfl, rfl, rfl, by decide +kernel, rfl, by decide +kernel, by decide +kernel⟩
def b__law_same (f__law_same : Fn) : EvS := (sSeq (sIf (tV (eIsi2 "tuple" "list" (eSlot 1))) (sSeq (sIf (tOrF (tV (eBin (opEq true) (eIsi "tuple" (eSlot 1)) (eIsi "tuple" (eSlot 0)))) (tV (eBin (opEq true) (eIsi "list" (eSlot 1)) (eIsi "list" (eSlot 0))))) (sRet (eC (.bl false))) sNil)
  (sRet (eAnd (eBin (opEq false) (eCall bLen (aCons (eSlot 0) aNil)) (eCall bLen (aCons (eSlot 1) aNil))) (eCall bAll (aCons (eComp [2, 3] (iZipF (aCons (eSlot 0) (aCons (eSlot 1) aNil))) (bTup [2, 3]) tTrue (eCall f__law_same (aCons (eSlot 2) (aCons (eSlot 3) aNil)))) aNil))))) sNil)
  (sSeq (sIf (tV (eBin (opIs false) (eSlot 1) (eC .non))) (sRet (eBin (opIs false) (eSlot 0) (eC .non))) sNil)
  (sSeq (sIf (tV (eIsi "bool" (eSlot 1))) (sRet (eAnd (eIsi "bool" (eSlot 0)) (eBin (opEq false) (eSlot 0) (eSlot 1)))) sNil)
  (sSeq (sIf (tV (eIsi "int" (eSlot 1))) (sRet (eAnd (eIsi "int" (eSlot 0)) (eAnd (eNot (eIsi "bool" (eSlot 0))) (eBin (opEq false) (eSlot 0) (eSlot 1))))) sNil)
  (sRet (eAnd (eIsi "str" (eSlot 1)) (eAnd (eIsi "str" (eSlot 0)) (eBin (opEq false) (eSlot 0) (eSlot 1)))))))))
theorem ok__law_same {P : Program} {w : World} {K : PySem.W.Frag} {mg : Str → Option Value} {base : Heap} {k : Nat} {f : Addr} {fd : FuncData} (F : Fun K "_law_same" "_law_same" s__law_same f fd) (T : Txt mg) {f__law_same : Fn} (C__law_same : CallOk P w K mg base k "_law_same" 2 f__law_same) :
    FnOk P w K mg base CX0 (k + 1) f fd ["found", "due"] (spOf K 2 (runFn 4 (b__law_same f__law_same))) :=
  have nd := sc__law_same.nd
  fn_sdN (c := b__law_same f__law_same) ["found", "due", "one", "there"] ["found", "due"] F sc__law_same rfl rfl fun cdv A outer s H E hr =>
    (pb_cons (ps_i (pt_v (px_isi2 T.z_isinstance T.z_tuple boot_tuple T.z_list boot_list (px_slot 1))) (pb_cons (ps_i (pt_w (pw_o (pt_cmpV (op_neM hr) (ops_eq true) (px_isi T.z_isinstance T.z_tuple boot_tuple (px_slot 1)) (px_isi T.z_isinstance T.z_tuple boot_tuple (px_slot 0))) (pw_o1 (pt_cmpV (op_neM hr) (ops_eq true) (px_isi T.z_isinstance T.z_list boot_list (px_slot 1)) (px_isi T.z_isinstance T.z_list boot_list (px_slot 0)))))) (pb_one (ps_r px_bl)) pb_nil)
    (pb_one (ps_r (px_and (px_cmp (op_eqM hr) (ops_eq false) (px_b cr_lenA cb_len T.z_len PySem.boot_len (pxa_cons (px_slot 0) pxa_nil)) (px_b cr_lenA cb_len T.z_len PySem.boot_len (pxa_cons (px_slot 1) pxa_nil))) (px_one (px_b (cr_all rfl) cb_all T.z_all boot_all (pxa_cons (px_lc (own := [("one", 2), ("there", 3)]) rfl nd (pi_z T.z_zip (pxa_cons (px_slot 0) (pxa_cons (px_slot 1) pxa_nil))) (blkOk_by (own := [("one", 2), ("there", 3)]) (N := ["found", "due", "one", "there"]) (sc := defScope s__law_same) (by decide +kernel)) (fun _ _ _ _ _ => (pg2_t rfl (pgb_cons 2 (pgb_cons 3 pgb_nil nd) nd))) (fun _ _ _ _ _ => pxt_nil) (fun _ _ _ _ _ => (px_call C__law_same hr (pxa_cons (px_slot 2) (pxa_cons (px_slot 3) pxa_nil))))) pxa_nil))))))) pb_nil)
    (pb_cons (ps_i (pt_cmpV op_isA (ops_is false) (px_slot 1) px_non) (pb_one (ps_r (px_cmp op_isA (ops_is false) (px_slot 0) px_non))) pb_nil)
    (pb_cons (ps_i (pt_v (px_isi T.z_isinstance T.z_bool boot_bool (px_slot 1))) (pb_one (ps_r (px_and (px_isi T.z_isinstance T.z_bool boot_bool (px_slot 0)) (px_one (px_cmp (op_eqM hr) (ops_eq false) (px_slot 0) (px_slot 1)))))) pb_nil)
    (pb_cons (ps_i (pt_v (px_isi T.z_isinstance T.z_int boot_int (px_slot 1))) (pb_one (ps_r (px_and (px_isi T.z_isinstance T.z_int boot_int (px_slot 0)) (px_and (px_not (px_isi T.z_isinstance T.z_bool boot_bool (px_slot 0))) (px_one (px_cmp (op_eqM hr) (ops_eq false) (px_slot 0) (px_slot 1))))))) pb_nil)
    (pb_one (ps_r (px_and (px_isi T.z_isinstance T.z_str boot_str (px_slot 1)) (px_and (px_isi T.z_isinstance T.z_str boot_str (px_slot 0)) (px_one (px_cmp (op_eqM hr) (ops_eq false) (px_slot 0) (px_slot 1)))))))))))

/-! ### law -/
abbrev s_law : Stmt := topS 18
theorem sc_law : FnScope ["script", "box", "f", "a", "k", "thing", "leans"] ["script"] (defScope s_law) := ⟨rfl, rfl, rfl, by decide +kernel, rfl, by decide +kernel, by decide +kernel⟩
def b_law (f__law_box : Fn) (f__law_word : Fn) (f__law_same : Fn) (f__law_thing : Fn) (f_leans_on : Fn) : EvS := (sSeq (sSet 1 (eCall f__law_box (aCons (eSlot 0) (aCons (eC (.int 30)) aNil))))
  (sSeq (sPar 2 3 (aCons (eCall f__law_word (aCons (eSlot 1) aNil)) (aCons (eCall f__law_word (aCons (eSlot 1) aNil)) aNil)))
  (sSeq (sIf (tNotF (tV (eCall f__law_same (aCons (eCall f_leans_on (aCons (eTup (aCons (eC (.str "use")) (aCons (eC (.int 9000)) (aCons (eC (.str "m")) (aCons (eSlot 2) (aCons (eSlot 3) aNil)))))) aNil)) (aCons (eCall bTuple (aCons (eSortSet (eLst (aCons (eSlot 2) (aCons (eSlot 3) aNil)))) aNil)) aNil))))) (sRet (eC (.bl false))) sNil)
  (sSeq (sFor (iRng1F (aCons (eCall bMax (aCons (eC (.int 1)) (aCons (eCall bMin (aCons (eCall bLen (aCons (eSlot 0) aNil)) (aCons (eC (.int 30)) aNil))) aNil))) aNil)) (bName 4) (sSeq (sTup [5, 6] (eCall f__law_thing (aCons (eCall f__law_box (aCons (eSlot 0) (aCons (eSlot 4) aNil))) aNil)))
  (sIf (tNotF (tV (eCall f__law_same (aCons (eCall f_leans_on (aCons (eSlot 5) aNil)) (aCons (eCall bTuple (aCons (eSortSet (eSlot 6)) aNil)) aNil))))) (sRet (eC (.bl false))) sNil)))
  (sRet (eC (.bl true)))))))
theorem ok_law {P : Program} {w : World} {K : PySem.W.Frag} {mg : Str → Option Value} {base : Heap} {k : Nat} {f : Addr} {fd : FuncData} (F : Fun K "law" "law" s_law f fd) (T : Txt mg) {f__law_box : Fn} (C__law_box : CallOk P w K mg base k "_law_box" 2 f__law_box) {f__law_word : Fn} (C__law_word : CallOk P w K mg base k "_law_word" 1 f__law_word) {f__law_same : Fn} (C__law_same : CallOk P w K mg base k "_law_same" 2 f__law_same) {f__law_thing : Fn} (C__law_thing : CallOk P w K mg base k "_law_thing" 1 f__law_thing) {f_leans_on : Fn} (C_leans_on : CallOk P w K mg base k "leans_on" 1 f_leans_on) :
    FnOk P w K mg base CX0 (k + 1) f fd ["script"] (spOf K 1 (runFn 7 (b_law f__law_box f__law_word f__law_same f__law_thing f_leans_on))) :=
  have nd := sc_law.nd
  fn_sdN (c := b_law f__law_box f__law_word f__law_same f__law_thing f_leans_on) ["script", "box", "f", "a", "k", "thing", "leans"] ["script"] F sc_law rfl rfl fun cdv A outer s H E hr =>
    (pb_cons (ps_s 1 (px_call C__law_box hr (pxa_cons (px_slot 0) (pxa_cons px_int pxa_nil))) nd)
    (pb_cons (ps_p 2 3 rfl nd (pxa_cons (px_call C__law_word hr (pxa_cons (px_slot 1) pxa_nil)) (pxa_cons (px_call C__law_word hr (pxa_cons (px_slot 1) pxa_nil)) pxa_nil)))
    (pb_cons (ps_i (pt_n (pt_v (px_call C__law_same hr (pxa_cons (px_call C_leans_on hr (pxa_cons (px_tup (pxa_cons (px_str) (pxa_cons px_int (pxa_cons (px_str) (pxa_cons (px_slot 2) (pxa_cons (px_slot 3) pxa_nil)))))) pxa_nil)) (pxa_cons (px_ty call_tuple_of cb_tuple T.z_tuple PyProof.Rows.boot_tuple (pxa_cons (px_sortSet rfl T.z_sorted T.z_set (px_lst (pxa_cons (px_slot 2) (pxa_cons (px_slot 3) pxa_nil)))) pxa_nil)) pxa_nil))))) (pb_one (ps_r px_bl)) pb_nil)
    (pb_cons (ps_f PassesOwn.never rfl (pi_r1 T.z_range (pxa_cons (px_b (call_max2 rfl) cb_max T.z_max boot_max (pxa_cons px_int (pxa_cons (px_b (call_min2 rfl) cb_min T.z_min boot_min (pxa_cons (px_b cr_lenA cb_len T.z_len PySem.boot_len (pxa_cons (px_slot 0) pxa_nil)) (pxa_cons px_int pxa_nil))) pxa_nil))) pxa_nil)) (pg_n 4 nd) (pb_cons (ps_t rfl (px_call C__law_thing hr (pxa_cons (px_call C__law_box hr (pxa_cons (px_slot 0) (pxa_cons (px_slot 4) pxa_nil))) pxa_nil)) (pgb_cons 5 (pgb_cons 6 pgb_nil nd) nd))
    (pb_one (ps_i (pt_n (pt_v (px_call C__law_same hr (pxa_cons (px_call C_leans_on hr (pxa_cons (px_slot 5) pxa_nil)) (pxa_cons (px_ty call_tuple_of cb_tuple T.z_tuple PyProof.Rows.boot_tuple (pxa_cons (px_sortSet rfl T.z_sorted T.z_set (px_slot 6)) pxa_nil)) pxa_nil))))) (pb_one (ps_r px_bl)) pb_nil))))
    (pb_one (ps_r px_bl))))))
end Law
namespace Law
open PySem PySem.Spec PyProof.Rows L2 RZ Fw

/-! ### data compared -/
theorem eqD_ss (a b : Str) : eqD (.str a) (.str b) = (a == b) := by simp [eqD, D.py, PyData.eqv]
theorem eqD_ts (a : List D) (b : Str) : eqD (.tup a) (.str b) = false := by simp [eqD, D.py, PyData.eqv]
theorem eqD_is (a : Int) (b : Str) : eqD (.int a) (.str b) = false := by simp [eqD, D.py, PyData.eqv]
theorem eqD_bs (a : Bool) (b : Str) : eqD (.bl a) (.str b) = false := by simp [eqD, D.py, PyData.eqv]
theorem eqD_ns (b : Str) : eqD .non (.str b) = false := by simp [eqD, D.py, PyData.eqv]
theorem eqD_ii (a b : Int) : eqD (.int a) (.int b) = (a == b) := by simp [eqD, D.py, PyData.eqv]
theorem eqD_bb (a b : Bool) : eqD (.bl a) (.bl b) = (a == b) := by simp [eqD, D.py, PyData.eqv]
theorem eqD_nil : eqD (.tup []) (.tup []) = true := by simp [eqD, D.py, pys, PyData.eqv, PyData.eqvAll]
theorem eqD_cons (d : D) (r : List D) : eqD (.tup (d :: r)) (.tup []) = false := by simp [eqD, D.py, pys, PyData.eqv, PyData.eqvAll]
theorem eqOk_s (x : D) (b : Str) : eqOk x (.str b) = true := by simp [eqOk, D.py, PyData.depth]
theorem eqOk_i (x : D) (b : Int) : eqOk x (.int b) = true := by simp [eqOk, D.py, PyData.depth]
theorem eqOk_b (x : D) (b : Bool) : eqOk x (.bl b) = true := by simp [eqOk, D.py, PyData.depth]
theorem eqOk_e (x : D) : eqOk x (.tup []) = true := by
  have : min x.py.depth 1 ≤ 60 := Nat.le_trans (Nat.min_le_right _ _) (by decide)
  simpa [eqOk, D.py, pys, PyData.depth, PyData.depthAll] using this
theorem at0 {α : Type} (x : α) (r : List α) : atI (x :: r) 0 = some x := atI_nat (j := 0) rfl
theorem atN {α : Type} {xs : List α} {k : Nat} {x : α} (h : xs[k]? = some x) : atI xs (k : Int) = some x := atI_nat h
theorem at1 {α : Type} (x y : α) (r : List α) : atI (x :: y :: r) 1 = some y := atN (k := 1) rfl
theorem at2 {α : Type} (x y z : α) (r : List α) : atI (x :: y :: z :: r) 2 = some z := atN (k := 2) rfl

/-! ### what words_within tells -/
def fWords : Nat → Fn
  | 0 => fun _ _ => none
  | n + 1 => runFn 3 (b_words_within (fWords n))
/-- a text that may be parted at a dot -/
def strP (x : Str) : Prop := x.length ≤ 100000 ∧ PyData.strOk (Txt.partition x ".").1 = true ∧ PyData.strOk (Txt.partition x ".").2.1 = true ∧ PyData.strOk (Txt.partition x ".").2.2 = true
def dotted (x : Str) : Prop := 46 ∈ x.cps.toList
instance (x : Str) : Decidable (dotted x) := inferInstanceAs (Decidable (46 ∈ x.cps.toList))
def own (x : Str) : List Str := if dotted x then [(Txt.partition x ".").1] else []
def GL (P : D → List Str → Prop) : List D → List Str → Prop
  | [], ws => ws = []
  | d :: r, ws => ∃ a b, ws = a ++ b ∧ P d a ∧ GL P r b
def plainHead : List D → Prop
  | [] => True
  | x :: r => x ≠ .str "made" ∧ ¬ (x = .str "of" ∧ r.length = 3)
/-- ws are the words within d, which goes no deeper than n -/
def G : Nat → D → List Str → Prop
  | 0, d, ws => (∀ ds, d ≠ .tup ds) ∧ ws = []
  | n + 1, d, ws => ((∀ ds, d ≠ .tup ds) ∧ ws = []) ∨ (∃ a m c, d = .tup [.str "of", a, .str m, c] ∧ ws = [m]) ∨
      (∃ x r b, d = .tup (.str "made" :: .str x :: r) ∧ strP x ∧ ws = own x ++ b ∧ GL (G n) r b) ∨ (∃ ds, d = .tup ds ∧ plainHead ds ∧ GL (G n) ds ws)
theorem GL.mono {P P' : D → List Str → Prop} (h : ∀ d ws, P d ws → P' d ws) : ∀ (ds : List D) (ws : List Str), GL P ds ws → GL P' ds ws
  | [], _, e => e
  | d :: r, _, ⟨a, b, e, p, g⟩ => ⟨a, b, e, h d a p, GL.mono h r b g⟩
theorem G.succ : ∀ (n : Nat) (d : D) (ws : List Str), G n d ws → G (n + 1) d ws
  | 0, d, ws, h => .inl h
  | n + 1, d, ws, h => by
    rcases h with h | h | ⟨x, r, b, e, p, ew, g⟩ | ⟨ds, e, p, g⟩
    · exact .inl h
    · exact .inr (.inl h)
    · exact .inr (.inr (.inl ⟨x, r, b, e, p, ew, GL.mono (G.succ n) r b g⟩))
    · exact .inr (.inr (.inr ⟨ds, e, p, GL.mono (G.succ n) ds ws g⟩))
theorem G.mono {n m : Nat} (h : n ≤ m) {d : D} {ws : List Str} (g : G n d ws) : G m d ws := by
  induction h with
  | refl => exact g
  | step _ ih => exact G.succ _ d ws ih
theorem G.leaf {n : Nat} {d : D} (h : ∀ ds, d ≠ .tup ds) : G n d [] := by
  cases n with
  | zero => exact ⟨h, rfl⟩
  | succ n => exact .inl ⟨h, rfl⟩
theorem G.tup {n : Nat} {ds : List D} {ws : List Str} (p : plainHead ds) (g : GL (G n) ds ws) : G (n + 1) (.tup ds) ws := .inr (.inr (.inr ⟨ds, rfl, p, g⟩))

def lw (ws : List Str) : Cell := .lst (ws.map D.str)
def bodyW (c : Fn) : EvS := sIf (tV (eIsi "tuple" (eSlot 2))) (sDrop (eExt (eSlot 1) (eCall c (aCons (eSlot 2) aNil)))) sNil
theorem get_mid {α : Type} (S : List α) (x : α) (G : List α) : (S ++ [x] ++ G)[S.length]? = some x := by simp
theorem set_mid {α : Type} (S : List α) (x y : α) (G : List α) : (S ++ [x] ++ G).set S.length y = S ++ [y] ++ G := by simp
theorem isT_tt : isT "tuple" "tuple" = true := by decide
theorem loopW {n : Nat} (hc : ∀ (ds : List D) (ws : List Str), G n (.tup ds) ws → ws.length ≤ 50000 → ∀ S, fWords n [.d (.tup ds)] S = some (.loc S.length, S ++ [lw ws])) (S : Store) (t : W) :
    ∀ (ds : List D) (ws acc : List Str) (Gb : Store) (x : Option W), GL (G n) ds ws → acc.length + ws.length ≤ 50000 →
      ∃ (Gb' : Store) (y : Option W), loopD (bName 2) (bodyW (fWords n)) (ds.map W.d) [some t, some (.loc S.length), x] (S ++ [lw acc] ++ Gb) = some (.nx [some t, some (.loc S.length), y], S ++ [lw (acc ++ ws)] ++ Gb')
  | [], ws, acc, Gb, x, h, hl => by
    cases (show ws = [] from h)
    exact ⟨Gb, x, by simp [loopD]⟩
  | d :: r, ws, acc, Gb, x, ⟨a, b, e, hd, hr⟩, hl => by
    subst e
    rw [List.length_append] at hl
    by_cases ht : ∃ ds, d = .tup ds
    · obtain ⟨ds, rfl⟩ := ht
      have hcall := hc ds a hd (by omega) (S ++ [lw acc] ++ Gb)
      obtain ⟨Gb', y, ih⟩ := loopW hc S t r b (acc ++ a) (Gb ++ [lw a]) (some (.d (.tup ds))) hr (by rw [List.length_append]; omega)
      refine ⟨Gb', y, ?_⟩
      have e1 : bodyW (fWords n) [some t, some (.loc S.length), some (.d (.tup ds))] (S ++ [lw acc] ++ Gb) = some (.nx [some t, some (.loc S.length), some (.d (.tup ds))], S ++ [lw (acc ++ a)] ++ (Gb ++ [lw a])) := by
        have g1 : (S ++ [lw acc] ++ Gb ++ [lw a])[S.length]? = some (.lst (acc.map D.str)) := by simp [lw]
        have g2 : (S ++ [lw acc] ++ Gb ++ [lw a])[(S ++ [lw acc] ++ Gb).length]? = some (.lst (a.map D.str)) := by simp [lw]
        have hlen : (acc.map D.str).length + (a.map D.str).length < 100000 := by simp; omega
        unfold bodyW sIf tV eIsi sDrop eExt eCall aCons aNil eSlot
        simp only [List.getElem?_cons_zero, List.getElem?_cons_succ, Option.bind_some, Option.map_some, tyN, isT_tt, if_true, hcall, g1, g2]
        rw [if_pos hlen]
        simp [lw]
      simp only [List.map_cons, loopD, bName, List.set_cons_succ, List.set_cons_zero, Option.bind_some, e1]
      rw [ih]
      simp [List.append_assoc]
    · have hn : ∀ ds, d ≠ .tup ds := fun ds z => ht ⟨ds, z⟩
      have ha : a = [] := by
        cases n with
        | zero => exact hd.2
        | succ n =>
          rcases hd with h | ⟨_, _, _, h, _⟩ | ⟨_, _, _, h, _⟩ | ⟨_, h, _⟩
          · exact h.2
          · exact absurd h (hn _)
          · exact absurd h (hn _)
          · exact absurd h (hn _)
      subst ha
      obtain ⟨Gb', y, ih⟩ := loopW hc S t r b acc Gb (some (.d d)) hr (by simpa using hl)
      refine ⟨Gb', y, ?_⟩
      have hT : isT (tyN (.d d)) "tuple" = false := by
        cases d with
        | tup ds => exact absurd rfl (hn ds)
        | _ => rfl
      have e1 : bodyW (fWords n) [some t, some (.loc S.length), some (.d d)] (S ++ [lw acc] ++ Gb) = some (.nx [some t, some (.loc S.length), some (.d d)], S ++ [lw acc] ++ Gb) := by
        unfold bodyW sIf tV eIsi sNil eSlot
        simp [hT]
      simp only [List.map_cons, loopD, bName, List.set_cons_succ, List.set_cons_zero, Option.bind_some, e1]
      rw [ih]
      simp
end Law
namespace Law
open PySem PySem.Spec PyProof.Rows L2 RZ Fw

def tailW (c : Fn) : EvS := sSeq (sFor (iTupF (eSlot 0)) (bName 2) (bodyW c)) (sRet (eSlot 1))
theorem tail_ok {n : Nat} (hc : ∀ (ds : List D) (ws : List Str), G n (.tup ds) ws → ws.length ≤ 50000 → ∀ S, fWords n [.d (.tup ds)] S = some (.loc S.length, S ++ [lw ws])) (S : Store)
    (ds : List D) (ws acc : List Str) (h : GL (G n) ds ws) (hl : acc.length + ws.length ≤ 50000) :
    ∃ Gb, tailW (fWords n) [some (.d (.tup ds)), some (.loc S.length), none] (S ++ [lw acc]) = some (.rt (.loc S.length), S ++ [lw (acc ++ ws)] ++ Gb) := by
  obtain ⟨Gb, y, e⟩ := loopW hc S (.d (.tup ds)) ds ws acc [] none h hl
  refine ⟨Gb, ?_⟩
  rw [List.append_nil] at e
  unfold tailW sSeq sFor iTupF sRet eSlot
  simp only [List.getElem?_cons_zero, Option.bind_some, Option.map_some, e, List.getElem?_cons_succ]
theorem gc_found (S Gb : Store) (c : Cell) : gc S.length (.loc S.length) (S ++ [c] ++ Gb) = some (.loc S.length, S ++ [c]) := by
  simp [gc]
/-- the first test and the second one -/
def testA : EvT := tAndF (tV (eBin (opEq true) (eSlot 0) (eTup aNil))) (tAndF (tV (eBin (opEq false) (eBin opIx (eSlot 0) (eC (.int 0))) (eC (.str "of")))) (tV (eBin (opEq false) (eCall bLen (aCons (eSlot 0) aNil)) (eC (.int 4)))))
def testB : EvT := tAndF (tV (eBin (opEq true) (eSlot 0) (eTup aNil))) (tAndF (tV (eBin (opEq false) (eBin opIx (eSlot 0) (eC (.int 0))) (eC (.str "made")))) (tAndF (tV (eIsi "str" (eBin opIx (eSlot 0) (eC (.int 1))))) (tV (eBin (opInS false) (eC (.str ".")) (eBin opIx (eSlot 0) (eC (.int 1)))))))
def addOwn : EvS := sDrop (eApp (eSlot 1) (eBin opIx (ePart (eBin opIx (eSlot 0) (eC (.int 1))) (eC (.str "."))) (eC (.int 0))))
theorem b_words_eq (c : Fn) : b_words_within c = sSeq (sIf testA (sRet (eLst (aCons (eBin opIx (eSlot 0) (eC (.int 2))) aNil))) sNil) (sSeq (sSet 1 (eLst aNil)) (sSeq (sIf testB addOwn sNil) (tailW c))) := rfl

theorem ne_empty (ds : List D) (o : List (Option W)) (S : Store) : tV (eBin (opEq true) (eSlot 0) (eTup aNil)) (some (.d (.tup ds)) :: o) S = some (!ds.isEmpty, S) := by
  cases ds with
  | nil => simp [tV, eBin, eSlot, eTup, aNil, mkTup, allD, opEq, eqOk_e, eqD_nil]
  | cons d r => simp [tV, eBin, eSlot, eTup, aNil, mkTup, allD, opEq, eqOk_e, eqD_cons]
def isStr (d : D) (s : Str) : Bool := eqD d (.str s)
theorem isStr_iff (d : D) (s : Str) : isStr d s = true ↔ d = .str s := by
  cases d with
  | str a => simp [isStr, eqD_ss]
  | tup a => simp [isStr, eqD_ts]
  | int a => simp [isStr, eqD_is]
  | bl a => simp [isStr, eqD_bs]
  | non => simp [isStr, eqD_ns]
theorem head_is (s : Str) (d : D) (r : List D) (o : List (Option W)) (S : Store) : tV (eBin (opEq false) (eBin opIx (eSlot 0) (eC (.int 0))) (eC (.str s))) (some (.d (.tup (d :: r))) :: o) S = some (isStr d s, S) := by
  simp [tV, eBin, eSlot, eC, opEq, opIx, at0, eqOk_s, isStr]
theorem len_is (ds : List D) (o : List (Option W)) (S : Store) : tV (eBin (opEq false) (eCall bLen (aCons (eSlot 0) aNil)) (eC (.int 4))) (some (.d (.tup ds)) :: o) S = some (decide (ds.length = 4), S) := by
  simp [tV, eBin, eSlot, eC, opEq, eCall, aCons, aNil, bLen, eqOk_i, eqD_ii]
  rw [Bool.beq_eq_decide_eq]
  congr 1
  simp
  omega
theorem testA_ok (ds : List D) (o : List (Option W)) (S : Store) : testA (some (.d (.tup ds)) :: o) S = some (match ds with | [] => false | x :: r => isStr x "of" && decide (r.length = 3), S) := by
  unfold testA tAndF
  rw [ne_empty]
  cases ds with
  | nil => simp
  | cons x r =>
    simp only [List.isEmpty_cons, Bool.not_false, Option.bind_some, if_true, head_is]
    cases h : isStr x "of" with
    | false => simp
    | true =>
      simp only [if_true, len_is]
      simp
theorem dot_in (x : Str) (r : List D) (o : List (Option W)) (S : Store) (y : D) : tV (eBin (opInS false) (eC (.str ".")) (eBin opIx (eSlot 0) (eC (.int 1)))) (some (.d (.tup (y :: .str x :: r))) :: o) S = some (decide (dotted x), S) := by
  have e : (("." : Str).cps.toList) = [46] := by decide +kernel
  simp [tV, eBin, eSlot, eC, opInS, opIx, at1, e, dotted]
theorem testB_made (x : Str) (r : List D) (o : List (Option W)) (S : Store) : testB (some (.d (.tup (.str "made" :: .str x :: r))) :: o) S = some (decide (dotted x), S) := by
  unfold testB tAndF
  rw [ne_empty]
  have h : isStr (.str "made") "made" = true := (isStr_iff _ _).mpr rfl
  have hs : tV (eIsi "str" (eBin opIx (eSlot 0) (eC (.int 1)))) (some (.d (.tup (.str "made" :: .str x :: r))) :: o) S = some (true, S) := by
    have : isT "str" "str" = true := by decide
    simp [tV, eIsi, eBin, eSlot, eC, opIx, at1, tyN, this]
  simp only [List.isEmpty_cons, Bool.not_false, Option.bind_some, if_true, head_is, h, hs, dot_in]
theorem testB_plain (ds : List D) (p : plainHead ds) (o : List (Option W)) (S : Store) : testB (some (.d (.tup ds)) :: o) S = some (false, S) := by
  unfold testB tAndF
  rw [ne_empty]
  cases ds with
  | nil => simp
  | cons x r =>
    have h : isStr x "made" = false := by
      cases e : isStr x "made" with
      | false => rfl
      | true => exact absurd ((isStr_iff _ _).mp e) p.1
    simp only [List.isEmpty_cons, Bool.not_false, Option.bind_some, if_true, head_is, h]
    simp
theorem addOwn_ok (x : Str) (hp : strP x) (r : List D) (S : Store) : addOwn [some (.d (.tup (.str "made" :: .str x :: r))), some (.loc S.length), none] (S ++ [lw []]) = some (.nx [some (.d (.tup (.str "made" :: .str x :: r))), some (.loc S.length), none], S ++ [lw [(Txt.partition x ".").1]]) := by
  obtain ⟨h1, h2, h3, h4⟩ := hp
  have e : ¬ (("." : Str).length = 0) := by decide +kernel
  simp [addOwn, sDrop, eApp, ePart, eBin, eSlot, eC, opIx, at1, at0, h1, h2, h3, h4, e, lw]
theorem words_ok : ∀ (n : Nat) (ds : List D) (ws : List Str), G n (.tup ds) ws → ws.length ≤ 50000 → ∀ S, fWords n [.d (.tup ds)] S = some (.loc S.length, S ++ [lw ws])
  | 0, ds, ws, h, _, S => absurd rfl (h.1 ds)
  | n + 1, ds, ws, h, hl, S => by
    have ih := words_ok n
    show runFn 3 (b_words_within (fWords n)) [.d (.tup ds)] S = _
    unfold runFn
    have e0 : (([.d (.tup ds)] : List W).map some ++ List.replicate (3 - ([.d (.tup ds)] : List W).length) none) = [some (.d (.tup ds)), none, none] := rfl
    rw [e0, b_words_eq]
    unfold sSeq
    rcases h with h | ⟨a, m, c, e, ew⟩ | ⟨x, r, b, e, p, ew, g⟩ | ⟨ds', e, p, g⟩
    · exact absurd rfl (h.1 ds)
    · cases e
      subst ew
      have t : testA [some (.d (.tup [.str "of", a, .str m, c])), none, none] S = some (true, S) := by
        rw [testA_ok]
        have : isStr (.str "of") "of" = true := (isStr_iff _ _).mpr rfl
        simp [this]
      simp [sIf, t, sRet, eLst, aCons, aNil, eBin, eSlot, eC, opIx, at2, allD, gc, lw]
    · cases e
      subst ew
      have t : testA [some (.d (.tup (.str "made" :: .str x :: r))), none, none] S = some (false, S) := by
        rw [testA_ok]
        have : isStr (.str "made") "of" = false := by
          cases q : isStr (.str "made") "of" with
          | false => rfl
          | true => exact absurd ((isStr_iff _ _).mp q) (by intro z; injection z with z; revert z; decide +kernel)
        simp [this]
      have hb : GL (G n) (.str "made" :: .str x :: r) b := ⟨[], b, rfl, G.leaf (fun _ z => nomatch z), [], b, rfl, G.leaf (fun _ z => nomatch z), g⟩
      have lo : (own x).length ≤ 1 := by unfold own; split <;> simp
      rw [List.length_append] at hl
      have mid : sIf testB addOwn sNil [some (.d (.tup (.str "made" :: .str x :: r))), some (.loc S.length), none] (S ++ [lw []]) = some (.nx [some (.d (.tup (.str "made" :: .str x :: r))), some (.loc S.length), none], S ++ [lw (own x)]) := by
        unfold sIf
        rw [testB_made]
        by_cases hd : dotted x
        · simp [hd, addOwn_ok x p r S, own]
        · simp [hd, sNil, own]
      obtain ⟨Gb, te⟩ := tail_ok ih S _ b (own x) hb (by omega)
      have e1 : sIf testA (sRet (eLst (aCons (eBin opIx (eSlot 0) (eC (.int 2))) aNil))) sNil [some (.d (.tup (.str "made" :: .str x :: r))), none, none] S = some (.nx [some (.d (.tup (.str "made" :: .str x :: r))), none, none], S) := by
        unfold sIf
        rw [t]
        simp [sNil]
      have e2 : sSet 1 (eLst aNil) [some (.d (.tup (.str "made" :: .str x :: r))), none, none] S = some (.nx [some (.d (.tup (.str "made" :: .str x :: r))), some (.loc S.length), none], S ++ [lw []]) := by
        simp [sSet, eLst, aNil, allD, lw]
      simp only [e1, e2, mid, te, Option.bind_some, gc_found]
    · cases e
      have t : testA [some (.d (.tup ds)), none, none] S = some (false, S) := by
        rw [testA_ok]
        cases ds with
        | nil => rfl
        | cons x r =>
          simp only [Option.some.injEq, Prod.mk.injEq, and_true]
          cases q : isStr x "of" with
          | false => rfl
          | true =>
            have h3 : ¬ r.length = 3 := fun z => p.2 ⟨(isStr_iff _ _).mp q, z⟩
            simp [h3]
      obtain ⟨Gb, te⟩ := tail_ok ih S ds ws [] g (by simpa using hl)
      have e1 : sIf testA (sRet (eLst (aCons (eBin opIx (eSlot 0) (eC (.int 2))) aNil))) sNil [some (.d (.tup ds)), none, none] S = some (.nx [some (.d (.tup ds)), none, none], S) := by
        unfold sIf
        rw [t]
        simp [sNil]
      have e2 : sSet 1 (eLst aNil) [some (.d (.tup ds)), none, none] S = some (.nx [some (.d (.tup ds)), some (.loc S.length), none], S ++ [lw []]) := by
        simp [sSet, eLst, aNil, allD, lw]
      have e3 : sIf testB addOwn sNil [some (.d (.tup ds)), some (.loc S.length), none] (S ++ [lw []]) = some (.nx [some (.d (.tup ds)), some (.loc S.length), none], S ++ [lw []]) := by
        unfold sIf
        rw [testB_plain ds p]
        simp [sNil]
      simp only [e1, e2, e3, te, Option.bind_some, gc_found, List.nil_append]
end Law
namespace Law
open PySem PySem.Spec PyProof.Rows L2 RZ Fw

/-! ### the box -/
def bx (a b c d : Int) : Cell := .lst [.int a, .int b, .int c, .int d]
def BoxAt (S : Store) (b : Nat) : Prop := ∃ p q r s, S[b]? = some (bx p q r s)
/-- from S to S', the box at b alone was written -/
structure Sb (b : Nat) (S S' : Store) : Prop where
  len : S'.length = S.length
  oth : ∀ i, i ≠ b → S'[i]? = S[i]?
  box : BoxAt S' b
theorem BoxAt.lt {S : Store} {b : Nat} (h : BoxAt S b) : b < S.length := by
  obtain ⟨_, _, _, _, e⟩ := h
  exact (List.getElem?_eq_some_iff.mp e).1
theorem BoxAt.app {S : Store} {b : Nat} (h : BoxAt S b) (T : Store) : BoxAt (S ++ T) b := by
  obtain ⟨p, q, r, s, e⟩ := h
  exact ⟨p, q, r, s, by rw [List.getElem?_append_left (List.getElem?_eq_some_iff.mp e).1]; exact e⟩
theorem Sb.refl {b : Nat} {S : Store} (h : BoxAt S b) : Sb b S S := ⟨rfl, fun _ _ => rfl, h⟩
theorem Sb.trans {b : Nat} {S S1 S2 : Store} (x : Sb b S S1) (y : Sb b S1 S2) : Sb b S S2 := ⟨y.len.trans x.len, fun i hi => (y.oth i hi).trans (x.oth i hi), y.box⟩
theorem Sb.set {b : Nat} {S : Store} (h : b < S.length) (p q r s : Int) : Sb b S (S.set b (bx p q r s)) :=
  ⟨by simp, fun i hi => List.getElem?_set_ne (Ne.symm hi), p, q, r, s, List.getElem?_set_self h⟩
/-- what was laid on the way is dropped -/
theorem Sb.cut {b : Nat} {S T S' : Store} (x : Sb b (S ++ T) S') (h : b < S.length) : Sb b S (S'.take S.length) := by
  have hl := x.len
  rw [List.length_append] at hl
  refine ⟨by rw [List.length_take]; omega, fun i hi => ?_, ?_⟩
  · by_cases hlt : i < S.length
    · rw [List.getElem?_take_of_lt hlt, x.oth i hi, List.getElem?_append_left hlt]
    · rw [List.getElem?_eq_none (by rw [List.length_take]; omega), List.getElem?_eq_none (by omega)]
  · obtain ⟨p, q, r, s, e⟩ := x.box
    exact ⟨p, q, r, s, by rw [List.getElem?_take_of_lt h]; exact e⟩

theorem at3 {α : Type} (x y z u : α) (r : List α) : atI (x :: y :: z :: u :: r) 3 = some u := atN (k := 3) rfl
theorem ix0 {n : Nat} : ixN (n + 4) 0 = some 0 := by simp [ixN]; omega
theorem ix2 {n : Nat} : ixN (n + 4) 2 = some 2 := by simp [ixN]; omega
theorem ix3 {n : Nat} : ixN (n + 4) 3 = some 3 := by simp [ixN]; omega

/-! ### drawing -/
def fMixed : Fn := runFn 3 b__law_mixed
def fTake : Fn := runFn 3 (b__law_take fMixed)
def fPlace : Fn := runFn 1 b__law_place
def fWord : Fn := runFn 1 (b__law_word fTake)
theorem mixed_ok (c k : Int) (S : Store) : ∃ r, fMixed [.d (.int c), .d (.int k)] S = some (.d (.int r), S) := by
  have m1 : ∀ x : Int, 0 ≤ x % 2147483629 ∧ x % 2147483629 < 2147483629 := fun x => ⟨Int.emod_nonneg _ (by decide), Int.emod_lt_of_pos _ (by decide)⟩
  have g1 := m1 (c + 7919 * k + 12345)
  refine ⟨((((c + 7919 * k + 12345) % 2147483629 * ((c + 7919 * k + 12345) % 2147483629) + 48271 * k) % 2147483629) * ((((c + 7919 * k + 12345) % 2147483629 * ((c + 7919 * k + 12345) % 2147483629) + 48271 * k) % 2147483629))) % 2147483587, ?_⟩
  have g2 := m1 ((c + 7919 * k + 12345) % 2147483629 * ((c + 7919 * k + 12345) % 2147483629) + 48271 * k)
  generalize e1 : (c + 7919 * k + 12345) % 2147483629 = x at g1 g2 ⊢
  generalize e2 : (x * x + 48271 * k) % 2147483629 = y at g2 ⊢
  have hx : -18446744073709551616 < x ∧ x < 18446744073709551616 := by omega
  have hy : -18446744073709551616 < y ∧ y < 18446744073709551616 := by omega
  unfold fMixed runFn b__law_mixed
  simp [sSeq, sSet, sRet, eBin, eSlot, eC, opMod, Fw.opI, opAdd, opMul, e1, e2, hx, hy, gc]
theorem take_ok {S : Store} {b : Nat} (h : BoxAt S b) {many : Int} (h0 : 0 < many) (h1 : many < 1073741824) :
    ∃ r S', fTake [.loc b, .d (.int many)] S = some (.d (.int r), S') ∧ 0 ≤ r ∧ r < many ∧ Sb b S S' := by
  have hb := h.lt
  obtain ⟨p, q, r, s, e⟩ := h
  by_cases hp : 0 < p
  · refine ⟨p % many, S.set b (bx (p / many) q r s), ?_, Int.emod_nonneg _ (by omega), Int.emod_lt_of_pos _ h0, Sb.set hb _ _ _ _⟩
    unfold fTake runFn b__law_take
    have et : (S.set b (bx (p / many) q r s)).take S.length = S.set b (bx (p / many) q r s) := by rw [List.take_of_length_le]; simp
    simp [sSeq, sIf, tV, sSet, sPut, sRet, eBin, eSlot, eC, opMod, opFdiv, Fw.opI, Fw.opI0, opGt, opIx, e, bx, at0, hp, h0, h1, gc, ix0]
    simpa [bx] using et
  · obtain ⟨z, ez⟩ := mixed_ok q (r + 1) (S.set b (bx p q (r + 1) s))
    refine ⟨z % many, S.set b (bx p q (r + 1) s), ?_, Int.emod_nonneg _ (by omega), Int.emod_lt_of_pos _ h0, Sb.set hb _ _ _ _⟩
    unfold fTake runFn b__law_take
    have et : (S.set b (bx p q (r + 1) s)).take S.length = S.set b (bx p q (r + 1) s) := by rw [List.take_of_length_le]; simp
    have eg : (S.set b (bx p q (r + 1) s))[b]? = some (bx p q (r + 1) s) := List.getElem?_set_self hb
    unfold bx at e ez et eg
    simp [sSeq, sIf, tV, sSet, sPut, sRet, sNil, eBin, eSlot, eC, eCall, aCons, aNil, opMod, opAdd, Fw.opI, Fw.opI0, opGt, opIx, e, bx, at0, at1, at2, hp, h0, h1, gc, ix2, ez, eg]
    simpa using et
theorem place_ok {S : Store} {b : Nat} (h : BoxAt S b) : ∃ r S', fPlace [.loc b] S = some (.d (.int r), S') ∧ Sb b S S' := by
  have hb := h.lt
  obtain ⟨p, q, r, s, e⟩ := h
  refine ⟨s + 1 - 1, S.set b (bx p q r (s + 1)), ?_, Sb.set hb _ _ _ _⟩
  have et : (S.set b (bx p q r (s + 1))).take S.length = S.set b (bx p q r (s + 1)) := by rw [List.take_of_length_le]; simp
  have eg : (S.set b (bx p q r (s + 1)))[b]? = some (bx p q r (s + 1)) := List.getElem?_set_self hb
  unfold fPlace runFn b__law_place
  unfold bx at e et eg
  simp [sSeq, sPut, sRet, eBin, eSlot, eC, opAdd, opSub, Fw.opI0, opIx, e, bx, at3, gc, ix3, eg]
  simpa using et
end Law
namespace Law
open PySem PySem.Spec PyProof.Rows L2 RZ Fw

/-- it ends, and what it ends with is so -/
def Ok {α : Type} (o : Option (α × Store)) (P : α → Store → Prop) : Prop := ∃ a S, o = some (a, S) ∧ P a S
theorem ok_some {α : Type} {a : α} {S : Store} {P : α → Store → Prop} : Ok (some (a, S)) P ↔ P a S := by
  constructor
  · rintro ⟨b, T, e, h⟩
    cases e
    exact h
  · exact fun h => ⟨a, S, rfl, h⟩
theorem ok_bind {α β : Type} {o : Option (α × Store)} {k : α × Store → Option (β × Store)} {P : β → Store → Prop} : Ok (o.bind k) P ↔ Ok o fun a S => Ok (k (a, S)) P := by
  constructor
  · rintro ⟨b, T, e, h⟩
    obtain ⟨⟨a, S⟩, e1, e2⟩ := Option.bind_eq_some_iff.mp e
    exact ⟨a, S, e1, b, T, e2, h⟩
  · rintro ⟨a, S, e1, b, T, e2, h⟩
    exact ⟨b, T, by rw [e1]; exact e2, h⟩
theorem ok_map {α β : Type} {o : Option (α × Store)} {k : α × Store → β × Store} {P : β → Store → Prop} : Ok (o.map k) P ↔ Ok o fun a S => P (k (a, S)).1 (k (a, S)).2 := by
  constructor
  · rintro ⟨b, T, e, h⟩
    obtain ⟨⟨a, S⟩, e1, e2⟩ := Option.map_eq_some_iff.mp e
    exact ⟨a, S, e1, by show P _ _; rw [e2]; exact h⟩
  · rintro ⟨a, S, e1, h⟩
    exact ⟨_, _, by rw [e1]; rfl, h⟩
theorem Ok.next {α : Type} {o : Option (α × Store)} {P Q : α → Store → Prop} (h : Ok o P) (k : ∀ a S, P a S → Q a S) : Ok o Q := by
  obtain ⟨a, S, e, p⟩ := h
  exact ⟨a, S, e, k a S p⟩

/-! ### drawing, as such -/
theorem take_k {S : Store} {b : Nat} (h : BoxAt S b) {many : Int} (h0 : 0 < many := by decide) (h1 : many < 1073741824 := by decide) :
    Ok (fTake [.loc b, .d (.int many)] S) fun w S' => ∃ r, w = .d (.int r) ∧ 0 ≤ r ∧ r < many ∧ Sb b S S' := by
  obtain ⟨r, S', e, a, c, d⟩ := take_ok h h0 h1
  exact ⟨_, _, e, r, rfl, a, c, d⟩
theorem place_k {S : Store} {b : Nat} (h : BoxAt S b) : Ok (fPlace [.loc b] S) fun w S' => ∃ r, w = .d (.int r) ∧ Sb b S S' := by
  obtain ⟨r, S', e, d⟩ := place_ok h
  exact ⟨_, _, e, r, rfl, d⟩
def menu6 : List Str := ["na", "nb", "nc", "xx", "of", "made"]
theorem atI_menu {α : Type} {xs : List α} {r : Int} (h0 : 0 ≤ r) (h1 : r < xs.length) : ∃ x, atI xs r = some x ∧ x ∈ xs := by
  have hl : r.toNat < xs.length := by omega
  refine ⟨xs[r.toNat], ?_, List.getElem_mem hl⟩
  have q : atI xs ((r.toNat : Nat) : Int) = some xs[r.toNat] := atI_nat (List.getElem?_eq_getElem hl)
  have e : ((r.toNat : Nat) : Int) = r := by omega
  rw [e] at q
  exact q
theorem last_get {S : Store} (c : Cell) : (S ++ [c])[S.length]? = some c := by simp
theorem word_k {S : Store} {b : Nat} (h : BoxAt S b) : Ok (fWord [.loc b] S) fun w S' => ∃ x, w = .d (.str x) ∧ x ∈ menu6 ∧ Sb b S S' := by
  have hb := h.lt
  unfold fWord runFn b__law_word
  simp only [sRet, eBin, eLst, eCall, aCons, aNil, eSlot, eC, ok_bind, ok_map, ok_some, List.map_cons, List.map_nil, List.length_cons, List.length_nil, List.cons_append, List.nil_append, List.getElem?_cons_zero, Option.map_some, Option.bind_some, allD]
  refine (take_k (h.app _)).next fun w S1 ⟨r, e, h0, h1, sb⟩ => ?_
  subst e
  obtain ⟨d, hd, hm⟩ := atI_menu (xs := [D.str "na", .str "nb", .str "nc", .str "xx", .str "of", .str "made"]) h0 (by simpa using h1)
  have hg : S1[S.length]? = some (.lst [D.str "na", .str "nb", .str "nc", .str "xx", .str "of", .str "made"]) := by
    rw [sb.oth _ (by omega)]
    simp
  simp only [opIx, hg, hd, Option.map_some, ok_some, gc]
  have : ∃ x, d = .str x ∧ x ∈ menu6 := by
    simp only [List.mem_cons, List.not_mem_nil, or_false] at hm
    rcases hm with e | e | e | e | e | e <;> exact ⟨_, e, by simp [menu6]⟩
  obtain ⟨x, e, hx⟩ := this
  subst e
  exact ⟨x, rfl, hx, sb.cut hb⟩
instance (x : Str) : Decidable (strP x) := inferInstanceAs (Decidable (_ ∧ _))
theorem menu_ok : ∀ x ∈ menu6, strP x ∧ own x = [] ∧ strP (x ++ ".t") ∧ own (x ++ ".t") = [x] ∧ x.length ≤ 10 := by
  unfold own menu6
  decide +kernel

/-! ### the box and the list of words -/
structure Sg (b l : Nat) (S S' : Store) (ws : List Str) : Prop where
  len : S'.length = S.length
  oth : ∀ i, i ≠ b → i ≠ l → S'[i]? = S[i]?
  box : BoxAt S' b
  lea : S'[l]? = some (lw ws)
structure Pre (b l : Nat) (S : Store) (ws : List Str) : Prop where
  box : BoxAt S b
  lea : S[l]? = some (lw ws)
  ne : b ≠ l
theorem Pre.bl {b l : Nat} {S : Store} {ws : List Str} (p : Pre b l S ws) : b < S.length := p.box.lt
theorem Pre.ll {b l : Nat} {S : Store} {ws : List Str} (p : Pre b l S ws) : l < S.length := (List.getElem?_eq_some_iff.mp p.lea).1
theorem Pre.app {b l : Nat} {S : Store} {ws : List Str} (p : Pre b l S ws) (T : Store) : Pre b l (S ++ T) ws := ⟨p.box.app T, by rw [List.getElem?_append_left p.ll]; exact p.lea, p.ne⟩
theorem Pre.sb {b l : Nat} {S S' : Store} {ws : List Str} (p : Pre b l S ws) (s : Sb b S S') : Pre b l S' ws ∧ Sg b l S S' ws := by
  have e : S'[l]? = some (lw ws) := by rw [s.oth l (Ne.symm p.ne)]; exact p.lea
  exact ⟨⟨s.box, e, p.ne⟩, s.len, fun i hi _ => s.oth i hi, s.box, e⟩
theorem Sg.pre {b l : Nat} {S S' : Store} {ws : List Str} (s : Sg b l S S' ws) (ne : b ≠ l) : Pre b l S' ws := ⟨s.box, s.lea, ne⟩
theorem Sg.refl {b l : Nat} {S : Store} {ws : List Str} (p : Pre b l S ws) : Sg b l S S ws := ⟨rfl, fun _ _ _ => rfl, p.box, p.lea⟩
theorem Sg.trans {b l : Nat} {S S1 S2 : Store} {ws ws' : List Str} (x : Sg b l S S1 ws) (y : Sg b l S1 S2 ws') : Sg b l S S2 ws' := ⟨y.len.trans x.len, fun i hi hj => (y.oth i hi hj).trans (x.oth i hi hj), y.box, y.lea⟩
theorem Sg.cut {b l : Nat} {S T S' : Store} {ws : List Str} (x : Sg b l (S ++ T) S' ws) (hb : b < S.length) (hl : l < S.length) : Sg b l S (S'.take S.length) ws := by
  have hL := x.len
  rw [List.length_append] at hL
  refine ⟨by rw [List.length_take]; omega, fun i hi hj => ?_, ?_, by rw [List.getElem?_take_of_lt hl]; exact x.lea⟩
  · by_cases hlt : i < S.length
    · rw [List.getElem?_take_of_lt hlt, x.oth i hi hj, List.getElem?_append_left hlt]
    · rw [List.getElem?_eq_none (by rw [List.length_take]; omega), List.getElem?_eq_none (by omega)]
  · obtain ⟨p, q, r, s, e⟩ := x.box
    exact ⟨p, q, r, s, by rw [List.getElem?_take_of_lt hb]; exact e⟩
/-- leans.append(x) -/
theorem Pre.add {b l : Nat} {S : Store} {ws : List Str} (p : Pre b l S ws) (x : Str) : Sg b l S (S.set l (lw (ws ++ [x]))) (ws ++ [x]) := by
  refine ⟨by simp, fun i _ hj => List.getElem?_set_ne (Ne.symm hj), ?_, List.getElem?_set_self p.ll⟩
  obtain ⟨q, r, s, t, e⟩ := p.box
  exact ⟨q, r, s, t, by rw [List.getElem?_set_ne (Ne.symm p.ne)]; exact e⟩
/-- tuples of written heads -/
theorem ph (s : Str) (r : List D) (h : s ≠ "made" ∧ s ≠ "of" := by decide +kernel) : plainHead (.str s :: r) := ⟨fun z => h.1 (D.str.inj z), fun z => h.2 (D.str.inj z.1)⟩
theorem pt (d : List D) (r : List D) : plainHead (.tup d :: r) := ⟨fun z => (nomatch z), fun z => (nomatch z.1)⟩
theorem gl_nil {P : D → List Str → Prop} : GL P [] [] := rfl
theorem gl_leaf {n : Nat} {d : D} {r : List D} {ws : List Str} (g : GL (G n) r ws) (h : ∀ ds, d ≠ .tup ds := by intro _ z; cases z) : GL (G n) (d :: r) ws := ⟨[], ws, rfl, G.leaf h, g⟩
theorem gl_cons {P : D → List Str → Prop} {d : D} {r : List D} {a b : List Str} (h : P d a) (g : GL P r b) : GL P (d :: r) (a ++ b) := ⟨a, b, rfl, h, g⟩
theorem gl_one {P : D → List Str → Prop} {d : D} {a : List Str} (h : P d a) : GL P [d] a := ⟨a, [], by simp, h, rfl⟩
theorem g_unit {n : Nat} : G (n + 1) (.tup []) [] := G.tup trivial rfl
theorem g_made {n : Nat} {x : Str} {r : List D} {b : List Str} (p : strP x) (g : GL (G n) r b) : G (n + 1) (.tup (.str "made" :: .str x :: r)) (own x ++ b) := .inr (.inr (.inl ⟨x, r, b, rfl, p, rfl, g⟩))

/-! ### one step of a body -/
section
variable {σ : Slots} {S : Store} {f g : EvS} {P : Fl → Store → Prop}
theorem ok_seq : Ok (sSeq f g σ S) P ↔ Ok (f σ S) fun fl S1 => Ok (match fl with | .nx σ' => g σ' S1 | fl => some (fl, S1)) P := by
  unfold sSeq
  rw [ok_bind]
  all_goals (constructor <;> (intro h; refine h.next fun fl S1 q => ?_; cases fl <;> exact q))
theorem seq_nx (h : Ok (f σ S) fun fl S1 => ∃ σ1, fl = .nx σ1 ∧ Ok (g σ1 S1) P) : Ok (sSeq f g σ S) P := ok_seq.mpr (h.next fun fl S1 ⟨σ1, e, h⟩ => by subst e; exact h)
theorem seq_rt (h : Ok (f σ S) fun fl S1 => ∃ w, fl = .rt w ∧ P (.rt w) S1) : Ok (sSeq f g σ S) P := ok_seq.mpr (h.next fun fl S1 ⟨w, e, h⟩ => by subst e; exact ok_some.mpr h)
theorem ok_set {i : Nat} {e : EvE} : Ok (sSet i e σ S) P ↔ Ok (e σ S) fun w S1 => P (.nx (σ.set i (some w))) S1 := by unfold sSet; rw [ok_map]
theorem ok_ret {e : EvE} : Ok (sRet e σ S) P ↔ Ok (e σ S) fun w S1 => P (.rt w) S1 := by unfold sRet; rw [ok_map]
theorem ok_drop {e : EvE} : Ok (sDrop e σ S) P ↔ Ok (e σ S) fun _ S1 => P (.nx σ) S1 := by unfold sDrop; rw [ok_map]
theorem t_eq {i : Nat} {k r : Int} (h : σ[i]? = some (some (.d (.int r)))) : tV (eBin (opEq false) (eSlot i) (eC (.int k))) σ S = some (decide (r = k), S) := by
  simp [tV, eBin, eSlot, eC, opEq, h, eqOk_i, eqD_ii]
  rw [Bool.beq_eq_decide_eq]
theorem t_lt {i : Nat} {k r : Int} (h : σ[i]? = some (some (.d (.int r)))) : tV (eBin opLt (eSlot i) (eC (.int k))) σ S = some (decide (r < k), S) := by
  simp [tV, eBin, eSlot, eC, opLt, Fw.opI0, h]
theorem skip_eq {i : Nat} {k r : Int} (h : σ[i]? = some (some (.d (.int r)))) (n : r ≠ k) (q : Ok (g σ S) P) : Ok (sSeq (sIf (tV (eBin (opEq false) (eSlot i) (eC (.int k)))) f sNil) g σ S) P := by
  refine seq_nx ?_
  unfold sIf
  rw [t_eq h]
  simp only [Option.bind_some, decide_eq_true_eq]
  rw [if_neg n]
  exact ok_some.mpr ⟨σ, rfl, q⟩
theorem skip_lt {i : Nat} {k r : Int} (h : σ[i]? = some (some (.d (.int r)))) (n : ¬ r < k) (q : Ok (g σ S) P) : Ok (sSeq (sIf (tV (eBin opLt (eSlot i) (eC (.int k)))) f sNil) g σ S) P := by
  refine seq_nx ?_
  unfold sIf
  rw [t_lt h]
  simp only [Option.bind_some, decide_eq_true_eq]
  rw [if_neg n]
  exact ok_some.mpr ⟨σ, rfl, q⟩
theorem take_eq {i : Nat} {k r : Int} (h : σ[i]? = some (some (.d (.int r)))) (n : r = k) (q : Ok (f σ S) fun fl S1 => ∃ w, fl = .rt w ∧ P (.rt w) S1) : Ok (sSeq (sIf (tV (eBin (opEq false) (eSlot i) (eC (.int k)))) f sNil) g σ S) P := by
  refine seq_rt ?_
  unfold sIf
  rw [t_eq h]
  simp only [Option.bind_some, decide_eq_true_eq]
  rw [if_pos n]
  exact q
theorem take_lt {i : Nat} {k r : Int} (h : σ[i]? = some (some (.d (.int r)))) (n : r < k) (q : Ok (f σ S) fun fl S1 => ∃ w, fl = .rt w ∧ P (.rt w) S1) : Ok (sSeq (sIf (tV (eBin opLt (eSlot i) (eC (.int k)))) f sNil) g σ S) P := by
  refine seq_rt ?_
  unfold sIf
  rw [t_lt h]
  simp only [Option.bind_some, decide_eq_true_eq]
  rw [if_pos n]
  exact q
end
section
variable {σ : Slots} {S : Store} {e f : EvE} {g : EvA}
theorem ok_slot {i : Nat} {w : W} {P : W → Store → Prop} (h : σ[i]? = some (some w)) : Ok (eSlot i σ S) P ↔ P w S := by
  unfold eSlot
  rw [h]
  exact ok_some
theorem ok_c {d : D} {P : W → Store → Prop} : Ok (eC d σ S) P ↔ P (.d d) S := ok_some
theorem ok_anil {P : List W → Store → Prop} : Ok (aNil σ S) P ↔ P [] S := ok_some
theorem ok_acons {P : List W → Store → Prop} : Ok (aCons e g σ S) P ↔ Ok (e σ S) fun w S1 => Ok (g σ S1) fun ws S2 => P (w :: ws) S2 := by
  unfold aCons
  simp only [ok_bind, ok_some]
theorem ok_call {F : Fn} {P : W → Store → Prop} : Ok (eCall F g σ S) P ↔ Ok (g σ S) fun ws S1 => Ok (F ws S1) P := by
  unfold eCall
  rw [ok_bind]
theorem ok_tup {P : W → Store → Prop} : Ok (eTup g σ S) P ↔ Ok (g σ S) fun ws S1 => ∃ w, mkTup ws = some w ∧ P w S1 := by
  unfold eTup
  rw [ok_bind]
  constructor
  · rintro ⟨ws, S1, e, h⟩
    obtain ⟨w, S2, e2, h⟩ := h
    obtain ⟨w', e3, e4⟩ := Option.map_eq_some_iff.mp e2
    cases e4
    exact ⟨ws, S1, e, w, e3, h⟩
  · rintro ⟨ws, S1, e, w, e3, h⟩
    refine ⟨ws, S1, e, w, S1, ?_, h⟩
    dsimp only
    rw [e3]
    rfl
theorem ok_bin {op : Op2} {P : W → Store → Prop} : Ok (eBin op e f σ S) P ↔ Ok (e σ S) fun w S1 => Ok (f σ S1) fun u S2 => Ok (op w u S2) P := by
  unfold eBin
  simp only [ok_bind]
end
theorem mk_ds {ds : List D} : mkTup (ds.map W.d) = some (.d (.tup ds)) := by
  have : allD (ds.map W.d) = some ds := by
    induction ds with
    | nil => rfl
    | cons d r ih => simp [allD, ih]
  unfold mkTup
  rw [this]

/-! ### kinds -/
def fKind : Nat → Fn
  | 0 => fun _ _ => none
  | n + 1 => runFn 6 (b__law_kind fTake (fKind n) fWord)
theorem fin_rt {n : Nat} {c : EvS} {ws : List W} {S : Store} {P : W → Store → Prop} (h : Ok (c (ws.map some ++ List.replicate (n - ws.length) none) S) fun fl S1 => ∃ w, fl = .rt w ∧ Ok (gc S.length w S1) P) : Ok (runFn n c ws S) P := by
  unfold runFn
  rw [ok_bind]
  refine h.next fun fl S1 ⟨w, e, h⟩ => ?_
  subst e
  exact h
theorem ok_gcd {base : Nat} {x : D} {S : Store} {P : W → Store → Prop} : Ok (gc base (.d x) S) P ↔ P (.d x) (S.take base) := ok_some
theorem app_ok {σ : Slots} {S : Store} {i j l : Nat} {ws : List Str} {x : Str} {P : W → Store → Prop} (hi : σ[i]? = some (some (.loc l))) (hj : σ[j]? = some (some (.d (.str x)))) (hl : S[l]? = some (lw ws)) (hn : ws.length < 10000) (q : P (.d .non) (S.set l (lw (ws ++ [x])))) : Ok (eApp (eSlot i) (eSlot j) σ S) P := by
  unfold eApp
  simp only [eSlot, hi, hj, ok_bind, Option.bind_some, Option.map_some, ok_some]
  unfold lw at hl
  simp only [hl]
  have : (ws.map D.str).length < 100000 := by rw [List.length_map]; omega
  rw [if_pos this, ok_some]
  simpa [lw] using q
theorem kind_k : ∀ (n d : Nat), d < n → ∀ (b l : Nat) (S : Store) (ws : List Str), Pre b l S ws → ws.length + 2 ^ d ≤ 5000 →
    Ok (fKind n [.loc b, .loc l, .d (.int d)] S) fun w S' => ∃ ds more, w = .d (.tup ds) ∧ G (2 * d + 2) (.tup ds) more ∧ more.length ≤ 2 ^ d ∧ Sg b l S S' (ws ++ more)
  | 0, d, h, _, _, _, _, _, _ => by omega
  | n + 1, d, h, b, l, S, ws, p, hw => by
    have hb := p.bl
    have hl := p.ll
    have pd : 1 ≤ 2 ^ d := Nat.one_le_two_pow
    show Ok (runFn 6 (b__law_kind fTake (fKind n) fWord) _ S) _
    refine fin_rt ?_
    unfold b__law_kind
    have e84 : ∃ many, atI [D.int 8, .int 4] (if decide ((d : Int) < 1) = true then 1 else 0) = some (.int many) ∧ 0 < many ∧ many < 1073741824 ∧ (d = 0 → many = 4) ∧ many ≤ 8 := by
      by_cases hd : (d : Int) < 1
      · exact ⟨4, by simp [hd, at1], by decide, by decide, fun _ => rfl, by decide⟩
      · exact ⟨8, by simp [hd, at0], by decide, by decide, fun z => by omega, by decide⟩
    obtain ⟨many, em, m0, m1, md, m8⟩ := e84
    refine seq_nx ?_
    simp only [sSet, eCall, aCons, aNil, eSlot, eBin, eLst, allD, bInt, opLt, Fw.opI0, eC, ok_bind, ok_map, ok_some, List.map_cons, List.map_nil, List.length_cons, List.length_nil, List.cons_append, List.nil_append, List.getElem?_cons_zero, List.getElem?_cons_succ, Option.map_some, Option.bind_some, opIx, last_get, em, Nat.reduceAdd, Nat.reduceSub, List.replicate]
    refine (take_k (p.box.app _) m0 m1).next fun w S1 ⟨r, e, h0, h1, sb⟩ => ?_
    subst e
    refine ⟨_, rfl, ?_⟩
    simp only [List.set_cons_succ, List.set_cons_zero]
    obtain ⟨p1, g1⟩ := (p.app [Cell.lst [D.int 8, D.int 4]]).sb sb
    -- ('num',)
    by_cases r0 : r = 0
    · refine take_eq rfl r0 ?_
      simp only [ok_ret, ok_tup, ok_acons, ok_c, ok_anil]
      refine ⟨_, rfl, _, rfl, _, rfl, ok_gcd.mpr ⟨_, [], rfl, G.mono (n := 1) (by omega) (G.tup (ph "num" []) (gl_leaf gl_nil)), by simp, ?_⟩⟩
      rw [List.append_nil]
      exact g1.cut hb hl
    refine skip_eq rfl r0 ?_
    by_cases r4 : r < 4
    · refine take_lt rfl r4 ?_
      refine seq_nx ?_
      simp only [ok_set, ok_call, ok_acons, ok_anil, eSlot, ok_some, List.getElem?_cons_zero, Option.map_some, Option.bind_some]
      refine (word_k p1.box).next fun w S2 ⟨x, e, hx, sb2⟩ => ?_
      subst e
      obtain ⟨p2, g2⟩ := p1.sb sb2
      obtain ⟨k1, k2, k3, k4, k5⟩ := menu_ok x hx
      refine ⟨_, rfl, ?_⟩
      simp only [List.set_cons_succ, List.set_cons_zero]
      by_cases r1 : r = 1
      · refine take_eq rfl r1 ?_
        simp only [ok_ret, ok_tup, ok_acons, ok_c, ok_anil, eSlot, ok_some, List.getElem?_cons_zero, List.getElem?_cons_succ, Option.map_some, Option.bind_some]
        refine ⟨_, rfl, _, rfl, _, rfl, _, rfl, _, rfl, ok_gcd.mpr ⟨_, [], rfl, ?_, by simp, ?_⟩⟩
        · have g := g_made (n := 2 * d + 1) k1 (r := [.tup []]) (b := []) (gl_one g_unit)
          rw [k2] at g
          exact g
        · rw [List.append_nil]
          exact (g1.trans g2).cut hb hl
      refine skip_eq rfl r1 ?_
      refine seq_nx ?_
      rw [ok_drop]
      refine app_ok (l := l) rfl rfl p2.lea (by omega) ⟨_, rfl, ?_⟩
      have g3 := p2.add x
      simp only [ok_ret, ok_tup, ok_acons, ok_c, ok_anil, ok_bin, eSlot, ok_some, List.getElem?_cons_zero, List.getElem?_cons_succ, Option.map_some, Option.bind_some, opAdd]
      have hlen : x.length + (".t" : Str).length ≤ 100000 := by
        have : (".t" : Str).length = 2 := by decide +kernel
        omega
      rw [if_pos hlen]
      simp only [ok_some]
      refine ⟨_, rfl, _, rfl, _, rfl, _, rfl, ok_gcd.mpr ⟨_, [x], rfl, ?_, by simpa using pd, ?_⟩⟩
      · have g := g_made (n := 2 * d + 1) k3 (r := [.tup []]) (b := []) (gl_one g_unit)
        rw [k4] at g
        exact g
      · exact ((g1.trans g2).trans g3).cut hb hl
    refine skip_lt rfl r4 ?_
    have d1 : 1 ≤ d := by
      rcases Nat.eq_zero_or_pos d with z | z
      · have := md z
        omega
      · exact z
    obtain ⟨d', rfl⟩ : ∃ d', d = d' + 1 := ⟨d - 1, by omega⟩
    have pw : 2 ^ (d' + 1) = 2 ^ d' + 2 ^ d' := by rw [Nat.pow_succ]; omega
    have ed : (((d' + 1 : Nat) : Int)) - 1 = (d' : Int) := by omega
    refine seq_nx ?_
    simp only [ok_set, ok_call, ok_acons, ok_anil, ok_bin, ok_c, eSlot, ok_some, List.getElem?_cons_zero, List.getElem?_cons_succ, Option.map_some, Option.bind_some, opSub, Fw.opI0, ed]
    refine (kind_k n d' (by omega) b l S1 ws p1 (by omega)).next fun w S2 ⟨ds, m1', e, gd, hm, g2⟩ => ?_
    subst e
    have p2 := g2.pre p.ne
    refine ⟨_, rfl, ?_⟩
    simp only [List.set_cons_succ, List.set_cons_zero]
    by_cases r5 : r = 4
    · refine take_eq rfl r5 ?_
      simp only [ok_ret, ok_tup, ok_acons, ok_c, ok_anil, eSlot, ok_some, List.getElem?_cons_zero, List.getElem?_cons_succ, Option.map_some, Option.bind_some]
      refine ⟨_, rfl, _, rfl, _, rfl, ok_gcd.mpr ⟨_, m1', rfl, ?_, by omega, (g1.trans g2).cut hb hl⟩⟩
      exact G.mono (n := 2 * d' + 2 + 1) (by omega) (G.tup (ph "ref" _) (gl_leaf (gl_one gd)))
    refine skip_eq rfl r5 ?_
    by_cases r6 : r = 5
    · refine take_eq rfl r6 ?_
      simp only [ok_ret, ok_tup, ok_acons, ok_c, ok_anil, eSlot, ok_some, List.getElem?_cons_zero, List.getElem?_cons_succ, Option.map_some, Option.bind_some]
      refine ⟨_, rfl, _, rfl, _, rfl, _, rfl, ok_gcd.mpr ⟨_, m1', rfl, ?_, by omega, (g1.trans g2).cut hb hl⟩⟩
      have hbox : strP "box" ∧ own "box" = [] := by
        unfold own
        decide +kernel
      have g := g_made (n := 2 * d' + 2 + 1) hbox.1 (r := [.tup [.tup ds]]) (b := m1') (gl_one (G.tup (pt ds []) (gl_one gd)))
      rw [hbox.2] at g
      exact g
    refine skip_eq rfl r6 ?_
    simp only [ok_ret, ok_tup, ok_acons, ok_call, ok_anil, ok_bin, ok_c, eSlot, ok_some, List.getElem?_cons_zero, List.getElem?_cons_succ, Option.map_some, Option.bind_some, opSub, Fw.opI0, ed]
    refine (kind_k n d' (by omega) b l S2 (ws ++ m1') p2 (by rw [List.length_append]; omega)).next fun w S3 ⟨ds2, m2, e, gd2, hm2, g3⟩ => ?_
    subst e
    refine ⟨_, rfl, _, rfl, ok_gcd.mpr ⟨_, m1' ++ m2, rfl, ?_, by rw [List.length_append]; omega, ?_⟩⟩
    · exact G.mono (n := 2 * d' + 2 + 1) (by omega) (G.tup (ph "fn" _) (gl_leaf (gl_cons gd (gl_one gd2))))
    · rw [← List.append_assoc]
      exact ((g1.trans g2).trans g3).cut hb hl
end Law
namespace Law
open PySem PySem.Spec PyProof.Rows L2 RZ Fw

/-! ### patterns -/
def fPat : Nat → Fn
  | 0 => fun _ _ => none
  | n + 1 => runFn 3 (b__law_pattern fTake fPlace fWord (fPat n))
theorem pat_k : ∀ (n d : Nat), d < n → ∀ (b : Nat) (S : Store), BoxAt S b →
    Ok (fPat n [.loc b, .d (.int d)] S) fun w S' => ∃ ds, w = .d (.tup ds) ∧ G (2 * d + 2) (.tup ds) [] ∧ Sb b S S'
  | 0, d, h, _, _, _ => by omega
  | n + 1, d, h, b, S, p => by
    have hb := p.lt
    show Ok (runFn 3 (b__law_pattern fTake fPlace fWord (fPat n)) _ S) _
    refine fin_rt ?_
    unfold b__law_pattern
    have e32 : ∃ many, atI [D.int 3, .int 2] (if decide ((d : Int) < 1) = true then 1 else 0) = some (.int many) ∧ 0 < many ∧ many < 1073741824 ∧ (d = 0 → many = 2) := by
      by_cases hd : (d : Int) < 1
      · exact ⟨2, by simp [hd, at1], by decide, by decide, fun _ => rfl⟩
      · exact ⟨3, by simp [hd, at0], by decide, by decide, fun z => by omega⟩
    obtain ⟨many, em, m0, m1, md⟩ := e32
    refine seq_nx ?_
    simp only [sSet, eCall, aCons, aNil, eSlot, eBin, eLst, allD, bInt, opLt, Fw.opI0, eC, ok_bind, ok_map, ok_some, List.map_cons, List.map_nil, List.length_cons, List.length_nil, List.cons_append, List.nil_append, List.getElem?_cons_zero, List.getElem?_cons_succ, Option.map_some, Option.bind_some, opIx, last_get, em, Nat.reduceAdd, Nat.reduceSub, List.replicate]
    refine (take_k (p.app _) m0 m1).next fun w S1 ⟨r, e, h0, h1, sb⟩ => ?_
    subst e
    refine ⟨_, rfl, ?_⟩
    simp only [List.set_cons_succ, List.set_cons_zero]
    by_cases r0 : r = 0
    · refine take_eq rfl r0 ?_
      simp only [ok_ret, ok_tup, ok_acons, ok_call, ok_c, ok_anil, eSlot, ok_some, List.getElem?_cons_zero, List.getElem?_cons_succ, Option.map_some, Option.bind_some]
      refine (place_k sb.box).next fun w S2 ⟨pl, e, sb2⟩ => ?_
      subst e
      refine ⟨_, rfl, _, rfl, _, rfl, ok_gcd.mpr ⟨_, rfl, G.mono (n := 1) (by omega) (G.tup (ph "skip" _) (gl_leaf (gl_leaf gl_nil))), (sb.trans sb2).cut hb⟩⟩
    refine skip_eq rfl r0 ?_
    by_cases r1 : r = 1
    · refine take_eq rfl r1 ?_
      simp only [ok_ret, ok_tup, ok_acons, ok_call, ok_c, ok_anil, eSlot, ok_some, List.getElem?_cons_zero, List.getElem?_cons_succ, Option.map_some, Option.bind_some]
      refine (place_k sb.box).next fun w S2 ⟨pl, e, sb2⟩ => ?_
      subst e
      refine (word_k sb2.box).next fun w S3 ⟨x, e, _, sb3⟩ => ?_
      subst e
      refine ⟨_, rfl, _, rfl, _, rfl, ok_gcd.mpr ⟨_, rfl, G.mono (n := 1) (by omega) (G.tup (ph "any" _) (gl_leaf (gl_leaf (gl_leaf gl_nil)))), ((sb.trans sb2).trans sb3).cut hb⟩⟩
    refine skip_eq rfl r1 ?_
    obtain ⟨d', rfl⟩ : ∃ d', d = d' + 1 := ⟨d - 1, by
      rcases Nat.eq_zero_or_pos d with z | z
      · have := md z
        omega
      · omega⟩
    have ed : (((d' + 1 : Nat) : Int)) - 1 = (d' : Int) := by omega
    simp only [ok_ret, ok_tup, ok_acons, ok_call, ok_c, ok_anil, ok_bin, eSlot, ok_some, List.getElem?_cons_zero, List.getElem?_cons_succ, Option.map_some, Option.bind_some, opSub, Fw.opI0, ed]
    refine (place_k sb.box).next fun w S2 ⟨pl, e, sb2⟩ => ?_
    subst e
    refine (word_k sb2.box).next fun w S3 ⟨x, e, _, sb3⟩ => ?_
    subst e
    refine (pat_k n d' (by omega) b S3 sb3.box).next fun w S4 ⟨ds, e, gd, sb4⟩ => ?_
    subst e
    refine (place_k sb4.box).next fun w S5 ⟨pl2, e, sb5⟩ => ?_
    subst e
    refine ⟨_, rfl, _, rfl, _, rfl, _, rfl, ok_gcd.mpr ⟨_, rfl, ?_, ((((sb.trans sb2).trans sb3).trans sb4).trans sb5).cut hb⟩⟩
    have sk : G (2 * d' + 2) (.tup [.str "skip", .int pl2]) [] := G.mono (n := 1) (by omega) (G.tup (ph "skip" _) (gl_leaf (gl_leaf gl_nil)))
    have g2 : G (2 * d' + 3) (.tup [.tup ds, .tup [.str "skip", .int pl2]]) [] := G.tup (pt ds _) (gl_cons (a := []) gd (gl_one sk))
    exact G.tup (ph "tag" _) (gl_leaf (gl_leaf (gl_leaf (gl_one g2))))

/-! ### parts -/
def fPart : Nat → Fn
  | 0 => fun _ _ => none
  | n + 1 => runFn 8 (b__law_part fTake fPlace (fPart n) fWord (fKind 5) (fPat 3))
theorem g_of {n : Nat} {a c : D} {m : Str} : G (n + 1) (.tup [.str "of", a, .str m, c]) [m] := .inr (.inl ⟨a, m, c, rfl, rfl⟩)
theorem last_of (ws : List Str) (x : Str) : atI ((ws ++ [x]).map D.str) (-1) = some (.str x) := by
  rw [List.map_append]
  exact atI_last _ _
theorem lea_ok {σ : Slots} {S : Store} {l : Nat} {ws : List Str} {x : Str} {P : W → Store → Prop} (hi : σ[1]? = some (some (.loc l))) (hl : S[l]? = some (lw (ws ++ [x]))) (q : P (.d (.str x)) S) : Ok (eBin opIx (eSlot 1) (eNeg (eC (.int 1))) σ S) P := by
  unfold eBin eNeg
  simp only [eSlot, eC, hi, ok_bind, Option.bind_some, Option.map_some, ok_some]
  unfold lw at hl
  simp only [opIx, hl]
  have e : (-1 : Int) = -1 := rfl
  rw [last_of, Option.map_some, ok_some]
  exact q
theorem appc_ok {σ : Slots} {S : Store} {l : Nat} {ws : List Str} {fe : EvE} {P : W → Store → Prop} (hi : σ[1]? = some (some (.loc l))) (hn : ws.length < 10000) (q : Ok (fe σ S) fun w S1 => ∃ x, w = .d (.str x) ∧ S1[l]? = some (lw ws) ∧ P (.d .non) (S1.set l (lw (ws ++ [x])))) : Ok (eApp (eSlot 1) fe σ S) P := by
  unfold eApp
  simp only [eSlot, hi, ok_bind, Option.bind_some, Option.map_some, ok_some]
  refine q.next fun w S1 ⟨x, e, hl, q⟩ => ?_
  subst e
  unfold lw at hl
  simp only [hl]
  have : (ws.map D.str).length < 100000 := by rw [List.length_map]; omega
  rw [if_pos this, ok_some]
  simpa [lw] using q
theorem part_k : ∀ (n d : Nat), d < n → ∀ (b l : Nat) (S : Store) (ws : List Str), Pre b l S ws → ws.length + 2 ^ (d + 1) ≤ 4000 →
    Ok (fPart n [.loc b, .loc l, .d (.int d)] S) fun w S' => ∃ ds more, w = .d (.tup ds) ∧ G (3 * d + 8) (.tup ds) more ∧ more.length ≤ 2 ^ (d + 1) ∧ Sg b l S S' (ws ++ more)
  | 0, d, h, _, _, _, _, _, _ => by omega
  | n + 1, d, h, b, l, S, ws, p, hw => by
    have hb := p.bl
    have hl := p.ll
    have pd : 2 ≤ 2 ^ (d + 1) := by rw [Nat.pow_succ]; have := Nat.one_le_two_pow (n := d); omega
    show Ok (runFn 8 (b__law_part fTake fPlace (fPart n) fWord (fKind 5) (fPat 3)) _ S) _
    refine fin_rt ?_
    unfold b__law_part
    refine seq_nx ?_
    simp only [ok_set, ok_call, ok_acons, ok_anil]
    rw [ok_slot (i := 0) (w := .loc b) rfl]
    have hmany : Ok (eBin opIx (eLst (aCons (eC (.int 14)) (aCons (eC (.int 3)) aNil))) (eCall bInt (aCons (eOr (eBin opLt (eSlot 2) (eC (.int 1))) (eBin opGt (eBin opIx (eSlot 0) (eC (.int 3))) (eC (.int 20)))) aNil)) (([.loc b, .loc l, .d (.int d)] : List W).map some ++ List.replicate (8 - ([.loc b, .loc l, .d (.int d)] : List W).length) none) S)
        fun w S' => ∃ many, w = .d (.int many) ∧ S' = S ++ [.lst [.int 14, .int 3]] ∧ 0 < many ∧ many < 1073741824 ∧ (d = 0 → many = 3) ∧ many ≤ 14 := by
      obtain ⟨q0, q1, q2, q3, eb⟩ := p.box
      have eb' : (S ++ [Cell.lst [D.int 14, .int 3]])[b]? = some (bx q0 q1 q2 q3) := by rw [List.getElem?_append_left hb]; exact eb
      unfold bx at eb'
      by_cases hd : (d : Int) < 1
      · simp [ok_bin, eLst, eC, aCons, aNil, allD, eCall, eOr, eBin, eSlot, opLt, Fw.opI0, hd, bInt, opIx, at1, ok_some, List.replicate]
      · by_cases hq : 20 < q3
        · simp [ok_bin, eLst, eC, aCons, aNil, allD, eCall, eOr, eBin, eSlot, opLt, opGt, Fw.opI0, hd, bInt, opIx, at1, at3, ok_some, List.replicate, eb', hq]
        · simp [ok_bin, eLst, eC, aCons, aNil, allD, eCall, eOr, eBin, eSlot, opLt, opGt, Fw.opI0, hd, bInt, opIx, at0, at3, ok_some, List.replicate, eb', hq]
          omega
    refine hmany.next fun w S0 ⟨many, e, eS, m0, m1, md, m14⟩ => ?_
    subst e eS
    refine (take_k (p.box.app _) m0 m1).next fun w S1 ⟨r, e, h0, h1, sb⟩ => ?_
    subst e
    refine ⟨_, rfl, ?_⟩
    obtain ⟨p1, g1⟩ := (p.app [Cell.lst [D.int 14, D.int 3]]).sb sb
    simp only [List.map_cons, List.map_nil, List.length_cons, List.length_nil, Nat.reduceAdd, Nat.reduceSub, List.replicate, List.cons_append, List.nil_append, List.set_cons_succ, List.set_cons_zero]
    refine seq_nx ?_
    simp only [ok_set, ok_call, ok_acons, ok_anil, eSlot, ok_some, List.getElem?_cons_zero, Option.map_some, Option.bind_some]
    refine (place_k p1.box).next fun w S2 ⟨pl, e, sb2⟩ => ?_
    subst e
    obtain ⟨p2, g2⟩ := p1.sb sb2
    refine ⟨_, rfl, ?_⟩
    simp only [List.set_cons_succ, List.set_cons_zero]
    have g12 := g1.trans g2
    -- num
    by_cases r0 : r = 0
    · refine take_eq rfl r0 ?_
      simp only [ok_ret, ok_tup, ok_acons, ok_call, ok_c, ok_anil, eSlot, ok_some, List.getElem?_cons_zero, List.getElem?_cons_succ, Option.map_some, Option.bind_some]
      refine (take_k p2.box).next fun w S3 ⟨z, e, _, _, sb3⟩ => ?_
      subst e
      refine ⟨_, rfl, _, rfl, _, rfl, ok_gcd.mpr ⟨_, [], rfl, G.mono (n := 1) (by omega) (G.tup (ph "num" _) (gl_leaf (gl_leaf (gl_leaf gl_nil)))), by simp, ?_⟩⟩
      rw [List.append_nil]
      exact (g12.trans (p2.sb sb3).2).cut hb hl
    refine skip_eq rfl r0 ?_
    by_cases r1 : r = 1
    · refine take_eq rfl r1 ?_
      simp only [ok_ret, ok_tup, ok_acons, ok_call, ok_c, ok_anil, eSlot, ok_some, List.getElem?_cons_zero, List.getElem?_cons_succ, Option.map_some, Option.bind_some]
      refine (word_k p2.box).next fun w S3 ⟨z, e, _, sb3⟩ => ?_
      subst e
      refine ⟨_, rfl, _, rfl, _, rfl, ok_gcd.mpr ⟨_, [], rfl, G.mono (n := 1) (by omega) (G.tup (ph "name" _) (gl_leaf (gl_leaf (gl_leaf gl_nil)))), by simp, ?_⟩⟩
      rw [List.append_nil]
      exact (g12.trans (p2.sb sb3).2).cut hb hl
    refine skip_eq rfl r1 ?_
    by_cases r2 : r = 2
    · refine take_eq rfl r2 ?_
      refine seq_nx ?_
      rw [ok_drop]
      refine appc_ok (l := l) (ws := ws) rfl (by omega) ?_
      simp only [ok_call, ok_acons, ok_anil, eSlot, ok_some, List.getElem?_cons_zero, Option.map_some, Option.bind_some]
      refine (word_k p2.box).next fun w S3 ⟨x, e, _, sb3⟩ => ?_
      subst e
      obtain ⟨p3, g3⟩ := p2.sb sb3
      have g4 := p3.add x
      have p4 := g4.pre p.ne
      refine ⟨x, rfl, p3.lea, _, rfl, ?_⟩
      simp only [ok_ret, ok_tup, ok_acons, ok_c]
      rw [ok_slot (i := 4) (w := .d (.int pl)) rfl]
      refine lea_ok (l := l) (ws := ws) (x := x) rfl p4.lea ?_
      simp only [ok_call, ok_acons, ok_anil, eSlot, ok_some, List.getElem?_cons_zero, Option.map_some, Option.bind_some]
      refine (word_k p4.box).next fun w S5 ⟨y, e, _, sb5⟩ => ?_
      subst e
      refine ⟨_, rfl, _, rfl, _, rfl, ok_gcd.mpr ⟨_, [x], rfl, G.mono (n := 1) (by omega) g_of, by simp; omega, ?_⟩⟩
      exact (((g12.trans g3).trans g4).trans (p4.sb sb5).2).cut hb hl
    refine skip_eq rfl r2 ?_
    obtain ⟨d', rfl⟩ : ∃ d', d = d' + 1 := ⟨d - 1, by
      rcases Nat.eq_zero_or_pos d with z | z
      · have := md z
        omega
      · omega⟩
    have ed : (((d' + 1 : Nat) : Int)) - 1 = (d' : Int) := by omega
    have pw : 2 ^ (d' + 1 + 1) = 2 ^ (d' + 1) + 2 ^ (d' + 1) := by rw [Nat.pow_succ]; omega
    have pd' : 2 ≤ 2 ^ (d' + 1) := by rw [Nat.pow_succ]; have := Nat.one_le_two_pow (n := d'); omega
    refine seq_nx ?_
    simp only [ok_set, ok_call, ok_acons, ok_anil, ok_bin, ok_c, eSlot, ok_some, List.getElem?_cons_zero, List.getElem?_cons_succ, Option.map_some, Option.bind_some, opSub, Fw.opI0, ed]
    refine (part_k n d' (by omega) b l S2 ws p2 (by omega)).next fun w S3 ⟨ds, wa, e, gd, hm, g3⟩ => ?_
    subst e
    have p3 := g3.pre p.ne
    have g13 := g12.trans g3
    refine ⟨_, rfl, ?_⟩
    simp only [List.set_cons_succ, List.set_cons_zero]
    by_cases r3 : r = 3
    · refine take_eq rfl r3 ?_
      simp only [ok_ret, ok_tup, ok_acons, ok_call, ok_c, ok_anil, eSlot, ok_some, List.getElem?_cons_zero, List.getElem?_cons_succ, Option.map_some, Option.bind_some]
      refine (word_k p3.box).next fun w S4 ⟨z, e, _, sb4⟩ => ?_
      subst e
      exact ⟨_, rfl, _, rfl, _, rfl, ok_gcd.mpr ⟨_, wa, rfl, G.mono (n := 3 * d' + 8 + 1) (by omega) (G.tup (ph "fn" _) (gl_leaf (gl_leaf (gl_leaf (gl_one gd))))), by omega, (g13.trans (p3.sb sb4).2).cut hb hl⟩⟩
    refine skip_eq rfl r3 ?_
    by_cases r4 : r = 4
    · refine take_eq rfl r4 ?_
      simp only [ok_ret, ok_tup, ok_acons, ok_call, ok_c, ok_anil, eSlot, ok_some, List.getElem?_cons_zero, List.getElem?_cons_succ, Option.map_some, Option.bind_some]
      refine (word_k p3.box).next fun w S4 ⟨z, e, _, sb4⟩ => ?_
      subst e
      exact ⟨_, rfl, _, rfl, _, rfl, ok_gcd.mpr ⟨_, wa, rfl, G.mono (n := 3 * d' + 8 + 1) (by omega) (G.tup (ph "loop" _) (gl_leaf (gl_leaf (gl_leaf (gl_leaf (gl_one gd)))))), by omega, (g13.trans (p3.sb sb4).2).cut hb hl⟩⟩
    refine skip_eq rfl r4 ?_
    by_cases r5 : r = 5
    · refine take_eq rfl r5 ?_
      simp only [ok_ret, ok_tup, ok_acons, ok_call, ok_c, ok_anil, eSlot, ok_some, List.getElem?_cons_zero, List.getElem?_cons_succ, Option.map_some, Option.bind_some]
      refine (kind_k 5 1 (by decide) b l S3 (ws ++ wa) p3 (by rw [List.length_append]; omega)).next fun w S4 ⟨ds2, wb, e, gd2, hm2, g4⟩ => ?_
      subst e
      refine ⟨_, rfl, _, rfl, _, rfl, ok_gcd.mpr ⟨_, wa ++ wb, rfl, G.mono (n := 3 * d' + 8 + 1) (by omega) (G.tup (ph "held" _) (gl_leaf (gl_leaf (gl_cons gd (gl_one (G.mono (by omega) gd2)))))), by rw [List.length_append]; omega, ?_⟩⟩
      rw [← List.append_assoc]
      exact (g13.trans g4).cut hb hl
    refine skip_eq rfl r5 ?_
    by_cases r8 : r < 8
    · refine take_lt rfl r8 ?_
      have er : ∃ hd : Str, atI [D.str "ref", .str "get"] (r - 6) = some (.str hd) ∧ hd ≠ "made" ∧ hd ≠ "of" := by
        rcases (show r = 6 ∨ r = 7 by omega) with z | z <;> subst z
        · exact ⟨"ref", at0 _ _, by decide +kernel, by decide +kernel⟩
        · exact ⟨"get", at1 _ _ _, by decide +kernel, by decide +kernel⟩
      obtain ⟨hd, eh, n1, n2⟩ := er
      simp only [ok_ret, ok_tup, ok_acons, ok_bin, ok_call, ok_c, ok_anil, eLst, aCons, aNil, allD, eSlot, eC, ok_bind, ok_map, ok_some, List.getElem?_cons_zero, List.getElem?_cons_succ, Option.map_some, Option.bind_some, opSub, Fw.opI0, opIx, last_get, eh]
      refine ⟨_, rfl, _, rfl, _, rfl, ok_gcd.mpr ⟨_, wa, rfl, G.mono (n := 3 * d' + 8 + 1) (by omega) (G.tup (ph hd _ ⟨n1, n2⟩) (gl_leaf (gl_leaf (gl_one gd)))), by omega, ?_⟩⟩
      have q := g13.cut hb hl
      have hlen : S.length ≤ S3.length := by
        have := g13.len
        rw [List.length_append] at this
        omega
      rw [List.take_append_of_le_length hlen]
      exact q
    refine skip_lt rfl r8 ?_
    refine seq_nx ?_
    simp only [ok_set, ok_call, ok_acons, ok_anil, ok_bin, ok_c, eSlot, ok_some, List.getElem?_cons_zero, List.getElem?_cons_succ, Option.map_some, Option.bind_some, opSub, Fw.opI0, ed]
    refine (part_k n d' (by omega) b l S3 (ws ++ wa) p3 (by rw [List.length_append]; omega)).next fun w S4 ⟨ds2, wb, e, gd2, hm2, g4⟩ => ?_
    subst e
    have p4 := g4.pre p.ne
    have g14 := g13.trans g4
    rw [List.append_assoc] at g14 p4
    have hml : (wa ++ wb).length ≤ 2 ^ (d' + 1 + 1) := by rw [List.length_append]; omega
    have gab : GL (G (3 * d' + 8)) [.tup ds, .tup ds2] (wa ++ wb) := gl_cons gd (gl_one gd2)
    refine ⟨_, rfl, ?_⟩
    simp only [List.set_cons_succ, List.set_cons_zero]
    by_cases r9 : r = 8
    · refine take_eq rfl r9 ?_
      simp only [ok_ret, ok_tup, ok_acons, ok_call, ok_c, ok_anil, eSlot, ok_some, List.getElem?_cons_zero, List.getElem?_cons_succ, Option.map_some, Option.bind_some]
      exact ⟨_, rfl, _, rfl, _, rfl, ok_gcd.mpr ⟨_, wa ++ wb, rfl, G.mono (n := 3 * d' + 8 + 1) (by omega) (G.tup (ph "call" _) (gl_leaf (gl_leaf gab))), hml, g14.cut hb hl⟩⟩
    refine skip_eq rfl r9 ?_
    by_cases r10 : r = 9
    · refine take_eq rfl r10 ?_
      simp only [ok_ret, ok_tup, ok_acons, ok_call, ok_c, ok_anil, eSlot, ok_some, List.getElem?_cons_zero, List.getElem?_cons_succ, Option.map_some, Option.bind_some]
      refine (word_k p4.box).next fun w S5 ⟨z, e, _, sb5⟩ => ?_
      subst e
      exact ⟨_, rfl, _, rfl, _, rfl, ok_gcd.mpr ⟨_, wa ++ wb, rfl, G.mono (n := 3 * d' + 8 + 1) (by omega) (G.tup (ph "let" _) (gl_leaf (gl_leaf (gl_leaf gab)))), hml, (g14.trans (p4.sb sb5).2).cut hb hl⟩⟩
    refine skip_eq rfl r10 ?_
    by_cases r11 : r = 10
    · refine take_eq rfl r11 ?_
      simp only [ok_ret, ok_tup, ok_acons, ok_call, ok_c, ok_anil, eSlot, ok_some, List.getElem?_cons_zero, List.getElem?_cons_succ, Option.map_some, Option.bind_some]
      exact ⟨_, rfl, _, rfl, _, rfl, ok_gcd.mpr ⟨_, wa ++ wb, rfl, G.mono (n := 3 * d' + 8 + 1) (by omega) (G.tup (ph "math" _) (gl_leaf (gl_leaf (gl_leaf gab)))), hml, g14.cut hb hl⟩⟩
    refine skip_eq rfl r11 ?_
    by_cases r12 : r = 11
    · refine take_eq rfl r12 ?_
      simp only [ok_ret, ok_tup, ok_acons, ok_call, ok_c, ok_anil, eSlot, ok_some, List.getElem?_cons_zero, List.getElem?_cons_succ, Option.map_some, Option.bind_some]
      refine (word_k p4.box).next fun w S5 ⟨z, e, _, sb5⟩ => ?_
      subst e
      exact ⟨_, rfl, _, rfl, _, rfl, _, rfl, ok_gcd.mpr ⟨_, wa ++ wb, rfl, G.mono (n := 3 * d' + 8 + 1 + 1) (by omega) (G.tup (ph "tag" _) (gl_leaf (gl_leaf (gl_leaf (gl_one (G.tup (pt ds _) gab)))))), hml, (g14.trans (p4.sb sb5).2).cut hb hl⟩⟩
    refine skip_eq rfl r12 ?_
    by_cases r13 : r = 12
    · refine take_eq rfl r13 ?_
      refine seq_nx ?_
      simp only [ok_set, ok_tup, ok_acons, ok_call, ok_bin, ok_c, ok_anil, eSlot, ok_some, List.getElem?_cons_zero, List.getElem?_cons_succ, Option.map_some, Option.bind_some, opAdd]
      refine (pat_k 3 1 (by decide) b S4 p4.box).next fun w S5 ⟨pa, e, gpa, sb5⟩ => ?_
      subst e
      obtain ⟨p5, g5⟩ := p4.sb sb5
      refine ⟨_, rfl, _, rfl, _, rfl, ?_⟩
      simp only [List.set_cons_succ, List.set_cons_zero]
      simp only [ok_ret, ok_tup, ok_acons, ok_call, ok_c, ok_anil, eSlot, ok_some, List.getElem?_cons_zero, List.getElem?_cons_succ, Option.map_some, Option.bind_some]
      refine (pat_k 3 1 (by decide) b S5 p5.box).next fun w S6 ⟨pb, e, gpb, sb6⟩ => ?_
      subst e
      obtain ⟨p6, g6⟩ := p5.sb sb6
      refine ⟨_, rfl, _, rfl, _, rfl, _, rfl, _, rfl, ok_gcd.mpr ⟨_, wa ++ wb, rfl, ?_, hml, ((g14.trans g5).trans g6).cut hb hl⟩⟩
      have gn : G (3 * d' + 8) (.tup [.str "num", .int (pl + 5000), .int 1]) [] := G.mono (n := 1) (by omega) (G.tup (ph "num" _) (gl_leaf (gl_leaf (gl_leaf gl_nil))))
      have gl1 : G (3 * d' + 8 + 1) (.tup [.tup pa, .tup [.str "num", .int (pl + 5000), .int 1]]) [] := G.tup (pt pa _) (gl_cons (a := []) (G.mono (by omega) gpa) (gl_one gn))
      have gr1 : G (3 * d' + 8 + 1) (.tup [.tup pb, .tup ds2]) wb := G.tup (pt pb _) (gl_cons (a := []) (G.mono (by omega) gpb) (gl_one gd2))
      have grs : G (3 * d' + 8 + 2) (.tup [.tup [.tup pb, .tup ds2], .tup [.tup pa, .tup [.str "num", .int (pl + 5000), .int 1]]]) wb := by
        have q := G.tup (pt _ _) (gl_cons gr1 (gl_one gl1))
        rw [List.append_nil] at q
        exact q
      exact G.tup (ph "choose" _) (gl_leaf (gl_leaf (gl_cons (G.mono (by omega) gd) (gl_one grs))))
    refine skip_eq rfl r13 ?_
    simp only [ok_ret, ok_tup, ok_acons, ok_call, ok_c, ok_anil, eSlot, ok_some, List.getElem?_cons_zero, List.getElem?_cons_succ, Option.map_some, Option.bind_some]
    exact ⟨_, rfl, _, rfl, ok_gcd.mpr ⟨_, wa ++ wb, rfl, G.mono (n := 3 * d' + 8 + 1) (by omega) (G.tup (ph "put" _) (gl_leaf (gl_leaf gab))), hml, g14.cut hb hl⟩⟩
end Law
namespace Law
open PySem PySem.Spec PyProof.Rows L2 RZ Fw

/-! ### loops -/
theorem ok_for {it : EvI} {b : Bd} {body : EvS} {σ : Slots} {S : Store} {P : Fl → Store → Prop} : Ok (sFor it b body σ S) P ↔ Ok (it σ S) fun ws S1 => Ok (loopD b body ws σ S1) P := by
  unfold sFor
  rw [ok_bind]
theorem loop_inv {b : Bd} {body : EvS} (ws : List W) (I : Nat → Slots → Store → Prop) (hs : ∀ i w σ S, ws[i]? = some w → I i σ S → ∃ σ1, b w σ = some σ1 ∧ Ok (body σ1 S) fun fl S' => ∃ σ', fl = .nx σ' ∧ I (i + 1) σ' S') :
    ∀ (k i : Nat) (σ : Slots) (S : Store), ws.length - i = k → i ≤ ws.length → I i σ S → Ok (loopD b body (ws.drop i) σ S) fun fl S' => ∃ σ', fl = .nx σ' ∧ I ws.length σ' S'
  | 0, i, σ, S, hk, hi, h => by
    have e : i = ws.length := by omega
    subst e
    rw [List.drop_length]
    exact ⟨_, _, rfl, σ, rfl, h⟩
  | k + 1, i, σ, S, hk, hi, h => by
    have hlt : i < ws.length := by omega
    rw [List.drop_eq_getElem_cons hlt]
    obtain ⟨σ1, e1, hb⟩ := hs i ws[i] σ S (List.getElem?_eq_getElem hlt) h
    show Ok ((b ws[i] σ).bind _) _
    rw [e1]
    simp only [Option.bind_some]
    rw [ok_bind]
    refine hb.next fun fl S' ⟨σ', e, h'⟩ => ?_
    subst e
    exact loop_inv ws I hs k (i + 1) σ' S' (by omega) hlt h'
theorem loop_all {b : Bd} {body : EvS} {ws : List W} {σ : Slots} {S : Store} (I : Nat → Slots → Store → Prop) (h0 : I 0 σ S) (hs : ∀ i w σ S, ws[i]? = some w → I i σ S → ∃ σ1, b w σ = some σ1 ∧ Ok (body σ1 S) fun fl S' => ∃ σ', fl = .nx σ' ∧ I (i + 1) σ' S') :
    Ok (loopD b body ws σ S) fun fl S' => ∃ σ', fl = .nx σ' ∧ I ws.length σ' S' := by
  have q := loop_inv ws I hs ws.length 0 σ S (by simp) (Nat.zero_le _) h0
  simpa using q
theorem range_get {lo : Int} {n i : Nat} {w : W} (h : (rangeW lo n)[i]? = some w) : i < n ∧ w = .d (.int (lo + (i : Int))) := by
  have hi : i < n := by
    have := (List.getElem?_eq_some_iff.mp h).1
    simpa [rangeW] using this
  refine ⟨hi, ?_⟩
  simp [rangeW, hi] at h
  exact h.symm

/-! ### the store grows -/
structure Sge (b l : Nat) (S S' : Store) (ws : List Str) : Prop where
  len : S.length ≤ S'.length
  oth : ∀ i, i < S.length → i ≠ b → i ≠ l → S'[i]? = S[i]?
  box : BoxAt S' b
  lea : S'[l]? = some (lw ws)
theorem Sge.refl {b l : Nat} {S : Store} {ws : List Str} (p : Pre b l S ws) : Sge b l S S ws := ⟨Nat.le_refl _, fun _ _ _ _ => rfl, p.box, p.lea⟩
theorem Sge.sg {b l : Nat} {S S1 S2 : Store} {ws ws' : List Str} (x : Sge b l S S1 ws) (y : Sg b l S1 S2 ws') : Sge b l S S2 ws' :=
  ⟨by rw [y.len]; exact x.len, fun i hi h1 h2 => (y.oth i h1 h2).trans (x.oth i hi h1 h2), y.box, y.lea⟩
theorem Sge.app {b l : Nat} {S S1 : Store} {ws : List Str} (x : Sge b l S S1 ws) (T : Store) : Sge b l S (S1 ++ T) ws := by
  have hl : l < S1.length := (List.getElem?_eq_some_iff.mp x.lea).1
  exact ⟨by rw [List.length_append]; have := x.len; omega, fun i hi h1 h2 => by rw [List.getElem?_append_left (by have := x.len; omega)]; exact x.oth i hi h1 h2, x.box.app T, by rw [List.getElem?_append_left hl]; exact x.lea⟩
theorem Sge.put {b l : Nat} {S S1 : Store} {ws : List Str} (x : Sge b l S S1 ws) (hb : b < S.length) (hl : l < S.length) {i : Nat} (hi : S.length ≤ i) (c : Cell) : Sge b l S (S1.set i c) ws := by
  obtain ⟨p, q, r, s, e⟩ := x.box
  exact ⟨by rw [List.length_set]; exact x.len, fun j hj h1 h2 => by rw [List.getElem?_set_ne (by omega)]; exact x.oth j hj h1 h2, ⟨p, q, r, s, by rw [List.getElem?_set_ne (by omega)]; exact e⟩, by rw [List.getElem?_set_ne (by omega)]; exact x.lea⟩
theorem Sge.pre {b l : Nat} {S S' : Store} {ws : List Str} (s : Sge b l S S' ws) (ne : b ≠ l) : Pre b l S' ws := ⟨s.box, s.lea, ne⟩
theorem Sge.cut {b l : Nat} {S S' : Store} {ws : List Str} (x : Sge b l S S' ws) (hb : b < S.length) (hl : l < S.length) : Sg b l S (S'.take S.length) ws := by
  refine ⟨by rw [List.length_take]; have := x.len; omega, fun i h1 h2 => ?_, ?_, by rw [List.getElem?_take_of_lt hl]; exact x.lea⟩
  · by_cases hlt : i < S.length
    · rw [List.getElem?_take_of_lt hlt, x.oth i hlt h1 h2]
    · rw [List.getElem?_eq_none (by rw [List.length_take]; omega), List.getElem?_eq_none (by omega)]
  · obtain ⟨p, q, r, s, e⟩ := x.box
    exact ⟨p, q, r, s, by rw [List.getElem?_take_of_lt hb]; exact e⟩
theorem appD {σ : Slots} {S : Store} {i L : Nat} {fe : EvE} {P : W → Store → Prop} (hi : σ[i]? = some (some (.loc L))) (q : Ok (fe σ S) fun w S1 => ∃ x items, w = .d x ∧ S1[L]? = some (.lst items) ∧ items.length < 100000 ∧ P (.d .non) (S1.set L (.lst (items ++ [x])))) : Ok (eApp (eSlot i) fe σ S) P := by
  unfold eApp
  simp only [eSlot, hi, ok_bind, Option.bind_some, Option.map_some, ok_some]
  refine q.next fun w S1 ⟨x, items, e, hl, hn, q⟩ => ?_
  subst e
  simp only [hl]
  rw [if_pos hn, ok_some]
  exact q
theorem abcd_k {σ : Slots} {S : Store} {i : Nat} {k : Int} {P : W → Store → Prop} (h : σ[i]? = some (some (.d (.int k)))) (h0 : 0 ≤ k) (h1 : k < 4) (q : ∀ x, P (.d (.str x)) S) : Ok (eBin opIx (eC (.str "abcd")) (eSlot i) σ S) P := by
  have hx : ∃ c, atI (("abcd" : Str).cps.toList) k = some c := by
    have e : ("abcd" : Str).cps.toList = [97, 98, 99, 100] := by decide +kernel
    rw [e]
    obtain ⟨x, hx, _⟩ := atI_menu (xs := [97, 98, 99, 100]) h0 (by simpa using h1)
    exact ⟨x, hx⟩
  obtain ⟨c, hc⟩ := hx
  have hl : ("abcd" : Str).length ≤ 100000 := by decide +kernel
  simp only [ok_bin, ok_c, eSlot, h, Option.bind_some, Option.map_some, ok_some, opIx, hc]
  rw [if_pos hl]
  exact ok_some.mpr (q _)
/-- a test on a drawn number -/
theorem if_int {c : EvE} {k : Int} {f g : EvS} {σ : Slots} {S : Store} {P : Fl → Store → Prop} (h : Ok (c σ S) fun w S1 => ∃ r, w = .d (.int r) ∧ (r = k → Ok (f σ S1) P) ∧ (r ≠ k → Ok (g σ S1) P)) : Ok (sIf (tV (eBin (opEq false) c (eC (.int k)))) f g σ S) P := by
  unfold sIf tV
  simp only [ok_bind]
  have : Ok (eBin (opEq false) c (eC (.int k)) σ S) fun w S1 => ∃ r, w = .d (.bl (decide (r = k))) ∧ (r = k → Ok (f σ S1) P) ∧ (r ≠ k → Ok (g σ S1) P) := by
    rw [ok_bin]
    refine h.next fun w S1 ⟨r, e, h1, h2⟩ => ?_
    subst e
    simp only [ok_c, opEq, eqOk_i, eqD_ii, if_true, Bool.false_eq_true, if_false]
    rw [ok_some]
    exact ⟨r, by rw [Bool.beq_eq_decide_eq], h1, h2⟩
  refine this.next fun w S1 ⟨r, e, h1, h2⟩ => ?_
  subst e
  rw [ok_some]
  by_cases hr : r = k
  · simp only [hr, decide_true, if_true]
    exact h1 hr
  · simp only [hr, decide_false, Bool.false_eq_true, if_false]
    exact h2 hr

/-! ### items, rows -/
def fItems : Fn := runFn 5 (b__law_items fTake fPlace (fKind 5) (fPart 6))
theorem ph_all {n : Nat} : ∀ {ds : List D} {ws : List Str}, GL (G n) ds ws → (∀ d ∈ ds, ∃ es, d = .tup es) → plainHead ds
  | [], _, _, _ => trivial
  | d :: r, _, _, h => by
    obtain ⟨es, e⟩ := h d List.mem_cons_self
    subst e
    exact pt es r
theorem gl_snoc {P : D → List Str → Prop} : ∀ {ds : List D} {ws : List Str} {d : D} {a : List Str}, GL P ds ws → P d a → GL P (ds ++ [d]) (ws ++ a)
  | [], _, d, a, h, p => by
    cases (show _ = [] from h)
    exact gl_one p
  | x :: r, _, d, a, ⟨u, v, e, h1, h2⟩, p => by
    subst e
    rw [List.append_assoc]
    exact ⟨u, v ++ a, rfl, h1, gl_snoc h2 p⟩
theorem rng_k {σ : Slots} {S : Store} {b : Nat} {P : List W → Store → Prop} (h : σ[0]? = some (some (.loc b))) (hb : BoxAt S b) (q : ∀ (n : Nat) S1, n ≤ 4 → Sb b S S1 → P (rangeW 0 n) S1) : Ok (iRng1F (aCons (eBin opAdd (eC (.int 1)) (eCall fTake (aCons (eSlot 0) (aCons (eC (.int 4)) aNil)))) aNil) σ S) P := by
  unfold iRng1F
  simp only [ok_bind, ok_acons, ok_anil, ok_bin, ok_c, ok_call]
  rw [ok_slot h]
  refine (take_k hb).next fun w S1 ⟨r, e, h0, h1, sb⟩ => ?_
  subst e
  simp only [opAdd, ok_some]
  have hr : rangeOk (1 + r) = true := by
    unfold rangeOk
    rw [Bool.and_eq_true, decide_eq_true_eq, decide_eq_true_eq]
    omega
  rw [if_pos hr]
  exact ok_some.mpr (q _ _ (by omega) sb)
theorem items_k {b l : Nat} {S : Store} {ws : List Str} (p : Pre b l S ws) (hw : ws.length ≤ 100) :
    Ok (fItems [.loc b, .loc l] S) fun w S' => ∃ ds more, w = .d (.tup ds) ∧ GL (G 18) ds more ∧ plainHead ds ∧ more.length ≤ 64 ∧ Sg b l S S' (ws ++ more) := by
  have hb := p.bl
  have hl := p.ll
  unfold fItems
  refine fin_rt ?_
  unfold b__law_items
  refine seq_nx ?_
  simp only [ok_set, eLst, aNil, allD, Option.bind_some, Option.map_some, ok_some, List.map_cons, List.map_nil, List.length_cons, List.length_nil, Nat.reduceAdd, Nat.reduceSub, List.replicate, List.cons_append, List.nil_append, List.set_cons_succ, List.set_cons_zero]
  refine ⟨_, rfl, ?_⟩
  refine seq_nx ?_
  rw [ok_for]
  refine rng_k (b := b) rfl (p.box.app _) fun n S1 hn sb => ?_
  have p0 := p.app [Cell.lst []]
  obtain ⟨p1, g1⟩ := p0.sb sb
  have s1 : Sge b l S S1 ws := ((Sge.refl p).app [Cell.lst []]).sg g1
  have c1 : S1[S.length]? = some (.lst []) := by
    rw [sb.oth _ (by omega)]
    simp
  refine (loop_all (fun i σ S' => ∃ x y items more, σ = [some (.loc b), some (.loc l), some (.loc S.length), x, y] ∧ Sge b l S S' (ws ++ more) ∧ S'[S.length]? = some (.lst items) ∧ GL (G 18) items more ∧ (∀ d ∈ items, ∃ es, d = .tup es) ∧ items.length ≤ i ∧ more.length ≤ 16 * i ∧ (i ≤ 4)) ⟨none, none, [], [], rfl, by simpa using s1, c1, rfl, (fun _ z => by cases z), Nat.le_refl _, Nat.le_refl _, by omega⟩ ?_).next fun fl S2 ⟨σ2, e, x, y, items, more, eσ, s2, c2, g2, at2', hi2, hm2, _⟩ => ?_
  · rintro i w σ S2 hw2 ⟨x, y, items, more, eσ, s2, c2, g2, at2', hi2, hm2, hi4⟩
    obtain ⟨hin, ew⟩ := range_get hw2
    subst ew eσ
    refine ⟨_, rfl, ?_⟩
    simp only [List.set_cons_succ, List.set_cons_zero]
    have p2 := s2.pre p.ne
    refine seq_nx ?_
    rw [ok_set]
    refine abcd_k (k := 0 + (i : Int)) rfl (by omega) (by omega) fun wd => ⟨_, rfl, ?_⟩
    simp only [List.set_cons_succ, List.set_cons_zero]
    refine if_int ?_
    simp only [ok_call, ok_acons, ok_anil, ok_c]
    rw [ok_slot (w := .loc b) rfl]
    refine (take_k p2.box).next fun w S3 ⟨r, e, h0, h1, sb3⟩ => ⟨r, e, fun _ => ?_, fun _ => ?_⟩
    all_goals
      obtain ⟨p3, g3⟩ := p2.sb sb3
      have s3 := s2.sg g3
      rw [ok_drop]
      refine appD (L := S.length) rfl ?_
      simp only [ok_tup, ok_acons, ok_call, ok_c, ok_anil, eSlot, ok_some, List.getElem?_cons_zero, List.getElem?_cons_succ, Option.map_some, Option.bind_some]
      refine (place_k p3.box).next fun w S4 ⟨pl, e, sb4⟩ => ?_
      subst e
      obtain ⟨p4, g4⟩ := p3.sb sb4
      have s4 := s3.sg g4
    · refine (kind_k 5 2 (by decide) b l S4 (ws ++ more) p4 (by rw [List.length_append]; omega)).next fun w S5 ⟨ds, wa, e, gd, hma, g5⟩ => ?_
      subst e
      have s5 := s4.sg g5
      have gx : G 18 (.tup [.str "kind", .int pl, .str wd, .tup ds]) wa := G.mono (n := 2 * 2 + 2 + 1) (by decide) (G.tup (ph "kind" _) (gl_leaf (gl_leaf (gl_leaf (gl_one gd)))))
      have c5 : S5[S.length]? = some (.lst items) := by
        rw [g5.oth _ (by omega) (by omega), g4.oth _ (by omega) (by omega), g3.oth _ (by omega) (by omega)]
        exact c2
      refine ⟨_, rfl, _, items, rfl, c5, by omega, _, rfl, _, _, _, more ++ wa, rfl, ?_, ?_, gl_snoc g2 gx, ?_, by simp; omega, by rw [List.length_append]; omega, by omega⟩
      · rw [← List.append_assoc]
        exact s5.put hb hl (Nat.le_refl _) _
      · exact List.getElem?_set_self (List.getElem?_eq_some_iff.mp c5).1
      · intro d hd
        rcases List.mem_append.mp hd with z | z
        · exact at2' d z
        · exact ⟨_, List.mem_singleton.mp z⟩
    · refine (part_k 6 3 (by decide) b l S4 (ws ++ more) p4 (by rw [List.length_append]; omega)).next fun w S5 ⟨ds, wa, e, gd, hma, g5⟩ => ?_
      subst e
      have s5 := s4.sg g5
      have gx : G 18 (.tup [.str "let", .int pl, .str wd, .tup ds]) wa := G.mono (n := 3 * 3 + 8 + 1) (by decide) (G.tup (ph "let" _) (gl_leaf (gl_leaf (gl_leaf (gl_one gd)))))
      have c5 : S5[S.length]? = some (.lst items) := by
        rw [g5.oth _ (by omega) (by omega), g4.oth _ (by omega) (by omega), g3.oth _ (by omega) (by omega)]
        exact c2
      refine ⟨_, rfl, _, items, rfl, c5, by omega, _, rfl, _, _, _, more ++ wa, rfl, ?_, ?_, gl_snoc g2 gx, ?_, by simp; omega, by rw [List.length_append]; omega, by omega⟩
      · rw [← List.append_assoc]
        exact s5.put hb hl (Nat.le_refl _) _
      · exact List.getElem?_set_self (List.getElem?_eq_some_iff.mp c5).1
      · intro d hd
        rcases List.mem_append.mp hd with z | z
        · exact at2' d z
        · exact ⟨_, List.mem_singleton.mp z⟩
  · subst e eσ
    refine ⟨_, rfl, ?_⟩
    simp only [ok_ret, ok_call, ok_acons, ok_anil, eSlot, ok_some, List.getElem?_cons_zero, List.getElem?_cons_succ, Option.map_some, Option.bind_some, bTuple, c2]
    have hn' : (rangeW 0 n).length ≤ 4 := by simp [rangeW]; omega
    exact ⟨_, rfl, ok_gcd.mpr ⟨_, more, rfl, g2, ph_all g2 at2', by omega, s2.cut hb hl⟩⟩
end Law
namespace Law
open PySem PySem.Spec PyProof.Rows L2 RZ Fw

def fRows : Fn := runFn 6 (b__law_rows fTake fPlace (fKind 5))
theorem if_hid {x : Str} {f g : EvS} {σ : Slots} {S : Store} {P : Fl → Store → Prop} (h : σ[4]? = some (some (.d (.str x)))) (h1 : x ≠ "hidden" → Ok (f σ S) P) (h2 : x = "hidden" → Ok (g σ S) P) : Ok (sIf (tV (eBin (opEq true) (eSlot 4) (eC (.str "hidden")))) f g σ S) P := by
  unfold sIf tV
  simp only [ok_bind, ok_bin, eSlot, h, Option.bind_some, Option.map_some, ok_some, ok_c, opEq, eqOk_s, eqD_ss, if_true]
  by_cases e : x = "hidden"
  · subst e
    simpa using h2 rfl
  · have : (x == "hidden") = false := by simpa using e
    simpa [this] using h1 e
theorem rows_k {b l : Nat} {S : Store} {ws : List Str} (p : Pre b l S ws) (hw : ws.length ≤ 100) :
    Ok (fRows [.loc b, .loc l] S) fun w S' => ∃ ds more, w = .d (.tup ds) ∧ GL (G 18) ds more ∧ plainHead ds ∧ more.length ≤ 64 ∧ Sg b l S S' (ws ++ more) := by
  have hb := p.bl
  have hl := p.ll
  unfold fRows
  refine fin_rt ?_
  unfold b__law_rows
  refine seq_nx ?_
  simp only [ok_set, eLst, aNil, allD, Option.bind_some, Option.map_some, ok_some, List.map_cons, List.map_nil, List.length_cons, List.length_nil, Nat.reduceAdd, Nat.reduceSub, List.replicate, List.cons_append, List.nil_append, List.set_cons_succ, List.set_cons_zero]
  refine ⟨_, rfl, ?_⟩
  refine seq_nx ?_
  rw [ok_for]
  refine rng_k (b := b) rfl (p.box.app _) fun n S1 hn sb => ?_
  have p0 := p.app [Cell.lst []]
  obtain ⟨p1, g1⟩ := p0.sb sb
  have s1 : Sge b l S S1 ws := ((Sge.refl p).app [Cell.lst []]).sg g1
  have c1 : S1[S.length]? = some (.lst []) := by
    rw [sb.oth _ (by omega)]
    simp
  refine (loop_all (fun i σ S' => ∃ x y z items more, σ = [some (.loc b), some (.loc l), some (.loc S.length), x, y, z] ∧ Sge b l S S' (ws ++ more) ∧ S'[S.length]? = some (.lst items) ∧ GL (G 18) items more ∧ (∀ d ∈ items, ∃ es, d = .tup es) ∧ items.length ≤ i ∧ more.length ≤ 16 * i ∧ (i ≤ 4)) ⟨none, none, none, [], [], rfl, by simpa using s1, c1, rfl, (fun _ z => by cases z), Nat.le_refl _, Nat.le_refl _, by omega⟩ ?_).next fun fl S2 ⟨σ2, e, x, y, z, items, more, eσ, s2, c2, g2, at2', hi2, hm2, _⟩ => ?_
  · rintro i w σ S2 hw2 ⟨x, y, z, items, more, eσ, s2, c2, g2, at2', hi2, hm2, hi4⟩
    obtain ⟨hin, ew⟩ := range_get hw2
    subst ew eσ
    refine ⟨_, rfl, ?_⟩
    simp only [List.set_cons_succ, List.set_cons_zero]
    have p2 := s2.pre p.ne
    have hlen2 := s2.len
    have sl : S.length < S2.length := (List.getElem?_eq_some_iff.mp c2).1
    refine seq_nx ?_
    simp only [ok_set, ok_bin, eLst, aCons, aNil, allD, eC, Option.bind_some, Option.map_some, ok_some, ok_call]
    rw [ok_bind, ok_slot (w := .loc b) rfl]
    simp only [Option.bind_some, ok_some]
    refine (take_k (p2.box.app _)).next fun w S3 ⟨r, e, h0, h1, sb3⟩ => ?_
    subst e
    obtain ⟨d, hd, hm⟩ := atI_menu (xs := [D.str "hidden", .str "kind", .str "val"]) h0 (by simpa using h1)
    have hgm : S3[S2.length]? = some (.lst [D.str "hidden", .str "kind", .str "val"]) := by
      rw [sb3.oth _ (by have := p2.bl; omega)]
      simp
    simp only [opIx, hgm, hd, Option.map_some, ok_some]
    obtain ⟨hdr, ehd, n1, n2⟩ : ∃ x : Str, d = .str x ∧ x ≠ "made" ∧ x ≠ "of" := by
      simp only [List.mem_cons, List.not_mem_nil, or_false] at hm
      rcases hm with e | e | e <;> exact ⟨_, e, by decide +kernel, by decide +kernel⟩
    subst ehd
    refine ⟨_, rfl, ?_⟩
    simp only [List.set_cons_succ, List.set_cons_zero]
    obtain ⟨p3, g3⟩ := (p2.app [Cell.lst [D.str "hidden", .str "kind", .str "val"]]).sb sb3
    have s3 := (s2.app [Cell.lst [D.str "hidden", .str "kind", .str "val"]]).sg g3
    have c3 : S3[S.length]? = some (.lst items) := by
      rw [g3.oth _ (by omega) (by omega), List.getElem?_append_left sl]
      exact c2
    refine seq_nx ?_
    simp only [ok_set, ok_tup, ok_acons, ok_call, ok_anil]
    rw [ok_slot (w := .d (.str hdr)) rfl, ok_slot (w := .loc b) rfl]
    refine (place_k p3.box).next fun w S4 ⟨pl, e, sb4⟩ => ?_
    subst e
    obtain ⟨p4, g4⟩ := p3.sb sb4
    have s4 := s3.sg g4
    have c4 : S4[S.length]? = some (.lst items) := by
      rw [g4.oth _ (by omega) (by omega)]
      exact c3
    refine abcd_k (k := 0 + (i : Int)) rfl (by omega) (by omega) fun wd => ?_
    refine ⟨_, rfl, _, rfl, ?_⟩
    simp only [List.set_cons_succ, List.set_cons_zero]
    refine seq_nx (if_hid rfl (fun hne => ?_) fun heq => ?_)
    · simp only [ok_set, ok_bin, ok_tup, ok_acons, ok_call, ok_anil, ok_c, eSlot, ok_some, List.getElem?_cons_zero, List.getElem?_cons_succ, Option.map_some, Option.bind_some]
      refine (kind_k 5 2 (by decide) b l S4 (ws ++ more) p4 (by rw [List.length_append]; omega)).next fun w S5 ⟨ds, wa, e, gd, hma, g5⟩ => ?_
      subst e
      have s5 := s4.sg g5
      have c5 : S5[S.length]? = some (.lst items) := by
        rw [g5.oth _ (by omega) (by omega)]
        exact c4
      refine ⟨_, rfl, ?_⟩
      simp only [opAdd]
      rw [if_pos (by simp)]
      rw [ok_some]
      refine ⟨_, rfl, ?_⟩
      simp only [List.set_cons_succ, List.set_cons_zero]
      rw [ok_drop]
      refine appD (L := S.length) rfl ?_
      rw [ok_slot rfl]
      have gx : G 18 (.tup [.str hdr, .int pl, .str wd, .tup ds]) wa := G.mono (n := 2 * 2 + 2 + 1) (by decide) (G.tup (ph hdr _ ⟨n1, n2⟩) (gl_leaf (gl_leaf (gl_leaf (gl_one gd)))))
      refine ⟨_, items, rfl, c5, by omega, _, rfl, _, _, _, _, more ++ wa, rfl, ?_, ?_, gl_snoc g2 gx, ?_, by simp; omega, by rw [List.length_append]; omega, by omega⟩
      · rw [← List.append_assoc]
        exact s5.put hb hl (Nat.le_refl _) _
      · exact List.getElem?_set_self (List.getElem?_eq_some_iff.mp c5).1
      · intro d hd
        rcases List.mem_append.mp hd with z | z
        · exact at2' d z
        · exact ⟨_, List.mem_singleton.mp z⟩
    · refine ok_some.mpr ⟨_, rfl, ?_⟩
      rw [ok_drop]
      refine appD (L := S.length) rfl ?_
      rw [ok_slot rfl]
      have gx : G 18 (.tup [.str hdr, .int pl, .str wd]) [] := G.mono (n := 1) (by decide) (G.tup (ph hdr _ ⟨n1, n2⟩) (gl_leaf (gl_leaf (gl_leaf gl_nil))))
      refine ⟨_, items, rfl, c4, by omega, _, rfl, _, _, _, _, more ++ [], rfl, ?_, ?_, gl_snoc g2 gx, ?_, by simp; omega, by rw [List.append_nil]; omega, by omega⟩
      · rw [List.append_nil]
        exact s4.put hb hl (Nat.le_refl _) _
      · exact List.getElem?_set_self (List.getElem?_eq_some_iff.mp c4).1
      · intro d hd
        rcases List.mem_append.mp hd with z | z
        · exact at2' d z
        · exact ⟨_, List.mem_singleton.mp z⟩
  · subst e eσ
    refine ⟨_, rfl, ?_⟩
    simp only [ok_ret, ok_call, ok_acons, ok_anil, eSlot, ok_some, List.getElem?_cons_zero, List.getElem?_cons_succ, Option.map_some, Option.bind_some, bTuple, c2]
    have hn' : (rangeW 0 n).length ≤ 4 := by simp [rangeW]; omega
    exact ⟨_, rfl, ok_gcd.mpr ⟨_, more, rfl, g2, ph_all g2 at2', by omega, s2.cut hb hl⟩⟩

/-! ### leans_on, by the forms of things -/
def fLeans : Fn := runFn 3 (b_leans_on (fWords 40))
theorem strsOf_map : ∀ ws : List Str, strsOf (ws.map D.str) = some ws
  | [] => rfl
  | x :: r => by simp [strsOf, strsOf_map r]
theorem words_k {n : Nat} (hn : n ≤ 40) {ds : List D} {ws : List Str} (g : G n (.tup ds) ws) (hl : ws.length ≤ 50000) (S : Store) : fWords 40 [.d (.tup ds)] S = some (.loc S.length, S ++ [lw ws]) := words_ok 40 ds ws (G.mono hn g) hl S
def tupU (ws : List Str) : D := .tup ((sortU ws).map D.str)
theorem ret_ok {σ : Slots} {S : Store} {i L : Nat} {ws : List Str} {P : Fl → Store → Prop} (h : σ[i]? = some (some (.loc L))) (hl : S[L]? = some (lw ws)) (hn : ws.length < 4000) (q : P (.rt (.d (tupU ws))) (S ++ [lw (sortU ws)])) : Ok (sRet (eCall bTuple (aCons (eSortSet (eSlot i)) aNil)) σ S) P := by
  unfold lw at hl
  simp only [ok_ret, ok_call, ok_acons, ok_anil, eSortSet, eSlot, h, Option.bind_some, Option.map_some, hl, strsOf_map]
  rw [if_pos hn, ok_some]
  have e : (S ++ [Cell.lst ((sortU ws).map D.str)])[S.length]? = some (.lst ((sortU ws).map D.str)) := by simp
  simp only [bTuple, e, ok_some]
  exact q
theorem hd_t (h s : Str) (r : List D) (o : List (Option W)) (S : Store) : tV (eBin (opEq false) (eBin opIx (eSlot 0) (eC (.int 0))) (eC (.str s))) (some (.d (.tup (.str h :: r))) :: o) S = some (h == s, S) := by
  rw [head_is]
  rfl
theorem if_tt {c : EvT} {f g : EvS} {σ : Slots} {S : Store} (h : c σ S = some (true, S)) : sIf c f g σ S = f σ S := by
  unfold sIf
  rw [h]
  rfl
theorem if_ff {c : EvT} {f g : EvS} {σ : Slots} {S : Store} (h : c σ S = some (false, S)) : sIf c f g σ S = g σ S := by
  unfold sIf
  rw [h]
  rfl
theorem nn (a b : Str) (h : (a == b) = false := by decide +kernel) : (a == b) = false := h
/-- what follows the first list, where the thing is no module and no maker -/
theorem rest_plain {h : Str} {r : List D} {S : Store} {L : Nat} {ws : List Str} {c : Option W} (n1 : (h == "module") = false) (n2 : (h == "maker") = false) (hl : S[L]? = some (lw ws)) (hn : ws.length < 4000) :
    Ok (sSeq (sIf (tAndF (tV (eBin (opEq false) (eBin opIx (eSlot 0) (eC (.int 0))) (eC (.str "module")))) (tV (eBin (opIs true) (eBin opIx (eSlot 0) (eC (.int 3))) (eC .non)))) (sDrop (eApp (eSlot 1) (eBin opIx (eSlot 0) (eC (.int 3))))) sNil)
      (sSeq (sIf (tAndF (tV (eBin (opEq false) (eBin opIx (eSlot 0) (eC (.int 0))) (eC (.str "maker")))) (tV (eBin (opIs true) (eBin opIx (eSlot 0) (eC (.int 5))) (eC .non)))) (sDrop (eApp (eSlot 1) (eBin opIx (eSlot 0) (eC (.int 5))))) sNil)
      (sRet (eCall bTuple (aCons (eSortSet (eSlot 1)) aNil)))) [some (.d (.tup (.str h :: r))), some (.loc L), c] S) fun fl S' => fl = .rt (.d (tupU ws)) ∧ S' = S ++ [lw (sortU ws)] := by
  have t1 : tAndF (tV (eBin (opEq false) (eBin opIx (eSlot 0) (eC (.int 0))) (eC (.str "module")))) (tV (eBin (opIs true) (eBin opIx (eSlot 0) (eC (.int 3))) (eC .non))) [some (.d (.tup (.str h :: r))), some (.loc L), c] S = some (false, S) := by
    unfold tAndF
    rw [hd_t, n1]
    rfl
  have t2 : tAndF (tV (eBin (opEq false) (eBin opIx (eSlot 0) (eC (.int 0))) (eC (.str "maker")))) (tV (eBin (opIs true) (eBin opIx (eSlot 0) (eC (.int 5))) (eC .non))) [some (.d (.tup (.str h :: r))), some (.loc L), c] S = some (false, S) := by
    unfold tAndF
    rw [hd_t, n2]
    rfl
  refine seq_nx ?_
  rw [if_ff t1]
  refine ok_some.mpr ⟨_, rfl, seq_nx ?_⟩
  rw [if_ff t2]
  refine ok_some.mpr ⟨_, rfl, ?_⟩
  exact ret_ok (L := L) rfl hl hn ⟨rfl, rfl⟩
theorem gc_done {S S' : Store} {x : D} {T : Store} (h : S' = S ++ T) : gc S.length (.d x) S' = some (.d x, S) := by
  subst h
  simp [gc]
theorem leans_fin {ds : List D} {S : Store} {ws : List Str} (h : Ok (b_leans_on (fWords 40) [some (.d (.tup ds)), none, none] S) fun fl S' => fl = .rt (.d (tupU ws)) ∧ ∃ T, S' = S ++ T) : fLeans [.d (.tup ds)] S = some (.d (tupU ws), S) := by
  obtain ⟨fl, S', e, h1, T, h2⟩ := h
  unfold fLeans runFn
  have e0 : (([.d (.tup ds)] : List W).map some ++ List.replicate (3 - ([.d (.tup ds)] : List W).length) none) = [some (.d (.tup ds)), none, none] := rfl
  rw [e0, e]
  subst h1
  exact gc_done h2
theorem cut4 (a b c x : D) : cutD [a, b, c, x] (some 3) none = [x] := rfl
theorem cut5 (a b c x y : D) : cutD [a, b, c, x, y] (some 3) none = [x, y] := rfl
/-- main, face: one part behind the word -/
theorem leans_one {h w : Str} {p : Int} {x : D} {ws : List Str} (n0 : (h == "use") = false) (n1 : (h == "module") = false) (n2 : (h == "maker") = false) (g : G 39 (.tup [x]) ws) (hn : ws.length < 4000) (S : Store) : fLeans [.d (.tup [.str h, .int p, .str w, x])] S = some (.d (tupU ws), S) := by
  refine leans_fin ?_
  unfold b_leans_on
  refine seq_nx ?_
  simp only [ok_set, eLst, aNil, allD, Option.bind_some, Option.map_some, ok_some, List.set_cons_succ, List.set_cons_zero]
  refine ⟨_, rfl, seq_nx ?_⟩
  rw [if_ff (by rw [hd_t, n0]), if_ff (by rw [hd_t, n2])]
  have hw := words_k (by decide) g (by omega) (S ++ [Cell.lst []])
  have hs : ¬ (HT.sIx 4 0 (some 3) = 0 ∧ HT.sIx 4 4 none = 4) := by decide
  simp only [ok_set, ok_call, ok_acons, ok_anil, eSl, oSome, oNone, eSlot, eC, List.getElem?_cons_zero, Option.bind_some, Option.map_some, opSl, cut4, List.length_cons, List.length_nil, Nat.reduceAdd]
  rw [if_neg hs, ok_some, hw, ok_some]
  refine ⟨_, rfl, ?_⟩
  simp only [List.set_cons_succ, List.set_cons_zero]
  refine (rest_plain n1 n2 (by simp) hn).next fun fl S' ⟨e1, e2⟩ => ⟨e1, [Cell.lst [], lw ws, lw (sortU ws)], by rw [e2]; simp⟩
theorem leans_use (f a : Str) (m : Str) (p : Int) (S : Store) : fLeans [.d (.tup [.str "use", .int p, .str m, .str f, .str a])] S = some (.d (tupU [f, a]), S) := by
  refine leans_fin ?_
  unfold b_leans_on
  refine seq_nx ?_
  simp only [ok_set, eLst, aNil, allD, Option.bind_some, Option.map_some, ok_some, List.set_cons_succ, List.set_cons_zero]
  refine ⟨_, rfl, seq_nx ?_⟩
  rw [if_tt (by rw [hd_t]; simp)]
  have hs : ¬ (HT.sIx 5 0 (some 3) = 0 ∧ HT.sIx 5 5 none = 5) := by decide
  simp only [ok_set, ok_call, ok_acons, ok_anil, eSl, oSome, oNone, eSlot, eC, List.getElem?_cons_zero, Option.bind_some, Option.map_some, opSl, cut5, List.length_cons, List.length_nil, Nat.reduceAdd]
  rw [if_neg hs, ok_some]
  simp only [bList, ok_some]
  refine ⟨_, rfl, ?_⟩
  simp only [List.set_cons_succ, List.set_cons_zero]
  refine (rest_plain (ws := [f, a]) (nn "use" "module") (nn "use" "maker") (by simp [lw]) (by simp)).next fun fl S' ⟨e1, e2⟩ => ⟨e1, [Cell.lst [], lw [f, a], lw (sortU [f, a])], by rw [e2]; simp [lw]⟩
end Law
namespace Law
open PySem PySem.Spec PyProof.Rows L2 RZ Fw

def sealD : Option Str → D
  | none => .non
  | some s => .str s
def sealW : Option Str → List Str
  | none => []
  | some s => [s]
theorem at4 {α : Type} (x y z u v : α) (r : List α) : atI (x :: y :: z :: u :: v :: r) 4 = some v := atN (k := 4) rfl
theorem at5 {α : Type} (x y z u v w : α) (r : List α) : atI (x :: y :: z :: u :: v :: w :: r) 5 = some w := atN (k := 5) rfl
theorem at6 {α : Type} (x y z u v w t : α) (r : List α) : atI (x :: y :: z :: u :: v :: w :: t :: r) 6 = some t := atN (k := 6) rfl
/-- found.append(seal), where there is one -/
theorem seal_add {σ : Slots} {S : Store} {L : Nat} {ws : List Str} {sl : Option Str} {e : EvE} {c : EvT} {P : Fl → Store → Prop} (h : σ[1]? = some (some (.loc L))) (hc : ∀ S, c σ S = some (true, S)) (he : ∀ S, e σ S = some (.d (sealD sl), S)) (hl : S[L]? = some (lw ws)) (hn : ws.length < 4000)
    (q : ∀ T : Store, T.length = S.length → (∀ i, i ≠ L → T[i]? = S[i]?) → T[L]? = some (lw (ws ++ sealW sl)) → P (.nx σ) T) : Ok (sIf (tAndF c (tV (eBin (opIs true) e (eC .non)))) (sDrop (eApp (eSlot 1) e)) sNil σ S) P := by
  have hlt : L < S.length := (List.getElem?_eq_some_iff.mp hl).1
  cases sl with
  | none =>
    have t : tAndF c (tV (eBin (opIs true) e (eC .non))) σ S = some (false, S) := by
      unfold tAndF
      rw [hc]
      simp [tV, eBin, eC, he, opIs, sealD]
    rw [if_ff t]
    exact ok_some.mpr (q S rfl (fun _ _ => rfl) (by rw [hl]; simp [sealW]))
  | some s =>
    have t : tAndF c (tV (eBin (opIs true) e (eC .non))) σ S = some (true, S) := by
      unfold tAndF
      rw [hc]
      simp [tV, eBin, eC, he, opIs, sealD]
    rw [if_tt t, ok_drop]
    refine appD (L := L) h ?_
    rw [he]
    refine ok_some.mpr ⟨_, ws.map D.str, rfl, hl, by rw [List.length_map]; omega, ?_⟩
    refine q _ (by simp) (fun i hi => List.getElem?_set_ne (Ne.symm hi)) ?_
    rw [List.getElem?_set_self hlt]
    simp [lw, sealW, sealD]
theorem leans_module {p : Int} {m : Str} {sl : Option Str} {items : List D} {ws : List Str} (hs : sl ≠ some ("made" : Str)) (g : G 38 (.tup items) ws) (hn : ws.length < 3000) (S : Store) :
    fLeans [.d (.tup [.str "module", .int p, .str m, sealD sl, .tup items])] S = some (.d (tupU (ws ++ sealW sl)), S) := by
  have ls : (sealW sl).length ≤ 1 := by cases sl <;> simp [sealW]
  refine leans_fin ?_
  unfold b_leans_on
  refine seq_nx ?_
  simp only [ok_set, eLst, aNil, allD, Option.bind_some, Option.map_some, ok_some, List.set_cons_succ, List.set_cons_zero]
  refine ⟨_, rfl, seq_nx ?_⟩
  rw [if_ff (by rw [hd_t, nn "module" "use"]), if_ff (by rw [hd_t, nn "module" "maker"])]
  have gx : G 39 (.tup [sealD sl, .tup items]) ws := by
    have pl : plainHead [sealD sl, .tup items] := by
      refine ⟨fun z => ?_, fun z => by simp at z⟩
      cases sl with
      | none => cases z
      | some s => exact hs (by rw [D.str.inj z])
    have lf : ∀ ds, sealD sl ≠ .tup ds := fun ds z => by cases sl <;> cases z
    exact G.tup pl (gl_leaf (gl_one g) lf)
  have hw := words_k (by decide) gx (by omega) (S ++ [Cell.lst []])
  have hc : ¬ (HT.sIx 5 0 (some 3) = 0 ∧ HT.sIx 5 5 none = 5) := by decide
  simp only [ok_set, ok_call, ok_acons, ok_anil, eSl, oSome, oNone, eSlot, eC, List.getElem?_cons_zero, Option.bind_some, Option.map_some, opSl, cut5, List.length_cons, List.length_nil, Nat.reduceAdd]
  rw [if_neg hc, ok_some, hw, ok_some]
  refine ⟨_, rfl, ?_⟩
  simp only [List.set_cons_succ, List.set_cons_zero]
  refine seq_nx ?_
  refine seal_add (L := S.length + 1) (ws := ws) (sl := sl) (by simp) (fun T => by rw [hd_t]; simp) (fun T => by simp [eBin, eSlot, eC, opIx, at3]) (by simp) (by omega) fun T hT oth hL => ⟨_, rfl, ?_⟩
  have t2 : tAndF (tV (eBin (opEq false) (eBin opIx (eSlot 0) (eC (.int 0))) (eC (.str "maker")))) (tV (eBin (opIs true) (eBin opIx (eSlot 0) (eC (.int 5))) (eC .non))) [some (.d (.tup [.str "module", .int p, .str m, sealD sl, .tup items])), some (.loc (S ++ [Cell.lst []]).length), none] T = some (false, T) := by
    unfold tAndF
    rw [hd_t, nn "module" "maker"]
    rfl
  refine seq_nx ?_
  rw [if_ff t2]
  refine ok_some.mpr ⟨_, rfl, ?_⟩
  refine ret_ok (L := S.length + 1) (by simp) hL (by rw [List.length_append]; omega) ⟨rfl, T.drop S.length ++ [lw (sortU (ws ++ sealW sl))], ?_⟩
  have hp : T.take S.length = S := by
    apply List.ext_getElem?
    intro i
    by_cases hi : i < S.length
    · rw [List.getElem?_take_of_lt hi, oth i (by omega), List.append_assoc, List.getElem?_append_left hi]
    · rw [List.getElem?_eq_none (by rw [List.length_take]; omega), List.getElem?_eq_none (by omega)]
  rw [← List.append_assoc]
  congr 1
  conv => lhs; rw [← List.take_append_drop S.length T, hp]
def noX (y : Str) (ws : List Str) : List Str := ws.filter fun x => !(x == y)
theorem loopC_no {th : D} {y : Str} {s1 : Option W} (hy : ∀ S o, (eBin opIx (eSlot 0) (eC (.int 3))) (some (.d th) :: o) S = some (.d (.str y), S)) : ∀ (ws : List Str) (acc : List D) (S : Store),
    loopC (bName 2) (tV (eBin (opEq true) (eSlot 2) (eBin opIx (eSlot 0) (eC (.int 3))))) (eSlot 2) [some (.d th), s1, none] ((ws.map D.str).map W.d) acc S = some (acc ++ (noX y ws).map D.str, S)
  | [], acc, S => by simp [loopC, noX]
  | x :: r, acc, S => by
    have t : tV (eBin (opEq true) (eSlot 2) (eBin opIx (eSlot 0) (eC (.int 3)))) [some (.d th), s1, some (.d (.str x))] S = some (!(x == y), S) := by
      have h := hy S [s1, some (.d (.str x))]
      unfold tV
      unfold eBin at h ⊢
      unfold eSlot at h ⊢
      simp only [List.getElem?_cons_zero, List.getElem?_cons_succ, Option.bind_some, Option.map_some] at h ⊢
      rw [h]
      simp [opEq, eqOk_s, eqD_ss]
    have e2 : eSlot 2 [some (.d th), s1, some (.d (.str x))] S = some (.d (.str x), S) := by simp [eSlot]
    simp only [List.map_cons, loopC, bName, List.set_cons_succ, List.set_cons_zero, Option.bind_some, t, e2]
    by_cases e : (x == y) = true
    · simp only [e, Bool.not_true, Bool.false_eq_true, if_false]
      rw [loopC_no hy r acc S]
      simp [noX, e]
    · have e' : (x == y) = false := by simpa using e
      simp only [e', Bool.not_false, if_true]
      exact (loopC_no (s1 := s1) hy r (acc ++ [D.str x]) S).trans (by simp [noX, e'])
theorem leans_maker {p : Int} {f rows : Str} {sl : Option Str} {items : List D} {ws : List Str} (g : G 38 (.tup items) ws) (hn : ws.length < 3000) (S : Store) :
    fLeans [.d (.tup [.str "maker", .int p, .str f, .str "xx", .str rows, sealD sl, .tup items])] S = some (.d (tupU ((noX "xx" ws ++ [rows]) ++ sealW sl)), S) := by
  have ls : (sealW sl).length ≤ 1 := by cases sl <;> simp [sealW]
  have lf : (noX "xx" ws).length ≤ ws.length := List.length_filter_le _ _
  refine leans_fin ?_
  unfold b_leans_on
  refine seq_nx ?_
  simp only [ok_set, eLst, aNil, allD, Option.bind_some, Option.map_some, ok_some, List.set_cons_succ, List.set_cons_zero]
  refine ⟨_, rfl, seq_nx ?_⟩
  rw [if_ff (by rw [hd_t, nn "maker" "use"]), if_tt (by rw [hd_t]; simp)]
  have hw := words_k (by decide) (G.mono (m := 39) (by decide) g) (by omega) (S ++ [Cell.lst []])
  have hy : ∀ (T : Store) (o : Slots), (eBin opIx (eSlot 0) (eC (.int 3))) (some (.d (.tup [.str "maker", .int p, .str f, .str "xx", .str rows, sealD sl, .tup items])) :: o) T = some (.d (.str "xx"), T) := fun T o => by simp [eBin, eSlot, eC, opIx, at3]
  have hcomp : eComp [2] (iTmpF (eCall (fWords 40) (aCons (eBin opIx (eSlot 0) (eC (.int 6))) aNil))) (bName 2) (tV (eBin (opEq true) (eSlot 2) (eBin opIx (eSlot 0) (eC (.int 3))))) (eSlot 2) [some (.d (.tup [.str "maker", .int p, .str f, .str "xx", .str rows, sealD sl, .tup items])), some (.loc S.length), none] (S ++ [Cell.lst []]) = some (.loc (S.length + 1), S ++ [Cell.lst []] ++ [lw (noX "xx" ws)]) := by
    have hi : iTmpF (eCall (fWords 40) (aCons (eBin opIx (eSlot 0) (eC (.int 6))) aNil)) [some (.d (.tup [.str "maker", .int p, .str f, .str "xx", .str rows, sealD sl, .tup items])), some (.loc S.length), none] (S ++ [Cell.lst []]) = some ((ws.map D.str).map W.d, S ++ [Cell.lst []]) := by
      have e1 : (S ++ [Cell.lst []] ++ [lw ws])[(S ++ [Cell.lst []]).length]? = some (.lst (ws.map D.str)) := by simp [lw]
      unfold iTmpF eCall aCons aNil eBin eSlot eC
      simp only [List.getElem?_cons_zero, Option.bind_some, Option.map_some, opIx, at6, hw, e1]
      rw [if_pos (by simp)]
      rw [List.take_left']
      rfl
    unfold eComp
    rw [hi]
    simp only [Option.bind_some, wipeW, List.set_cons_succ, List.set_cons_zero]
    rw [if_pos (by simp; omega), loopC_no hy ws [] _]
    simp [lw]
  have hlist : eLst (aCons (eBin opIx (eSlot 0) (eC (.int 4))) aNil) [some (.d (.tup [.str "maker", .int p, .str f, .str "xx", .str rows, sealD sl, .tup items])), some (.loc S.length), none] (S ++ [Cell.lst []] ++ [lw (noX "xx" ws)]) = some (.loc (S.length + 2), S ++ [Cell.lst []] ++ [lw (noX "xx" ws)] ++ [lw [rows]]) := by
    simp [eLst, aCons, aNil, eBin, eSlot, eC, opIx, at4, allD, lw]
  simp only [ok_set]
  rw [ok_bin, hcomp, ok_some, hlist, ok_some]
  have g1 : (S ++ [Cell.lst []] ++ [lw (noX "xx" ws)] ++ [lw [rows]])[S.length + 1]? = some (.lst ((noX "xx" ws).map D.str)) := by simp [lw]
  have g2 : (S ++ [Cell.lst []] ++ [lw (noX "xx" ws)] ++ [lw [rows]])[S.length + 2]? = some (.lst ([rows].map D.str)) := by simp [lw]
  simp only [opAdd, g1, g2]
  rw [if_pos (by simp; omega), ok_some]
  refine ⟨_, rfl, ?_⟩
  simp only [List.set_cons_succ, List.set_cons_zero]
  generalize hB : S ++ [Cell.lst []] ++ [lw (noX "xx" ws)] ++ [lw [rows]] = B
  have hBl : S.length ≤ B.length := by rw [← hB]; simp
  have hBt : B.take S.length = S := by rw [← hB]; simp [List.append_assoc]
  have t2 : tAndF (tV (eBin (opEq false) (eBin opIx (eSlot 0) (eC (.int 0))) (eC (.str "module")))) (tV (eBin (opIs true) (eBin opIx (eSlot 0) (eC (.int 3))) (eC .non))) [some (.d (.tup [.str "maker", .int p, .str f, .str "xx", .str rows, sealD sl, .tup items])), some (.loc B.length), none] (B ++ [Cell.lst ((noX "xx" ws).map D.str ++ [rows].map D.str)]) = some (false, B ++ [Cell.lst ((noX "xx" ws).map D.str ++ [rows].map D.str)]) := by
    unfold tAndF
    rw [hd_t, nn "maker" "module"]
    rfl
  refine seq_nx ?_
  rw [if_ff t2]
  refine ok_some.mpr ⟨_, rfl, seq_nx ?_⟩
  refine seal_add (L := B.length) (ws := noX "xx" ws ++ [rows]) (sl := sl) rfl (fun T => by rw [hd_t]; simp) (fun T => by simp [eBin, eSlot, eC, opIx, at5]) (by simp [lw]) (by rw [List.length_append]; simp; omega) fun T hT oth hL => ⟨_, rfl, ?_⟩
  refine ret_ok (L := B.length) rfl hL (by rw [List.length_append, List.length_append]; simp; omega) ⟨rfl, T.drop S.length ++ [lw (sortU (noX "xx" ws ++ [rows] ++ sealW sl))], ?_⟩
  have hp : T.take S.length = S := by
    apply List.ext_getElem?
    intro i
    by_cases hi : i < S.length
    · rw [List.getElem?_take_of_lt hi, oth i (by omega), List.getElem?_append_left (by omega)]
      conv => rhs; rw [← hBt]
      rw [List.getElem?_take_of_lt hi]
    · rw [List.getElem?_eq_none (by rw [List.length_take]; omega), List.getElem?_eq_none (by omega)]
  rw [← List.append_assoc]
  congr 1
  conv => lhs; rw [← List.take_append_drop S.length T, hp]
end Law
namespace Law
open PySem PySem.Spec PyProof.Rows L2 RZ Fw

theorem loopCL_no {ws : List Str} {σ0 : Slots} {n : Nat} {S : Store} (h : S[n]? = some (lw ws)) (h9 : 9 < σ0.length) : ∀ (k : Nat) (acc : List D), k ≤ ws.length →
    loopCL (bName 9) (tV (eBin (opEq true) (eSlot 9) (eC (.str "xx")))) (eSlot 9) σ0 n ws.length k acc S = some (acc ++ (noX "xx" (ws.drop (ws.length - k))).map D.str, S)
  | 0, acc, _ => by
    unfold lw at h
    unfold loopCL
    simp [h, noX]
  | k + 1, acc, hk => by
    have hlt : ws.length - (k + 1) < ws.length := by omega
    have e1 : ws.length - (k + 1) + 1 = ws.length - k := by omega
    have ed : ws.drop (ws.length - (k + 1)) = ws[ws.length - (k + 1)] :: ws.drop (ws.length - k) := by rw [List.drop_eq_getElem_cons hlt, e1]
    have eg : (ws.map D.str)[ws.length - (k + 1)]? = some (D.str ws[ws.length - (k + 1)]) := by rw [List.getElem?_map, List.getElem?_eq_getElem hlt]; rfl
    rw [ed]
    generalize ws[ws.length - (k + 1)] = x at *
    have h' := h
    unfold lw at h'
    have es : (σ0.set 9 (some (W.d (.str x))))[9]? = some (some (.d (.str x))) := List.getElem?_set_self h9
    have t : tV (eBin (opEq true) (eSlot 9) (eC (.str "xx"))) (σ0.set 9 (some (W.d (.str x)))) S = some (!(x == "xx"), S) := by
      simp only [tV, eBin, eSlot, eC, es, Option.bind_some, Option.map_some, opEq, eqOk_s, eqD_ss, if_true]
    have e2 : eSlot 9 (σ0.set 9 (some (W.d (.str x)))) S = some (.d (.str x), S) := by
      simp only [eSlot, es, Option.bind_some, Option.map_some]
    unfold loopCL
    simp only [h', eg, Option.bind_some, bName, t, e2]
    by_cases e : (x == "xx") = true
    · simp only [e, Bool.not_true, Bool.false_eq_true, if_false]
      rw [loopCL_no h h9 k acc (by omega)]
      simp [noX, e]
    · have e' : (x == "xx") = false := by simpa using e
      simp only [e', Bool.not_false, if_true]
      exact (loopCL_no h h9 k (acc ++ [D.str x]) (by omega)).trans (by simp [noX, e'])

def fThing : Fn := runFn 10 (b__law_thing fTake fItems fWord (fPart 6) fRows)
theorem ok_gcp {base L : Nat} {x : D} {c : Cell} {S : Store} {P : W → Store → Prop} (hL : base ≤ L) (hc : S[L]? = some c) : Ok (gc base (.tp [.inl x, .inr L]) S) P ↔ P (.tp [.inl x, .inr base]) (S.take base ++ [c]) := by
  have hl : L < S.length := (List.getElem?_eq_some_iff.mp hc).1
  have : gc base (.tp [.inl x, .inr L]) S = some (.tp [.inl x, .inr base], S.take base ++ [c]) := by
    have e : S.getD L (.lst []) = c := by rw [List.getD_eq_getElem?_getD, hc]; rfl
    have e1 : ¬ L < base := by omega
    simp [gc, gcS, e1, hl]
    exact Option.some.inj ((List.getElem?_eq_getElem hl).symm.trans hc)
  rw [this, ok_some]
theorem ok_eadd {e f : EvE} {σ : Slots} {S : Store} {P : W → Store → Prop} (h : Ok (e σ S) fun w S1 => ∃ i, w = .loc i ∧ Ok (f σ S1) fun u S2 => ∃ j a b, u = .loc j ∧ S2[i]? = some (lw a) ∧ S2[j]? = some (lw b) ∧ a.length + b.length ≤ 1000 ∧ P (.loc S2.length) (S2 ++ [lw (a ++ b)])) : Ok (eBin opAdd e f σ S) P := by
  rw [ok_bin]
  refine h.next fun w S1 ⟨i, e, h⟩ => ?_
  subst e
  refine h.next fun u S2 ⟨j, a, b, e, h1, h2, hl, q⟩ => ?_
  subst e
  unfold lw at h1 h2
  simp only [opAdd, h1, h2]
  rw [if_pos (by simp; omega), ok_some]
  simpa [lw] using q
/-- [seal] * int(seal is not None) -/
theorem seal_times {σ : Slots} {S : Store} {sl : Option Str} {P : W → Store → Prop} (h : σ[5]? = some (some (.d (sealD sl)))) (q : ∀ T, P (.loc (S ++ T).length) (S ++ T ++ [lw (sealW sl)])) :
    Ok (eBin opMul (eLst (aCons (eSlot 5) aNil)) (eCall bInt (aCons (eBin (opIs true) (eSlot 5) (eC .non)) aNil)) σ S) P := by
  have e5 : ∀ S, eSlot 5 σ S = some (.d (sealD sl), S) := fun S => by simp [eSlot, h]
  cases sl with
  | none =>
    simp only [eBin, eLst, eCall, aCons, aNil, eC, e5, sealD, allD, opIs, bInt, Option.bind_some, Option.map_some, opMul, last_get]
    rw [if_pos (by simp), ok_some]
    exact q [Cell.lst [.non]]
  | some s =>
    simp only [eBin, eLst, eCall, aCons, aNil, eC, e5, sealD, allD, opIs, bInt, Option.bind_some, Option.map_some, opMul, last_get]
    rw [if_pos (by simp), ok_some]
    exact q [Cell.lst [.str s]]
theorem thing_k {b : Nat} {S : Store} (h : BoxAt S b) :
    Ok (fThing [.loc b] S) fun w S' => ∃ ds more L, w = .tp [.inl (.tup ds), .inr L] ∧ S'[L]? = some (lw more) ∧ more.length ≤ 300 ∧ ∀ T, fLeans [.d (.tup ds)] T = some (.d (tupU more), T) := by
  have hb := h.lt
  unfold fThing
  refine fin_rt ?_
  unfold b__law_thing
  refine seq_nx ?_
  simp only [ok_set, eLst, aNil, allD, Option.bind_some, Option.map_some, ok_some, List.map_cons, List.map_nil, List.length_cons, List.length_nil, Nat.reduceAdd, Nat.reduceSub, List.replicate, List.cons_append, List.nil_append, List.set_cons_succ, List.set_cons_zero]
  refine ⟨_, rfl, ?_⟩
  have p0 : Pre b S.length (S ++ [Cell.lst []]) [] := ⟨h.app _, by simp [lw], by omega⟩
  refine seq_nx ?_
  simp only [ok_set, ok_call, ok_acons, ok_anil, ok_c, eSlot, ok_some, List.getElem?_cons_zero, Option.map_some, Option.bind_some]
  refine (take_k p0.box).next fun w S1 ⟨r, e, h0, h1, sb1⟩ => ?_
  subst e
  refine ⟨_, rfl, ?_⟩
  simp only [List.set_cons_succ, List.set_cons_zero]
  obtain ⟨p1, g1⟩ := p0.sb sb1
  have hl1 : S1.length = S.length + 1 := by rw [g1.len]; simp
  have fin : ∀ {ds : List D} {more : List Str} {S' : Store} {L : Nat}, S.length ≤ L → S'[L]? = some (lw more) → S.length ≤ S'.length → more.length ≤ 300 → (∀ T, fLeans [.d (.tup ds)] T = some (.d (tupU more), T)) →
      Ok (gc S.length (.tp [.inl (.tup ds), .inr L]) S') fun w S' => ∃ ds more L, w = .tp [.inl (.tup ds), .inr L] ∧ S'[L]? = some (lw more) ∧ more.length ≤ 300 ∧ ∀ T, fLeans [.d (.tup ds)] T = some (.d (tupU more), T) := by
    intro ds more S' L hL hc hS hm hf
    refine (ok_gcp hL hc).mpr ⟨ds, more, S.length, rfl, ?_, hm, hf⟩
    rw [List.getElem?_append_right (by rw [List.length_take]; omega)]
    have : S.length - (S'.take S.length).length = 0 := by rw [List.length_take]; omega
    rw [this]
    rfl
  by_cases r0 : r = 0
  · refine take_eq rfl r0 ?_
    simp only [ok_ret, ok_tup, ok_acons, ok_call, ok_c, ok_anil, eSlot, ok_some, List.getElem?_cons_zero, List.getElem?_cons_succ, Option.map_some, Option.bind_some]
    refine (part_k 6 4 (by decide) b S.length S1 [] p1 (by decide)).next fun w S2 ⟨ds, more, e, gd, hm, g2⟩ => ?_
    subst e
    refine ⟨_, rfl, _, rfl, _, rfl, _, rfl, fin (Nat.le_refl _) g2.lea (by rw [g2.len]; omega) (by simp at hm ⊢; omega) fun T => ?_⟩
    exact leans_one (nn "main" "use") (nn "main" "module") (nn "main" "maker") (G.mono (n := 3 * 4 + 8 + 1) (by decide) (G.tup (pt ds []) (gl_one gd))) (by simp at hm ⊢; omega) T
  refine skip_eq rfl r0 ?_
  by_cases r1 : r = 1
  · refine take_eq rfl r1 ?_
    simp only [ok_ret, ok_tup, ok_acons, ok_call, ok_c, ok_anil, eSlot, ok_some, List.getElem?_cons_zero, List.getElem?_cons_succ, Option.map_some, Option.bind_some]
    refine (rows_k p1 (by decide)).next fun w S2 ⟨ds, more, e, gd, hp, hm, g2⟩ => ?_
    subst e
    refine ⟨_, rfl, _, rfl, _, rfl, _, rfl, fin (Nat.le_refl _) g2.lea (by rw [g2.len]; omega) (by rw [List.nil_append]; omega) fun T => ?_⟩
    exact leans_one (nn "face" "use") (nn "face" "module") (nn "face" "maker") (G.mono (n := 18 + 1 + 1) (by decide) (G.tup (pt ds []) (gl_one (G.tup hp gd)))) (by omega) T
  refine skip_eq rfl r1 ?_
  by_cases r2 : r = 2
  · refine take_eq rfl r2 ?_
    refine seq_nx ?_
    simp only [ok_set, ok_call, ok_acons, ok_anil, eSlot, ok_some, List.getElem?_cons_zero, Option.map_some, Option.bind_some]
    refine (word_k p1.box).next fun w S2 ⟨f, e, _, sb2⟩ => ?_
    subst e
    refine ⟨_, rfl, ?_⟩
    simp only [List.set_cons_succ, List.set_cons_zero]
    refine seq_nx ?_
    simp only [ok_set, ok_call, ok_acons, ok_anil, eSlot, ok_some, List.getElem?_cons_zero, Option.map_some, Option.bind_some]
    refine (word_k sb2.box).next fun w S3 ⟨a, e, _, sb3⟩ => ?_
    subst e
    refine ⟨_, rfl, ?_⟩
    simp only [List.set_cons_succ, List.set_cons_zero]
    have hlist : eLst (aCons (eSlot 3) (aCons (eSlot 4) aNil)) [some (.loc b), some (.loc S.length), some (.d (.int r)), some (.d (.str f)), some (.d (.str a)), none, none, none, none, none] S3 = some (.loc S3.length, S3 ++ [lw [f, a]]) := by
      simp [eLst, aCons, aNil, eSlot, allD, lw]
    simp only [ok_ret, ok_tup, ok_acons, ok_c, ok_anil]
    rw [ok_slot (i := 3) (w := .d (.str f)) rfl, ok_slot (i := 4) (w := .d (.str a)) rfl]
    refine ⟨_, rfl, ?_⟩
    rw [hlist, ok_some]
    refine ⟨_, rfl, _, rfl, _, rfl, fin (S' := S3 ++ [lw [f, a]]) (L := S3.length) (more := [f, a]) ?_ (by simp) ?_ (by simp) fun T => leans_use f a "m" 9000 T⟩
    · rw [sb3.len, sb2.len]; omega
    · rw [List.length_append, sb3.len, sb2.len]; omega
  refine skip_eq rfl r2 ?_
  -- the seal
  refine seq_nx ?_
  simp only [ok_set, ok_bin, eLst, aCons, aNil, allD, eC, Option.bind_some, Option.map_some, ok_some, ok_call]
  rw [ok_bind, ok_slot (w := .loc b) rfl]
  simp only [Option.bind_some, ok_some]
  refine (take_k (p1.box.app _)).next fun w S2 ⟨z, e, z0, z1, sb2⟩ => ?_
  subst e
  obtain ⟨d, hd, hm⟩ := atI_menu (xs := [D.non, .str "sa", .str "xx", .str "of"]) z0 (by simpa using z1)
  have hgm : S2[S1.length]? = some (.lst [D.non, .str "sa", .str "xx", .str "of"]) := by
    rw [sb2.oth _ (by have := p1.bl; omega)]
    simp
  simp only [opIx, hgm, hd, Option.map_some, ok_some]
  obtain ⟨sl, esl, hsl⟩ : ∃ sl : Option Str, d = sealD sl ∧ sl ≠ some ("made" : Str) := by
    simp only [List.mem_cons, List.not_mem_nil, or_false] at hm
    rcases hm with e | e | e | e
    · exact ⟨none, e, by simp⟩
    · exact ⟨some "sa", e, by decide +kernel⟩
    · exact ⟨some "xx", e, by decide +kernel⟩
    · exact ⟨some "of", e, by decide +kernel⟩
  subst esl
  refine ⟨_, rfl, ?_⟩
  simp only [List.set_cons_succ, List.set_cons_zero]
  obtain ⟨p2, g2⟩ := (p1.app [Cell.lst [D.non, .str "sa", .str "xx", .str "of"]]).sb sb2
  have hl2 : S2.length = S.length + 2 := by rw [g2.len]; simp [hl1]
  -- the items
  refine seq_nx ?_
  simp only [ok_set, ok_call, ok_acons, ok_anil, eSlot, ok_some, List.getElem?_cons_zero, List.getElem?_cons_succ, Option.map_some, Option.bind_some]
  refine (items_k p2 (by decide)).next fun w S3 ⟨its, more, e, gi, hp, hm, g3⟩ => ?_
  subst e
  rw [List.nil_append] at g3
  have p3 := g3.pre p2.ne
  have hl3 : S3.length = S.length + 2 := by rw [g3.len, hl2]
  have ls : (sealW sl).length ≤ 1 := by cases sl <;> simp [sealW]
  have gt : G 38 (.tup its) more := G.mono (n := 18 + 1) (by decide) (G.tup hp gi)
  refine ⟨_, rfl, ?_⟩
  simp only [List.set_cons_succ, List.set_cons_zero]
  by_cases r3 : r = 3
  · refine take_eq rfl r3 ?_
    simp only [ok_ret, ok_tup, ok_acons, ok_c, ok_anil]
    rw [ok_slot (i := 5) (w := .d (sealD sl)) rfl, ok_slot (i := 6) (w := .d (.tup its)) rfl]
    refine ⟨_, rfl, ?_⟩
    refine ok_eadd ?_
    rw [ok_slot (i := 1) (w := .loc S.length) rfl]
    refine ⟨_, rfl, seal_times (sl := sl) rfl fun T => ⟨_, more, sealW sl, rfl, ?_, by simp, by omega, _, rfl, _, rfl, _, rfl, fin (S' := S3 ++ T ++ [lw (sealW sl)] ++ [lw (more ++ sealW sl)]) (L := (S3 ++ T ++ [lw (sealW sl)]).length) (more := more ++ sealW sl) ?_ (by simp) ?_ (by rw [List.length_append]; omega) fun T' => leans_module hsl gt (by omega) T'⟩⟩
    · rw [List.append_assoc, List.getElem?_append_left p3.ll]
      exact p3.lea
    · rw [List.length_append, List.length_append]; omega
    · rw [List.length_append, List.length_append, List.length_append]; omega
  refine skip_eq rfl r3 ?_
  refine seq_nx ?_
  have hnx : (noX "xx" more).length ≤ more.length := List.length_filter_le _ _
  have hcomp : eCompL [9] (iLocF (eSlot 1)) (bName 9) (tV (eBin (opEq true) (eSlot 9) (eC (.str "xx")))) (eSlot 9) [some (.loc b), some (.loc S.length), some (.d (.int r)), none, none, some (.d (sealD sl)), some (.d (.tup its)), none, none, none] S3 = some (.loc S3.length, S3 ++ [lw (noX "xx" more)]) := by
    have e1 := p3.lea
    have e2 := e1
    unfold lw at e2
    unfold eCompL iLocF eSlot
    simp only [List.getElem?_cons_zero, List.getElem?_cons_succ, Option.bind_some, Option.map_some, e2, List.length_map]
    rw [if_pos (by omega)]
    have q := loopCL_no (σ0 := wipeW [some (.loc b), some (.loc S.length), some (.d (.int r)), none, none, some (.d (sealD sl)), some (.d (.tup its)), none, none, none] [9]) e1 (by simp [wipeW]) more.length [] (Nat.le_refl _)
    unfold eSlot at q
    rw [q]
    simp [lw]
  rw [ok_set, hcomp, ok_some]
  refine ⟨_, rfl, ?_⟩
  simp only [List.set_cons_succ, List.set_cons_zero]
  have p4 := p3.app [lw (noX "xx" more)]
  have c4 : (S3 ++ [lw (noX "xx" more)])[S3.length]? = some (lw (noX "xx" more)) := by simp
  generalize hS4 : S3 ++ [lw (noX "xx" more)] = S4 at p4 c4 ⊢
  have hl4 : S4.length = S.length + 3 := by rw [← hS4, List.length_append]; simp; omega
  -- the rows
  refine seq_nx ?_
  simp only [ok_set, ok_bin, eLst, aCons, aNil, allD, eC, Option.bind_some, Option.map_some, ok_some, ok_call]
  rw [ok_bind, ok_slot (w := .loc b) rfl]
  simp only [Option.bind_some, ok_some]
  refine (take_k (p4.box.app _)).next fun w S5 ⟨y, e, y0, y1, sb5⟩ => ?_
  subst e
  obtain ⟨d, hd, hm5⟩ := atI_menu (xs := [D.str "sa", .str "xx", .str "sb"]) y0 (by simpa using y1)
  have hgm5 : S5[S4.length]? = some (.lst [D.str "sa", .str "xx", .str "sb"]) := by
    rw [sb5.oth _ (by have := p4.bl; omega)]
    simp
  simp only [opIx, hgm5, hd, Option.map_some, ok_some]
  obtain ⟨rows, er⟩ : ∃ rows : Str, d = .str rows := by
    simp only [List.mem_cons, List.not_mem_nil, or_false] at hm5
    rcases hm5 with e | e | e <;> exact ⟨_, e⟩
  subst er
  refine ⟨_, rfl, ?_⟩
  simp only [List.set_cons_succ, List.set_cons_zero]
  have c5 : S5[S3.length]? = some (lw (noX "xx" more)) := by
    rw [sb5.oth _ (by have := p3.bl; omega), List.getElem?_append_left (by omega)]
    exact c4
  have hl5 : S5.length = S.length + 4 := by rw [sb5.len, List.length_append]; simp; omega
  simp only [ok_ret, ok_tup, ok_acons, ok_c, ok_anil]
  rw [ok_slot (i := 8) (w := .d (.str rows)) rfl, ok_slot (i := 5) (w := .d (sealD sl)) rfl, ok_slot (i := 6) (w := .d (.tup its)) rfl]
  refine ⟨_, rfl, ?_⟩
  refine ok_eadd (ok_eadd ?_)
  rw [ok_slot (i := 7) (w := .loc S3.length) rfl]
  have hlist : eLst (aCons (eSlot 8) aNil) [some (.loc b), some (.loc S.length), some (.d (.int r)), none, none, some (.d (sealD sl)), some (.d (.tup its)), some (.loc S3.length), some (.d (.str rows)), none] S5 = some (.loc S5.length, S5 ++ [lw [rows]]) := by
    simp [eLst, aCons, aNil, eSlot, allD, lw]
  refine ⟨_, rfl, ?_⟩
  rw [hlist, ok_some]
  refine ⟨_, noX "xx" more, [rows], rfl, by rw [List.getElem?_append_left (by omega)]; exact c5, by simp, by simp; omega, ?_⟩
  refine ⟨_, rfl, ?_⟩
  refine seal_times (sl := sl) rfl fun T => ?_
  refine ⟨_, noX "xx" more ++ [rows], sealW sl, rfl, ?_, by simp, by simp; omega, ?_⟩
  · rw [List.append_assoc, List.getElem?_append_left (by simp)]
    simp
  refine ⟨_, rfl, _, rfl, ?_⟩
  refine fin (more := noX "xx" more ++ [rows] ++ sealW sl) ?_ ?_ ?_ (by simp; omega) fun T' => leans_maker gt (by omega) T'
  · simp only [List.length_append]; omega
  · simp
  · simp only [List.length_append]; omega
end Law
namespace Law
open PySem PySem.Spec PyProof.Rows L2 RZ Fw

/-! ### the same -/
def fSame : Nat → Fn
  | 0 => fun _ _ => none
  | n + 1 => runFn 4 (b__law_same (fSame n))
theorem isi_s (t : String) (a : Str) : isT (tyN (.d (.str a))) t = isT (tyN (.d (.str ""))) t := rfl
theorem isi_t (t : String) (a : List D) : isT (tyN (.d (.tup a))) t = isT (tyN (.d (.tup []))) t := rfl
theorem isi_b (t : String) (a : Bool) : isT (tyN (.d (.bl a))) t = isT (tyN (.d (.bl true))) t := rfl
theorem same_s (n : Nat) (a : Str) (S : Store) : fSame (n + 1) [.d (.str a), .d (.str a)] S = some (.d (.bl true), S) := by
  have d1 : (isT (tyN (.d (.str ""))) "tuple" || isT (tyN (.d (.str ""))) "list") = false := by decide
  have d2 : isT (tyN (.d (.str ""))) "bool" = false := by decide
  have d3 : isT (tyN (.d (.str ""))) "int" = false := by decide
  have d4 : isT (tyN (.d (.str ""))) "str" = true := by decide
  unfold fSame runFn b__law_same
  simp only [sSeq, sIf, tV, sRet, sNil, eBin, eSlot, eC, eIsi, eIsi2, eAnd, eNot, List.map_cons, List.map_nil, List.length_cons, List.length_nil, List.cons_append, List.nil_append, List.getElem?_cons_zero, List.getElem?_cons_succ, Option.bind_some, Option.map_some, Nat.reduceAdd, Nat.reduceSub, List.replicate, isi_s "tuple" a, isi_s "list" a, isi_s "bool" a, isi_s "int" a, isi_s "str" a, d1, d2, d3, d4, opIs, opEq, eqOk_s, eqD_ss, beq_self_eq_true, if_true, if_false, Bool.false_eq_true, gc, List.take_length]
theorem all_true : ∀ ws : List Str, truths ((ws.map fun _ => D.bl true)) = some (ws.map fun _ => true)
  | [] => rfl
  | _ :: r => by simp [truths, all_true r]
theorem zip_self : ∀ ws : List Str, List.zipWith (fun x y => W.d (.tup [x, y])) (ws.map D.str) (ws.map D.str) = ws.map fun x => W.d (.tup [.str x, .str x])
  | [] => rfl
  | _ :: r => by simp [zip_self r]
theorem same_loop (n : Nat) (x y : Option W) : ∀ (ws : List Str) (acc : List D) (S : Store),
    loopC (bTup [2, 3]) tTrue (eCall (fSame (n + 1)) (aCons (eSlot 2) (aCons (eSlot 3) aNil))) [x, y, none, none] (ws.map fun x => W.d (.tup [.str x, .str x])) acc S = some (acc ++ ws.map (fun _ => D.bl true), S)
  | [], acc, S => by simp [loopC]
  | a :: r, acc, S => by
    have e : eCall (fSame (n + 1)) (aCons (eSlot 2) (aCons (eSlot 3) aNil)) [x, y, some (.d (.str a)), some (.d (.str a))] S = some (.d (.bl true), S) := by
      simp only [eCall, aCons, aNil, eSlot, List.getElem?_cons_zero, List.getElem?_cons_succ, Option.bind_some, Option.map_some]
      exact same_s n a S
    simp only [List.map_cons, loopC, bTup, parts, Fw.bindAll, List.map_nil, List.set_cons_succ, List.set_cons_zero, Option.bind_some, tTrue, if_true, e]
    exact (same_loop n x y r (acc ++ [D.bl true]) S).trans (by simp)
theorem same_ok (n : Nat) (us : List Str) (hn : us.length < 100000) (S : Store) : fSame (n + 2) [.d (.tup (us.map D.str)), .d (.tup (us.map D.str))] S = some (.d (.bl true), S) := by
  have d1 : (isT (tyN (.d (.tup []))) "tuple" || isT (tyN (.d (.tup []))) "list") = true := by decide
  have d2 : isT (tyN (.d (.tup []))) "tuple" = true := by decide
  have d3 : isT (tyN (.d (.tup []))) "list" = false := by decide
  have q : eComp [2, 3] (iZipF (aCons (eSlot 0) (aCons (eSlot 1) aNil))) (bTup [2, 3]) tTrue (eCall (fSame (n + 1)) (aCons (eSlot 2) (aCons (eSlot 3) aNil))) [some (.d (.tup (us.map D.str))), some (.d (.tup (us.map D.str))), none, none] S = some (.loc S.length, S ++ [.lst (us.map fun _ => D.bl true)]) := by
    unfold eComp iZipF
    simp only [aCons, aNil, List.getElem?_cons_zero, List.getElem?_cons_succ, Option.bind_some, Option.map_some, zip_self, List.length_map]
    have e0 : eSlot 0 [some (.d (.tup (us.map D.str))), some (.d (.tup (us.map D.str))), none, none] S = some (.d (.tup (us.map D.str)), S) := rfl
    have e1 : eSlot 1 [some (.d (.tup (us.map D.str))), some (.d (.tup (us.map D.str))), none, none] S = some (.d (.tup (us.map D.str)), S) := rfl
    simp only [e0, e1, Option.bind_some, Option.map_some, zip_self, List.length_map]
    rw [if_pos hn]
    have := same_loop n (some (.d (.tup (us.map D.str)))) (some (.d (.tup (us.map D.str)))) us [] S
    simp only [wipeW, List.set_cons_succ, List.set_cons_zero]
    rw [this]
    simp
  have g : (S ++ [Cell.lst (us.map fun _ => D.bl true)])[S.length]? = some (.lst (us.map fun _ => D.bl true)) := by simp
  unfold fSame runFn b__law_same
  have e0 : ([.d (.tup (us.map D.str)), .d (.tup (us.map D.str))] : List W).map some ++ List.replicate (4 - ([.d (.tup (us.map D.str)), .d (.tup (us.map D.str))] : List W).length) none = [some (.d (.tup (us.map D.str))), some (.d (.tup (us.map D.str))), none, none] := rfl
  rw [e0]
  generalize hc : eComp [2, 3] (iZipF (aCons (eSlot 0) (aCons (eSlot 1) aNil))) (bTup [2, 3]) tTrue (eCall (fSame (n + 1)) (aCons (eSlot 2) (aCons (eSlot 3) aNil))) = comp at q ⊢
  have ht : (us.map fun _ => true).all id = true := by simp
  simp only [sSeq, sIf, tV, tOrF, sRet, sNil, eBin, eSlot, eC, eCall, aCons, aNil, eIsi, eIsi2, eAnd, eNot, bLen, bAll, List.getElem?_cons_zero, List.getElem?_cons_succ, Option.bind_some, Option.map_some, isi_t "tuple" (us.map D.str), isi_t "list" (us.map D.str), d1, d2, d3, opEq, eqOk_b, eqOk_i, eqD_bb, eqD_ii, beq_self_eq_true, Bool.not_true, if_true, if_false, Bool.false_eq_true, q, g, all_true, ht]
  simp [gc]

/-! ### the box -/
def fCell : Fn := runFn 2 b__law_cell
def fBox : Fn := runFn 3 (b__law_box fCell)
theorem cell_ok (ns : List Int) (k : Int) (h0 : 0 ≤ k) (S : Store) : ∃ c, fCell [.scr ns, .d (.int k)] S = some (.d (.int c), S) := by
  unfold fCell runFn b__law_cell
  by_cases hk : k < (ns.length : Int)
  · obtain ⟨c, hc, _⟩ := atI_menu h0 hk
    refine ⟨c, ?_⟩
    simp [sSeq, sIf, tV, sRet, sNil, eBin, eSlot, eC, eCall, aCons, aNil, bLen, opLt, Fw.opI0, hk, opIx, hc, gc]
  · refine ⟨7919 * k + 13, ?_⟩
    simp [sSeq, sIf, tV, sRet, sNil, eBin, eSlot, eC, eCall, aCons, aNil, bLen, opLt, Fw.opI0, hk, opAdd, opMul, gc]
theorem box_ok (ns : List Int) (k : Int) (h0 : 0 ≤ k) (S : Store) : ∃ a b c d, fBox [.scr ns, .d (.int k)] S = some (.loc S.length, S ++ [bx a b c d]) := by
  obtain ⟨c, hc⟩ := cell_ok ns k h0 S
  refine ⟨if c - 10 ^ 18 > 0 then c - 10 ^ 18 else 0, c % 2147483647, 0, 0, ?_⟩
  unfold fBox runFn b__law_box
  simp [sSeq, sSet, sRet, eBin, eSlot, eC, eCall, aCons, aNil, hc, eLst, bMax, opSub, opPow, opMod, Fw.opI, Fw.opI0, allD, gc, bx]

/-! ### the law -/
def fLaw : Fn := runFn 7 (b_law fBox fWord (fSame 6) fThing fLeans)
theorem insU_len (x : Str) : ∀ xs : List Str, (insU x xs).length ≤ xs.length + 1
  | [] => by simp [insU]
  | y :: r => by
    have := insU_len x r
    unfold insU
    split
    · simp
    · split <;> simp <;> omega
theorem sortU_len : ∀ xs : List Str, (sortU xs).length ≤ xs.length
  | [] => by simp [sortU]
  | x :: r => by
    have h1 := sortU_len r
    have h2 := insU_len x (sortU r)
    show (insU x (sortU r)).length ≤ _
    simp only [List.length_cons]
    omega
theorem same_tup {ws : List Str} (hn : ws.length < 4000) (S : Store) : fSame 6 [.d (tupU ws), .d (tupU ws)] S = some (.d (.bl true), S) :=
  same_ok 4 _ (by have := sortU_len ws; omega) S
theorem sort_k {σ : Slots} {S : Store} {i L : Nat} {ws : List Str} {P : List W → Store → Prop} (h : σ[i]? = some (some (.loc L))) (hl : S[L]? = some (lw ws)) (hn : ws.length < 4000) (q : P [.d (tupU ws)] (S ++ [lw (sortU ws)])) : Ok (aCons (eCall bTuple (aCons (eSortSet (eSlot i)) aNil)) aNil σ S) P := by
  unfold lw at hl
  simp only [ok_call, ok_acons, ok_anil, eSortSet, eSlot, h, Option.bind_some, Option.map_some, hl, strsOf_map]
  rw [if_pos hn, ok_some]
  have e : (S ++ [Cell.lst ((sortU ws).map D.str)])[S.length]? = some (.lst ((sortU ws).map D.str)) := by simp
  simp only [bTuple, e, ok_some]
  exact q
/-- the turn's question, and what follows it -/
theorem ask {e1 : EvE} {g : EvA} {σ : Slots} {S : Store} {P : Fl → Store → Prop} {f : EvS} (h : Ok (e1 σ S) fun w S1 => Ok (g σ S1) fun ws S2 => ∃ us, us.length < 4000 ∧ w = .d (tupU us) ∧ ws = [.d (tupU us)] ∧ P (.nx σ) S2) :
    Ok (sIf (tNotF (tV (eCall (fSame 6) (aCons e1 g)))) f sNil σ S) P := by
  unfold sIf tNotF tV
  simp only [ok_bind, ok_map, ok_call, ok_acons]
  refine h.next fun w S1 h => h.next fun ws S2 ⟨us, hn, ew, ews, p⟩ => ?_
  subst ew ews
  rw [same_tup hn, ok_some, ok_some]
  simp only [Bool.not_true, Bool.false_eq_true, if_false]
  exact ok_some.mpr p
theorem law_ok (ns : List Int) (hn : ns.length < 1000) : fLaw [.scr ns] [] = some (.d (.bl true), []) := by
  have : Ok (fLaw [.scr ns] []) fun w S => w = .d (.bl true) ∧ S = [] := by
    unfold fLaw
    refine fin_rt ?_
    unfold b_law
    obtain ⟨a, b, c, d, eb⟩ := box_ok ns 30 (by decide) []
    refine seq_nx ?_
    simp only [ok_set, ok_call, ok_acons, ok_anil, ok_c, eSlot, ok_some, List.map_cons, List.map_nil, List.length_cons, List.length_nil, Nat.reduceAdd, Nat.reduceSub, List.replicate, List.cons_append, List.nil_append, List.getElem?_cons_zero, Option.map_some, Option.bind_some, eb]
    refine ⟨_, rfl, ?_⟩
    simp only [List.set_cons_succ, List.set_cons_zero, List.length_nil]
    have hb : BoxAt [bx a b c d] 0 := ⟨_, _, _, _, rfl⟩
    refine seq_nx ?_
    unfold sPar
    simp only [ok_bind, ok_acons, ok_call, ok_anil, eSlot, ok_some, List.getElem?_cons_zero, List.getElem?_cons_succ, Option.map_some, Option.bind_some]
    refine (word_k hb).next fun w S1 ⟨f, e, _, sb1⟩ => ?_
    subst e
    refine (word_k sb1.box).next fun w S2 ⟨x, e, _, sb2⟩ => ?_
    subst e
    refine ⟨_, rfl, ?_⟩
    simp only [List.set_cons_succ, List.set_cons_zero]
    refine seq_nx (ask ?_)
    have hl : fLeans [.d (.tup [.str "use", .int 9000, .str "m", .str f, .str x])] S2 = some (.d (tupU [f, x]), S2) := leans_use f x "m" 9000 S2
    have hlist : eLst (aCons (eSlot 2) (aCons (eSlot 3) aNil)) [some (.scr ns), some (.loc 0), some (.d (.str f)), some (.d (.str x)), none, none, none] S2 = some (.loc S2.length, S2 ++ [lw [f, x]]) := by
      simp [eLst, aCons, aNil, eSlot, allD, lw]
    have harg : Ok (eCall bTuple (aCons (eSortSet (eLst (aCons (eSlot 2) (aCons (eSlot 3) aNil)))) aNil) [some (.scr ns), some (.loc 0), some (.d (.str f)), some (.d (.str x)), none, none, none] S2) fun w S3 => w = .d (tupU [f, x]) := by
      have e1 : (S2 ++ [lw [f, x]])[S2.length]? = some (.lst ([f, x].map D.str)) := by simp [lw]
      simp only [ok_call, ok_acons, ok_anil, eSortSet, hlist, Option.bind_some, e1, strsOf_map]
      rw [if_pos (by simp), ok_some]
      have e : (S2 ++ [lw [f, x]] ++ [Cell.lst ((sortU [f, x]).map D.str)])[(S2 ++ [lw [f, x]]).length]? = some (.lst ((sortU [f, x]).map D.str)) := by simp
      simp only [bTuple, e, ok_some]
      rfl
    rw [ok_call, ok_acons, ok_tup]
    simp only [ok_acons, ok_c, ok_anil]
    rw [ok_slot (i := 2) (w := .d (.str f)) rfl, ok_slot (i := 3) (w := .d (.str x)) rfl]
    refine ⟨_, rfl, ?_⟩
    rw [hl, ok_some]
    refine harg.next fun w S3 ews => ⟨[f, x], by simp, rfl, by rw [ews], _, rfl, ?_⟩
    refine seq_nx ?_
    rw [ok_for]
    have hr : Ok (iRng1F (aCons (eCall bMax (aCons (eC (.int 1)) (aCons (eCall bMin (aCons (eCall bLen (aCons (eSlot 0) aNil)) (aCons (eC (.int 30)) aNil))) aNil))) aNil) [some (.scr ns), some (.loc 0), some (.d (.str f)), some (.d (.str x)), none, none, none] S3) fun ws _ => ∃ n, ws = rangeW 0 n := by
      unfold iRng1F
      simp only [eCall, aCons, aNil, eC, eSlot, List.getElem?_cons_zero, Option.bind_some, Option.map_some, bLen, bMin, bMax]
      have : ∀ z : Int, z = (if (if (30 : Int) < (ns.length : Int) then (30 : Int) else (ns.length : Int)) > 1 then (if (30 : Int) < (ns.length : Int) then (30 : Int) else (ns.length : Int)) else 1) → rangeOk z = true := by
        intro z hz
        unfold rangeOk
        rw [Bool.and_eq_true, decide_eq_true_eq, decide_eq_true_eq]
        split at hz <;> (try split at hz) <;> omega
      rw [if_pos (this _ rfl), ok_some]
      exact ⟨_, rfl⟩
    refine hr.next fun ws S4 ⟨n, ews⟩ => ?_
    subst ews
    refine (loop_all (fun i σ S' => ∃ y z u v w, σ = [some (.scr ns), y, z, u, v, w, none] ∨ ∃ t, σ = [some (.scr ns), y, z, u, v, w, t]) ⟨_, _, _, _, _, .inl rfl⟩ ?_).next fun fl S5 ⟨σ5, e, y, z, u, v, w, eσ⟩ => ?_
    · rintro i w0 σ S5 hw ⟨y, z, u, v, w, eσ⟩
      obtain ⟨t, eσ⟩ : ∃ t, σ = [some (.scr ns), y, z, u, v, w, t] := by
        rcases eσ with e | ⟨t, e⟩
        · exact ⟨_, e⟩
        · exact ⟨_, e⟩
      obtain ⟨hi, e0⟩ := range_get hw
      subst e0 eσ
      refine ⟨_, rfl, ?_⟩
      simp only [List.set_cons_succ, List.set_cons_zero]
      obtain ⟨a, b, c, d, eb⟩ := box_ok ns (0 + (i : Int)) (by omega) S5
      refine seq_nx ?_
      unfold sTup
      simp only [ok_bind, ok_map, ok_call, ok_acons, ok_anil, eSlot, ok_some, List.getElem?_cons_zero, List.getElem?_cons_succ, Option.map_some, Option.bind_some, eb]
      refine (thing_k (b := S5.length) ⟨a, b, c, d, by simp⟩).next fun w6 S6 ⟨ds, more, L, e6, hL, hm, hle⟩ => ?_
      subst e6
      simp only [parts, List.map_cons, List.map_nil, Fw.bindAll, Option.bind_some, Option.map_some, List.set_cons_succ, List.set_cons_zero]
      refine ok_some.mpr ⟨_, rfl, ?_⟩
      refine ask ?_
      rw [ok_call, ok_acons, ok_slot (i := 5) (w := .d (.tup ds)) rfl, ok_anil, hle S6, ok_some]
      refine sort_k (i := 6) (L := L) rfl hL (by omega) ?_
      exact ⟨more, by omega, rfl, rfl, _, rfl, _, _, _, _, _, .inr ⟨_, rfl⟩⟩
    · subst e
      refine ⟨_, rfl, ?_⟩
      rw [ok_ret, ok_c]
      exact ⟨_, rfl, ok_gcd.mpr ⟨rfl, rfl⟩⟩
  obtain ⟨w, S, e, h1, h2⟩ := this
  rw [e, h1, h2]
end Law
namespace Law
open PySem PySem.Spec PyProof.Rows L2 RZ Fw
/-! ### the top, as the text has it -/
structure Defs (K : PySem.W.Frag) (mg : Str → Option Value) : Prop where
  d_words_within : DefAt K mg "words_within" s_words_within ["thing"]
  d_leans_on : DefAt K mg "leans_on" s_leans_on ["thing"]
  d__law_cell : DefAt K mg "_law_cell" s__law_cell ["script", "k"]
  d__law_mixed : DefAt K mg "_law_mixed" s__law_mixed ["cell", "k"]
  d__law_box : DefAt K mg "_law_box" s__law_box ["script", "k"]
  d__law_take : DefAt K mg "_law_take" s__law_take ["box", "many"]
  d__law_place : DefAt K mg "_law_place" s__law_place ["box"]
  d__law_word : DefAt K mg "_law_word" s__law_word ["box"]
  d__law_kind : DefAt K mg "_law_kind" s__law_kind ["box", "leans", "deep"]
  d__law_pattern : DefAt K mg "_law_pattern" s__law_pattern ["box", "deep"]
  d__law_part : DefAt K mg "_law_part" s__law_part ["box", "leans", "deep"]
  d__law_items : DefAt K mg "_law_items" s__law_items ["box", "leans"]
  d__law_rows : DefAt K mg "_law_rows" s__law_rows ["box", "leans"]
  d__law_thing : DefAt K mg "_law_thing" s__law_thing ["box"]
  d__law_same : DefAt K mg "_law_same" s__law_same ["found", "due"]
  d_law : DefAt K mg "law" s_law ["script"]
theorem defs_mk {K : PySem.W.Frag} {h : Heap} {mg : Str → Option Value} (X : K.In h) (G : h.Ns mainGlobals mg)
    {f1 f2 f3 f4 f5 f6 f7 f8 f9 f10 f11 f12 f13 f14 f15 f16 : Addr} {od1 an1 od2 an2 od3 an3 od4 an4 od5 an5 od6 an6 od7 an7 od8 an8 od9 an9 od10 an10 od11 an11 od12 an12 od13 an13 od14 an14 od15 an15 od16 an16 : Option Addr} {sl1 sl2 sl3 sl4 sl5 sl6 sl7 sl8 sl9 sl10 sl11 sl12 sl13 sl14 sl15 sl16 : Array (Option Value)} {oc1 kV1 dc1 pm1 cd1 ct1 oc2 kV2 dc2 pm2 cd2 ct2 oc3 kV3 dc3 pm3 cd3 ct3 oc4 kV4 dc4 pm4 cd4 ct4 oc5 kV5 dc5 pm5 cd5 ct5 oc6 kV6 dc6 pm6 cd6 ct6 oc7 kV7 dc7 pm7 cd7 ct7 oc8 kV8 dc8 pm8 cd8 ct8 oc9 kV9 dc9 pm9 cd9 ct9 oc10 kV10 dc10 pm10 cd10 ct10 oc11 kV11 dc11 pm11 cd11 ct11 oc12 kV12 dc12 pm12 cd12 ct12 oc13 kV13 dc13 pm13 cd13 ct13 oc14 kV14 dc14 pm14 cd14 ct14 oc15 kV15 dc15 pm15 cd15 ct15 oc16 kV16 dc16 pm16 cd16 ct16 : Value}
    (a1 : PySem.W.nsIn K mainGlobals "words_within" = some (some (.ref f1))) (l1 : K.lookup f1 = some ⟨oc1, od1, .func (PySem.W.fnOf "words_within" "words_within" (defArgs s_words_within) (defBody s_words_within) (defScope s_words_within) .none kV1 dc1 pm1 an1 cd1 ct1), sl1⟩) (c1 : PySem.W.codeIn K cd1 "words_within" = true) (k1 : PySem.W.keepIn K (.ref f1) = true)
    (a2 : PySem.W.nsIn K mainGlobals "leans_on" = some (some (.ref f2))) (l2 : K.lookup f2 = some ⟨oc2, od2, .func (PySem.W.fnOf "leans_on" "leans_on" (defArgs s_leans_on) (defBody s_leans_on) (defScope s_leans_on) .none kV2 dc2 pm2 an2 cd2 ct2), sl2⟩) (c2 : PySem.W.codeIn K cd2 "leans_on" = true) (k2 : PySem.W.keepIn K (.ref f2) = true)
    (a3 : PySem.W.nsIn K mainGlobals "_law_cell" = some (some (.ref f3))) (l3 : K.lookup f3 = some ⟨oc3, od3, .func (PySem.W.fnOf "_law_cell" "_law_cell" (defArgs s__law_cell) (defBody s__law_cell) (defScope s__law_cell) .none kV3 dc3 pm3 an3 cd3 ct3), sl3⟩) (c3 : PySem.W.codeIn K cd3 "_law_cell" = true) (k3 : PySem.W.keepIn K (.ref f3) = true)
    (a4 : PySem.W.nsIn K mainGlobals "_law_mixed" = some (some (.ref f4))) (l4 : K.lookup f4 = some ⟨oc4, od4, .func (PySem.W.fnOf "_law_mixed" "_law_mixed" (defArgs s__law_mixed) (defBody s__law_mixed) (defScope s__law_mixed) .none kV4 dc4 pm4 an4 cd4 ct4), sl4⟩) (c4 : PySem.W.codeIn K cd4 "_law_mixed" = true) (k4 : PySem.W.keepIn K (.ref f4) = true)
    (a5 : PySem.W.nsIn K mainGlobals "_law_box" = some (some (.ref f5))) (l5 : K.lookup f5 = some ⟨oc5, od5, .func (PySem.W.fnOf "_law_box" "_law_box" (defArgs s__law_box) (defBody s__law_box) (defScope s__law_box) .none kV5 dc5 pm5 an5 cd5 ct5), sl5⟩) (c5 : PySem.W.codeIn K cd5 "_law_box" = true) (k5 : PySem.W.keepIn K (.ref f5) = true)
    (a6 : PySem.W.nsIn K mainGlobals "_law_take" = some (some (.ref f6))) (l6 : K.lookup f6 = some ⟨oc6, od6, .func (PySem.W.fnOf "_law_take" "_law_take" (defArgs s__law_take) (defBody s__law_take) (defScope s__law_take) .none kV6 dc6 pm6 an6 cd6 ct6), sl6⟩) (c6 : PySem.W.codeIn K cd6 "_law_take" = true) (k6 : PySem.W.keepIn K (.ref f6) = true)
    (a7 : PySem.W.nsIn K mainGlobals "_law_place" = some (some (.ref f7))) (l7 : K.lookup f7 = some ⟨oc7, od7, .func (PySem.W.fnOf "_law_place" "_law_place" (defArgs s__law_place) (defBody s__law_place) (defScope s__law_place) .none kV7 dc7 pm7 an7 cd7 ct7), sl7⟩) (c7 : PySem.W.codeIn K cd7 "_law_place" = true) (k7 : PySem.W.keepIn K (.ref f7) = true)
    (a8 : PySem.W.nsIn K mainGlobals "_law_word" = some (some (.ref f8))) (l8 : K.lookup f8 = some ⟨oc8, od8, .func (PySem.W.fnOf "_law_word" "_law_word" (defArgs s__law_word) (defBody s__law_word) (defScope s__law_word) .none kV8 dc8 pm8 an8 cd8 ct8), sl8⟩) (c8 : PySem.W.codeIn K cd8 "_law_word" = true) (k8 : PySem.W.keepIn K (.ref f8) = true)
    (a9 : PySem.W.nsIn K mainGlobals "_law_kind" = some (some (.ref f9))) (l9 : K.lookup f9 = some ⟨oc9, od9, .func (PySem.W.fnOf "_law_kind" "_law_kind" (defArgs s__law_kind) (defBody s__law_kind) (defScope s__law_kind) .none kV9 dc9 pm9 an9 cd9 ct9), sl9⟩) (c9 : PySem.W.codeIn K cd9 "_law_kind" = true) (k9 : PySem.W.keepIn K (.ref f9) = true)
    (a10 : PySem.W.nsIn K mainGlobals "_law_pattern" = some (some (.ref f10))) (l10 : K.lookup f10 = some ⟨oc10, od10, .func (PySem.W.fnOf "_law_pattern" "_law_pattern" (defArgs s__law_pattern) (defBody s__law_pattern) (defScope s__law_pattern) .none kV10 dc10 pm10 an10 cd10 ct10), sl10⟩) (c10 : PySem.W.codeIn K cd10 "_law_pattern" = true) (k10 : PySem.W.keepIn K (.ref f10) = true)
    (a11 : PySem.W.nsIn K mainGlobals "_law_part" = some (some (.ref f11))) (l11 : K.lookup f11 = some ⟨oc11, od11, .func (PySem.W.fnOf "_law_part" "_law_part" (defArgs s__law_part) (defBody s__law_part) (defScope s__law_part) .none kV11 dc11 pm11 an11 cd11 ct11), sl11⟩) (c11 : PySem.W.codeIn K cd11 "_law_part" = true) (k11 : PySem.W.keepIn K (.ref f11) = true)
    (a12 : PySem.W.nsIn K mainGlobals "_law_items" = some (some (.ref f12))) (l12 : K.lookup f12 = some ⟨oc12, od12, .func (PySem.W.fnOf "_law_items" "_law_items" (defArgs s__law_items) (defBody s__law_items) (defScope s__law_items) .none kV12 dc12 pm12 an12 cd12 ct12), sl12⟩) (c12 : PySem.W.codeIn K cd12 "_law_items" = true) (k12 : PySem.W.keepIn K (.ref f12) = true)
    (a13 : PySem.W.nsIn K mainGlobals "_law_rows" = some (some (.ref f13))) (l13 : K.lookup f13 = some ⟨oc13, od13, .func (PySem.W.fnOf "_law_rows" "_law_rows" (defArgs s__law_rows) (defBody s__law_rows) (defScope s__law_rows) .none kV13 dc13 pm13 an13 cd13 ct13), sl13⟩) (c13 : PySem.W.codeIn K cd13 "_law_rows" = true) (k13 : PySem.W.keepIn K (.ref f13) = true)
    (a14 : PySem.W.nsIn K mainGlobals "_law_thing" = some (some (.ref f14))) (l14 : K.lookup f14 = some ⟨oc14, od14, .func (PySem.W.fnOf "_law_thing" "_law_thing" (defArgs s__law_thing) (defBody s__law_thing) (defScope s__law_thing) .none kV14 dc14 pm14 an14 cd14 ct14), sl14⟩) (c14 : PySem.W.codeIn K cd14 "_law_thing" = true) (k14 : PySem.W.keepIn K (.ref f14) = true)
    (a15 : PySem.W.nsIn K mainGlobals "_law_same" = some (some (.ref f15))) (l15 : K.lookup f15 = some ⟨oc15, od15, .func (PySem.W.fnOf "_law_same" "_law_same" (defArgs s__law_same) (defBody s__law_same) (defScope s__law_same) .none kV15 dc15 pm15 an15 cd15 ct15), sl15⟩) (c15 : PySem.W.codeIn K cd15 "_law_same" = true) (k15 : PySem.W.keepIn K (.ref f15) = true)
    (a16 : PySem.W.nsIn K mainGlobals "law" = some (some (.ref f16))) (l16 : K.lookup f16 = some ⟨oc16, od16, .func (PySem.W.fnOf "law" "law" (defArgs s_law) (defBody s_law) (defScope s_law) .none kV16 dc16 pm16 an16 cd16 ct16), sl16⟩) (c16 : PySem.W.codeIn K cd16 "law" = true) (k16 : PySem.W.keepIn K (.ref f16) = true)
    : Defs K mg := by
  constructor
  · exact def_at (fun_mk (st := s_words_within) l1 c1 k1) (PySem.W.mg_of X G a1) fun _ _ _ _ _ _ us hl => match us, hl with | [_], _ => rfl
  · exact def_at (fun_mk (st := s_leans_on) l2 c2 k2) (PySem.W.mg_of X G a2) fun _ _ _ _ _ _ us hl => match us, hl with | [_], _ => rfl
  · exact def_at (fun_mk (st := s__law_cell) l3 c3 k3) (PySem.W.mg_of X G a3) fun _ _ _ _ _ _ us hl => match us, hl with | [_, _], _ => rfl
  · exact def_at (fun_mk (st := s__law_mixed) l4 c4 k4) (PySem.W.mg_of X G a4) fun _ _ _ _ _ _ us hl => match us, hl with | [_, _], _ => rfl
  · exact def_at (fun_mk (st := s__law_box) l5 c5 k5) (PySem.W.mg_of X G a5) fun _ _ _ _ _ _ us hl => match us, hl with | [_, _], _ => rfl
  · exact def_at (fun_mk (st := s__law_take) l6 c6 k6) (PySem.W.mg_of X G a6) fun _ _ _ _ _ _ us hl => match us, hl with | [_, _], _ => rfl
  · exact def_at (fun_mk (st := s__law_place) l7 c7 k7) (PySem.W.mg_of X G a7) fun _ _ _ _ _ _ us hl => match us, hl with | [_], _ => rfl
  · exact def_at (fun_mk (st := s__law_word) l8 c8 k8) (PySem.W.mg_of X G a8) fun _ _ _ _ _ _ us hl => match us, hl with | [_], _ => rfl
  · exact def_at (fun_mk (st := s__law_kind) l9 c9 k9) (PySem.W.mg_of X G a9) fun _ _ _ _ _ _ us hl => match us, hl with | [_, _, _], _ => rfl
  · exact def_at (fun_mk (st := s__law_pattern) l10 c10 k10) (PySem.W.mg_of X G a10) fun _ _ _ _ _ _ us hl => match us, hl with | [_, _], _ => rfl
  · exact def_at (fun_mk (st := s__law_part) l11 c11 k11) (PySem.W.mg_of X G a11) fun _ _ _ _ _ _ us hl => match us, hl with | [_, _, _], _ => rfl
  · exact def_at (fun_mk (st := s__law_items) l12 c12 k12) (PySem.W.mg_of X G a12) fun _ _ _ _ _ _ us hl => match us, hl with | [_, _], _ => rfl
  · exact def_at (fun_mk (st := s__law_rows) l13 c13 k13) (PySem.W.mg_of X G a13) fun _ _ _ _ _ _ us hl => match us, hl with | [_, _], _ => rfl
  · exact def_at (fun_mk (st := s__law_thing) l14 c14 k14) (PySem.W.mg_of X G a14) fun _ _ _ _ _ _ us hl => match us, hl with | [_], _ => rfl
  · exact def_at (fun_mk (st := s__law_same) l15 c15 k15) (PySem.W.mg_of X G a15) fun _ _ _ _ _ _ us hl => match us, hl with | [_, _], _ => rfl
  · exact def_at (fun_mk (st := s_law) l16 c16 k16) (PySem.W.mg_of X G a16) fun _ _ _ _ _ _ us hl => match us, hl with | [_], _ => rfl
theorem txt_mk {K : PySem.W.Frag} {h : Heap} {mg : Str → Option Value} (X : K.In h) (G : h.Ns mainGlobals mg)
    (z_all : PySem.W.nsIn K mainGlobals "all" = some none)
    (z_bool : PySem.W.nsIn K mainGlobals "bool" = some none)
    (z_int : PySem.W.nsIn K mainGlobals "int" = some none)
    (z_isinstance : PySem.W.nsIn K mainGlobals "isinstance" = some none)
    (z_len : PySem.W.nsIn K mainGlobals "len" = some none)
    (z_list : PySem.W.nsIn K mainGlobals "list" = some none)
    (z_max : PySem.W.nsIn K mainGlobals "max" = some none)
    (z_min : PySem.W.nsIn K mainGlobals "min" = some none)
    (z_range : PySem.W.nsIn K mainGlobals "range" = some none)
    (z_set : PySem.W.nsIn K mainGlobals "set" = some none)
    (z_sorted : PySem.W.nsIn K mainGlobals "sorted" = some none)
    (z_str : PySem.W.nsIn K mainGlobals "str" = some none)
    (z_tuple : PySem.W.nsIn K mainGlobals "tuple" = some none)
    (z_zip : PySem.W.nsIn K mainGlobals "zip" = some none)
    : Txt mg := ⟨PySem.W.mg_none_of X G z_all, PySem.W.mg_none_of X G z_bool, PySem.W.mg_none_of X G z_int, PySem.W.mg_none_of X G z_isinstance, PySem.W.mg_none_of X G z_len, PySem.W.mg_none_of X G z_list, PySem.W.mg_none_of X G z_max, PySem.W.mg_none_of X G z_min, PySem.W.mg_none_of X G z_range, PySem.W.mg_none_of X G z_set, PySem.W.mg_none_of X G z_sorted, PySem.W.mg_none_of X G z_str, PySem.W.mg_none_of X G z_tuple, PySem.W.mg_none_of X G z_zip⟩
section
variable {P : Program} {w : World} {K : PySem.W.Frag} {mg : Str → Option Value} {base : Heap} (D : Defs K mg) (T : Txt mg)
include D T
theorem c_words : ∀ n, CallOk P w K mg base n "words_within" 1 (fWords n)
  | 0 => call_ok D.d_words_within rfl fun _ _ _ => fn_no
  | n + 1 => call_ok D.d_words_within rfl fun _ _ F => ok_words_within F T (c_words n)
theorem c_leans : CallOk P w K mg base 49 "leans_on" 1 fLeans := (call_ok D.d_leans_on rfl fun _ _ F => ok_leans_on F T (c_words D T 40)).mono (by decide)
theorem c_mixed : CallOk P w K mg base 1 "_law_mixed" 2 fMixed := call_ok D.d__law_mixed rfl fun _ _ F => ok__law_mixed F T
theorem c_take (k : Nat) (h : 2 ≤ k := by omega) : CallOk P w K mg base k "_law_take" 2 fTake := (call_ok D.d__law_take rfl fun _ _ F => ok__law_take F T (c_mixed D T)).mono h
theorem c_place (k : Nat) (h : 1 ≤ k := by omega) : CallOk P w K mg base k "_law_place" 1 fPlace := (call_ok D.d__law_place rfl fun _ _ F => ok__law_place (k := 0) F T).mono h
theorem c_word (k : Nat) (h : 3 ≤ k := by omega) : CallOk P w K mg base k "_law_word" 1 fWord := (call_ok D.d__law_word rfl fun _ _ F => ok__law_word F T (c_take D T 2)).mono h
theorem c_kind : ∀ n, CallOk P w K mg base (3 + n) "_law_kind" 3 (fKind n)
  | 0 => call_ok D.d__law_kind rfl fun _ _ _ => fn_no
  | n + 1 => call_ok D.d__law_kind rfl fun _ _ F => ok__law_kind (k := 3 + n) F T (c_take D T _) (c_kind n) (c_word D T _)
theorem c_pat : ∀ n, CallOk P w K mg base (3 + n) "_law_pattern" 2 (fPat n)
  | 0 => call_ok D.d__law_pattern rfl fun _ _ _ => fn_no
  | n + 1 => call_ok D.d__law_pattern rfl fun _ _ F => ok__law_pattern (k := 3 + n) F T (c_take D T _) (c_place D T _) (c_word D T _) (c_pat n)
theorem c_part : ∀ n, CallOk P w K mg base (8 + n) "_law_part" 3 (fPart n)
  | 0 => call_ok D.d__law_part rfl fun _ _ _ => fn_no
  | n + 1 => call_ok D.d__law_part rfl fun _ _ F => ok__law_part (k := 8 + n) F T (c_take D T _) (c_place D T _) (c_part n) (c_word D T _) ((c_kind D T 5).mono (by omega)) ((c_pat D T 3).mono (by omega))
theorem c_items : CallOk P w K mg base 15 "_law_items" 2 fItems := call_ok D.d__law_items rfl fun _ _ F => ok__law_items (k := 14) F T (c_take D T _) (c_place D T _) ((c_kind D T 5).mono (by decide)) (c_part D T 6)
theorem c_rows : CallOk P w K mg base 15 "_law_rows" 2 fRows := call_ok D.d__law_rows rfl fun _ _ F => ok__law_rows (k := 14) F T (c_take D T _) (c_place D T _) ((c_kind D T 5).mono (by decide))
theorem c_thing : CallOk P w K mg base 49 "_law_thing" 1 fThing := (call_ok D.d__law_thing rfl fun _ _ F => ok__law_thing (k := 15) F T (c_take D T _) (c_items D T) (c_word D T _) ((c_part D T 6).mono (by decide)) (c_rows D T)).mono (by decide)
theorem c_same : ∀ n, CallOk P w K mg base n "_law_same" 2 (fSame n)
  | 0 => call_ok D.d__law_same rfl fun _ _ _ => fn_no
  | n + 1 => call_ok D.d__law_same rfl fun _ _ F => ok__law_same F T (c_same n)
theorem c_cell : CallOk P w K mg base 1 "_law_cell" 2 fCell := call_ok D.d__law_cell rfl fun _ _ F => ok__law_cell F T
theorem c_box : CallOk P w K mg base 49 "_law_box" 2 fBox := (call_ok D.d__law_box rfl fun _ _ F => ok__law_box F T (c_cell D T)).mono (by decide)
theorem law_run {f : Addr} {fd : FuncData} (F : Fun K "law" "law" s_law f fd) : FnOk P w K mg base CX0 50 f fd ["script"] (spOf K 1 fLaw) :=
  ok_law (k := 49) F T (c_box D T) (c_word D T _) ((c_same D T 6).mono (by decide)) (c_thing D T) (c_leans D T)
end
theorem walk {l : PySem.W.OpenLaw} {q : Program} {loose : List Str} {XP : (Str → Option Value) → Heap → Prop} {YP : World → Heap → Prop} {d : DefRec} {K : Params → PySem.W.Frag} (hn : l.most = some 63) (hdf : d.params.defaults = []) (hd : d.name = "law")
    (hY : ∀ (w : World) (h : Heap), YP w h → (K w.params).In h)
    (D : ∀ (w : World) (mg : Str → Option Value) (fa : Addr) (h : Heap), (K w.params).In h → h.Ns mainGlobals mg → mg d.name = some (.ref fa) → Defs (K w.params) mg)
    (T : ∀ (w : World) (mg : Str → Option Value) (fa : Addr) (h : Heap), (K w.params).In h → h.Ns mainGlobals mg → mg d.name = some (.ref fa) → Txt mg) :
    PySem.W.WalkO q loose XP YP l.row.toRowW d [] (fun f vs => PySem.call f vs) := by
  refine L2.walk_of (n := 63) (k := 50) (x := "script") (CX := fun _ => CX0) (sp := fun w => spOf (K w.params) 1 fLaw) hn (by decide) hdf ⟨rfl, by decide, by decide⟩ hY (fun w mg fa h KX G hmg => ?_) (fun w H a ns hl hO hS => ?_) fun _ _ _ _ _ z => z
  · have Dm := D w mg fa h KX G hmg
    have Tm := T w mg fa h KX G hmg
    obtain ⟨f, fd, F, hm, hb⟩ := Dm.d_law
    rw [hd, hm] at hmg
    cases hmg
    refine ⟨fd, ?_, fun base _ _ => law_run Dm Tm F⟩
    obtain ⟨oc, od, kV, doc, pm, an, cdv, ct, osl, e, _, _⟩ := F.ex
    subst e
    exact fun s v => .of_eq rfl
  · exact ⟨rfl, [], [], [.scr ns], .d (.bl true), [], rel_nil, ⟨_, [], rfl, ⟨a, rfl, scr_at hS hO⟩, rfl⟩, law_ok ns (by omega), fun v m' H' _ _ r => r⟩
end Law
open PySem PySem.W PyProof.Rows
set_option maxRecDepth 100000 in
set_option maxHeartbeats 0 in
theorem PySem.Challenge.cw_kindbooks_k81_what_things_lean_on_holds : PySem.Challenge.rw_kindbooks_k81_what_things_lean_on.Holds := by
  w_on; o_law; k_head; (case hw => w_witness2)
  k_fill
  refine Law.walk (l := PySem.Challenge.rw_kindbooks_k81_what_things_lean_on) rfl rfl rfl (fun w h Y => PySem.W.kIn_of Y) ?D ?T
  case D =>
    intro w mg fa h KX G hmg
    refine' Law.defs_mk KX G ?a1 ?l1 ?c1 ?k1 ?a2 ?l2 ?c2 ?k2 ?a3 ?l3 ?c3 ?k3 ?a4 ?l4 ?c4 ?k4 ?a5 ?l5 ?c5 ?k5 ?a6 ?l6 ?c6 ?k6 ?a7 ?l7 ?c7 ?k7 ?a8 ?l8 ?c8 ?k8 ?a9 ?l9 ?c9 ?k9 ?a10 ?l10 ?c10 ?k10 ?a11 ?l11 ?c11 ?k11 ?a12 ?l12 ?c12 ?k12 ?a13 ?l13 ?c13 ?k13 ?a14 ?l14 ?c14 ?k14 ?a15 ?l15 ?c15 ?k15 ?a16 ?l16 ?c16 ?k16
    (case a1 => k_is); (case l1 => k_is); (case c1 => k_is); (case k1 => k_is)
    (case a2 => k_is); (case l2 => k_is); (case c2 => k_is); (case k2 => k_is)
    (case a3 => k_is); (case l3 => k_is); (case c3 => k_is); (case k3 => k_is)
    (case a4 => k_is); (case l4 => k_is); (case c4 => k_is); (case k4 => k_is)
    (case a5 => k_is); (case l5 => k_is); (case c5 => k_is); (case k5 => k_is)
    (case a6 => k_is); (case l6 => k_is); (case c6 => k_is); (case k6 => k_is)
    (case a7 => k_is); (case l7 => k_is); (case c7 => k_is); (case k7 => k_is)
    (case a8 => k_is); (case l8 => k_is); (case c8 => k_is); (case k8 => k_is)
    (case a9 => k_is); (case l9 => k_is); (case c9 => k_is); (case k9 => k_is)
    (case a10 => k_is); (case l10 => k_is); (case c10 => k_is); (case k10 => k_is)
    (case a11 => k_is); (case l11 => k_is); (case c11 => k_is); (case k11 => k_is)
    (case a12 => k_is); (case l12 => k_is); (case c12 => k_is); (case k12 => k_is)
    (case a13 => k_is); (case l13 => k_is); (case c13 => k_is); (case k13 => k_is)
    (case a14 => k_is); (case l14 => k_is); (case c14 => k_is); (case k14 => k_is)
    (case a15 => k_is); (case l15 => k_is); (case c15 => k_is); (case k15 => k_is)
    (case a16 => k_is); (case l16 => k_is); (case c16 => k_is); (case k16 => k_is)
  case T =>
    intro w mg fa h KX G hmg
    refine' Law.txt_mk KX G ?z_all ?z_bool ?z_int ?z_isinstance ?z_len ?z_list ?z_max ?z_min ?z_range ?z_set ?z_sorted ?z_str ?z_tuple ?z_zip
    (case z_all => k_is); (case z_bool => k_is); (case z_int => k_is); (case z_isinstance => k_is); (case z_len => k_is); (case z_list => k_is); (case z_max => k_is); (case z_min => k_is); (case z_range => k_is); (case z_set => k_is); (case z_sorted => k_is); (case z_str => k_is); (case z_tuple => k_is); (case z_zip => k_is)
