import PyProof.Rows.All
import Wide.All
import OpenK.AllK
import Wide.FinOn
import HandS.ForMost
import HandS.Evl
import HandS.Star
import HandS.TupAny
import HandS.TupMul
import HandS.SortKw
import HandS.Conv
import HandS.Flow
import HandS.Style
import HandS.TupLe
import HandS.IsInst
import HandS.Wide
import HandS.Zip
import HandS.DictComp
import KE.SortData
import KE.KDictCopyH
import KE.DataEq
import HandS.TryOnly
import HandS.Words
import HandS.WordsExc
import HandS.Defaults
import HandS.Head0
import HandS.Head1
import HandS.Head2
import HandS.HeadEnd
import HandS.HeadHook1
import HandS.HeadHook2
import HandS.Ends
import PySem.Challenge.RW_jobsinturn_k17_whole_press_papers_and_sh
section
set_option Elab.async false
set_option linter.all false
set_option maxRecDepth 100000
set_option maxHeartbeats 4000000
/-! An abstract machine over the hand layer: data as trees, a store of objects that may change, by places. -/
namespace AM
open PySem PySem.Spec L2

/-- a value: data, the object at a place of the store, any other, the law's script -/
inductive D where
  | dat (p : PyData)
  | own (j : Nat)
  | raw (v : V)
  | scr (K : PySem.W.Frag) (ns : List Int)

/-- an object of the store -/
inductive Mo where
  | lst (ds : List PyData)
  | dic (kvs : List (Key × D))
  | dit (kvs : List (List Key × D))
  | raw (o : HO)

abbrev Sto := List (Option Mo)
abbrev Gm := List (Option D)

def toKey : PyData → Option Key
  | .int i => some (.inl i)
  | .str x => some (.inr x)
  | _ => none
def toKeys : List PyData → Option (List Key)
  | [] => some []
  | d :: ds => match toKey d, toKeys ds with
    | some k, some ks => some (k :: ks)
    | _, _ => none
def ofKey : Key → PyData
  | .inl i => .int i
  | .inr x => .str x
theorem toKey_of (k : Key) : toKey (ofKey k) = some k := by cases k <;> rfl

/-- the addresses of the store's objects, and the frame: what a caller holds back -/
structure Ad where
  l : List Addr
  F : Addr → Prop
def Ad.push (A : Ad) (p : Addr) : Ad := ⟨A.l ++ [p], A.F⟩
def Ad.cut (A : Ad) (n : Nat) : Ad := ⟨A.l.take n, A.F⟩
def Live (A : Ad) (M : Sto) (a : Addr) : Prop := (∃ (j : Nat) (m : Mo), A.l[j]? = some a ∧ M[j]? = some (some m)) ∨ A.F a

mutual
def Den (L : Addr → Prop) (H : Hp) : PyData → V → Prop
  | .none, v => v = .non
  | .bool b, v => v = .bl b
  | .int i, v => v = .int i
  | .str x, v => v = .str x
  | .list ds, v => ∃ a vs, v = .ref a ∧ ¬ L a ∧ H a = some (.lst vs) ∧ Dens L H ds vs
  | .tuple ds, v => ∃ a vs, v = .ref a ∧ ¬ L a ∧ H a = some (.tup vs) ∧ Dens L H ds vs
  | .dict kvs, v => ∃ a, v = .ref a ∧ ¬ L a ∧ ((∃ ws, H a = some (.dK ws) ∧ DenK L H kvs ws) ∨ (∃ ws, H a = some (.dT ws) ∧ DenT L H kvs ws))
def Dens (L : Addr → Prop) (H : Hp) : List PyData → List V → Prop
  | [], vs => vs = []
  | d :: ds, vs => ∃ v r, vs = v :: r ∧ Den L H d v ∧ Dens L H ds r
def DenK (L : Addr → Prop) (H : Hp) : List (PyData × PyData) → List (Key × V) → Prop
  | [], ws => ws = []
  | (k, d) :: r, ws => ∃ kk v ws', ws = (kk, v) :: ws' ∧ k = ofKey kk ∧ Den L H d v ∧ DenK L H r ws'
def DenT (L : Addr → Prop) (H : Hp) : List (PyData × PyData) → List (List Key × V) → Prop
  | [], ws => ws = []
  | (k, d) :: r, ws => ∃ kk v ws', ws = (kk, v) :: ws' ∧ k = .tuple (kk.map ofKey) ∧ Den L H d v ∧ DenT L H r ws'
end

def DenD (A : Ad) (L : Addr → Prop) (H : Hp) : D → V → Prop
  | .dat p, v => Den L H p v
  | .own j, v => ∃ a, v = .ref a ∧ A.l[j]? = some a
  | .raw u, v => v = u
  | .scr K ns, v => ∃ a, v = .ref a ∧ ((Rd H a (.lst (ns.map V.int)) ∧ ¬ L a) ∨ ∀ H2 : Hp, SqL K H2 a (ns.map V.int))

/-- what stays: all but the store's objects -/
structure Grow (A : Ad) (M : Sto) (H : Hp) (A' : Ad) (M' : Sto) (H' : Hp) : Prop where
  pre : ∀ (j : Nat) (a : Addr), A.l[j]? = some a → A'.l[j]? = some a
  kp : ∀ b o, H b = some o → ¬ Live A M b → H' b = some o ∧ ¬ Live A' M' b
  lv : ∀ b, Live A' M' b → Live A M b ∨ H b = none
  fr : A'.F = A.F ∧ ∀ b, A.F b → H' b = H b

section
variable {A A' A2 : Ad} {M M' M2 : Sto} {H H' H2 : Hp} {L L' : Addr → Prop}
theorem Grow.refl : Grow A M H A M H := ⟨fun _ _ h => h, fun _ _ h n => ⟨h, n⟩, fun _ h => .inl h, rfl, fun _ _ => rfl⟩
/-- what is kept of data: tracked, not of the store -/
def Kept (L : Addr → Prop) (H : Hp) (L' : Addr → Prop) (H' : Hp) : Prop := ∀ b o, H b = some o → ¬ L b → H' b = some o ∧ ¬ L' b
mutual
theorem Den.kept (k : Kept L H L' H') : ∀ (d : PyData) (v : V), Den L H d v → Den L' H' d v
  | .none, v, h => h
  | .bool _, v, h => h
  | .int _, v, h => h
  | .str _, v, h => h
  | .list ds, v, h => by
    simp only [Den] at h ⊢
    obtain ⟨a, vs, e, n, r, t⟩ := h
    exact ⟨a, vs, e, (k a _ r n).2, (k a _ r n).1, Dens.kept k ds vs t⟩
  | .tuple ds, v, h => by
    simp only [Den] at h ⊢
    obtain ⟨a, vs, e, n, r, t⟩ := h
    exact ⟨a, vs, e, (k a _ r n).2, (k a _ r n).1, Dens.kept k ds vs t⟩
  | .dict kvs, v, h => by
    simp only [Den] at h ⊢
    obtain ⟨a, e, n, h⟩ := h
    rcases h with ⟨ws, r, t⟩ | ⟨ws, r, t⟩
    · exact ⟨a, e, (k a _ r n).2, .inl ⟨ws, (k a _ r n).1, DenK.kept k kvs ws t⟩⟩
    · exact ⟨a, e, (k a _ r n).2, .inr ⟨ws, (k a _ r n).1, DenT.kept k kvs ws t⟩⟩
theorem Dens.kept (k : Kept L H L' H') : ∀ (ds : List PyData) (vs : List V), Dens L H ds vs → Dens L' H' ds vs
  | [], vs, h => h
  | d :: ds, vs, h => by
    simp only [Dens] at h ⊢
    obtain ⟨v, r, e, h1, h2⟩ := h
    exact ⟨v, r, e, Den.kept k d v h1, Dens.kept k ds r h2⟩
theorem DenK.kept (k : Kept L H L' H') : ∀ (kvs : List (PyData × PyData)) (ws : List (Key × V)), DenK L H kvs ws → DenK L' H' kvs ws
  | [], ws, h => h
  | (x, d) :: r, ws, h => by
    simp only [DenK] at h ⊢
    obtain ⟨kk, v, ws', e, e2, h1, h2⟩ := h
    exact ⟨kk, v, ws', e, e2, Den.kept k d v h1, DenK.kept k r ws' h2⟩
theorem DenT.kept (k : Kept L H L' H') : ∀ (kvs : List (PyData × PyData)) (ws : List (List Key × V)), DenT L H kvs ws → DenT L' H' kvs ws
  | [], ws, h => h
  | (x, d) :: r, ws, h => by
    simp only [DenT] at h ⊢
    obtain ⟨kk, v, ws', e, e2, h1, h2⟩ := h
    exact ⟨kk, v, ws', e, e2, Den.kept k d v h1, DenT.kept k r ws' h2⟩
end
theorem Grow.kept (g : Grow A M H A' M' H') : Kept (Live A M) H (Live A' M') H' := g.kp
theorem Grow.trans (a : Grow A M H A' M' H') (b : Grow A' M' H' A2 M2 H2) : Grow A M H A2 M2 H2 where
  pre := fun j x h => b.pre j x (a.pre j x h)
  kp := fun c o h n => by
    obtain ⟨h1, n1⟩ := a.kp c o h n
    exact b.kp c o h1 n1
  lv := fun c h => by
    rcases b.lv c h with h | h
    · exact a.lv c h
    · cases q : H c with
      | none => exact .inr rfl
      | some o =>
        by_cases n : Live A M c
        · exact .inl n
        · rw [(a.kp c o q n).1] at h
          cases h
  fr := ⟨b.fr.1.trans a.fr.1, fun c h => (b.fr.2 c (by rw [a.fr.1]; exact h)).trans (a.fr.2 c h)⟩
theorem DenD.grow (g : Grow A M H A' M' H') : ∀ (d : D) (v : V), DenD A (Live A M) H d v → DenD A' (Live A' M') H' d v
  | .dat p, v, h => Den.kept g.kept p v h
  | .own j, v, h => by
    obtain ⟨a, e, h⟩ := h
    exact ⟨a, e, g.pre j a h⟩
  | .raw u, v, h => h
  | .scr K ns, v, h => by
    obtain ⟨a, e, h⟩ := h
    refine ⟨a, e, ?_⟩
    rcases h with ⟨h, n⟩ | h
    · rcases h with h | ⟨o, h⟩
      · exact .inl ⟨.inl (g.kp a _ h n).1, (g.kp a _ h n).2⟩
      · exact .inl ⟨.inr ⟨o, (g.kp a _ h n).1⟩, (g.kp a _ h n).2⟩
    · exact .inr h
end

/-- the keys and values of a dict of the store -/
def DicG {κ : Type} (A : Ad) (L : Addr → Prop) (H : Hp) (kvs : List (κ × D)) (ws : List (κ × V)) : Prop := Paired (fun x y => x.1 = y.1 ∧ DenD A L H x.2 y.2) kvs ws

/-- no tuple -/
def NT : HO → Prop
  | .tup _ => False
  | _ => True
def MoOk (A : Ad) (L : Addr → Prop) (H : Hp) (a : Addr) : Mo → Prop
  | .lst ds => ∃ vs, H a = some (.lst vs) ∧ Dens L H ds vs
  | .dic kvs => ∃ ws, H a = some (.dK ws) ∧ DicG A L H kvs ws
  | .dit kvs => ∃ ws, H a = some (.dT ws) ∧ DicG A L H kvs ws
  | .raw o => H a = some o ∧ NT o

structure Store (A : Ad) (M : Sto) (H : Hp) : Prop where
  len : A.l.length = M.length
  inj : ∀ (i j : Nat) (a : Addr) (m n : Mo), A.l[i]? = some a → A.l[j]? = some a → M[i]? = some (some m) → M[j]? = some (some n) → i = j
  ok : ∀ (j : Nat) (a : Addr) (m : Mo), A.l[j]? = some a → M[j]? = some (some m) → MoOk A (Live A M) H a m
  fr : ∀ b, A.F b → (∃ o, H b = some o ∧ NT o) ∧ ∀ (j : Nat) (m : Mo), A.l[j]? = some b → M[j]? = some (some m) → False

structure Rep (A : Ad) (G : Gm) (M : Sto) (σ : L2.St) (H : Hp) : Prop where
  sto : Store A M H
  sl : ∀ (i : Nat) (d : D), G[i]? = some (some d) → ∃ v, σ[i]? = some (some v) ∧ DenD A (Live A M) H d v
  len : G.length = σ.length

section
variable {A A' A2 : Ad} {M M' M2 : Sto} {H H' H2 : Hp} {L L' : Addr → Prop} {G : Gm} {σ : L2.St}
theorem Rep.grow (r : Rep A G M σ H) (g : Grow A M H A' M' H') (s : Store A' M' H') : Rep A' G M' σ H' := ⟨s, fun i d h => by
  obtain ⟨v, e, q⟩ := r.sl i d h
  exact ⟨v, e, DenD.grow g d v q⟩, r.len⟩
theorem DicG.grow {κ : Type} (g : Grow A M H A' M' H') {kvs : List (κ × D)} {ws : List (κ × V)} (h : DicG A (Live A M) H kvs ws) : DicG A' (Live A' M') H' kvs ws :=
  Paired.mapP h fun _ _ r => ⟨r.1, DenD.grow g _ _ r.2⟩
/-- an object of the store stays where its address does -/
theorem MoOk.grow (g : Grow A M H A' M' H') {a : Addr} (e : H' a = H a) : ∀ m : Mo, MoOk A (Live A M) H a m → MoOk A' (Live A' M') H' a m
  | .lst ds, h => by
    obtain ⟨vs, h1, h2⟩ := h
    exact ⟨vs, by rw [e]; exact h1, Dens.kept g.kept ds vs h2⟩
  | .dic kvs, h => by
    obtain ⟨ws, h1, h2⟩ := h
    exact ⟨ws, by rw [e]; exact h1, DicG.grow g h2⟩
  | .dit kvs, h => by
    obtain ⟨ws, h1, h2⟩ := h
    exact ⟨ws, by rw [e]; exact h1, DicG.grow g h2⟩
  | .raw o, h => by
    obtain ⟨h, n⟩ := h
    exact ⟨by rw [e]; exact h, n⟩
theorem MoOk.someN {a : Addr} : ∀ {m : Mo}, MoOk A L H a m → ∃ o, H a = some o ∧ NT o
  | .lst ds, ⟨_, h, _⟩ => ⟨_, h, trivial⟩
  | .dic kvs, ⟨_, h, _⟩ => ⟨_, h, trivial⟩
  | .dit kvs, ⟨_, h, _⟩ => ⟨_, h, trivial⟩
  | .raw o, ⟨h, n⟩ => ⟨_, h, n⟩
theorem MoOk.some {a : Addr} {m : Mo} (h : MoOk A L H a m) : ∃ o, H a = some o := let ⟨o, e, _⟩ := h.someN; ⟨o, e⟩
theorem Store.liveN (s : Store A M H) {a : Addr} (h : Live A M a) : ∃ o, H a = some o ∧ NT o := by
  rcases h with ⟨j, m, h1, h2⟩ | h
  · exact (s.ok j a m h1 h2).someN
  · exact (s.fr a h).1
/-- a tuple is no object of the store -/
theorem Store.tup (s : Store A M H) {a : Addr} {xs : List V} (h : H a = .some (.tup xs)) : ¬ Live A M a := fun l => by
  obtain ⟨o, e, n⟩ := s.liveN l
  rw [h] at e
  cases e
  exact n
theorem Store.live (s : Store A M H) {a : Addr} (h : Live A M a) : ∃ o, H a = some o := let ⟨o, e, _⟩ := s.liveN h; ⟨o, e⟩
theorem Store.fresh (s : Store A M H) {p : Addr} (h : H p = none) : ¬ Live A M p := fun l => by
  obtain ⟨o, e⟩ := s.live l
  rw [h] at e
  cases e
/-- a new object that is data: the store as it is -/
theorem Store.new (s : Store A M H) {p : Addr} {o : HO} (h : H p = none) : Grow A M H A M (upd H p o) ∧ Store A M (upd H p o) := by
  have kp : ∀ b u, H b = some u → upd H p o b = some u := fun b u e => by rw [upd_ne (ne_of_none e h)]; exact e
  have g : Grow A M H A M (upd H p o) := ⟨fun _ _ h => h, fun b u e n => ⟨kp b u e, n⟩, fun _ h => .inl h, rfl, fun b hb => by
    obtain ⟨u, hu, _⟩ := (s.fr b hb).1
    rw [kp b u hu, hu]⟩
  refine ⟨g, s.len, s.inj, fun j a m h1 h2 => ?_, fun b hb => ⟨?_, (s.fr b hb).2⟩⟩
  · have q := s.ok j a m h1 h2
    obtain ⟨u, hu⟩ := q.some
    exact MoOk.grow g (upd_ne (ne_of_none hu h)) m q
  · obtain ⟨u, hu, hn⟩ := (s.fr b hb).1
    exact ⟨u, kp b u hu, hn⟩
/-- a new object of the store -/
theorem Live.push_old {p : Addr} {m : Option Mo} (l : A.l.length = M.length) {b : Addr} (h : Live A M b) : Live (A.push p) (M ++ [m]) b := by
  rcases h with ⟨j, n, h1, h2⟩ | h
  · have hj := (List.getElem?_eq_some_iff.mp h1).1
    have hj2 : j < M.length := by omega
    exact .inl ⟨j, n, by show (A.l ++ [p])[j]? = _; rw [List.getElem?_append_left hj]; exact h1, by rw [List.getElem?_append_left hj2]; exact h2⟩
  · exact .inr h
theorem Live.push {p : Addr} {m : Option Mo} (l : A.l.length = M.length) {b : Addr} (h : Live (A.push p) (M ++ [m]) b) : Live A M b ∨ b = p := by
  rcases h with ⟨j, n, h1, h2⟩ | h
  · replace h1 : (A.l ++ [p])[j]? = some b := h1
    by_cases hj : j < A.l.length
    · have hj2 : j < M.length := by omega
      rw [List.getElem?_append_left hj] at h1
      rw [List.getElem?_append_left hj2] at h2
      exact .inl (.inl ⟨j, n, h1, h2⟩)
    · have hlt := (List.getElem?_eq_some_iff.mp h1).1
      have e : j = A.l.length := by simp at hlt; omega
      subst e
      simp at h1
      exact .inr h1.symm
  · exact .inl (.inr h)
theorem Store.push (s : Store A M H) {p : Addr} {o : HO} {m : Mo} (h : H p = none) (hm : MoOk (A.push p) (Live (A.push p) (M ++ [some m])) (upd H p o) p m) :
    Grow A M H (A.push p) (M ++ [some m]) (upd H p o) ∧ Store (A.push p) (M ++ [some m]) (upd H p o) := by
  have kp : ∀ b u, H b = some u → upd H p o b = some u := fun b u e => by rw [upd_ne (ne_of_none e h)]; exact e
  have g : Grow A M H (A.push p) (M ++ [some m]) (upd H p o) := by
    refine ⟨fun j a q => ?_, fun b u e n => ⟨kp b u e, fun l => ?_⟩, fun b l => ?_, rfl, fun b hb => ?_⟩
    · show (A.l ++ [p])[j]? = _
      rw [List.getElem?_append_left (List.getElem?_eq_some_iff.mp q).1]; exact q
    · rcases l.push s.len with l | l
      · exact n l
      · subst l; rw [h] at e; cases e
    · rcases l.push s.len with l | l
      · exact .inl l
      · subst l; exact .inr h
    · obtain ⟨u, hu, _⟩ := (s.fr b hb).1
      rw [kp b u hu, hu]
  have old : ∀ {k : Nat} {x : Addr} {m2 : Mo}, k < A.l.length → (A.push p).l[k]? = some x → (M ++ [some m])[k]? = some (some m2) → A.l[k]? = some x ∧ M[k]? = some (some m2) := fun {k x m2} hk e1 e2 => by
    replace e1 : (A.l ++ [p])[k]? = some x := e1
    rw [List.getElem?_append_left hk] at e1
    rw [List.getElem?_append_left (by have := s.len; omega)] at e2
    exact ⟨e1, e2⟩
  have new : ∀ {k : Nat} {x : Addr}, ¬ k < A.l.length → (A.push p).l[k]? = some x → k = A.l.length ∧ x = p := fun {k x} hk e1 => by
    replace e1 : (A.l ++ [p])[k]? = some x := e1
    have hlt := (List.getElem?_eq_some_iff.mp e1).1
    simp at hlt
    have e : k = A.l.length := by omega
    subst e; simp at e1; exact ⟨rfl, e1.symm⟩
  refine ⟨g, by show (A.l ++ [p]).length = _; simp [s.len], fun i j a m1 n1 hi hj mi mj => ?_, fun j a m1 h1 h2 => ?_, fun b hb => ⟨?_, fun j m1 h1 h2 => ?_⟩⟩
  · by_cases h1 : i < A.l.length
    · by_cases h2 : j < A.l.length
      · obtain ⟨a1, a2⟩ := old h1 hi mi
        obtain ⟨b1, b2⟩ := old h2 hj mj
        exact s.inj i j a m1 n1 a1 b1 a2 b2
      · obtain ⟨_, e⟩ := new h2 hj
        subst e
        obtain ⟨a1, a2⟩ := old h1 hi mi
        obtain ⟨u, hu⟩ := (s.ok i a m1 a1 a2).some
        rw [h] at hu; cases hu
    · by_cases h2 : j < A.l.length
      · obtain ⟨_, e⟩ := new h1 hi
        subst e
        obtain ⟨b1, b2⟩ := old h2 hj mj
        obtain ⟨u, hu⟩ := (s.ok j a n1 b1 b2).some
        rw [h] at hu; cases hu
      · have e1 := (new h1 hi).1
        have e2 := (new h2 hj).1
        omega
  · by_cases hj : j < A.l.length
    · obtain ⟨a1, a2⟩ := old hj h1 h2
      have q := s.ok j a m1 a1 a2
      obtain ⟨u, hu⟩ := q.some
      exact MoOk.grow g (upd_ne (ne_of_none hu h)) m1 q
    · obtain ⟨e, e1⟩ := new hj h1
      subst e e1
      have e2 : (M ++ [some m])[A.l.length]? = some (some m) := by rw [s.len]; simp
      rw [e2] at h2
      cases h2
      exact hm
  · obtain ⟨u, hu, hn⟩ := (s.fr b hb).1
    exact ⟨u, kp b u hu, hn⟩
  · by_cases hj : j < A.l.length
    · obtain ⟨a1, a2⟩ := old hj h1 h2
      exact (s.fr b hb).2 j m1 a1 a2
    · obtain ⟨_, e1⟩ := new hj h1
      subst e1
      obtain ⟨u, hu, _⟩ := (s.fr b hb).1
      rw [h] at hu; cases hu
/-- an object of the store is changed -/
theorem Live.set {j : Nat} {m : Mo} {b : Addr} (h : Live A (M.set j (some m)) b) (hj : ∃ n, M[j]? = some (some n)) : Live A M b := by
  rcases h with ⟨i, n, h1, h2⟩ | h
  · by_cases e : j = i
    · subst e
      obtain ⟨n', hn⟩ := hj
      exact .inl ⟨j, n', h1, hn⟩
    · rw [List.getElem?_set_ne e] at h2
      exact .inl ⟨i, n, h1, h2⟩
  · exact .inr h
theorem Live.set' {j : Nat} {m : Mo} {b : Addr} (h : Live A M b) (hj : ∃ n, M[j]? = some (some n)) : Live A (M.set j (some m)) b := by
  rcases h with ⟨i, n, h1, h2⟩ | h
  · by_cases e : j = i
    · subst e
      exact .inl ⟨j, m, h1, by rw [List.getElem?_set_self (List.getElem?_eq_some_iff.mp h2).1]⟩
    · exact .inl ⟨i, n, h1, by rw [List.getElem?_set_ne e]; exact h2⟩
  · exact .inr h
/-- what a change at a live object's address keeps -/
theorem Store.kp_at (s : Store A M H) {j : Nat} {a : Addr} {o : HO} {n : Mo} (ha : A.l[j]? = some a) (hn : M[j]? = some (some n)) : Grow A M H A M (upd H a o) := by
  have la : Live A M a := .inl ⟨j, n, ha, hn⟩
  exact ⟨fun _ _ h => h, fun b u e nl => ⟨by rw [upd_ne (fun z => nl (by rw [z]; exact la))]; exact e, nl⟩, fun _ h => .inl h, rfl, fun b hb => upd_ne fun z => by
    subst z
    exact (s.fr _ hb).2 j n ha hn⟩
theorem Store.set (s : Store A M H) {j : Nat} {a : Addr} {o : HO} {m n : Mo} (ha : A.l[j]? = some a) (hn : M[j]? = some (some n)) (hm : MoOk A (Live A M) (upd H a o) a m) :
    Grow A M H A (M.set j (some m)) (upd H a o) ∧ Store A (M.set j (some m)) (upd H a o) := by
  have lv : Live A (M.set j (some m)) = Live A M := funext fun b => propext ⟨fun l => l.set ⟨n, hn⟩, fun l => l.set' ⟨n, hn⟩⟩
  have g0 := s.kp_at (o := o) ha hn
  have g : Grow A M H A (M.set j (some m)) (upd H a o) := ⟨g0.pre, fun b u e nl => by rw [lv]; exact g0.kp b u e nl, fun b l => by rw [lv] at l; exact .inl l, g0.fr⟩
  have f : ∀ {i : Nat} {m1 : Mo}, (M.set j (some m))[i]? = some (some m1) → ∃ m2, M[i]? = some (some m2) := fun {i m1} q => by
    by_cases e : j = i
    · subst e; exact ⟨n, hn⟩
    · rw [List.getElem?_set_ne e] at q; exact ⟨m1, q⟩
  refine ⟨g, by rw [List.length_set]; exact s.len, fun i k x m1 n1 hi hk mi mk => ?_, fun i x m1 h1 h2 => ?_, fun b hb => ⟨?_, fun i m1 h1 h2 => ?_⟩⟩
  · obtain ⟨m2, q1⟩ := f mi
    obtain ⟨n2, q2⟩ := f mk
    exact s.inj i k x m2 n2 hi hk q1 q2
  · by_cases e : j = i
    · subst e
      rw [List.getElem?_set_self (List.getElem?_eq_some_iff.mp hn).1] at h2
      cases h2
      rw [ha] at h1
      cases h1
      rw [lv]
      exact hm
    · rw [List.getElem?_set_ne e] at h2
      have q := s.ok i x m1 h1 h2
      have hx : x ≠ a := fun z => by subst z; exact e (s.inj j i x n m1 ha h1 hn h2)
      exact MoOk.grow g (upd_ne hx) m1 q
  · obtain ⟨u, hu, hN⟩ := (s.fr b hb).1
    exact ⟨u, by rw [g.fr.2 b hb]; exact hu, hN⟩
  · obtain ⟨m2, q1⟩ := f h2
    exact (s.fr b hb).2 i m2 h1 q1
/-- the last objects of the store go -/
def D.cl (n : Nat) : D → Prop
  | .own j => j < n
  | _ => True
def Mo.cl (n : Nat) : Mo → Prop
  | .dic kvs => ∀ x ∈ kvs, x.2.cl n
  | .dit kvs => ∀ x ∈ kvs, x.2.cl n
  | _ => True
theorem cut_at {n j : Nat} {a : Addr} (h : (A.cut n).l[j]? = some a) : j < n ∧ A.l[j]? = some a := by
  replace h : (A.l.take n)[j]? = some a := h
  rw [List.getElem?_take] at h
  split at h
  · rename_i hj
    exact ⟨hj, h⟩
  · cases h
theorem Live.take {n : Nat} {b : Addr} (h : Live (A.cut n) (M.take n) b) : Live A M b := by
  rcases h with ⟨j, m, h1, h2⟩ | h
  · obtain ⟨hj, h1⟩ := cut_at h1
    rw [List.getElem?_take, if_pos hj] at h2
    exact .inl ⟨j, m, h1, h2⟩
  · exact .inr h
theorem kept_take {n : Nat} : Kept (Live A M) H (Live (A.cut n) (M.take n)) H := fun b o e nl => ⟨e, fun l => nl l.take⟩
theorem DenD.take {n : Nat} : ∀ (d : D) (v : V), d.cl n → DenD A (Live A M) H d v → DenD (A.cut n) (Live (A.cut n) (M.take n)) H d v
  | .dat p, v, _, h => Den.kept kept_take p v h
  | .own j, v, c, h => by
    obtain ⟨a, e, h⟩ := h
    exact ⟨a, e, by show (A.l.take n)[j]? = _; rw [List.getElem?_take, if_pos (show j < n from c)]; exact h⟩
  | .raw u, v, _, h => h
  | .scr K ns, v, _, h => by
    obtain ⟨a, e, h⟩ := h
    refine ⟨a, e, ?_⟩
    rcases h with ⟨h, n⟩ | h
    · exact .inl ⟨h, fun l => n l.take⟩
    · exact .inr h
theorem DicG.take {κ : Type} {n : Nat} : ∀ {kvs : List (κ × D)} {ws : List (κ × V)}, (∀ x ∈ kvs, x.2.cl n) → DicG A (Live A M) H kvs ws → DicG (A.cut n) (Live (A.cut n) (M.take n)) H kvs ws
  | _, _, _, .nil => .nil
  | _, _, c, .cons h t => .cons ⟨h.1, DenD.take _ _ (c _ List.mem_cons_self) h.2⟩ (DicG.take (fun y hy => c y (List.mem_cons_of_mem _ hy)) t)
theorem MoOk.take {n : Nat} {a : Addr} : ∀ m : Mo, m.cl n → MoOk A (Live A M) H a m → MoOk (A.cut n) (Live (A.cut n) (M.take n)) H a m
  | .lst ds, _, ⟨vs, h1, h2⟩ => ⟨vs, h1, Dens.kept kept_take ds vs h2⟩
  | .dic kvs, c, ⟨ws, h1, h2⟩ => ⟨ws, h1, DicG.take c h2⟩
  | .dit kvs, c, ⟨ws, h1, h2⟩ => ⟨ws, h1, DicG.take c h2⟩
  | .raw o, _, h => h
theorem Store.take (s : Store A M H) (n : Nat) (c : ∀ (j : Nat) (m : Mo), j < n → M[j]? = some (some m) → m.cl n) : Store (A.cut n) (M.take n) H := by
  have f : ∀ {j : Nat} {x : Option Mo}, j < n → (M.take n)[j]? = some x → M[j]? = some x := fun {j x} hj e => by
    rw [List.getElem?_take, if_pos hj] at e
    exact e
  refine ⟨by show (A.l.take n).length = _; rw [List.length_take, List.length_take, s.len], fun i j a m1 n1 hi hj mi mj => ?_, fun j a m h1 h2 => ?_, fun b hb => ⟨(s.fr b hb).1, fun j m h1 h2 => ?_⟩⟩
  · obtain ⟨l1, hi⟩ := cut_at hi
    obtain ⟨l2, hj⟩ := cut_at hj
    exact s.inj i j a m1 n1 hi hj (f l1 mi) (f l2 mj)
  · obtain ⟨l1, h1⟩ := cut_at h1
    exact MoOk.take m (c j m l1 (f l1 h2)) (s.ok j a m h1 (f l1 h2))
  · obtain ⟨l1, h1⟩ := cut_at h1
    exact (s.fr b hb).2 j m h1 (f l1 h2)
theorem Grow.take {A0 : Ad} {M0 : Sto} {H0 : Hp} (g : Grow A0 M0 H0 A M H) {n : Nat} (hn : A0.l.length ≤ n) : Grow A0 M0 H0 (A.cut n) (M.take n) H := by
  refine ⟨fun j a h => ?_, fun b o e nl => ⟨(g.kp b o e nl).1, fun l => (g.kp b o e nl).2 l.take⟩, fun b l => g.lv b l.take, g.fr⟩
  have hj := (List.getElem?_eq_some_iff.mp h).1
  show (A.l.take n)[j]? = _
  rw [List.getElem?_take, if_pos (by omega)]
  exact g.pre j a h
end
end AM
end

section
set_option Elab.async false
set_option linter.all false
set_option maxRecDepth 100000
set_option maxHeartbeats 4000000
namespace AM
open PySem PySem.Spec L2

abbrev K1 := D → Sto → Prop
abbrev AE := Gm → Sto → K1 → Prop
abbrev AT := Gm → Sto → (Bool → Sto → Prop) → Prop
abbrev AA := Gm → Sto → (List D → Sto → Prop) → Prop
abbrev A1 := D → Sto → K1 → Prop
abbrev A2 := D → D → Sto → K1 → Prop
abbrev AL := List D → Sto → K1 → Prop

def DenDs (A : Ad) (L : Addr → Prop) (H : Hp) : List D → List V → Prop := Paired fun d v => DenD A L H d v

/-- what is wanted of a result, over the heap -/
def Post (A : Ad) (M : Sto) (H : Hp) (Ψ : K1) (Q : VK) : Prop :=
  ∀ v d A' M' H', Ψ d M' → Grow A M H A' M' H' → Store A' M' H' → DenD A' (Live A' M') H' d v → Q v H'

section
variable {A A' : Ad} {M M' : Sto} {H H' : Hp} {G : Gm} {σ : L2.St} {Ψ : K1} {Q : VK}
theorem DenDs.grow (g : Grow A M H A' M' H') : ∀ {ds : List D} {vs : List V}, DenDs A (Live A M) H ds vs → DenDs A' (Live A' M') H' ds vs
  | _, _, .nil => .nil
  | _, _, .cons h t => .cons (DenD.grow g _ _ h) (DenDs.grow g t)
theorem Post.grow (p : Post A M H Ψ Q) (g : Grow A M H A' M' H') : Post A' M' H' Ψ Q := fun v d A2 M2 H2 h g2 s q => p v d A2 M2 H2 h (g.trans g2) s q
/-- the state as it is -/
theorem Post.here (p : Post A M H Ψ Q) (s : Store A M H) {d : D} {v : V} (h : Ψ d M) (q : DenD A (Live A M) H d v) : Q v H := p v d A M H h Grow.refl s q
end

/-- an abstract rule as a rule of the hand layer -/
def c1 (r : A1) : V → Hp → VK → Prop := fun x H Q => ∃ A M d Ψ, Store A M H ∧ DenD A (Live A M) H d x ∧ r d M Ψ ∧ Post A M H Ψ Q
def c2 (r : A2) : R2 := fun x y H Q => ∃ A M d e Ψ, Store A M H ∧ DenD A (Live A M) H d x ∧ DenD A (Live A M) H e y ∧ r d e M Ψ ∧ Post A M H Ψ Q
def cL (r : AL) : List V → Hp → VK → Prop := fun xs H Q => ∃ A M ds Ψ, Store A M H ∧ DenDs A (Live A M) H ds xs ∧ r ds M Ψ ∧ Post A M H Ψ Q
def cM (r : D → AL) : V → List V → Hp → VK → Prop := fun x xs H Q => ∃ A M d ds Ψ, Store A M H ∧ DenD A (Live A M) H d x ∧ DenDs A (Live A M) H ds xs ∧ r d ds M Ψ ∧ Post A M H Ψ Q

/-- a reading and its abstract one -/
def LE (te : TE) (ae : AE) : Prop := ∀ A G M σ H Ψ Q, Rep A G M σ H → ae G M Ψ → Post A M H Ψ Q → te σ H Q
def PostT (A : Ad) (M : Sto) (H : Hp) (Ψ : Bool → Sto → Prop) (Q : Bool → Hp → Prop) : Prop :=
  ∀ b A' M' H', Ψ b M' → Grow A M H A' M' H' → Store A' M' H' → Q b H'
def PostA (A : Ad) (M : Sto) (H : Hp) (Ψ : List D → Sto → Prop) (Q : List V → Hp → Prop) : Prop :=
  ∀ vs ds A' M' H', Ψ ds M' → Grow A M H A' M' H' → Store A' M' H' → DenDs A' (Live A' M') H' ds vs → Q vs H'
def LT (tt : TT) (at_ : AT) : Prop := ∀ A G M σ H Ψ Q, Rep A G M σ H → at_ G M Ψ → PostT A M H Ψ Q → tt σ H Q
def LA (ta : TA) (aa : AA) : Prop := ∀ A G M σ H Ψ Q, Rep A G M σ H → aa G M Ψ → PostA A M H Ψ Q → ta σ H Q

structure DE (X : Cx) (e : Expr) (te : TE) (ae : AE) : Prop where
  pe : PE X e te
  le : LE te ae
structure DT (X : Cx) (e : Expr) (tt : TT) (at_ : AT) : Prop where
  pt : PT X e tt
  lt : LT tt at_
structure DW (X : Cx) (e : Expr) (tt : TT) (at_ : AT) : Prop where
  pw : PW X e tt
  lt : LT tt at_
structure DA (X : Cx) (es : List Expr) (ta : TA) (aa : AA) : Prop where
  pa : PA X es ta
  la : LA ta aa

/-! ### names, constants -/
def aVar (i : Nat) : AE := fun G M Ψ => match G[i]? with
  | some (some d) => Ψ d M
  | _ => False
def aC (d : D) : AE := fun _ M Ψ => Ψ d M
theorem le_var {i : Nat} : LE (tVar i) (aVar i) := fun A G M σ H Ψ Q R h p => by
  unfold aVar at h
  split at h
  · rename_i d e
    obtain ⟨v, e1, q⟩ := R.sl i d e
    exact ⟨v, e1, p.here R.sto h q⟩
  · exact h.elim
theorem le_int {i : Int} : LE (tC (.int i)) (aC (.dat (.int i))) := fun A G M σ H Ψ Q R h p => p.here R.sto h (rfl)
theorem le_bl {b : Bool} : LE (tC (.bl b)) (aC (.dat (.bool b))) := fun A G M σ H Ψ Q R h p => p.here R.sto h (rfl)
theorem le_str {x : Str} : LE (tC (.str x)) (aC (.dat (.str x))) := fun A G M σ H Ψ Q R h p => p.here R.sto h (rfl)
theorem le_non : LE (tC .non) (aC (.dat .none)) := fun A G M σ H Ψ Q R h p => p.here R.sto h (rfl)
theorem le_raw {v : V} : LE (tC v) (aC (.raw v)) := fun A G M σ H Ψ Q R h p => p.here R.sto h (rfl)
section
variable {X : Cx} {a b c : Expr} {ta tb tc : TE} {aa ab ac : AE} {pos : Pos}
theorem dv (i : Nat) {x : Str} (hN : X.N[i]? = some x := by rfl) (hv : Vis X.env.scope x := by first | exact Or.inl rfl | exact Or.inr (Or.inl rfl) | exact Or.inr (Or.inr rfl)) (hd : (x == ("__debug__" : Str)) = false := by decide)
    (hcd : (x == ("__classdict__" : Str)) = false := by decide) : DE X (.Name x pos) (tVar i) (aVar i) := ⟨pe_var hN hv hd hcd, le_var⟩
theorem d_int {i : Int} {j : Nat} : DE X (.Constant (.int i) j pos) (tC (.int i)) (aC (.dat (.int i))) := ⟨pe_int, le_int⟩
theorem d_bl {b : Bool} {j : Nat} : DE X (.Constant (.bool b) j pos) (tC (.bl b)) (aC (.dat (.bool b))) := ⟨pe_bl, le_bl⟩
theorem d_non {j : Nat} : DE X (.Constant .none j pos) (tC .non) (aC (.dat .none)) := ⟨pe_non, le_non⟩
theorem d_str {x : Str} {j : Nat} : DE X (.Constant (.str x) j pos) (tC (.str x)) (aC (.dat (.str x))) := ⟨pe_str, le_str⟩

/-! ### operators -/
def aOp (r : A2) (aa ab : AE) : AE := fun G M Ψ => aa G M fun d M1 => ab G M1 fun e M2 => r d e M2 Ψ
def aUn (r : A1) (aa : AE) : AE := fun G M Ψ => aa G M fun d M1 => r d M1 Ψ
theorem le_op {r : A2} (ha : LE ta aa) (hb : LE tb ab) : LE (tOp (c2 r) ta tb) (aOp r aa ab) := fun A G M σ H Ψ Q R h p =>
  ha A G M σ H _ _ R h fun v d A1 M1 H1 h1 g1 s1 q1 => hb A1 G M1 σ H1 _ _ (R.grow g1 s1) h1 fun u e A2 M2 H2 h2 g2 s2 q2 =>
    ⟨A2, M2, d, e, Ψ, s2, DenD.grow g2 d v q1, q2, h2, p.grow (g1.trans g2)⟩
theorem le_un {r : A1} (ha : LE ta aa) : LE (tUn (c1 r) ta) (aUn r aa) := fun A G M σ H Ψ Q R h p =>
  ha A G M σ H _ _ R h fun v d A1 M1 H1 h1 g1 s1 q1 => ⟨A1, M1, d, Ψ, s1, q1, h1, p.grow g1⟩
theorem d_op {op : Operator} {r : A2} (ho : OpR X (binaryOp op) (c2 r)) (ha : DE X a ta aa) (hb : DE X b tb ab) : DE X (.BinOp a op b pos) (tOp (c2 r) ta tb) (aOp r aa ab) := ⟨pe_op ho ha.pe hb.pe, le_op ha.le hb.le⟩
theorem d_un {op : UnaryOp} {r : A1} (ho : UnR X (unaryOp op) (c1 r)) (ha : DE X a ta aa) : DE X (.UnaryOp op a pos) (tUn (c1 r) ta) (aUn r aa) := ⟨pe_un ho ha.pe, le_un ha.le⟩
theorem d_cmp {op : CmpOp} {r : A2} (ho : OpR X (compareOp op) (c2 r)) (ha : DE X a ta aa) (hb : DE X b tb ab) (hm : behindInMarks op b = false := by first | exact nobehind _ (by decide) (by decide) | rfl) :
    DE X (.Compare a [op] [b] pos) (tOp (c2 r) ta tb) (aOp r aa ab) := ⟨pe_cmpR ho ha.pe hb.pe hm, le_op ha.le hb.le⟩
/-- a test by a value that is a bool -/
def aTst (ae : AE) : AT := fun G M Ψ => ae G M fun d M1 => match d with
  | .dat (.bool b) => Ψ b M1
  | _ => False
theorem lt_tst (ha : LE ta aa) : LT (tTest ta) (aTst aa) := fun A G M σ H Ψ Q R h p =>
  ha A G M σ H _ _ R h fun v d A1 M1 H1 h1 g1 s1 q1 => by
    revert h1
    split
    · rename_i b
      intro h1
      cases (show v = V.bl b from q1)
      exact ⟨b, rfl, p b A1 M1 H1 h1 g1 s1⟩
    · intro h; exact h.elim
theorem d_tcmp {op : CmpOp} {r : A2} (ho : OpR X (compareOp op) (c2 r)) (ha : DE X a ta aa) (hb : DE X b tb ab) (hm : behindInMarks op b = false := by first | exact nobehind _ (by decide) (by decide) | rfl) :
    DT X (.Compare a [op] [b] pos) (tTest (tOp (c2 r) ta tb)) (aTst (aOp r aa ab)) := ⟨pt_cmpR ho ha.pe hb.pe hm, lt_tst (le_op ha.le hb.le)⟩
/-- a < b < c -/
def aChain (r r' : A2) (aa ab ac : AE) : AE := fun G M Ψ => aa G M fun d M1 => ab G M1 fun e M2 => r d e M2 fun z M3 => match z with
  | .dat (.bool true) => ac G M3 fun f M4 => r' e f M4 Ψ
  | .dat (.bool false) => Ψ (.dat (.bool false)) M3
  | _ => False
theorem le_chain {r r' : A2} (ha : LE ta aa) (hb : LE tb ab) (hc : LE tc ac) : LE (tChain (c2 r) (c2 r') ta tb tc) (aChain r r' aa ab ac) := fun A G M σ H Ψ Q R h p =>
  ha A G M σ H _ _ R h fun v d A1 M1 H1 h1 g1 s1 q1 => hb A1 G M1 σ H1 _ _ (R.grow g1 s1) h1 fun u e A2 M2 H2 h2 g2 s2 q2 =>
    ⟨A2, M2, d, e, _, s2, DenD.grow g2 d v q1, q2, h2, fun w z A3 M3 H3 h3 g3 s3 q3 => by
      revert h3
      split
      · intro h3
        cases (show w = V.bl true from q3)
        refine ⟨true, rfl, ?_⟩
        rw [if_pos rfl]
        exact hc A3 G M3 σ H3 _ _ (R.grow ((g1.trans g2).trans g3) s3) h3 fun w4 f A4 M4 H4 h4 g4 s4 q4 =>
          ⟨A4, M4, e, f, Ψ, s4, DenD.grow (g3.trans g4) e u q2, q4, h4, p.grow (((g1.trans g2).trans g3).trans g4)⟩
      · intro h3
        cases (show w = V.bl false from q3)
        refine ⟨false, rfl, ?_⟩
        rw [if_neg Bool.false_ne_true]
        exact p _ _ A3 M3 H3 h3 ((g1.trans g2).trans g3) s3 rfl
      · intro h; exact h.elim⟩
theorem d_chain {op op' : CmpOp} {r r' : A2} (ho : OpR X (compareOp op) (c2 r)) (ho' : OpR X (compareOp op') (c2 r')) (ha : DE X a ta aa) (hb : DE X b tb ab) (hc : DE X c tc ac) (hm : lastMarks [op, op'] [b, c] = false := by rfl) :
    DE X (.Compare a [op, op'] [b, c] pos) (tChain (c2 r) (c2 r') ta tb tc) (aChain r r' aa ab ac) := ⟨pe_chain ho ho' ha.pe hb.pe hc.pe hm, le_chain ha.le hb.le hc.le⟩
theorem d_tchain {op op' : CmpOp} {r r' : A2} (ho : OpR X (compareOp op) (c2 r)) (ho' : OpR X (compareOp op') (c2 r')) (ha : DE X a ta aa) (hb : DE X b tb ab) (hc : DE X c tc ac) (hm : lastMarks [op, op'] [b, c] = false := by with_unfolding_all rfl) :
    DT X (.Compare a [op, op'] [b, c] pos) (tTest (tChain (c2 r) (c2 r') ta tb tc)) (aTst (aChain r r' aa ab ac)) := ⟨pt_chain ho ho' ha.pe hb.pe hc.pe hm, lt_tst (le_chain ha.le hb.le hc.le)⟩
/-- an expression as a test -/
theorem lt_b (ha : LE ta aa) : LT (tB ta) (aTst aa) := fun A G M σ H Ψ Q R h p =>
  ha A G M σ H _ _ R h fun v d A1 M1 H1 h1 g1 s1 q1 => by
    revert h1
    split
    · rename_i b
      intro h1
      cases (show v = V.bl b from q1)
      exact ⟨b, rfl, p b A1 M1 H1 h1 g1 s1⟩
    · intro h; exact h.elim
theorem d_tval (ha : DE X a ta aa) (he : ∀ whole, isTrue a X.env whole = (do let v ← whole; standAt a.pos; holding [v] (truthy v)) := by intro _; rfl) : DT X a (tB ta) (aTst aa) := ⟨pt_val ha.pe he, lt_b ha.le⟩

/-! ### and, or, not -/
variable {tA tB' : TT} {atA atB : AT} {rest : List Expr}
def aAnd (x y : AT) : AT := fun G M Ψ => x G M fun b M1 => if b = true then y G M1 Ψ else Ψ false M1
def aOr (x y : AT) : AT := fun G M Ψ => x G M fun b M1 => if b = true then Ψ true M1 else y G M1 Ψ
def aNot (x : AT) : AT := fun G M Ψ => x G M fun b M1 => Ψ (!b) M1
theorem lt_and (hx : LT tA atA) (hy : LT tB' atB) : LT (tAnd tA tB') (aAnd atA atB) := fun A G M σ H Ψ Q R h p =>
  hx A G M σ H _ _ R h fun b A1 M1 H1 h1 g1 s1 => by
    cases b with
    | true => exact hy A1 G M1 σ H1 _ _ (R.grow g1 s1) h1 fun b2 A2 M2 H2 h2 g2 s2 => p b2 A2 M2 H2 h2 (g1.trans g2) s2
    | false => exact p false A1 M1 H1 h1 g1 s1
theorem lt_or (hx : LT tA atA) (hy : LT tB' atB) : LT (tOr tA tB') (aOr atA atB) := fun A G M σ H Ψ Q R h p =>
  hx A G M σ H _ _ R h fun b A1 M1 H1 h1 g1 s1 => by
    cases b with
    | false => exact hy A1 G M1 σ H1 _ _ (R.grow g1 s1) h1 fun b2 A2 M2 H2 h2 g2 s2 => p b2 A2 M2 H2 h2 (g1.trans g2) s2
    | true => exact p true A1 M1 H1 h1 g1 s1
theorem lt_not (hx : LT tA atA) : LT (tNot tA) (aNot atA) := fun A G M σ H Ψ Q R h p =>
  hx A G M σ H _ _ R h fun b A1 M1 H1 h1 g1 s1 => p (!b) A1 M1 H1 h1 g1 s1
theorem DW.dt {e : Expr} (h : DW X e tA atA) : DT X e tA atA := ⟨h.pw.pt, h.lt⟩
theorem dw_and1 (ha : DT X a tA atA) : DW X (.BoolOp .And [a] pos) tA atA := ⟨pw_and1 ha.pt, ha.lt⟩
theorem dw_or1 (ha : DT X a tA atA) : DW X (.BoolOp .Or [a] pos) tA atA := ⟨pw_or1 ha.pt, ha.lt⟩
theorem dw_and (ha : DT X a tA atA) (hb : DW X (.BoolOp .And (b :: rest) pos) tB' atB) : DW X (.BoolOp .And (a :: b :: rest) pos) (tAnd tA tB') (aAnd atA atB) := ⟨pw_and ha.pt hb.pw, lt_and ha.lt hb.lt⟩
theorem dw_or (ha : DT X a tA atA) (hb : DW X (.BoolOp .Or (b :: rest) pos) tB' atB) : DW X (.BoolOp .Or (a :: b :: rest) pos) (tOr tA tB') (aOr atA atB) := ⟨pw_or ha.pt hb.pw, lt_or ha.lt hb.lt⟩
theorem d_tnot (ha : DT X a tA atA) : DT X (.UnaryOp .Not a pos) (tNot tA) (aNot atA) := ⟨pt_not ha.pt, lt_not ha.lt⟩
/-- .. as values: bools -/
def aAndV (x y : AE) : AE := fun G M Ψ => x G M fun d M1 => match d with
  | .dat (.bool b) => if b = true then y G M1 Ψ else Ψ (.dat (.bool false)) M1
  | _ => False
def aOrV (x y : AE) : AE := fun G M Ψ => x G M fun d M1 => match d with
  | .dat (.bool b) => if b = true then Ψ (.dat (.bool true)) M1 else y G M1 Ψ
  | _ => False
def aNotV (x : AE) : AE := fun G M Ψ => x G M fun d M1 => match d with
  | .dat (.bool b) => Ψ (.dat (.bool (!b))) M1
  | _ => False
theorem le_andV (hx : LE ta aa) (hy : LE tb ab) : LE (tAndV ta tb) (aAndV aa ab) := fun A G M σ H Ψ Q R h p =>
  hx A G M σ H _ _ R h fun v d A1 M1 H1 h1 g1 s1 q1 => by
    revert h1
    split
    · rename_i b
      intro h1
      cases (show v = V.bl b from q1)
      refine ⟨b, rfl, ?_⟩
      cases b with
      | true => exact hy A1 G M1 σ H1 _ _ (R.grow g1 s1) h1 (p.grow g1)
      | false => exact p _ _ A1 M1 H1 h1 g1 s1 rfl
    · intro h; exact h.elim
theorem le_orV (hx : LE ta aa) (hy : LE tb ab) : LE (tOrV ta tb) (aOrV aa ab) := fun A G M σ H Ψ Q R h p =>
  hx A G M σ H _ _ R h fun v d A1 M1 H1 h1 g1 s1 q1 => by
    revert h1
    split
    · rename_i b
      intro h1
      cases (show v = V.bl b from q1)
      refine ⟨b, rfl, ?_⟩
      cases b with
      | false => exact hy A1 G M1 σ H1 _ _ (R.grow g1 s1) h1 (p.grow g1)
      | true => exact p _ _ A1 M1 H1 h1 g1 s1 rfl
    · intro h; exact h.elim
theorem le_notV (hx : LE ta aa) : LE (tNotV ta) (aNotV aa) := fun A G M σ H Ψ Q R h p =>
  hx A G M σ H _ _ R h fun v d A1 M1 H1 h1 g1 s1 q1 => by
    revert h1
    split
    · rename_i b
      intro h1
      cases (show v = V.bl b from q1)
      exact ⟨b, rfl, p _ _ A1 M1 H1 h1 g1 s1 rfl⟩
    · intro h; exact h.elim
theorem d_one {op : BoolOp} (ha : DE X a ta aa) : DE X (.BoolOp op [a] pos) ta aa := ⟨pe_one ha.pe, ha.le⟩
theorem d_and (ha : DE X a ta aa) (hb : DE X (.BoolOp .And (b :: rest) pos) tb ab) : DE X (.BoolOp .And (a :: b :: rest) pos) (tAndV ta tb) (aAndV aa ab) := ⟨pe_and ha.pe hb.pe, le_andV ha.le hb.le⟩
theorem d_or (ha : DE X a ta aa) (hb : DE X (.BoolOp .Or (b :: rest) pos) tb ab) : DE X (.BoolOp .Or (a :: b :: rest) pos) (tOrV ta tb) (aOrV aa ab) := ⟨pe_or ha.pe hb.pe, le_orV ha.le hb.le⟩
theorem d_not (ha : DE X a ta aa) : DE X (.UnaryOp .Not a pos) (tNotV ta) (aNotV aa) := ⟨pe_not ha.pe, le_notV ha.le⟩
/-- a if c else b -/
def aIf (x : AT) (y z : AE) : AE := fun G M Ψ => x G M fun b M1 => if b = true then y G M1 Ψ else z G M1 Ψ
theorem le_if (hx : LT tA atA) (hy : LE ta aa) (hz : LE tb ab) : LE (tIf tA ta tb) (aIf atA aa ab) := fun A G M σ H Ψ Q R h p =>
  hx A G M σ H _ _ R h fun b A1 M1 H1 h1 g1 s1 => by
    cases b with
    | true => exact hy A1 G M1 σ H1 _ _ (R.grow g1 s1) h1 (p.grow g1)
    | false => exact hz A1 G M1 σ H1 _ _ (R.grow g1 s1) h1 (p.grow g1)
theorem d_if (hc : DT X c tA atA) (ha : DE X a ta aa) (hb : DE X b tb ab) : DE X (.IfExp c a b pos) (tIf tA ta tb) (aIf atA aa ab) := ⟨pe_ifExp hc.pt ha.pe hb.pe, le_if hc.lt ha.le hb.le⟩

/-! ### argument lists -/
variable {e : Expr} {es : List Expr} {te : TE} {ae : AE} {t : TA} {at' : AA}
def aNil : AA := fun _ M Ψ => Ψ [] M
def aCons (ae : AE) (at' : AA) : AA := fun G M Ψ => ae G M fun d M1 => at' G M1 fun ds M2 => Ψ (d :: ds) M2
theorem la_nil : LA tNil aNil := fun A G M σ H Ψ Q R h p => p [] [] A M H h Grow.refl R.sto .nil
theorem la_cons (he : LE te ae) (ht : LA t at') : LA (tCons te t) (aCons ae at') := fun A G M σ H Ψ Q R h p =>
  he A G M σ H _ _ R h fun v d A1 M1 H1 h1 g1 s1 q1 => ht A1 G M1 σ H1 _ _ (R.grow g1 s1) h1 fun vs ds A2 M2 H2 h2 g2 s2 q2 =>
    p _ _ A2 M2 H2 h2 (g1.trans g2) s2 (.cons (DenD.grow g2 d v q1) q2)
theorem da_nil : DA X [] tNil aNil := ⟨pa_nil, la_nil⟩
theorem da_cons (ha : DE X e te ae) (hr : DA X es t at') (hs : starEach (e :: es) X.env = (false, eval e X.env) :: starEach es X.env := by rfl) : DA X (e :: es) (tCons te t) (aCons ae at') := ⟨pa_cons ha.pe hr.pa hs, la_cons ha.le hr.la⟩
end

theorem Dens.length {L : Addr → Prop} {H : Hp} : ∀ {ds : List PyData} {vs : List V}, Dens L H ds vs → ds.length = vs.length
  | [], vs, h => by simp only [Dens] at h; subst h; rfl
  | d :: ds, vs, h => by
    simp only [Dens] at h
    obtain ⟨v, r, e, _, t⟩ := h
    subst e
    simp [t.length]
theorem Dens.get {L : Addr → Prop} {H : Hp} : ∀ {ds : List PyData} {vs : List V} {i : Nat} {d : PyData}, Dens L H ds vs → ds[i]? = some d → ∃ v, vs[i]? = some v ∧ Den L H d v
  | [], vs, i, d, h, e => by simp at e
  | d' :: ds, vs, i, d, h, e => by
    simp only [Dens] at h
    obtain ⟨v, r, e1, h1, t⟩ := h
    subst e1
    cases i with
    | zero =>
      simp at e
      subst e
      exact ⟨v, rfl, h1⟩
    | succ i =>
      obtain ⟨v', a, b⟩ := t.get (i := i) (d := d) (by simpa using e)
      exact ⟨v', by simpa using a, b⟩
theorem Dens.append {L : Addr → Prop} {H : Hp} : ∀ {ds es : List PyData} {vs us : List V}, Dens L H ds vs → Dens L H es us → Dens L H (ds ++ es) (vs ++ us)
  | [], es, vs, us, h, t => by simp only [Dens] at h; subst h; exact t
  | d :: ds, es, vs, us, h, t => by
    simp only [Dens] at h
    obtain ⟨v, r, e, h1, h2⟩ := h
    subst e
    simp only [List.cons_append, Dens]
    exact ⟨v, r ++ us, rfl, h1, h2.append t⟩
theorem Dens.take {L : Addr → Prop} {H : Hp} : ∀ {ds : List PyData} {vs : List V} (n : Nat), Dens L H ds vs → Dens L H (ds.take n) (vs.take n)
  | [], vs, n, h => by simp only [Dens] at h; subst h; simp [Dens]
  | d :: ds, vs, 0, h => by simp [Dens]
  | d :: ds, vs, n + 1, h => by
    simp only [Dens] at h
    obtain ⟨v, r, e, h1, h2⟩ := h
    subst e
    simp only [List.take_succ_cons, Dens]
    exact ⟨v, _, rfl, h1, h2.take n⟩
theorem Dens.drop {L : Addr → Prop} {H : Hp} : ∀ {ds : List PyData} {vs : List V} (n : Nat), Dens L H ds vs → Dens L H (ds.drop n) (vs.drop n)
  | [], vs, n, h => by simp only [Dens] at h; subst h; simp [Dens]
  | d :: ds, vs, 0, h => h
  | d :: ds, vs, n + 1, h => by
    simp only [Dens] at h
    obtain ⟨v, r, e, h1, h2⟩ := h
    subst e
    simpa using h2.drop n
theorem Dens.reverse {L : Addr → Prop} {H : Hp} : ∀ {ds : List PyData} {vs : List V}, Dens L H ds vs → Dens L H ds.reverse vs.reverse
  | [], vs, h => by simp only [Dens] at h; subst h; simp [Dens]
  | d :: ds, vs, h => by
    simp only [Dens] at h
    obtain ⟨v, r, e, h1, h2⟩ := h
    subst e
    simp only [List.reverse_cons]
    refine h2.reverse.append ?_
    simp only [Dens]
    exact ⟨v, [], rfl, h1, rfl⟩
theorem Dens.ints {L : Addr → Prop} {H : Hp} : ∀ {ns : List Int} {vs : List V}, Dens L H (ns.map PyData.int) vs ↔ vs = ns.map V.int
  | [], vs => by simp [Dens]
  | n :: ns, vs => by
    simp only [List.map_cons, Dens]
    constructor
    · rintro ⟨v, r, e, h1, h2⟩
      rw [Dens.ints] at h2
      simp only [Den] at h1
      subst e h1 h2
      rfl
    · intro e
      exact ⟨_, _, e, by simp [Den], Dens.ints.mpr rfl⟩
end AM
end

section
set_option Elab.async false
set_option linter.all false
set_option maxRecDepth 100000
set_option maxHeartbeats 4000000
namespace AM
open PySem PySem.Spec L2

/-- a value as data: data itself, or a list of the store as it is now -/
def pv (d : D) (M : Sto) : Option PyData := match d with
  | .dat p => some p
  | .own j => match M[j]? with
    | some (some (.lst ds)) => some (.list ds)
    | _ => none
  | _ => none

/-- the data of a value: as it is to be read -/
def See (L : Addr → Prop) (H : Hp) : PyData → V → Prop
  | .list ds, v => ∃ a vs, v = .ref a ∧ H a = some (.lst vs) ∧ Dens L H ds vs
  | p, v => Den L H p v
section
variable {A : Ad} {M : Sto} {H : Hp} {d : D} {v : V} {p : PyData}
theorem see_of {L : Addr → Prop} : ∀ {p : PyData}, Den L H p v → See L H p v
  | .list ds, h => by
    simp only [Den] at h
    obtain ⟨a, vs, e, _, h1, h2⟩ := h
    exact ⟨a, vs, e, h1, h2⟩
  | .none, h => h
  | .bool _, h => h
  | .int _, h => h
  | .str _, h => h
  | .tuple _, h => h
  | .dict _, h => h
theorem pv_see (S : Store A M H) (e : pv d M = some p) (h : DenD A (Live A M) H d v) : See (Live A M) H p v := by
  cases d with
  | dat q =>
    cases e
    exact see_of h
  | own j =>
    unfold pv at e
    dsimp only at e
    split at e
    · rename_i ds hm
      cases e
      obtain ⟨a, rfl, ha⟩ := h
      obtain ⟨vs, h1, h2⟩ := S.ok j a _ ha hm
      exact ⟨a, vs, rfl, h1, h2⟩
    · cases e
  | raw u => cases e
  | scr _ _ => cases e
theorem pv_dat {q : PyData} : pv (.dat q) M = some q := rfl
mutual
theorem Den.dp {K : PySem.W.Frag} {L : Addr → Prop} : ∀ (p : PyData) (v : V), p.plain = true → Den L H p v → Dp K H v p
  | .none, v, _, h => by simp only [Den] at h; subst h; exact .non
  | .bool b, v, _, h => by simp only [Den] at h; subst h; exact .bl b
  | .int i, v, _, h => by simp only [Den] at h; subst h; exact .int i
  | .str x, v, _, h => by simp only [Den] at h; subst h; exact .str x
  | .list ds, v, c, h => by
    simp only [Den] at h
    obtain ⟨a, vs, rfl, _, h1, h2⟩ := h
    exact .lst (SqL.of h1) (Dens.dp ds vs (by simpa [PyData.plain] using c) h2)
  | .tuple ds, v, c, h => by
    simp only [Den] at h
    obtain ⟨a, vs, rfl, _, h1, h2⟩ := h
    exact .tup (SqT.of h1) (Dens.dp ds vs (by simpa [PyData.plain] using c) h2)
  | .dict _, v, c, h => by simp [PyData.plain] at c
theorem Dens.dp {K : PySem.W.Frag} {L : Addr → Prop} : ∀ (ps : List PyData) (vs : List V), PyData.plainAll ps = true → Dens L H ps vs → DpAll K H vs ps
  | [], vs, _, h => by simp only [Dens] at h; subst h; exact .nil
  | p :: ps, vs, c, h => by
    simp only [Dens] at h
    obtain ⟨v, r, rfl, h1, h2⟩ := h
    have c' : p.plain = true ∧ PyData.plainAll ps = true := by simpa [PyData.plainAll] using c
    exact .cons (Den.dp p v c'.1 h1) (Dens.dp ps r c'.2 h2)
end
theorem See.dp {K : PySem.W.Frag} {L : Addr → Prop} : ∀ {p : PyData} {v : V}, p.plain = true → See L H p v → Dp K H v p
  | .list ds, v, c, h => by
    obtain ⟨a, vs, rfl, h1, h2⟩ := h
    exact .lst (SqL.of h1) (Dens.dp ds vs (by simpa [PyData.plain] using c) h2)
  | .none, v, c, h => Den.dp (L := L) _ v c h
  | .bool _, v, c, h => Den.dp (L := L) _ v c h
  | .int _, v, c, h => Den.dp (L := L) _ v c h
  | .str _, v, c, h => Den.dp (L := L) _ v c h
  | .tuple _, v, c, h => Den.dp (L := L) _ v c h
  | .dict _, v, c, h => Den.dp (L := L) _ v c h
end

section
variable {A : Ad} {M : Sto} {H : Hp} {Ψ : K1} {Q : VK} {ds : List PyData} {vs : List V}
theorem Post.newL (p : Post A M H Ψ Q) (S : Store A M H) (h : Ψ (.dat (.list ds)) M) (t : Dens (Live A M) H ds vs) : ∀ q, H q = none → Q (.ref q) (upd H q (.lst vs)) := fun q hq => by
  obtain ⟨g, s⟩ := S.new (o := .lst vs) hq
  refine p _ _ A M _ h g s ?_
  show Den _ _ (.list ds) _
  simp only [Den]
  exact ⟨q, vs, rfl, S.fresh hq, upd_same, Dens.kept g.kept ds vs t⟩
theorem Post.newT (p : Post A M H Ψ Q) (S : Store A M H) (h : Ψ (.dat (.tuple ds)) M) (t : Dens (Live A M) H ds vs) : ∀ q, H q = none → Q (.ref q) (upd H q (.tup vs)) := fun q hq => by
  obtain ⟨g, s⟩ := S.new (o := .tup vs) hq
  refine p _ _ A M _ h g s ?_
  show Den _ _ (.tuple ds) _
  simp only [Den]
  exact ⟨q, vs, rfl, S.fresh hq, upd_same, Dens.kept g.kept ds vs t⟩
end

/-- a new list: as data, or (n) as an object of the store -/
def Res (n : Bool) (ds : List PyData) (M : Sto) (Ψ : K1) : Prop := if n = true then Ψ (.own M.length) (M ++ [some (.lst ds)]) else Ψ (.dat (.list ds)) M
section
variable {A : Ad} {M : Sto} {H : Hp} {Ψ : K1} {Q : VK} {ds : List PyData} {vs : List V}
theorem Post.pushL (p : Post A M H Ψ Q) (S : Store A M H) (h : Ψ (.own M.length) (M ++ [some (.lst ds)])) (t : Dens (Live A M) H ds vs) : ∀ q, H q = none → Q (.ref q) (upd H q (.lst vs)) := fun q hq => by
  have kp : Kept (Live A M) H (Live (A.push q) (M ++ [some (.lst ds)])) (upd H q (.lst vs)) := fun b o e n =>
    ⟨by rw [upd_ne (ne_of_none e hq)]; exact e, fun l => by
      rcases l.push S.len with l | l
      · exact n l
      · subst l; rw [hq] at e; cases e⟩
  obtain ⟨g, s⟩ := S.push (o := .lst vs) (m := .lst ds) hq ⟨vs, upd_same, Dens.kept kp ds vs t⟩
  exact p _ _ _ _ _ h g s ⟨q, rfl, by show (A.l ++ [q])[M.length]? = _; rw [← S.len]; simp⟩
theorem Post.newR (p : Post A M H Ψ Q) (S : Store A M H) {n : Bool} (h : Res n ds M Ψ) (t : Dens (Live A M) H ds vs) : ∀ q, H q = none → Q (.ref q) (upd H q (.lst vs)) := by
  unfold Res at h
  cases n with
  | true => exact p.pushL S h t
  | false => exact p.newL S h t
end

/-! ### arithmetic -/
def aAdd (n : Bool) : A2 := fun d e M Ψ => match pv d M, pv e M with
  | some (.int i), some (.int j) => Ψ (.dat (.int (i + j))) M
  | some (.str x), some (.str y) => x.length + y.length ≤ sizeLine ∧ Ψ (.dat (.str (x ++ y))) M
  | some (.tuple a), some (.tuple b) => a.length + b.length ≤ sizeLine ∧ Ψ (.dat (.tuple (a ++ b))) M
  | some (.list a), some (.list b) => a.length + b.length ≤ sizeLine ∧ Res n (a ++ b) M Ψ
  | _, _ => False
def aInt (C : Int → Int → Prop) (g : Int → Int → PyData) : A2 := fun d e M Ψ => match pv d M, pv e M with
  | some (.int i), some (.int j) => C i j ∧ Ψ (.dat (g i j)) M
  | _, _ => False
def aMul (n : Bool) : A2 := fun d e M Ψ => match pv d M, pv e M with
  | some (.int i), some (.int j) => (CMul i j ∨ CMulW i j) ∧ Ψ (.dat (.int (i * j))) M
  | some (.tuple a), some (.int k) => a ≠ [] ∧ 2 ≤ k ∧ k ≤ 1000 ∧ a.length ≤ 1000 ∧ Ψ (.dat (.tuple (List.replicate k.toNat a).flatten)) M
  | some (.list a), some (.int k) => -(2 ^ 63) ≤ k ∧ k < 2 ^ 63 ∧ a.length * k.toNat ≤ sizeLine ∧ Res n (List.replicate k.toNat a).flatten M Ψ
  | _, _ => False
section
variable {X : Cx}
theorem see_int {L : Addr → Prop} {H : Hp} {i : Int} {v : V} (h : See L H (.int i) v) : v = .int i := h
theorem see_str {L : Addr → Prop} {H : Hp} {x : Str} {v : V} (h : See L H (.str x) v) : v = .str x := h
theorem see_bl {L : Addr → Prop} {H : Hp} {b : Bool} {v : V} (h : See L H (.bool b) v) : v = .bl b := h
theorem see_tup {L : Addr → Prop} {H : Hp} {ds : List PyData} {v : V} (h : See L H (.tuple ds) v) : ∃ a vs, v = .ref a ∧ ¬ L a ∧ H a = some (.tup vs) ∧ Dens L H ds vs := by
  have h' : Den L H (.tuple ds) v := h
  simpa only [Den] using h'
theorem see_lst {L : Addr → Prop} {H : Hp} {ds : List PyData} {v : V} (h : See L H (.list ds) v) : ∃ a vs, v = .ref a ∧ H a = some (.lst vs) ∧ Dens L H ds vs := h
theorem dens_nil_iff {L : Addr → Prop} {H : Hp} {ds : List PyData} {vs : List V} (h : Dens L H ds vs) : vs = [] ↔ ds = [] := by
  have e := h.length
  cases ds <;> cases vs <;> simp at e ⊢
theorem den_tup {L : Addr → Prop} {H : Hp} {ds : List PyData} {a : Addr} {vs : List V} (n : ¬ L a) (h1 : H a = some (.tup vs)) (h2 : Dens L H ds vs) : Den L H (.tuple ds) (.ref a) := by
  simp only [Den]
  exact ⟨a, vs, rfl, n, h1, h2⟩
theorem op_addD {n : Bool} : OpR X (binaryOp .Add) (c2 (aAdd n)) := by
  intro pins s σ H x y v u Q I rx ry h
  obtain ⟨A, M, d, e, Ψ, S, hd, he, hr, p⟩ := h
  unfold aAdd at hr
  split at hr
  · rename_i i j e1 e2
    have h1 := see_int (pv_see S e1 hd)
    have h2 := see_int (pv_see S e2 he)
    exact op_add pins s σ H x y v u Q I rx ry ⟨i, j, h1, h2, p.here S hr rfl⟩
  · rename_i a b e1 e2
    have h1 := see_str (pv_see S e1 hd)
    have h2 := see_str (pv_see S e2 he)
    exact op_add_str pins s σ H x y v u Q I rx ry ⟨a, b, h1, h2, hr.1, p.here S hr.2 rfl⟩
  · rename_i a b e1 e2
    obtain ⟨pa, va, h1, n1, g1, t1⟩ := see_tup (pv_see S e1 hd)
    obtain ⟨pb, vb, h2, n2, g2, t2⟩ := see_tup (pv_see S e2 he)
    have l1 := t1.length
    have l2 := t2.length
    refine op_catA pins s σ H x y v u Q I rx ry ⟨pa, pb, va, vb, h1, h2, SqT.of g1, SqT.of g2, by omega, fun z => ?_, fun _ z => ?_, fun _ _ => p.newT S hr.2 (t1.append t2)⟩
    · have e0 := (dens_nil_iff t1).mp z
      subst e0
      exact p.here S hr.2 (den_tup n2 g2 t2)
    · have e0 := (dens_nil_iff t2).mp z
      subst e0
      rw [List.append_nil] at hr
      exact p.here S hr.2 (den_tup n1 g1 t1)
  · rename_i a b e1 e2
    obtain ⟨pa, va, h1, g1, t1⟩ := see_lst (pv_see S e1 hd)
    obtain ⟨pb, vb, h2, g2, t2⟩ := see_lst (pv_see S e2 he)
    have l1 := t1.length
    have l2 := t2.length
    exact op_cat pins s σ H x y v u Q I rx ry ⟨pa, pb, va, vb, h1, h2, g1, g2, by omega, p.newR S hr.2 (t1.append t2)⟩
  · exact hr.elim
theorem op_intD {f : Value → Value → Sem Value} {C : Int → Int → Prop} {g : Int → Int → Int} (h : OpR X f (rI C fun i j => .int (g i j))) : OpR X f (c2 (aInt C fun i j => .int (g i j))) := by
  intro pins s σ H x y v u Q I rx ry q
  obtain ⟨A, M, d, e, Ψ, S, hd, he, hr, p⟩ := q
  unfold aInt at hr
  split at hr
  · rename_i i j e1 e2
    exact h pins s σ H x y v u Q I rx ry ⟨i, j, see_int (pv_see S e1 hd), see_int (pv_see S e2 he), hr.1, p.here S hr.2 rfl⟩
  · exact hr.elim
theorem op_intB {f : Value → Value → Sem Value} {g : Int → Int → Bool} (h : OpR X f (rI0 fun i j => .bl (g i j))) : OpR X f (c2 (aInt (fun _ _ => True) fun i j => .bool (g i j))) := by
  intro pins s σ H x y v u Q I rx ry q
  obtain ⟨A, M, d, e, Ψ, S, hd, he, hr, p⟩ := q
  unfold aInt at hr
  split at hr
  · rename_i i j e1 e2
    exact h pins s σ H x y v u Q I rx ry ⟨i, j, see_int (pv_see S e1 hd), see_int (pv_see S e2 he), p.here S hr.2 rfl⟩
  · exact hr.elim
theorem op_int0 {f : Value → Value → Sem Value} {g : Int → Int → Int} (h : OpR X f (rI0 fun i j => .int (g i j))) : OpR X f (c2 (aInt (fun _ _ => True) fun i j => .int (g i j))) := by
  intro pins s σ H x y v u Q I rx ry q
  obtain ⟨A, M, d, e, Ψ, S, hd, he, hr, p⟩ := q
  unfold aInt at hr
  split at hr
  · rename_i i j e1 e2
    exact h pins s σ H x y v u Q I rx ry ⟨i, j, see_int (pv_see S e1 hd), see_int (pv_see S e2 he), p.here S hr.2 rfl⟩
  · exact hr.elim
abbrev aSub : A2 := aInt (fun _ _ => True) fun i j => .int (i - j)
abbrev aMod : A2 := aInt (fun _ j => 0 < j) fun i j => .int (i % j)
abbrev aFdv : A2 := aInt (fun i j => CDiv i j ∨ CDivW i j) fun i j => .int (i / j)
abbrev aPow : A2 := aInt CPow fun i j => .int (i ^ j.toNat)
abbrev aShl : A2 := aInt CPow fun i j => .int (i * 2 ^ j.toNat)
abbrev aLt : A2 := aInt (fun _ _ => True) fun i j => .bool (decide (i < j))
abbrev aLe : A2 := aInt (fun _ _ => True) fun i j => .bool (decide (i ≤ j))
abbrev aGt : A2 := aInt (fun _ _ => True) fun i j => .bool (decide (j < i))
abbrev aGe : A2 := aInt (fun _ _ => True) fun i j => .bool (decide (j ≤ i))
theorem op_subD : OpR X (binaryOp .Sub) (c2 aSub) := op_int0 op_sub
theorem op_modD : OpR X (binaryOp .Mod) (c2 aMod) := op_intD op_mod
theorem op_fdvD : OpR X (binaryOp .FloorDiv) (c2 aFdv) := by
  intro pins s σ H x y v u Q I rx ry q
  obtain ⟨A, M, d, e, Ψ, S, hd, he, hr, p⟩ := q
  unfold aFdv aInt at hr
  split at hr
  · rename_i i j e1 e2
    rcases hr.1 with c | c
    · exact op_fdiv pins s σ H x y v u Q I rx ry ⟨i, j, see_int (pv_see S e1 hd), see_int (pv_see S e2 he), c, p.here S hr.2 rfl⟩
    · exact op_fdivW pins s σ H x y v u Q I rx ry ⟨i, j, see_int (pv_see S e1 hd), see_int (pv_see S e2 he), c, p.here S hr.2 rfl⟩
  · exact hr.elim
theorem op_powD : OpR X (binaryOp .Pow) (c2 aPow) := op_intD op_pow
theorem op_shlD : OpR X (binaryOp .LShift) (c2 aShl) := op_intD op_shl
theorem op_ltD : OpR X (compareOp .Lt) (c2 aLt) := op_intB op_lt
theorem op_leD : OpR X (compareOp .LtE) (c2 aLe) := op_intB op_le
theorem op_gtD : OpR X (compareOp .Gt) (c2 aGt) := op_intB op_gt
theorem op_geD : OpR X (compareOp .GtE) (c2 aGe) := op_intB op_ge
theorem dens_rep {L : Addr → Prop} {H : Hp} {ds : List PyData} {vs : List V} (h : Dens L H ds vs) : ∀ n, Dens L H (List.replicate n ds).flatten (List.replicate n vs).flatten
  | 0 => by simp [Dens]
  | n + 1 => by
    simp only [List.replicate_succ, List.flatten_cons]
    exact h.append (dens_rep h n)
theorem op_mulD {n : Bool} : OpR X (binaryOp .Mult) (c2 (aMul n)) := by
  intro pins s σ H x y v u Q I rx ry h
  obtain ⟨A, M, d, e, Ψ, S, hd, he, hr, p⟩ := h
  unfold aMul at hr
  split at hr
  · rename_i i j e1 e2
    rcases hr.1 with c | c
    · exact op_mul pins s σ H x y v u Q I rx ry ⟨i, j, see_int (pv_see S e1 hd), see_int (pv_see S e2 he), c, p.here S hr.2 rfl⟩
    · exact op_mulW pins s σ H x y v u Q I rx ry ⟨i, j, see_int (pv_see S e1 hd), see_int (pv_see S e2 he), c, p.here S hr.2 rfl⟩
  · rename_i a k e1 e2
    obtain ⟨pa, va, h1, n1, g1, t1⟩ := see_tup (pv_see S e1 hd)
    have h2 := see_int (pv_see S e2 he)
    obtain ⟨r1, r2, r3, r4, r5⟩ := hr
    have l1 := t1.length
    exact op_repT pins s σ H x y v u Q I rx ry ⟨pa, k, va, h1, h2, SqT.of g1, fun z => r1 ((dens_nil_iff t1).mp z), r2, r3, by omega, p.newT S r5 (dens_rep t1 _)⟩
  · rename_i a k e1 e2
    obtain ⟨pa, va, h1, g1, t1⟩ := see_lst (pv_see S e1 hd)
    have h2 := see_int (pv_see S e2 he)
    obtain ⟨r1, r2, r3, r4⟩ := hr
    have l1 := t1.length
    have q := p.newR S r4 (dens_rep t1 k.toNat)
    exact op_rep pins s σ H x y v u Q I rx ry ⟨pa, k, va, h1, h2, g1, r1, r2, by rw [← l1]; exact r3, q⟩
  · exact hr.elim
def aNeg : A1 := fun d M Ψ => match pv d M with
  | some (.int i) => Ψ (.dat (.int (-i))) M
  | _ => False
theorem un_negD : UnR X (unaryOp .USub) (c1 aNeg) := by
  intro pins s σ H x v Q I rx h
  obtain ⟨A, M, d, Ψ, S, hd, hr, p⟩ := h
  unfold aNeg at hr
  split at hr
  · rename_i i e1
    exact un_neg pins s σ H x v Q I rx ⟨i, see_int (pv_see S e1 hd), p.here S hr rfl⟩
  · exact hr.elim

/-! ### ==, !=, in, not in, is None -/
def aEq : A2 := fun d e M Ψ => match pv d M, pv e M with
  | some p, some q => p.plain = true ∧ q.plain = true ∧ p.depth + q.depth ≤ 90 ∧ Ψ (.dat (.bool (p.eqv q))) M
  | _, _ => False
def aNe : A2 := fun d e M Ψ => match pv d M, pv e M with
  | some p, some q => p.plain = true ∧ q.plain = true ∧ p.depth + q.depth ≤ 90 ∧ Ψ (.dat (.bool (!p.eqv q))) M
  | _, _ => False
theorem op_eqD' {k : Nat} (hr : Room k X.A) : OpR X (compareOp .Eq) (c2 aEq) := by
  intro pins s σ H x y v u Q I rx ry h
  obtain ⟨A, M, d, e, Ψ, S, hd, he, hh, p⟩ := h
  unfold aEq at hh
  split at hh
  · rename_i a b e1 e2
    obtain ⟨c1, c2, c3, q⟩ := hh
    obtain ⟨as, r1⟩ := Dp.reads I a x v (See.dp c1 (pv_see S e1 hd)) rx
    obtain ⟨bs, r2⟩ := Dp.reads I b y u (See.dp c2 (pv_see S e2 he)) ry
    have hun := hr.un
    exact SeqAt.eq_plain r1 r2 c1 c2 (by omega) ⟨.bl _, H, I, rfl, p.here S q rfl⟩
  · exact hh.elim
theorem op_neD' {k : Nat} (hr : Room k X.A) : OpR X (compareOp .NotEq) (c2 aNe) := by
  intro pins s σ H x y v u Q I rx ry h
  obtain ⟨A, M, d, e, Ψ, S, hd, he, hh, p⟩ := h
  unfold aNe at hh
  split at hh
  · rename_i a b e1 e2
    obtain ⟨c1, c2, c3, q⟩ := hh
    obtain ⟨as, r1⟩ := Dp.reads I a x v (See.dp c1 (pv_see S e1 hd)) rx
    obtain ⟨bs, r2⟩ := Dp.reads I b y u (See.dp c2 (pv_see S e2 he)) ry
    have hun := hr.un
    exact SeqAt.ne_plain r1 r2 c1 c2 (by omega) ⟨.bl _, H, I, rfl, p.here S q rfl⟩
  · exact hh.elim
end
end AM
end

section
set_option Elab.async false
set_option linter.all false
set_option maxRecDepth 100000
set_option maxHeartbeats 4000000
namespace AM
open PySem PySem.Spec PyProof.Rows L2

/-- what a container holds -/
inductive Cv where
  | lst (ds : List PyData)
  | tup (ds : List PyData)
  | dk (kvs : List (Key × D))
  | dt (kvs : List (List Key × D))
  | no
def cv (d : D) (M : Sto) : Cv := match d with
  | .dat (.list ds) => .lst ds
  | .dat (.tuple ds) => .tup ds
  | .own j => (match M[j]? with
    | some (some (.lst ds)) => .lst ds
    | some (some (.dic kvs)) => .dk kvs
    | some (some (.dit kvs)) => .dt kvs
    | _ => .no)
  | _ => .no
def CvOk (A : Ad) (L : Addr → Prop) (H : Hp) (v : V) : Cv → Prop
  | .lst ds => ∃ a vs, v = .ref a ∧ H a = some (.lst vs) ∧ Dens L H ds vs
  | .tup ds => ∃ a vs, v = .ref a ∧ ¬ L a ∧ H a = some (.tup vs) ∧ Dens L H ds vs
  | .dk kvs => ∃ a ws, v = .ref a ∧ H a = some (.dK ws) ∧ DicG A L H kvs ws
  | .dt kvs => ∃ a ws, v = .ref a ∧ H a = some (.dT ws) ∧ DicG A L H kvs ws
  | .no => True
section
variable {A : Ad} {M : Sto} {H : Hp} {d : D} {v : V}
theorem cv_at (S : Store A M H) (h : DenD A (Live A M) H d v) : CvOk A (Live A M) H v (cv d M) := by
  unfold cv
  split
  · have h' : Den (Live A M) H _ v := h
    simp only [Den] at h'
    obtain ⟨a, vs, e, _, h1, h2⟩ := h'
    exact ⟨a, vs, e, h1, h2⟩
  · have h' : Den (Live A M) H _ v := h
    simp only [Den] at h'
    exact h'
  · rename_i j
    obtain ⟨a, rfl, ha⟩ := h
    split
    · rename_i ds hm
      obtain ⟨vs, h1, h2⟩ := S.ok j a _ ha hm
      exact ⟨a, vs, rfl, h1, h2⟩
    · rename_i ds hm
      obtain ⟨vs, h1, h2⟩ := S.ok j a _ ha hm
      exact ⟨a, vs, rfl, h1, h2⟩
    · rename_i ds hm
      obtain ⟨vs, h1, h2⟩ := S.ok j a _ ha hm
      exact ⟨a, vs, rfl, h1, h2⟩
    · trivial
  · trivial
theorem cv_of (S : Store A M H) (h : DenD A (Live A M) H d v) {c : Cv} (e : cv d M = c) : CvOk A (Live A M) H v c := by
  rw [← e]
  exact cv_at S h
/-- what a dict holds at a key -/
def look {κ : Type} [DecidableEq κ] (kvs : List (κ × D)) (k : κ) : Option D := (kvs.find? fun kv => decide (kv.1 = k)).map (·.2)
def put {κ : Type} [DecidableEq κ] (kvs : List (κ × D)) (k : κ) (d : D) : List (κ × D) := if (kvs.any fun kv => decide (kv.1 = k)) = true then kvs.map (fun kv => if kv.1 = k then (kv.1, d) else kv) else kvs ++ [(k, d)]
theorem look_at {κ : Type} [DecidableEq κ] {L : Addr → Prop} {k : κ} : ∀ {kvs : List (κ × D)} {ws : List (κ × V)}, DicG A L H kvs ws →
    (∀ d, look kvs k = some d → ∃ v, valV ws k = some v ∧ DenD A L H d v) ∧ (look kvs k = none → valV ws k = none)
  | _, _, .nil => ⟨fun d h => (by cases h), fun _ => rfl⟩
  | x :: _, y :: _, .cons h t => by
    obtain ⟨h1, h2⟩ := h
    have ih := look_at (k := k) t
    unfold look valV at ih ⊢
    simp only [List.find?_cons, ← h1]
    by_cases e : x.1 = k
    · simp only [e, decide_true, Option.map_some]
      exact ⟨fun d q => ⟨y.2, rfl, by cases q; exact h2⟩, fun q => by cases q⟩
    · simp only [e, decide_false]
      exact ih
theorem look_some {κ : Type} [DecidableEq κ] {L : Addr → Prop} {k : κ} {kvs : List (κ × D)} {ws : List (κ × V)} (h : DicG A L H kvs ws) : (valV ws k).isSome = (look kvs k).isSome := by
  cases e : look kvs k with
  | none => rw [(look_at h).2 e]; rfl
  | some d =>
    obtain ⟨v, h1, _⟩ := (look_at h).1 d e
    rw [h1]
    rfl
def keyD : Key → D
  | .inl i => .dat (.int i)
  | .inr x => .dat (.str x)
theorem kV_of {L : Addr → Prop} {p : PyData} {k : Key} {v : V} (e : toKey p = some k) (h : See L H p v) : v = kV k := by
  cases p <;> simp [toKey] at e
  · subst e; exact h
  · subst e; exact h
theorem kVs_of {L : Addr → Prop} : ∀ {ps : List PyData} {ks : List Key} {vs : List V}, toKeys ps = some ks → Dens L H ps vs → vs = ks.map kV
  | [], ks, vs, e, h => by
    simp [toKeys] at e
    subst e
    simpa [Dens] using h
  | p :: ps, ks, vs, e, h => by
    simp only [toKeys] at e
    split at e
    · rename_i k ks' e1 e2
      cases e
      simp only [Dens] at h
      obtain ⟨v, r, rfl, h1, h2⟩ := h
      rw [kVs_of e2 h2, kV_of (L := L) e1 (see_of h1)]
      rfl
    · cases e
end

/-- the items of a list or a tuple -/
def sq (d : D) (M : Sto) : Option (List PyData) := match pv d M with
  | some (.list ds) => some ds
  | some (.tuple ds) => some ds
  | _ => none

/-! ### in -/
def inG (neg : Bool) : A2 := fun d e M Ψ => match pv d M, cv e M with
  | some p, .lst ds => p.plain = true ∧ PyData.plainAll ds = true ∧ (p.depth ≤ 90 ∨ PyData.depthAll ds ≤ 90) ∧ Ψ (.dat (.bool (neg ^^ (ds.any fun z => z.eqv p)))) M
  | some p, .tup ds => p.plain = true ∧ PyData.plainAll ds = true ∧ (p.depth ≤ 90 ∨ PyData.depthAll ds ≤ 90) ∧ Ψ (.dat (.bool (neg ^^ (ds.any fun z => z.eqv p)))) M
  | some p, .dk kvs => (match toKey p with
    | some k => Ψ (.dat (.bool (neg ^^ (look kvs k).isSome))) M
    | none => False)
  | some (.tuple ps), .dt kvs => (match toKeys ps with
    | some k => Ψ (.dat (.bool (neg ^^ (look kvs k).isSome))) M
    | none => False)
  | _, _ => False
abbrev aIn : A2 := inG false
abbrev aNotIn : A2 := inG true
section
variable {X : Cx}
theorem op_inG {k : Nat} (hr : Room k X.A) : OpR X (compareOp .In) (c2 aIn) := by
  intro pins s σ H x y v u Q I rx ry h
  obtain ⟨A, M, d, e, Ψ, S, hd, he, hh, p⟩ := h
  have hun := hr.un
  unfold aIn inG at hh
  split at hh
  · rename_i a ds e1 e2
    obtain ⟨c1, c2, c3, q⟩ := hh
    obtain ⟨as, r1⟩ := Dp.reads I a x v (See.dp c1 (pv_see S e1 hd)) rx
    obtain ⟨bs, r2⟩ := Dp.reads I (.list ds) y u (See.dp (L := Live A M) (p := .list ds) (by simpa [PyData.plain] using c2) (cv_of S he e2)) ry
    simp only [Bool.false_bne] at q
    exact SeqAt.in_list_data r2 r1 c2 c1 (by omega) ⟨.bl _, H, I, rfl, p.here S q rfl⟩
  · rename_i a ds e1 e2
    obtain ⟨c1, c2, c3, q⟩ := hh
    obtain ⟨as, r1⟩ := Dp.reads I a x v (See.dp c1 (pv_see S e1 hd)) rx
    have hT : Den (Live A M) H (.tuple ds) y := by
      obtain ⟨a', vs', q1, q2, q3, q4⟩ := cv_of S he e2
      subst q1
      exact den_tup q2 q3 q4
    obtain ⟨bs, r2⟩ := Dp.reads I (.tuple ds) y u (Den.dp (L := Live A M) (.tuple ds) y (by simpa [PyData.plain] using c2) hT) ry
    simp only [Bool.false_bne] at q
    exact SeqAt.in_tuple_data r2 r1 c2 c1 (by omega) ⟨.bl _, H, I, rfl, p.here S q rfl⟩
  · rename_i a kvs e1 e3
    split at hh
    · rename_i kk ek
      obtain ⟨b, ws, rfl, h1, h2⟩ := cv_of S he e3
      cases (show u = Value.ref b from ry)
      have hx := kV_of ek (pv_see S e1 hd)
      subst hx
      refine d_in (by omega) I (DGet.k (k := kk) h1) rx fun s' I' => ⟨.bl _, H, I', rfl, ?_⟩
      rw [look_some h2]
      simp only [Bool.false_bne] at hh
      exact p.here S hh rfl
    · exact hh.elim
  · rename_i ps kvs e1 e3
    split at hh
    · rename_i kk ek
      obtain ⟨b, ws, rfl, h1, h2⟩ := cv_of S he e3
      obtain ⟨pa, va, rfl, _, g1, t1⟩ := see_tup (pv_see S e1 hd)
      cases (show u = Value.ref b from ry)
      have hx := kVs_of ek t1
      subst hx
      refine d_in (by omega) I (DGet.t (k := kk) h1 g1) rx fun s' I' => ⟨.bl _, H, I', rfl, ?_⟩
      rw [look_some h2]
      simp only [Bool.false_bne] at hh
      exact p.here S hh rfl
    · exact hh.elim
  · exact hh.elim
theorem op_notInG {k : Nat} (hr : Room k X.A) : OpR X (compareOp .NotIn) (c2 aNotIn) := by
  intro pins s σ H x y v u Q I rx ry h
  obtain ⟨A, M, d, e, Ψ, S, hd, he, hh, p⟩ := h
  have hun := hr.un
  unfold aNotIn inG at hh
  split at hh
  · rename_i a ds e1 e2
    obtain ⟨c1, c2, c3, q⟩ := hh
    obtain ⟨as, r1⟩ := Dp.reads I a x v (See.dp c1 (pv_see S e1 hd)) rx
    obtain ⟨bs, r2⟩ := Dp.reads I (.list ds) y u (See.dp (L := Live A M) (p := .list ds) (by simpa [PyData.plain] using c2) (cv_of S he e2)) ry
    simp only [Bool.true_bne] at q
    exact SeqAt.notIn_list_data r2 r1 c2 c1 (by omega) ⟨.bl _, H, I, rfl, p.here S q rfl⟩
  · rename_i a ds e1 e2
    obtain ⟨c1, c2, c3, q⟩ := hh
    obtain ⟨as, r1⟩ := Dp.reads I a x v (See.dp c1 (pv_see S e1 hd)) rx
    have hT : Den (Live A M) H (.tuple ds) y := by
      obtain ⟨a', vs', q1, q2, q3, q4⟩ := cv_of S he e2
      subst q1
      exact den_tup q2 q3 q4
    obtain ⟨bs, r2⟩ := Dp.reads I (.tuple ds) y u (Den.dp (L := Live A M) (.tuple ds) y (by simpa [PyData.plain] using c2) hT) ry
    simp only [Bool.true_bne] at q
    exact SeqAt.notIn_tuple_data r2 r1 c2 c1 (by omega) ⟨.bl _, H, I, rfl, p.here S q rfl⟩
  · rename_i a kvs e1 e3
    split at hh
    · rename_i kk ek
      obtain ⟨b, ws, rfl, h1, h2⟩ := cv_of S he e3
      cases (show u = Value.ref b from ry)
      have hx := kV_of ek (pv_see S e1 hd)
      subst hx
      refine d_notIn (by omega) I (DGet.k (k := kk) h1) rx fun s' I' => ⟨.bl _, H, I', rfl, ?_⟩
      rw [look_some h2]
      simp only [Bool.true_bne] at hh
      exact p.here S hh rfl
    · exact hh.elim
  · rename_i ps kvs e1 e3
    split at hh
    · rename_i kk ek
      obtain ⟨b, ws, rfl, h1, h2⟩ := cv_of S he e3
      obtain ⟨pa, va, rfl, _, g1, t1⟩ := see_tup (pv_see S e1 hd)
      cases (show u = Value.ref b from ry)
      have hx := kVs_of ek t1
      subst hx
      refine d_notIn (by omega) I (DGet.t (k := kk) h1 g1) rx fun s' I' => ⟨.bl _, H, I', rfl, ?_⟩
      rw [look_some h2]
      simp only [Bool.true_bne] at hh
      exact p.here S hh rfl
    · exact hh.elim
  · exact hh.elim

/-! ### is -/
def isNon (p : PyData) : Bool := match p with
  | .none => true
  | _ => false
theorem see_non {L : Addr → Prop} {H : Hp} : ∀ {p : PyData} {v : V}, See L H p v → decide (v = V.non) = isNon p
  | .none, v, h => by cases (show v = V.non from h); rfl
  | .bool b, v, h => by cases (show v = V.bl b from h); rfl
  | .int i, v, h => by cases (show v = V.int i from h); rfl
  | .str x, v, h => by cases (show v = V.str x from h); rfl
  | .list ds, v, h => by obtain ⟨a, vs, rfl, _⟩ := h; rfl
  | .tuple ds, v, h => by obtain ⟨a, vs, rfl, _⟩ := see_tup h; rfl
  | .dict ds, v, h => by
    have h' : Den L H (.dict ds) v := h
    simp only [Den] at h'
    obtain ⟨a, rfl, _⟩ := h'; rfl
/-- x is None, x is True; e: None or a bool -/
def isG (neg : Bool) : A2 := fun d e M Ψ => match pv d M, pv e M with
  | some p, some .none => Ψ (.dat (.bool (neg ^^ isNon p))) M
  | some (.bool b), some (.bool c) => Ψ (.dat (.bool (neg ^^ decide (b = c)))) M
  | _, _ => False
theorem op_isG : OpR X (compareOp .Is) (c2 (isG false)) := by
  intro pins s σ H x y v u Q I rx ry h
  obtain ⟨A, M, d, e, Ψ, S, hd, he, hh, p⟩ := h
  unfold isG at hh
  split at hh
  · rename_i a e1 e2
    have hx := see_non (pv_see S e1 hd)
    have hy : y = .non := pv_see S e2 he
    simp only [Bool.false_bne] at hh
    exact op_isN pins s σ H x y v u Q I rx ry ⟨hy, by rw [hx]; exact p.here S hh rfl⟩
  · rename_i b c e1 e2
    have hx : x = .bl b := pv_see S e1 hd
    have hy : y = .bl c := pv_see S e2 he
    simp only [Bool.false_bne] at hh
    exact op_is_bl pins s σ H x y v u Q I rx ry ⟨b, c, hx, hy, p.here S hh rfl⟩
  · exact hh.elim
theorem op_isNotG : OpR X (compareOp .IsNot) (c2 (isG true)) := by
  intro pins s σ H x y v u Q I rx ry h
  obtain ⟨A, M, d, e, Ψ, S, hd, he, hh, p⟩ := h
  unfold isG at hh
  split at hh
  · rename_i a e1 e2
    have hx := see_non (pv_see S e1 hd)
    have hy : y = .non := pv_see S e2 he
    simp only [Bool.true_bne] at hh
    exact op_notN pins s σ H x y v u Q I rx ry ⟨hy, by rw [hx]; exact p.here S hh rfl⟩
  · rename_i b c e1 e2
    have hx : x = .bl b := pv_see S e1 hd
    have hy : y = .bl c := pv_see S e2 he
    simp only [Bool.true_bne] at hh
    exact op_isnot_bl pins s σ H x y v u Q I rx ry ⟨b, c, hx, hy, p.here S hh rfl⟩
  · exact hh.elim

/-! ### subscripts -/
def aIx : A2 := fun d e M Ψ => match cv d M, pv e M with
  | .lst ds, some (.int i) => (match atI ds i with
    | some p => Ψ (.dat p) M
    | none => False)
  | .tup ds, some (.int i) => (match atI ds i with
    | some p => Ψ (.dat p) M
    | none => False)
  | .dk kvs, some p => (match (toKey p).bind (look kvs) with
    | some r => Ψ r M
    | none => False)
  | .dt kvs, some (.tuple ps) => (match (toKeys ps).bind (look kvs) with
    | some r => Ψ r M
    | none => False)
  | _, _ => False
theorem sq_at {A : Ad} {M : Sto} {H : Hp} {d : D} {v : V} {ds : List PyData} (S : Store A M H) (e : sq d M = some ds) (h : DenD A (Live A M) H d v) :
    ∃ a vs, v = .ref a ∧ (H a = some (.lst vs) ∨ H a = some (.tup vs)) ∧ Dens (Live A M) H ds vs := by
  unfold sq at e
  split at e
  · rename_i ds' e1
    cases e
    obtain ⟨a, vs, h1, h2, h3⟩ := see_lst (pv_see S e1 h)
    exact ⟨a, vs, h1, .inl h2, h3⟩
  · rename_i ds' e1
    cases e
    obtain ⟨a, vs, h1, _, h2, h3⟩ := see_tup (pv_see S e1 h)
    exact ⟨a, vs, h1, .inr h2, h3⟩
  · cases e
theorem atI_den {L : Addr → Prop} {H : Hp} {ds : List PyData} {vs : List V} {i : Int} {p : PyData} (h : Dens L H ds vs) (e : atI ds i = some p) : ∃ v, atI vs i = some v ∧ Den L H p v := by
  unfold atI at e ⊢
  rw [← h.length]
  cases q : ixN ds.length i with
  | none => rw [q] at e; cases e
  | some j =>
    rw [q] at e
    exact h.get e
/-- the subscript of a dict -/
theorem ix_dictG {k : Nat} (hr : Room k X.A) : IxR X (fun x y H Q => ∃ a v, x = .ref a ∧ DGet H a y (some v) ∧ Q v H) := by
  intro value slice pins s σ H x y v u Q I rx ry h hs
  obtain ⟨a, z, rfl, g, q⟩ := h
  cases (show v = Value.ref a from rx)
  have hun := hr.un
  unfold subscriptTail
  refine wpAny_bind ?_
  rw [getitemInPython_of_ne (dict_typeIs I g).not_modules]
  refine wpAny_bind (wpAny_specialOf (dict_typeIs I g) PySem.F.slot_dict_getitem.lookup ?_)
  have fin : wpAny (model X.prog X.w) X.A (subscripted slice false (.ref a) u) (fun r s₃ => wpAny (model X.prog X.w) X.A (letTemporaryGo value (.ref a) r >>= fun _ => pure r) (EP X pins σ Q) X.xe s₃) X.xe s := by
    rw [hs]
    exact wpAny_operating (d_getItem (by omega) I g ry fun w' s' I' r' => wpAny_bind (wpAny_letTemporaryGo (wpAny_pure ⟨z, H, I', r', q⟩)))
  first
    | exact wpAny_pure (wpAny_bind fin)
    | exact wpAny_bind (wpAny_pure (wpAny_bind fin))
    | exact wpAny_bind fin
theorem ix_all {k : Nat} (hr : Room k X.A) : IxR X (c2 aIx) := by
  intro value slice pins s σ H x y v u Q I rx ry h hs
  obtain ⟨A, M, d, e, Ψ, S, hd, he, hh, p⟩ := h
  unfold aIx at hh
  split at hh
  · rename_i ds i e1 e2
    split at hh
    · rename_i q eq
      obtain ⟨a, vs, rfl, ha, t⟩ := cv_of S hd e1
      have hy := see_int (pv_see S e2 he)
      obtain ⟨w', hw, dw⟩ := atI_den t eq
      exact ix_list value slice pins s σ H _ y v u Q I rx ry ⟨a, vs, i, w', rfl, hy, SqL.of ha, hw, p.here S hh dw⟩ hs
    · exact hh.elim
  · rename_i ds i e1 e2
    split at hh
    · rename_i q eq
      obtain ⟨a, vs, rfl, _, ha, t⟩ := cv_of S hd e1
      have hy := see_int (pv_see S e2 he)
      obtain ⟨w', hw, dw⟩ := atI_den t eq
      exact ix_tup value slice pins s σ H _ y v u Q I rx ry ⟨a, vs, i, w', rfl, hy, SqT.of ha, hw, p.here S hh dw⟩ hs
    · exact hh.elim
  · rename_i kvs q e3 e2
    split at hh
    · rename_i r er
      obtain ⟨kk, ek, er⟩ := Option.bind_eq_some_iff.mp er
      obtain ⟨b, ws, rfl, h1, h2⟩ := cv_of S hd e3
      have hy := kV_of ek (pv_see S e2 he)
      obtain ⟨w', hw, dw⟩ := (look_at h2).1 r er
      subst hy
      refine ix_dictG hr value slice pins s σ H _ _ v u Q I rx ry ⟨b, w', rfl, ?_, p.here S hh dw⟩ hs
      rw [← hw]
      exact DGet.k h1
    · exact hh.elim
  · rename_i kvs ps e3 e2
    split at hh
    · rename_i r er
      obtain ⟨kk, ek, er⟩ := Option.bind_eq_some_iff.mp er
      obtain ⟨b, ws, rfl, h1, h2⟩ := cv_of S hd e3
      obtain ⟨pa, va, rfl, _, g1, t1⟩ := see_tup (pv_see S e2 he)
      have hy := kVs_of ek t1
      obtain ⟨w', hw, dw⟩ := (look_at h2).1 r er
      subst hy
      refine ix_dictG hr value slice pins s σ H _ _ v u Q I rx ry ⟨b, w', rfl, ?_, p.here S hh dw⟩ hs
      rw [← hw]
      exact DGet.t h1 g1
    · exact hh.elim
  · exact hh.elim
variable {a b : Expr} {ta tb : TE} {aa ab : AE} {pos : Pos}
theorem d_ix {k : Nat} (hr : Room k X.A) (ha : DE X a ta aa) (hb : DE X b tb ab) (hs : PlainIx b := by exact fun _ _ => rfl) : DE X (.Subscript a b pos) (tOp (c2 aIx) ta tb) (aOp aIx aa ab) := ⟨pe_ix (ix_all hr) ha.pe hb.pe hs, le_op ha.le hb.le⟩

/-! ### slices -/
def cutP (xs : List PyData) (lo hi : Option Int) : List PyData := (xs.drop (HT.sIx xs.length 0 lo)).take (HT.sIx xs.length xs.length hi - HT.sIx xs.length 0 lo)
theorem cut_den {L : Addr → Prop} {H : Hp} {ds : List PyData} {vs : List V} (h : Dens L H ds vs) (lo hi : Option Int) : Dens L H (cutP ds lo hi) (cutV vs lo hi) := by
  unfold cutP cutV
  rw [← h.length]
  exact (h.drop _).take _
abbrev AO := Gm → Sto → (Option Int → Sto → Prop) → Prop
def LO (to : TO) (ao : AO) : Prop := ∀ A G M σ H Ψ Q, Rep A G M σ H → ao G M Ψ → (∀ o A' M' H', Ψ o M' → Grow A M H A' M' H' → Store A' M' H' → Q o H') → to σ H Q
def aNoPart : AO := fun _ M Ψ => Ψ none M
def aPart (ae : AE) : AO := fun G M Ψ => ae G M fun d M1 => match pv d M1 with
  | some (.int i) => Ψ (some i) M1
  | _ => False
structure DO (X : Cx) (e : Option Expr) (to : TO) (ao : AO) : Prop where
  po : PO X e to
  lo : LO to ao
theorem do_none : DO X none tNoPart aNoPart := ⟨po_none, fun A G M σ H Ψ Q R h p => p none A M H h Grow.refl R.sto⟩
theorem do_some (ha : DE X a ta aa) : DO X (some a) (tPart ta) (aPart aa) := ⟨po_some ha.pe, fun A G M σ H Ψ Q R h p =>
  ha.le A G M σ H _ _ R h fun v d A1 M1 H1 h1 g1 s1 q1 => by
    revert h1
    split
    · rename_i i e1
      intro h1
      exact ⟨i, see_int (pv_see s1 e1 q1), p _ A1 M1 H1 h1 g1 s1⟩
    · intro h; exact h.elim⟩
def aSl (n : Bool) (ae : AE) (al ah : AO) : AE := fun G M Ψ => ae G M fun d M1 => al G M1 fun lo M2 => ah G M2 fun hi M3 => match pv d M3 with
  | some (.list ds) => Res n (cutP ds lo hi) M3 Ψ
  | some (.tuple ds) => Ψ (.dat (.tuple (cutP ds lo hi))) M3
  | _ => False
/-- a slice of a list or a tuple -/
def rSl (n : Bool) : V → Option Int → Option Int → Hp → VK → Prop := fun x lo hi H Q => ∃ A M d Ψ, Store A M H ∧ DenD A (Live A M) H d x ∧ (match pv d M with
  | some (.list ds) => Res n (cutP ds lo hi) M Ψ
  | some (.tuple ds) => Ψ (.dat (.tuple (cutP ds lo hi))) M
  | _ => False) ∧ Post A M H Ψ Q
theorem sl_all {n : Bool} : SlR X (rSl n) := by
  intro pins s σ H x v vl vu lo hi sl Q I rx hs pl pu h
  obtain ⟨A, M, d, Ψ, S, hd, hh, p⟩ := h
  split at hh
  · rename_i ds e1
    obtain ⟨a, vs, rfl, ha, t⟩ := see_lst (pv_see S e1 hd)
    exact sl_list pins s σ H _ v vl vu lo hi sl Q I rx hs pl pu ⟨a, vs, rfl, SqL.of ha, p.newR S hh (cut_den t lo hi)⟩
  · rename_i ds e1
    obtain ⟨a, vs, rfl, n, ha, t⟩ := see_tup (pv_see S e1 hd)
    have hl := t.length
    refine sl_tupA pins s σ H _ v vl vu lo hi sl Q I rx hs pl pu ⟨a, vs, rfl, SqT.of ha, fun z => ?_, fun _ => p.newT S hh (cut_den t lo hi)⟩
    have e : cutP ds lo hi = ds := by
      unfold cutP
      rw [hl, z.1, z.2, ← hl]
      simp
    rw [e] at hh
    exact p.here S hh (den_tup n ha t)
  · exact hh.elim
theorem d_sl {n : Bool} {lo hi : Option Expr} {tl th : TO} {al ah : AO} {p2 : Pos} (ha : DE X a ta aa) (hl : DO X lo tl al) (hh : DO X hi th ah) : DE X (.Subscript a (.Slice lo hi none p2) pos) (tSl (rSl n) ta tl th) (aSl n aa al ah) :=
  ⟨pe_slice sl_all ha.pe hl.po hh.po, fun A G M σ H Ψ Q R h p => ha.le A G M σ H _ _ R h fun v d A1 M1 H1 h1 g1 s1 q1 =>
    hl.lo A1 G M1 σ H1 _ _ (R.grow g1 s1) h1 fun o A2 M2 H2 h2 g2 s2 => hh.lo A2 G M2 σ H2 _ _ (R.grow (g1.trans g2) s2) h2 fun o' A3 M3 H3 h3 g3 s3 =>
      ⟨A3, M3, d, Ψ, s3, DenD.grow (g2.trans g3) d v q1, h3, p.grow ((g1.trans g2).trans g3)⟩⟩

/-! ### displays -/
def dats : List D → Option (List PyData)
  | [] => some []
  | .dat p :: r => (match dats r with
    | some ps => some (p :: ps)
    | none => none)
  | _ => none
theorem dats_den {A : Ad} {L : Addr → Prop} {H : Hp} : ∀ {ds : List D} {ps : List PyData} {vs : List V}, dats ds = some ps → DenDs A L H ds vs → Dens L H ps vs
  | _, _, _, e, .nil => by cases e; simp [Dens]
  | d :: r, ps, _, e, .cons h t => by
    cases d with
    | dat p =>
      simp only [dats] at e
      split at e
      · rename_i ps' e1
        cases e
        simp only [Dens]
        exact ⟨_, _, rfl, h, dats_den e1 t⟩
      · cases e
    | own j => cases e
    | raw u => cases e
    | scr _ _ => cases e
def aTup (at' : AA) : AE := fun G M Ψ => at' G M fun ds M1 => match dats ds with
  | some ps => ps.length ≤ sizeLine ∧ Ψ (.dat (.tuple ps)) M1
  | none => False
def aLst (n : Bool) (at' : AA) : AE := fun G M Ψ => at' G M fun ds M1 => match dats ds with
  | some ps => ps.length ≤ sizeLine ∧ Res n ps M1 Ψ
  | none => False
variable {es : List Expr} {t : TA} {at' : AA}
theorem le_tup (h : LA t at') : LE (tTup t) (aTup at') := fun A G M σ H Ψ Q R hh p =>
  h A G M σ H _ _ R hh fun vs ds A1 M1 H1 h1 g1 s1 q1 => by
    revert h1
    split
    · rename_i ps e
      intro h1
      have dd := dats_den e q1
      exact ⟨by rw [← dd.length]; exact h1.1, (p.grow g1).newT s1 h1.2 dd⟩
    · intro h; exact h.elim
theorem le_lst {n : Bool} (h : LA t at') : LE (tLst t) (aLst n at') := fun A G M σ H Ψ Q R hh p =>
  h A G M σ H _ _ R hh fun vs ds A1 M1 H1 h1 g1 s1 q1 => by
    revert h1
    split
    · rename_i ps e
      intro h1
      have dd := dats_den e q1
      exact ⟨by rw [← dd.length]; exact h1.1, (p.grow g1).newR s1 h1.2 dd⟩
    · intro h; exact h.elim
theorem d_tup {k : Nat} (h : DA X es t at') : DE X (.Tuple es k pos) (tTup t) (aTup at') := ⟨pe_tup h.pa, le_tup h.la⟩
theorem d_lst {n : Bool} (h : DA X es t at') : DE X (.List es pos) (tLst t) (aLst n at') := ⟨pe_lst h.pa, le_lst h.la⟩
/-- *e among arguments -/
def aStar (ae : AE) (at' : AA) : AA := fun G M Ψ => ae G M fun d M1 => match sq d M1 with
  | some ds => at' G M1 fun es M2 => Ψ (ds.map D.dat ++ es) M2
  | none => False
theorem denDs_of {A : Ad} {L : Addr → Prop} {H : Hp} : ∀ {ps : List PyData} {vs : List V}, Dens L H ps vs → DenDs A L H (ps.map D.dat) vs
  | [], vs, h => by simp only [Dens] at h; subst h; exact .nil
  | p :: ps, vs, h => by
    simp only [Dens] at h
    obtain ⟨v, r, rfl, h1, h2⟩ := h
    exact .cons h1 (denDs_of h2)
theorem DenDs.append {A : Ad} {L : Addr → Prop} {H : Hp} : ∀ {ds es : List D} {vs us : List V}, DenDs A L H ds vs → DenDs A L H es us → DenDs A L H (ds ++ es) (vs ++ us)
  | _, _, _, _, .nil, t => t
  | _, _, _, _, .cons h r, t => .cons h (DenDs.append r t)
theorem la_star {K : PySem.W.Frag} (he : LE ta aa) (hr : LA t at') : LA (StX.tStar K ta t) (aStar aa at') := fun A G M σ H Ψ Q R hh p =>
  he A G M σ H _ _ R hh fun v d A1 M1 H1 h1 g1 s1 q1 => by
    revert h1
    split
    · rename_i ds e
      intro h1
      obtain ⟨a, vs, rfl, ha, tt⟩ := sq_at s1 e q1
      refine ⟨a, vs, rfl, ha.symm.imp SqT.of SqL.of, hr A1 G M1 σ H1 _ _ (R.grow g1 s1) h1 fun us es A2 M2 H2 h2 g2 s2 q2 => p _ _ A2 M2 H2 h2 (g1.trans g2) s2 ?_⟩
      exact (denDs_of (Dens.kept g2.kept _ _ tt)).append q2
    · intro h; exact h.elim
theorem da_star {K : PySem.W.Frag} {sp : Pos} (hK : X.K = K) (ha : DE X a ta aa) (hr : DA X es t at') (hs : starEach (.Starred a sp :: es) X.env = (true, eval a X.env) :: starEach es X.env := by rfl) : DA X (.Starred a sp :: es) (StX.tStar K ta t) (aStar aa at') := by
  subst hK
  exact ⟨StX.pa_star ha.pe hr.pa hs, la_star ha.le hr.la⟩
end
end AM
end

section
set_option Elab.async false
set_option linter.all false
set_option maxRecDepth 100000
set_option maxHeartbeats 4000000
namespace AM
open PySem PySem.Spec PyProof.Rows L2

section
variable {A : Ad} {M : Sto} {H : Hp} {Ψ : K1} {Q : VK}
theorem dd1 {L : Addr → Prop} {d : D} {xs : List V} (h : DenDs A L H [d] xs) : ∃ x, xs = [x] ∧ DenD A L H d x := by
  cases h with
  | cons h t => cases t; exact ⟨_, rfl, h⟩
theorem dd2 {L : Addr → Prop} {d e : D} {xs : List V} (h : DenDs A L H [d, e] xs) : ∃ x y, xs = [x, y] ∧ DenD A L H d x ∧ DenD A L H e y := by
  cases h with
  | cons h t =>
    obtain ⟨y, rfl, h2⟩ := dd1 t
    exact ⟨_, y, rfl, h, h2⟩
def intsOf : List PyData → Option (List Int)
  | [] => some []
  | .int i :: r => (match intsOf r with
    | some ns => some (i :: ns)
    | none => none)
  | _ => none
theorem ints_eq : ∀ {ds : List PyData} {ns : List Int}, intsOf ds = some ns → ds = ns.map PyData.int
  | [], ns, e => by cases e; rfl
  | d :: r, ns, e => by
    cases d with
    | int i =>
      simp only [intsOf] at e
      split at e
      · rename_i ms e1
        cases e
        rw [ints_eq e1]
        rfl
      · cases e
    | _ => cases e
theorem ints_map {α : Type} (f : α → Int) (xs : List α) : intsOf (xs.map fun x => PyData.int (f x)) = some (xs.map f) := by
  induction xs with
  | nil => rfl
  | cons x xs ih => simp only [List.map_cons, intsOf, ih]
theorem ints_int (xs : List Int) : intsOf (xs.map PyData.int) = some xs := by
  have h := ints_map id xs
  simpa using h
def boolsOf : List PyData → Option (List Bool)
  | [] => some []
  | .bool i :: r => (match boolsOf r with
    | some ns => some (i :: ns)
    | none => none)
  | _ => none
theorem bools_eq : ∀ {ds : List PyData} {ns : List Bool}, boolsOf ds = some ns → ds = ns.map PyData.bool
  | [], ns, e => by cases e; rfl
  | d :: r, ns, e => by
    cases d with
    | bool i =>
      simp only [boolsOf] at e
      split at e
      · rename_i ms e1
        cases e
        rw [bools_eq e1]
        rfl
      · cases e
    | _ => cases e
theorem bools_map {α : Type} (f : α → Bool) (xs : List α) : boolsOf (xs.map fun x => PyData.bool (f x)) = some (xs.map f) := by
  induction xs with
  | nil => rfl
  | cons x xs ih => simp only [List.map_cons, boolsOf, ih]
theorem dens_bools {L : Addr → Prop} : ∀ {ns : List Bool} {vs : List V}, Dens L H (ns.map PyData.bool) vs → vs = ns.map V.bl
  | [], vs, h => by simpa [Dens] using h
  | n :: ns, vs, h => by
    simp only [List.map_cons, Dens] at h
    obtain ⟨v, r, rfl, h1, h2⟩ := h
    simp only [Den] at h1
    subst h1
    rw [dens_bools h2]
    rfl
end

def aLen : AL := fun ds M Ψ => match ds with
  | [d] => (match cv d M with
    | .lst xs => Ψ (.dat (.int xs.length)) M
    | .tup xs => Ψ (.dat (.int xs.length)) M
    | .dk kvs => Ψ (.dat (.int kvs.length)) M
    | _ => (match pv d M with
      | some (.str x) => x.length ≤ sizeLine ∧ Ψ (.dat (.int x.length)) M
      | _ => False))
  | _ => False
def listOf (d : D) (M : Sto) : Option (List PyData) := match cv d M with
  | .lst xs => some xs
  | _ => none
def aSum : AL := fun ds M Ψ => match ds with
  | [d] => (match (listOf d M).bind intsOf with
    | some ns => Ψ (.dat (.int ns.sum)) M
    | none => False)
  | _ => False
def aMaxL : AL := fun ds M Ψ => match ds with
  | [d] => (match (listOf d M).bind intsOf with
    | some ns => ns ≠ [] ∧ ∀ m, m ∈ ns → (∀ y, y ∈ ns → y ≤ m) → Ψ (.dat (.int m)) M
    | none => False)
  | [d, e] => (match pv d M, pv e M with
    | some (.int i), some (.int j) => Ψ (.dat (.int (max i j))) M
    | _, _ => False)
  | _ => False
def aMinL : AL := fun ds M Ψ => match ds with
  | [d] => (match (listOf d M).bind intsOf with
    | some ns => ns ≠ [] ∧ ∀ m, m ∈ ns → (∀ y, y ∈ ns → m ≤ y) → Ψ (.dat (.int m)) M
    | none => False)
  | [d, e] => (match pv d M, pv e M with
    | some (.int i), some (.int j) => Ψ (.dat (.int (min i j))) M
    | _, _ => False)
  | _ => False
def aAbs : AL := fun ds M Ψ => match ds with
  | [d] => (match pv d M with
    | some (.int i) => Ψ (.dat (.int i.natAbs)) M
    | _ => False)
  | _ => False
def aInt1 : AL := fun ds M Ψ => match ds with
  | [d] => (match pv d M with
    | some (.int i) => Ψ (.dat (.int i)) M
    | some (.bool b) => Ψ (.dat (.int (if b then 1 else 0))) M
    | _ => False)
  | _ => False
def aTupleOf : AL := fun ds M Ψ => match ds with
  | [d] => (match cv d M with
    | .lst xs => Ψ (.dat (.tuple xs)) M
    | .tup xs => Ψ (.dat (.tuple xs)) M
    | _ => False)
  | _ => False
def aListOf (n : Bool) : AL := fun ds M Ψ => match ds with
  | [d] => (match cv d M with
    | .lst xs => Res n xs M Ψ
    | .tup xs => Res n xs M Ψ
    | _ => False)
  | _ => False
def aAll : AL := fun ds M Ψ => match ds with
  | [d] => (match (listOf d M).bind boolsOf with
    | some bs => Ψ (.dat (.bool (bs.all id))) M
    | none => False)
  | _ => False
def aAny : AL := fun ds M Ψ => match ds with
  | [d] => (match (listOf d M).bind boolsOf with
    | some bs => Ψ (.dat (.bool (bs.any id))) M
    | none => False)
  | _ => False
/-- sorted of a list of data that compare place by place -/
def aSorted (n : Bool) : AL := fun ds M Ψ => match ds with
  | [d] => (match listOf d M with
    | some xs => PyData.plainAll xs = true ∧ xs.length ≤ sizeLine ∧ PySem.W.AllAlike xs ∧ PySem.W.Sortable xs ∧ (∀ x ∈ xs, x.depth ≤ 60) ∧ Res n (xs.mergeSort (PySem.W.dataLe false id)) M Ψ
    | none => False)
  | _ => False
section
variable {X : Cx}
theorem listOf_at {A : Ad} {M : Sto} {H : Hp} {d : D} {v : V} {ds : List PyData} (S : Store A M H) (h : DenD A (Live A M) H d v) (e : listOf d M = some ds) :
    ∃ a vs, v = .ref a ∧ H a = some (.lst vs) ∧ Dens (Live A M) H ds vs := by
  unfold listOf at e
  split at e
  · rename_i xs e1
    cases e
    exact cv_of S h e1
  · cases e
theorem call_lenG : CallR X (.builtin "len") (cL aLen) := by
  intro pins s σ H xs us Q I r h
  obtain ⟨A, M, ds, Ψ, S, hd, hh, p⟩ := h
  unfold aLen at hh
  split at hh
  · rename_i d
    obtain ⟨x, rfl, hx⟩ := dd1 hd
    split at hh
    · rename_i ys e1
      obtain ⟨a, vs, rfl, ha, t⟩ := cv_of S hx e1
      exact call_len_seq pins s σ H _ us Q I r ⟨a, vs, rfl, .inl (SqL.of ha), by rw [← t.length]; exact p.here S hh rfl⟩
    · rename_i ys e1
      obtain ⟨a, vs, rfl, _, ha, t⟩ := cv_of S hx e1
      exact call_len_seq pins s σ H _ us Q I r ⟨a, vs, rfl, .inr (SqT.of ha), by rw [← t.length]; exact p.here S hh rfl⟩
    · rename_i ys e1
      obtain ⟨a, ws, rfl, ha, t⟩ := cv_of S hx e1
      have hl : ys.length = ws.length := Paired.length t
      exact call_lenD pins s σ H _ us Q I r ⟨a, ws, rfl, ha, by rw [← hl]; exact p.here S hh rfl⟩
    · split at hh
      · rename_i z e1
        exact call_len_str pins s σ H _ us Q I r ⟨z, by rw [see_str (pv_see S e1 hx)], hh.1, p.here S hh.2 rfl⟩
      · exact hh.elim
  · exact hh.elim
theorem call_sumG (hc : X.calm = true) : CallR X (.builtin "sum") (cL aSum) := by
  intro pins s σ H xs us Q I r h
  obtain ⟨A, M, ds, Ψ, S, hd, hh, p⟩ := h
  unfold aSum at hh
  split at hh
  · rename_i d
    obtain ⟨x, rfl, hx⟩ := dd1 hd
    split at hh
    · rename_i ns e1
      obtain ⟨zs, e1, e2⟩ := Option.bind_eq_some_iff.mp e1
      obtain ⟨a, vs, rfl, ha, t⟩ := listOf_at S hx e1
      rw [ints_eq e2, Dens.ints] at t
      subst t
      exact cr_sum hc pins s σ H _ us Q I r ⟨a, ns, rfl, SqL.of ha, p.here S hh rfl⟩
    · exact hh.elim
  · exact hh.elim
theorem call_maxG (hc : X.calm = true) : CallR X (.builtin "max") (cL aMaxL) := by
  intro pins s σ H xs us Q I r h
  obtain ⟨A, M, ds, Ψ, S, hd, hh, p⟩ := h
  unfold aMaxL at hh
  split at hh
  · rename_i d
    obtain ⟨x, rfl, hx⟩ := dd1 hd
    split at hh
    · rename_i ns e1
      obtain ⟨zs, e1, e2⟩ := Option.bind_eq_some_iff.mp e1
      obtain ⟨a, vs, rfl, ha, t⟩ := listOf_at S hx e1
      rw [ints_eq e2, Dens.ints] at t
      subst t
      exact cr_max hc pins s σ H _ us Q I r ⟨a, ns, rfl, SqL.of ha, List.length_pos_iff.mpr hh.1, fun m h1 h2 => p.here S (hh.2 m h1 h2) rfl⟩
    · exact hh.elim
  · rename_i d e
    obtain ⟨x, y, rfl, hx, hy⟩ := dd2 hd
    split at hh
    · rename_i i j e1 e2
      have hm : (if j > i then j else i) = max i j := by
        by_cases hij : j > i
        · rw [if_pos hij, Int.max_eq_right (by omega)]
        · rw [if_neg hij, Int.max_eq_left (by omega)]
      refine call_max2 hc pins s σ H _ us Q I r ⟨i, j, by rw [see_int (pv_see S e1 hx), see_int (pv_see S e2 hy)], ?_⟩
      rw [hm]
      exact p.here S hh rfl
    · exact hh.elim
  · exact hh.elim
theorem call_minG (hc : X.calm = true) : CallR X (.builtin "min") (cL aMinL) := by
  intro pins s σ H xs us Q I r h
  obtain ⟨A, M, ds, Ψ, S, hd, hh, p⟩ := h
  unfold aMinL at hh
  split at hh
  · rename_i d
    obtain ⟨x, rfl, hx⟩ := dd1 hd
    split at hh
    · rename_i ns e1
      obtain ⟨zs, e1, e2⟩ := Option.bind_eq_some_iff.mp e1
      obtain ⟨a, vs, rfl, ha, t⟩ := listOf_at S hx e1
      rw [ints_eq e2, Dens.ints] at t
      subst t
      exact cr_min hc pins s σ H _ us Q I r ⟨a, ns, rfl, SqL.of ha, List.length_pos_iff.mpr hh.1, fun m h1 h2 => p.here S (hh.2 m h1 h2) rfl⟩
    · exact hh.elim
  · rename_i d e
    obtain ⟨x, y, rfl, hx, hy⟩ := dd2 hd
    split at hh
    · rename_i i j e1 e2
      have hm : (if j < i then j else i) = min i j := by
        by_cases hij : j < i
        · rw [if_pos hij, Int.min_eq_right (by omega)]
        · rw [if_neg hij, Int.min_eq_left (by omega)]
      refine call_min2 hc pins s σ H _ us Q I r ⟨i, j, by rw [see_int (pv_see S e1 hx), see_int (pv_see S e2 hy)], ?_⟩
      rw [hm]
      exact p.here S hh rfl
    · exact hh.elim
  · exact hh.elim
theorem call_absG : CallR X (.builtin "abs") (cL aAbs) := by
  intro pins s σ H xs us Q I r h
  obtain ⟨A, M, ds, Ψ, S, hd, hh, p⟩ := h
  unfold aAbs at hh
  split at hh
  · rename_i d
    obtain ⟨x, rfl, hx⟩ := dd1 hd
    split at hh
    · rename_i i e1
      have hm : (if i < 0 then -i else i) = (i.natAbs : Int) := by omega
      refine call_abs pins s σ H _ us Q I r ⟨i, by rw [see_int (pv_see S e1 hx)], ?_⟩
      rw [hm]
      exact p.here S hh rfl
    · exact hh.elim
  · exact hh.elim
theorem call_intG : CallR X (.type "int") (cL aInt1) := by
  intro pins s σ H xs us Q I r h
  obtain ⟨A, M, ds, Ψ, S, hd, hh, p⟩ := h
  unfold aInt1 at hh
  split at hh
  · rename_i d
    obtain ⟨x, rfl, hx⟩ := dd1 hd
    split at hh
    · rename_i i e1
      exact call_int1 pins s σ H _ us Q I r (.inl ⟨i, by rw [see_int (pv_see S e1 hx)], p.here S hh rfl⟩)
    · rename_i b e1
      exact call_int1 pins s σ H _ us Q I r (.inr ⟨b, by rw [see_bl (pv_see S e1 hx)], p.here S hh rfl⟩)
    · exact hh.elim
  · exact hh.elim
theorem call_tupleG : CallR X (.type "tuple") (cL aTupleOf) := by
  intro pins s σ H xs us Q I r h
  obtain ⟨A, M, ds, Ψ, S, hd, hh, p⟩ := h
  unfold aTupleOf at hh
  split at hh
  · rename_i d
    obtain ⟨x, rfl, hx⟩ := dd1 hd
    split at hh
    · rename_i ys e1
      obtain ⟨a, vs, rfl, ha, t⟩ := cv_of S hx e1
      exact call_tuple_of pins s σ H _ us Q I r ⟨a, vs, rfl, .inl ⟨SqL.of ha, p.newT S hh t⟩⟩
    · rename_i ys e1
      obtain ⟨a, vs, rfl, n, ha, t⟩ := cv_of S hx e1
      exact call_tuple_of pins s σ H _ us Q I r ⟨a, vs, rfl, .inr ⟨SqT.of ha, p.here S hh (den_tup n ha t)⟩⟩
    · exact hh.elim
  · exact hh.elim
theorem call_listG {n : Bool} : CallR X (.type "list") (cL (aListOf n)) := by
  intro pins s σ H xs us Q I r h
  obtain ⟨A, M, ds, Ψ, S, hd, hh, p⟩ := h
  unfold aListOf at hh
  split at hh
  · rename_i d
    obtain ⟨x, rfl, hx⟩ := dd1 hd
    split at hh
    · rename_i ys e1
      obtain ⟨a, vs, rfl, ha, t⟩ := cv_of S hx e1
      exact call_list_of pins s σ H _ us Q I r ⟨a, vs, rfl, .inl (SqL.of ha), p.newR S hh t⟩
    · rename_i ys e1
      obtain ⟨a, vs, rfl, _, ha, t⟩ := cv_of S hx e1
      exact call_list_of pins s σ H _ us Q I r ⟨a, vs, rfl, .inr (SqT.of ha), p.newR S hh t⟩
    · exact hh.elim
  · exact hh.elim
theorem call_allG (hc : X.calm = true) : CallR X (.builtin "all") (cL aAll) := by
  intro pins s σ H xs us Q I r h
  obtain ⟨A, M, ds, Ψ, S, hd, hh, p⟩ := h
  unfold aAll at hh
  split at hh
  · rename_i d
    obtain ⟨x, rfl, hx⟩ := dd1 hd
    split at hh
    · rename_i ns e1
      obtain ⟨zs, e1, e2⟩ := Option.bind_eq_some_iff.mp e1
      obtain ⟨a, vs, rfl, ha, t⟩ := listOf_at S hx e1
      rw [bools_eq e2] at t
      have t' := dens_bools t
      subst t'
      exact cr_all hc pins s σ H _ us Q I r ⟨a, ns, rfl, SqL.of ha, p.here S hh rfl⟩
    · exact hh.elim
  · exact hh.elim
theorem call_anyG (hc : X.calm = true) : CallR X (.builtin "any") (cL aAny) := by
  intro pins s σ H xs us Q I r h
  obtain ⟨A, M, ds, Ψ, S, hd, hh, p⟩ := h
  unfold aAny at hh
  split at hh
  · rename_i d
    obtain ⟨x, rfl, hx⟩ := dd1 hd
    split at hh
    · rename_i ns e1
      obtain ⟨zs, e1, e2⟩ := Option.bind_eq_some_iff.mp e1
      obtain ⟨a, vs, rfl, ha, t⟩ := listOf_at S hx e1
      rw [bools_eq e2] at t
      have t' := dens_bools t
      subst t'
      exact cr_any hc pins s σ H _ us Q I r ⟨a, ns, rfl, SqL.of ha, p.here S hh rfl⟩
    · exact hh.elim
  · exact hh.elim

/-! ### sorted -/
open PySem.W in
theorem each_of {K : PySem.W.Frag} {pins : List (Addr × Obj)} {σ : L2.St} {H : Hp} {s : Shared} {L : Addr → Prop} (I : Inv X pins σ H s) : ∀ {ds : List PyData} {vs : List V} {its : List Value}, PyData.plainAll ds = true → Dens L H ds vs → Vals vs its →
    EachIs (fun u p => ∃ x, RelV x u ∧ Den L H p x) its ds ∧ EachIs (fun u p => ∃ as, Reads s.heap u (id p) as) its ds
  | [], vs, its, _, h, r => by
    simp only [Dens] at h
    subst h
    cases r
    exact ⟨.nil, .nil⟩
  | d :: ds, vs, its, c, h, r => by
    simp only [Dens] at h
    obtain ⟨x, rest, rfl, h1, h2⟩ := h
    have c' : d.plain = true ∧ PyData.plainAll ds = true := by simpa [PyData.plainAll] using c
    cases r with
    | cons r1 r2 =>
      obtain ⟨e1, e2⟩ := each_of (K := K) I c'.2 h2 r2
      exact ⟨.cons ⟨x, r1, h1⟩ e1, .cons (Dp.reads I d x _ (Den.dp d x c'.1 h1) r1) e2⟩
open PySem.W in
theorem each_back {L : Addr → Prop} {H : Hp} : ∀ {ds : List PyData} {its : List Value}, EachIs (fun u p => ∃ x, RelV x u ∧ Den L H p x) its ds → ∃ vs, Vals vs its ∧ Dens L H ds vs
  | _, _, .nil => ⟨[], .nil, by simp [Dens]⟩
  | _, _, .cons h t => by
    obtain ⟨x, r, h1⟩ := h
    obtain ⟨vs, r2, h2⟩ := each_back t
    exact ⟨x :: vs, .cons r r2, by simp only [Dens]; exact ⟨x, vs, rfl, h1, h2⟩⟩
theorem call_sortedG {n : Bool} {k : Nat} (hr : Room k X.A) : CallR X (.builtin "sorted") (cL (aSorted n)) := by
  intro pins s σ H xs us Q I r h
  obtain ⟨A, M, ds, Ψ, S, hd, hh, p⟩ := h
  unfold aSorted at hh
  split at hh
  · rename_i d
    obtain ⟨x, rfl, hx⟩ := dd1 hd
    split at hh
    · rename_i ys e1
      obtain ⟨c, hl, c1, c2, c3, q⟩ := hh
      obtain ⟨a, vs, rfl, ha, t⟩ := listOf_at S hx e1
      obtain ⟨its, rv, hlst, hz⟩ := I.list (SqL.of (K := X.K) ha)
      rw [Vals.ref1 r]
      obtain ⟨e2, e3⟩ := each_of (K := X.K) I c t rv
      have hun := hr.un
      have hm : ys.map id = ys := List.map_id ys
      refine PySem.W.sorted_data (enc := id) hlst.isList e2 e3 (by rw [hm]; exact c1) (by rw [hm]; exact c2) hl (fun b hb => ?_) fun out h1 h2 => ?_
      · have := c3 b hb
        show X.A.units + 2 + b.depth < cLine
        omega
      · obtain ⟨vs', r', t'⟩ := each_back h2
        obtain ⟨ep, he'⟩ := PyProof.Rows.sortedAll_at s.heap its (List.toArray out)
        have hf : H (s.heap.objs.size + 1) = none := I.hok.fresh (Nat.le_succ _)
        have q' := p.newR S q t' _ hf
        have hlen : vs'.length ≤ sizeLine := by rw [← t'.length, List.length_mergeSort]; exact hl
        exact ⟨.ref _, _, I.laid (t' := s.toks) (o := .lst vs') (fun _ _ => PyProof.Rows.sortedAll_old) (Nat.le_succ _) ⟨hlen, out, ep, r', he'⟩, rfl, q'⟩
    · exact hh.elim
  · exact hh.elim

/-! ### isinstance -/
def tyN : PyData → String
  | .none => "NoneType"
  | .bool _ => "bool"
  | .int _ => "int"
  | .str _ => "str"
  | .list _ => "list"
  | .tuple _ => "tuple"
  | .dict _ => "dict"
def isTy (p : PyData) (T : String) : Bool := match p with
  | .none => false
  | .bool _ => T == "bool" || T == "int"
  | .int _ => T == "int"
  | .str _ => T == "str"
  | .list _ => T == "list"
  | .tuple _ => T == "tuple"
  | .dict _ => T == "dict"
def tyNames : List String := ["int", "bool", "str", "list", "tuple", "dict"]
theorem kit_all (p : PyData) (T : String) (h : T ∈ tyNames) : kitB (tyN p) T = some (isTy p T) := by
  have key : ∀ (a : String) (f : String → Bool), tyNames.all (fun T => kitB a T == some (f T)) = true → kitB a T = some (f T) := fun a f e => by
    have := List.all_eq_true.mp e T h
    simpa using this
  cases p with
  | none => exact key "NoneType" (fun _ => false) (by decide +kernel)
  | bool b => exact key "bool" (fun T => T == "bool" || T == "int") (by decide +kernel)
  | int i => exact key "int" (fun T => T == "int") (by decide +kernel)
  | str x => exact key "str" (fun T => T == "str") (by decide +kernel)
  | list x => exact key "list" (fun T => T == "list") (by decide +kernel)
  | tuple x => exact key "tuple" (fun T => T == "tuple") (by decide +kernel)
  | dict x => exact key "dict" (fun T => T == "dict") (by decide +kernel)
theorem see_ty {K : PySem.W.Frag} {L : Addr → Prop} {H : Hp} : ∀ {p : PyData} {v : V}, See L H p v → TyX K H v (.type (tyN p))
  | .none, v, h => by cases (show v = V.non from h); exact .base .non
  | .bool b, v, h => by cases (show v = V.bl b from h); exact .base (.bl b)
  | .int i, v, h => by cases (show v = V.int i from h); exact .base (.int i)
  | .str x, v, h => by cases (show v = V.str x from h); exact .base (.str x)
  | .list ds, v, h => by
    obtain ⟨a, vs, rfl, h1, h2⟩ := h
    exact .base (.lst h1)
  | .tuple ds, v, h => by
    obtain ⟨a, vs, rfl, _, h1, h2⟩ := see_tup h
    exact .base (.tup h1)
  | .dict ds, v, h => by
    have h' : Den L H (.dict ds) v := h
    simp only [Den] at h'
    obtain ⟨a, rfl, _, h'⟩ := h'
    rcases h' with ⟨ws, h1, _⟩ | ⟨ws, h1, _⟩
    · exact .base (.dK h1)
    · exact .base (.dT h1)
def aIsi : AL := fun ds M Ψ => match ds with
  | [d, .raw (.ty T)] => (match pv d M with
    | some p => T ∈ tyNames ∧ Ψ (.dat (.bool (isTy p T))) M
    | none => False)
  | _ => False
theorem call_isiG : CallR X (.builtin "isinstance") (cL aIsi) := by
  intro pins s σ H xs us Q I r h
  obtain ⟨A, M, ds, Ψ, S, hd, hh, p⟩ := h
  unfold aIsi at hh
  split at hh
  · rename_i d T
    obtain ⟨x, y, rfl, hx, hy⟩ := dd2 hd
    cases (show y = V.ty T from hy)
    split at hh
    · rename_i q e1
      exact call_isi pins s σ H _ us Q I r ⟨x, .ty T, _, _, isTy q T, rfl, .ty T, see_ty (pv_see S e1 hx), kit_ty (kit_all q T hh.1), p.here S hh.2 rfl⟩
    · exact hh.elim
  · exact hh.elim

/-! ### repr -/
def aRepr : AL := fun ds M Ψ => match ds with
  | [d] => (match pv d M with
    | some p => (p.plain = true ∨ p = .dict []) ∧ p.showable = true ∧ p.depth ≤ 60 ∧ p.shown.length ≤ sizeLine ∧ Ψ (.dat (.str p.shown)) M
    | none => False)
  | _ => False
mutual
theorem hasDict_plain : ∀ p : PyData, p.plain = true → p.hasDict = false
  | .none, _ => by simp only [PyData.hasDict]
  | .bool _, _ => by simp only [PyData.hasDict]
  | .int _, _ => by simp only [PyData.hasDict]
  | .str _, _ => by simp only [PyData.hasDict]
  | .list xs, h => by
    simp only [PyData.hasDict]
    exact hasDict_plainAll xs (by simpa [PyData.plain] using h)
  | .tuple xs, h => by
    simp only [PyData.hasDict]
    exact hasDict_plainAll xs (by simpa [PyData.plain] using h)
  | .dict _, h => by simp [PyData.plain] at h
theorem hasDict_plainAll : ∀ ps : List PyData, PyData.plainAll ps = true → PyData.hasDictAll ps = false
  | [], _ => by simp only [PyData.hasDictAll]
  | p :: ps, h => by
    have c' : p.plain = true ∧ PyData.plainAll ps = true := by simpa [PyData.plainAll] using h
    simp only [PyData.hasDictAll, hasDict_plain p c'.1, hasDict_plainAll ps c'.2, Bool.or_false]
end
theorem call_reprG {k : Nat} (hr : Room k X.A) (hg : X.A.guards = some []) : CallR X (.builtin "repr") (cL aRepr) := by
  intro pins s σ H xs us Q I r h
  obtain ⟨A, M, ds, Ψ, S, hd, hh, p⟩ := h
  have hun := hr.un
  unfold aRepr at hh
  split at hh
  · rename_i d
    obtain ⟨x, rfl, hx⟩ := dd1 hd
    obtain ⟨u, rfl, rx⟩ := vals1 r
    split at hh
    · rename_i z e1
      obtain ⟨c1, c2, c3, c4, q⟩ := hh
      have hs := pv_see S e1 hx
      have big : ∀ (a : Addr) (as : List Addr), u = .ref a → Reads s.heap (.ref a) z as → (z.hasDict = true → sysModules ∉ as) → wpAny (model X.prog X.w) X.A (call (.builtin "repr") [u]) (EP X pins σ Q) X.xe s := fun a as hu rd hn => by
        subst hu
        exact repr_of_reads' rd c2 hn hg (by omega) (fun b o e => e) (fun h' u' tk hk => ⟨.str _, H, I.kept hk, ⟨_, rfl⟩, p.here S q rfl⟩) c4
      cases z with
      | none =>
        cases (show x = V.non from hs)
        cases (show u = Value.none from rx)
        exact PySem.P.repr_of_none ⟨.str _, H, I.tok _, ⟨_, rfl⟩, p.here S q rfl⟩
      | bool b =>
        cases (show x = V.bl b from hs)
        cases (show u = Value.bool b from rx)
        exact PySem.P.repr_of_bool ⟨.str _, H, I.tok _, ⟨_, rfl⟩, p.here S q rfl⟩
      | int i =>
        cases (show x = V.int i from hs)
        obtain ⟨t, rfl⟩ := rx
        exact PySem.P.repr_of_int (by simpa [PyData.showable] using c2) ⟨.str _, H, I.tok _, ⟨_, rfl⟩, p.here S q rfl⟩
      | str y =>
        cases (show x = V.str y from hs)
        obtain ⟨t, rfl⟩ := rx
        exact PySem.P.repr_of_str ⟨.str _, H, I.tok _, ⟨_, rfl⟩, p.here S q rfl⟩ (by simpa [PyData.shown] using c4)
      | list ys =>
        have c1' : PyData.plain (.list ys) = true := c1.resolve_right (fun e => by cases e)
        obtain ⟨a, vs, rfl, ha, t⟩ := hs
        obtain ⟨as, rd⟩ := Dp.reads I (.list ys) (.ref a) u (See.dp c1' ⟨a, vs, rfl, ha, t⟩) rx
        cases (show u = Value.ref a from rx)
        exact big a as rfl rd (PySem.PyData.noDict_hsm (hasDict_plain _ c1'))
      | tuple ys =>
        have c1' : PyData.plain (.tuple ys) = true := c1.resolve_right (fun e => by cases e)
        obtain ⟨a, vs, rfl, n, ha, t⟩ := see_tup hs
        obtain ⟨as, rd⟩ := Dp.reads I (.tuple ys) (.ref a) u (Den.dp (L := Live A M) _ _ c1' (den_tup n ha t)) rx
        cases (show u = Value.ref a from rx)
        exact big a as rfl rd (PySem.PyData.noDict_hsm (hasDict_plain _ c1'))
      | dict kvs =>
        have c1' : kvs = [] := by
          rcases c1 with e | e
          · simp [PyData.plain] at e
          · cases e; rfl
        subst c1'
        have h' : Den (Live A M) H (.dict []) x := hs
        simp only [Den] at h'
        obtain ⟨a, rfl, _, h'⟩ := h'
        cases (show u = Value.ref a from rx)
        rcases h' with ⟨ws, ha, t⟩ | ⟨ws, ha, t⟩
        · simp only [DenK] at t
          subst t
          obtain ⟨_, hne, vs, rel, o, es, ep, ho, hx1, hdat, hk, hp, _⟩ := I.hok a _ ha
          cases rel
          have es0 : es.toList = [] := by
            generalize es.toList = l at hp
            cases hp
            rfl
          refine big a [a] rfl ?_ (fun _ hm => ?_)
          · have rd := Reads.dict (kvs := []) (as := []) (bs := []) ho hx1.1 hdat (by rw [es0]; exact .nil) (by rw [es0]; exact .nil)
            simpa using rd
          · have : sysModules = a := by simpa using hm
            rw [← this] at hne
            simp at hne
        · simp only [DenT] at t
          subst t
          obtain ⟨_, hne, xs', rel, o, es, ep, ho, hx1, hdat, hp, _⟩ := I.hok a _ ha
          cases rel
          refine big a [a] rfl ?_ (fun _ hm => ?_)
          · have rd := Reads.dict (kvs := []) (as := []) (bs := []) ho hx1.1 hdat (by rw [hp]; exact .nil) (by rw [hp]; exact .nil)
            simpa using rd
          · have : sysModules = a := by simpa using hm
            rw [← this] at hne
            simp at hne
    · exact hh.elim
  · exact hh.elim
end

/-! ### as expressions -/
section
variable {X : Cx} {x : Str} {e : Expr} {es : List Expr} {t : TA} {at' : AA} {r : AL} {p pos : Pos} {id : String}
def aCB (r : AL) (at' : AA) : AE := fun G M Ψ => at' G M fun ds M1 => r ds M1 Ψ
theorem le_cb (h : LA t at') : LE (tCB (cL r) t) (aCB r at') := fun A G M σ H Ψ Q R hh q =>
  h A G M σ H _ _ R hh fun vs ds A1 M1 H1 h1 g1 s1 q1 => ⟨A1, M1, ds, Ψ, s1, q1, h1, q.grow g1⟩
theorem d_cb (hc : CallR X (.builtin id) (cL r)) (hm : X.mg x = none) (ha : DA X (e :: es) t at') (hg : Gl X x := by rfl) (hv : bootBuiltins x = some (.builtin id) := by decide +kernel) (hn : x ≠ "__name__" := by decide) (hdb : (x == ("__debug__" : Str)) = false := by decide)
    (he : starEach (e :: es) X.env = (false, eval e X.env) :: starEach es X.env := by rfl) (hpl : (backTo pos (starEach es X.env)).any (·.1) = false := by rfl) : DE X (.Call (.Name x p) (e :: es) [] pos) (tCB (cL r) t) (aCB r at') :=
  ⟨pe_callB hc hg hm hv ha.pa hn hdb he hpl, le_cb ha.la⟩
theorem d_ct (hc : CallR X (.type id) (cL r)) (hm : X.mg x = none) (ha : DA X (e :: es) t at') (hg : Gl X x := by rfl) (hv : bootBuiltins x = some (.type id) := by decide +kernel) (hn : x ≠ "__name__" := by decide) (hdb : (x == ("__debug__" : Str)) = false := by decide)
    (he : starEach (e :: es) X.env = (false, eval e X.env) :: starEach es X.env := by rfl) (hpl : (backTo pos (starEach es X.env)).any (·.1) = false := by rfl) : DE X (.Call (.Name x p) (e :: es) [] pos) (tCB (cL r) t) (aCB r at') :=
  ⟨pe_callTy hc hg hm hv ha.pa hn hdb he hpl, le_cb ha.la⟩
/-- a built-in class's name, as a value -/
theorem d_ty {T : String} (hm : X.mg x = none) (hg : Gl X x := by rfl) (hv : bootBuiltins x = some (.type T) := by decide +kernel) (hn : x ≠ "__name__" := by decide) (hdb : (x == ("__debug__" : Str)) = false := by decide) :
    DE X (.Name x pos) (tC (.ty T)) (aC (.raw (.ty T))) := ⟨pe_bltn hg hm hv rfl hn hdb, le_raw⟩
end
end AM
end

section
set_option Elab.async false
set_option linter.all false
set_option maxRecDepth 100000
set_option maxHeartbeats 4000000
namespace AM
open PySem PySem.Spec PyProof.Rows L2

structure AEnds where
  nx : Gm → Sto → Prop
  rt : D → Sto → Prop
  bk : Gm → Sto → Prop := fun _ _ => False
  ct : Gm → Sto → Prop := fun _ _ => False
abbrev AS := AEnds → Gm → Sto → Prop
structure EndOk (A : Ad) (M : Sto) (H : Hp) (K : AEnds) (D : Ends) : Prop where
  nx : ∀ A' G' M' σ' H', Grow A M H A' M' H' → Rep A' G' M' σ' H' → K.nx G' M' → D.nx σ' H'
  rt : ∀ v d A' M' H', Grow A M H A' M' H' → Store A' M' H' → DenD A' (Live A' M') H' d v → K.rt d M' → D.rt v H'
  bk : ∀ A' G' M' σ' H', Grow A M H A' M' H' → Rep A' G' M' σ' H' → K.bk G' M' → D.bk σ' H'
  ct : ∀ A' G' M' σ' H', Grow A M H A' M' H' → Rep A' G' M' σ' H' → K.ct G' M' → D.ct σ' H'
theorem EndOk.grow {A A1 : Ad} {M M1 : Sto} {H H1 : Hp} {K : AEnds} {D : Ends} (e : EndOk A M H K D) (g : Grow A M H A1 M1 H1) : EndOk A1 M1 H1 K D :=
  ⟨fun A' G' M' σ' H' g' => e.nx A' G' M' σ' H' (g.trans g'), fun v d A' M' H' g' => e.rt v d A' M' H' (g.trans g'), fun A' G' M' σ' H' g' => e.bk A' G' M' σ' H' (g.trans g'), fun A' G' M' σ' H' g' => e.ct A' G' M' σ' H' (g.trans g')⟩

def LS (ts : TS) (as_ : AS) : Prop := ∀ A G M σ H K D, Rep A G M σ H → EndOk A M H K D → as_ K G M → ts D σ H
structure DS (X : Cx) (st : Stmt) (ts : TS) (as_ : AS) : Prop where
  ps : PS X st ts
  ls : LS ts as_
structure DSs (X : Cx) (st : List Stmt) (ts : TS) (as_ : AS) : Prop where
  ps : PSs X st ts
  ls : LS ts as_

def aNext : AS := fun K G M => K.nx G M
def aSeq (t u : AS) : AS := fun K G M => t { K with nx := u K } G M
def aExpr (ae : AE) : AS := fun K G M => ae G M fun _ M1 => K.nx G M1
def aRet (ae : AE) : AS := fun K G M => ae G M K.rt
def aRetN : AS := fun K _ M => K.rt (.dat .none) M
def aIfS (c : AT) (t u : AS) : AS := fun K G M => c G M fun b M1 => if b = true then t K G M1 else u K G M1
def aBreak : AS := fun K G M => K.bk G M
def aCont : AS := fun K G M => K.ct G M
section
variable {X : Cx} {st : Stmt} {rest : List Stmt} {t u : TS} {at' au : AS} {e : Expr} {te : TE} {ae : AE} {pos : Pos}
theorem dss_nil : DSs X [] tNext aNext := ⟨pss_nil, fun A G M σ H K D R E h => E.nx A G M σ H Grow.refl R h⟩
theorem ls_seq (h1 : LS t at') (h2 : LS u au) : LS (tSeq t u) (aSeq at' au) := fun A G M σ H K D R E h =>
  h1 A G M σ H { K with nx := au K } { D with nx := u D } R ⟨fun A' G' M' σ' H' g r k => h2 A' G' M' σ' H' K D r (E.grow g) k, E.rt, E.bk, E.ct⟩ h
theorem dss_cons (h1 : DS X st t at') (h2 : DSs X rest u au) : DSs X (st :: rest) (tSeq t u) (aSeq at' au) := ⟨pss_cons h1.ps h2.ps, ls_seq h1.ls h2.ls⟩
theorem dss_one (h1 : DS X st t at') : DSs X [st] t at' := ⟨pss_one h1.ps, h1.ls⟩
theorem d_pass : DS X (.Pass pos) tNext aNext := ⟨ps_pass, fun A G M σ H K D R E h => E.nx A G M σ H Grow.refl R h⟩
theorem d_break : DS X (.Break pos) tBreak aBreak := ⟨ps_break, fun A G M σ H K D R E h => E.bk A G M σ H Grow.refl R h⟩
theorem d_cont : DS X (.Continue pos) tCont aCont := ⟨ps_continue, fun A G M σ H K D R E h => E.ct A G M σ H Grow.refl R h⟩
theorem d_expr (he : DE X e te ae) (hs : swapsWith e none pos.line X.env = pure false := by rfl) : DS X (.Expr e pos) (tDrop te) (aExpr ae) :=
  ⟨ps_expr he.pe hs, fun A G M σ H K D R E h => he.le A G M σ H _ _ R h fun v d A' M' H' h1 g s _ => E.nx A' G M' σ H' g (R.grow g s) h1⟩
theorem d_ret (he : DE X e te ae) : DS X (.Return (some e) pos) (tRet te) (aRet ae) :=
  ⟨ps_ret he.pe, fun A G M σ H K D R E h => he.le A G M σ H _ _ R h fun v d A' M' H' h1 g s q => E.rt v d A' M' H' g s q h1⟩
theorem d_retN : DS X (.Return none pos) tRetN aRetN := ⟨ps_retN, fun A G M σ H K D R E h => E.rt .non (.dat .none) A M H Grow.refl R.sto rfl h⟩
theorem d_ifS {c : Expr} {a b : List Stmt} {tc : TT} {ac : AT} (hc : DT X c tc ac) (ha : DSs X a t at') (hb : DSs X b u au) : DS X (.If c a b pos) (tIfS tc t u) (aIfS ac at' au) :=
  ⟨ps_if hc.pt ha.ps hb.ps, fun A G M σ H K D R E h => hc.lt A G M σ H _ _ R h fun b A' M' H' h1 g s => by
    cases b with
    | true => exact ha.ls A' G M' σ H' K D (R.grow g s) (E.grow g) h1
    | false => exact hb.ls A' G M' σ H' K D (R.grow g s) (E.grow g) h1⟩
end

/-! ### stores to names -/
theorem Rep.set {A : Ad} {G : Gm} {M : Sto} {σ : L2.St} {H : Hp} (R : Rep A G M σ H) {i : Nat} {d : D} {v : V} (h : DenD A (Live A M) H d v) : Rep A (G.set i (some d)) M (σ.set i (some v)) H := by
  refine ⟨R.sto, fun j e he => ?_, by rw [List.length_set, List.length_set, R.len]⟩
  by_cases hij : i = j
  · subst hij
    have hlt : i < G.length := by
      have := (List.getElem?_eq_some_iff.mp he).1
      simpa using this
    rw [List.getElem?_set_self hlt] at he
    cases he
    exact ⟨v, by rw [List.getElem?_set_self (by rw [← R.len]; exact hlt)], h⟩
  · rw [List.getElem?_set_ne hij] at he
    obtain ⟨w, e1, e2⟩ := R.sl j e he
    exact ⟨w, by rw [List.getElem?_set_ne hij]; exact e1, e2⟩
abbrev AG := D → Gm → Option Gm
def LG (g : TG) (ag : AG) (ts : List Nat) : Prop := ∀ A G M σ H d v Q, Rep A G M σ H → DenD A (Live A M) H d v → ∀ G', ag d G = some G' →
  (∀ σ', Rep A G' M σ' H → (∀ vs : List Nat, (∀ i ∈ ts, i ∈ vs) → wipe σ' vs = wipe σ vs) → Q σ' H) → g v σ H Q
abbrev AGs := List D → Gm → Option Gm
def LGs (g : TGs) (ag : AGs) (ts : List Nat) : Prop := ∀ A G M σ H ds vs Q, Rep A G M σ H → DenDs A (Live A M) H ds vs → ∀ G', ag ds G = some G' →
  (∀ σ', Rep A G' M σ' H → (∀ vs : List Nat, (∀ i ∈ ts, i ∈ vs) → wipe σ' vs = wipe σ vs) → Q σ' H) → g vs σ H Q
structure DG (X : Cx) (tg : Expr) (g : TG) (ag : AG) (ts : List Nat) : Prop where
  pg : PG X tg g
  lg : LG g ag ts
structure DGs (X : Cx) (tg : List Expr) (g : TGs) (ag : AGs) (ts : List Nat) : Prop where
  pg : PGs X tg g
  lg : LGs g ag ts
def aName (i : Nat) : AG := fun d G => some (G.set i (some d))
theorem wipe_in {σ : L2.St} {i : Nat} : ∀ {vs : List Nat}, i ∈ vs → i < σ.length → (wipe σ vs)[i]? = some none
  | [], h, _ => by cases h
  | v :: vs, h, hl => by
    unfold wipe
    by_cases e : v = i
    · subst e
      rw [List.getElem?_set_self (by rw [wipe_length]; exact hl)]
    · rw [List.getElem?_set_ne e]
      rcases List.mem_cons.mp h with z | z
      · exact absurd z.symm e
      · exact wipe_in z hl
theorem wipe_set {σ : L2.St} {i : Nat} {x : Option V} {vs : List Nat} (h : i ∈ vs) : wipe (σ.set i x) vs = wipe σ vs := by
  apply List.ext_getElem?
  intro j
  by_cases hl : j < σ.length
  · by_cases hj : j ∈ vs
    · rw [wipe_in hj (by rw [List.length_set]; exact hl), wipe_in hj hl]
    · rw [wipe_out hj, wipe_out hj, List.getElem?_set_ne (fun e => hj (by rw [← e]; exact h))]
  · rw [List.getElem?_eq_none (by rw [wipe_length, List.length_set]; omega), List.getElem?_eq_none (by rw [wipe_length]; omega)]
section
variable {X : Cx} {pos : Pos}
theorem lg_name {i : Nat} : LG (gName i) (aName i) [i] := fun A G M σ H d v Q R h G' e q => by
  cases e
  exact q _ (R.set h) fun vs hv => wipe_set (hv i (by simp))
theorem dg_name {i : Nat} {x : Str} (hN : X.N.Nodup) (hi : X.N[i]? = some x := by rfl) (hx : Loc X.env.scope x := by first | exact Or.inl rfl | exact Or.inr rfl) (hf : X.fn x = true ∨ X.env.scope.names.lookup x = some .local := by first | exact .inl rfl | exact .inr rfl | assumption) :
    DG X (.Name x pos) (gName i) (aName i) [i] := ⟨pg_name hN hi hx hf, lg_name⟩
def aGNil : AGs := fun ds G => match ds with
  | [] => some G
  | _ => none
def aGCons (a : AG) (r : AGs) : AGs := fun ds G => match ds with
  | d :: ds => (match a d G with
    | some G1 => r ds G1
    | none => none)
  | [] => none
theorem lgs_nil : LGs gNil aGNil [] := fun A G M σ H ds vs Q R h G' e q => by
  cases h with
  | nil => cases e; exact ⟨rfl, q σ R fun _ _ => rfl⟩
  | cons _ _ => cases e
theorem lgs_cons {g : TG} {r : TGs} {ag : AG} {ar : AGs} {ts us : List Nat} (h1 : LG g ag ts) (h2 : LGs r ar us) : LGs (gCons g r) (aGCons ag ar) (ts ++ us) := fun A G M σ H ds vs Q R h G' e q => by
  cases h with
  | nil => cases e
  | cons hd ht =>
    unfold aGCons at e
    dsimp only at e
    split at e
    · rename_i G1 e1
      refine ⟨_, _, rfl, h1 A G M σ H _ _ _ R hd G1 e1 fun σ1 R1 w1 => h2 A G1 M σ1 H _ _ _ R1 ht G' e fun σ2 R2 w2 => q σ2 R2 fun vs hv => ?_⟩
      rw [w2 vs fun i hi => hv i (List.mem_append_right _ hi), w1 vs fun i hi => hv i (List.mem_append_left _ hi)]
    · cases e
theorem dgs_nil : DGs X [] gNil aGNil [] := ⟨pgs_nil, lgs_nil⟩
theorem dgs_cons {e : Expr} {es : List Expr} {g : TG} {r : TGs} {ag : AG} {ar : AGs} {ts us : List Nat} (h1 : DG X e g ag ts) (h2 : DGs X es r ar us)
    (hs : (assignEach (e :: es) X.env).map (·.2) = assign e X.env :: (assignEach es X.env).map (·.2) := by rfl) : DGs X (e :: es) (gCons g r) (aGCons ag ar) (ts ++ us) := ⟨pgs_cons h1.pg h2.pg hs, lgs_cons h1.lg h2.lg⟩
/-- (a, b, ..) = a tuple or a list of that length -/
def aGTup (n : Nat) (a : AGs) : AG := fun d G => match d with
  | .dat (.tuple ds) => if ds.length = n then a (ds.map D.dat) G else none
  | .dat (.list ds) => if ds.length = n then a (ds.map D.dat) G else none
  | _ => none
def gAny (K : PySem.W.Frag) (n : Nat) (t : TGs) : TG := fun v σ H Q => gTup K n t v σ H Q ∨ gLst K n t v σ H Q
theorem pg_any {es : List Expr} {k : Nat} {t : TGs} {n : Nat} (hc : X.calm = true) (h : PGs X es t)
    (hn : (assignEach es X.env).length = n := by rfl) (hst : (assignEach es X.env).findIdx? (·.1) = none := by rfl) : PG X (.Tuple es k pos) (gAny X.K n t) := by
  refine ⟨fun pins s σ H v u Q I r hw => ?_⟩
  rcases hw with hw | hw
  · exact (pg_tup hc h hn hst).run pins s σ H v u Q I r hw
  · exact (pg_lst hc h hn hst).run pins s σ H v u Q I r hw
theorem lg_tup {K : PySem.W.Frag} {n : Nat} {g : TGs} {ag : AGs} {ts : List Nat} (h : LGs g ag ts) : LG (gAny K n g) (aGTup n ag) ts := fun A G M σ H d v Q R hd G' e q => by
  unfold aGTup at e
  split at e
  · rename_i ds
    split at e
    · rename_i hl
      have hd' : Den (Live A M) H (.tuple ds) v := hd
      simp only [Den] at hd'
      obtain ⟨a, vs, rfl, _, h1, h2⟩ := hd'
      exact .inl ⟨a, vs, rfl, SqT.of h1, by rw [← h2.length]; exact hl, h A G M σ H _ _ Q R (denDs_of h2) G' e q⟩
    · cases e
  · rename_i ds
    split at e
    · rename_i hl
      have hd' : Den (Live A M) H (.list ds) v := hd
      simp only [Den] at hd'
      obtain ⟨a, vs, rfl, _, h1, h2⟩ := hd'
      exact .inr ⟨a, vs, rfl, SqL.of h1, by rw [← h2.length]; exact hl, h A G M σ H _ _ Q R (denDs_of h2) G' e q⟩
    · cases e
  · cases e
theorem dg_tup {K : PySem.W.Frag} {es : List Expr} {k n : Nat} {g : TGs} {ag : AGs} {ts : List Nat} (hK : X.K = K) (hc : X.calm = true) (h : DGs X es g ag ts)
    (hn : (assignEach es X.env).length = n := by rfl) (hst : (assignEach es X.env).findIdx? (·.1) = none := by rfl) : DG X (.Tuple es k pos) (gAny K n g) (aGTup n ag) ts := by
  subst hK
  exact ⟨pg_any hc h.pg hn hst, lg_tup h.lg⟩

/-! ### assignments -/
def aAsg (ae : AE) (ag : AG) : AS := fun K G M => ae G M fun d M1 => match ag d G with
  | some G' => K.nx G' M1
  | none => False
variable {tg e : Expr} {te : TE} {ae : AE} {g : TG} {ag : AG} {ts : List Nat}
theorem ls_asg (he : LE te ae) (hg : LG g ag ts) : LS (tAsg te g) (aAsg ae ag) := fun A G M σ H K D R E h =>
  he A G M σ H _ _ R h fun v d A1 M1 H1 h1 g1 s1 q1 => by
    revert h1
    split
    · rename_i G' e1
      intro h1
      exact hg A1 G M1 σ H1 d v _ (R.grow g1 s1) q1 G' e1 fun σ' R' _ => E.nx A1 G' M1 σ' H1 g1 R' h1
    · intro h; exact h.elim
theorem d_asg (he : DE X e te ae) (hg : DG X tg g ag ts) (hs : swapsWithSole [tg] e pos.line X.env = pure false := by rfl) (hw : swappedStores [tg] e X.env = pure none := by rfl)
    (h1 : (assignEach [tg] X.env).map (·.2) = [assign tg X.env] := by rfl) : DS X (.Assign [tg] e pos) (tAsg te g) (aAsg ae ag) :=
  ⟨ps_asg he.pe hg.pg hs hw h1, ls_asg he.le hg.lg⟩
theorem d_set {i : Nat} {x : Str} {pos' : Pos} (he : DE X e te ae) (hN : X.N.Nodup) (hi : X.N[i]? = some x := by rfl) (hx : Loc X.env.scope x := by first | exact Or.inl rfl | exact Or.inr rfl)
    (hs : swapsWith e (some (.Name x pos')) pos.line X.env = pure false := by rfl) (hf : X.fn x = true ∨ X.env.scope.names.lookup x = some .local := by first | exact .inl rfl | exact .inr rfl | assumption) :
    DS X (.Assign [.Name x pos'] e pos) (tAsg te (gName i)) (aAsg ae (aName i)) := ⟨ps_set hN hi hx he.pe hs hf, ls_asg he.le lg_name⟩
/-- a, b = x, y -/
def aPar (is : List Nat) (aa : AA) : AS := fun K G M => aa G M fun ds M1 => ds.length = is.length ∧ K.nx ((is.zip ds).foldl (fun G p => G.set p.1 (some p.2)) G) M1
theorem ls_par2 {i j : Nat} {ta : TA} {aa : AA} (ha : LA ta aa) : LS (tPar i j ta) (aPar [i, j] aa) := fun A G M σ H K D R E h =>
  ha A G M σ H _ _ R h fun vs ds A1 M1 H1 h1 g1 s1 q1 => by
    obtain ⟨hl, h1⟩ := h1
    cases q1 with
    | nil => cases hl
    | cons d1 t =>
      cases t with
      | nil => cases hl
      | cons d2 t =>
        cases t with
        | nil => exact ⟨_, _, rfl, E.nx A1 _ M1 _ H1 g1 (((R.grow g1 s1).set d1).set d2) h1⟩
        | cons _ _ => simp at hl
theorem ls_par3 {i j l : Nat} {ta : TA} {aa : AA} (ha : LA ta aa) : LS (tPar3 i j l ta) (aPar [i, j, l] aa) := fun A G M σ H K D R E h =>
  ha A G M σ H _ _ R h fun vs ds A1 M1 H1 h1 g1 s1 q1 => by
    obtain ⟨hl, h1⟩ := h1
    cases q1 with
    | nil => cases hl
    | cons d1 t =>
      cases t with
      | nil => cases hl
      | cons d2 t =>
        cases t with
        | nil => cases hl
        | cons d3 t =>
          cases t with
          | nil => exact ⟨_, _, _, rfl, E.nx A1 _ M1 _ H1 g1 ((((R.grow g1 s1).set d1).set d2).set d3) h1⟩
          | cons _ _ => simp at hl
end

section
variable {X : Cx} {a b c : Expr} {ta : TA} {aa : AA}
theorem d_par2 {i j : Nat} {x y : Str} {px py pt pos : Pos} {kt k2 : Nat} {pt2 : Pos} (hc : X.calm = true) (hN : X.N.Nodup) (ha : DA X [a, b] ta aa) (hi : X.N[i]? = some x := by rfl) (hj : X.N[j]? = some y := by rfl) (hij : i ≠ j := by decide)
    (hx : X.env.scope.names.lookup x = some .local := by rfl) (hy : X.env.scope.names.lookup y = some .local := by rfl)
    (hw : swappedStores [.Tuple [.Name x px, .Name y py] kt pt] (.Tuple [a, b] k2 pt2) X.env = pure (some [x, y]) := by rfl)
    (hs : swapsWithSole [.Tuple [.Name x px, .Name y py] kt pt] (.Tuple [a, b] k2 pt2) pos.line X.env = pure false := by rfl) :
    DS X (.Assign [.Tuple [.Name x px, .Name y py] kt pt] (.Tuple [a, b] k2 pt2) pos) (tPar i j ta) (aPar [i, j] aa) := ⟨ps_par hc hN hi hj hij hx hy ha.pa hw hs, ls_par2 ha.la⟩
theorem d_par3 {i j l : Nat} {x y z : Str} {px py pz pt pos : Pos} {kt k2 : Nat} {pt2 : Pos} (hc : X.calm = true) (hN : X.N.Nodup) (ha : DA X [a, b, c] ta aa) (hi : X.N[i]? = some x := by rfl) (hj : X.N[j]? = some y := by rfl) (hl : X.N[l]? = some z := by rfl)
    (hij : i ≠ j := by decide) (hil : i ≠ l := by decide) (hjl : j ≠ l := by decide)
    (hx : X.env.scope.names.lookup x = some .local := by rfl) (hy : X.env.scope.names.lookup y = some .local := by rfl) (hz : X.env.scope.names.lookup z = some .local := by rfl)
    (hw : swappedStores [.Tuple [.Name x px, .Name y py, .Name z pz] kt pt] (.Tuple [a, b, c] k2 pt2) X.env = pure (some [x, y, z]) := by rfl)
    (hs : swapsWithSole [.Tuple [.Name x px, .Name y py, .Name z pz] kt pt] (.Tuple [a, b, c] k2 pt2) pos.line X.env = pure false := by rfl) :
    DS X (.Assign [.Tuple [.Name x px, .Name y py, .Name z pz] kt pt] (.Tuple [a, b, c] k2 pt2) pos) (tPar3 i j l ta) (aPar [i, j, l] aa) := ⟨ps_par3 hc hN hi hj hl hij hil hjl hx hy hz ha.pa hw hs, ls_par3 ha.la⟩
end

/-! ### while -/
def aWh (c : AT) (b : AS) (K : AEnds) : Nat → Gm → Sto → Prop
  | 0 => fun _ _ => False
  | n + 1 => fun G M => c G M fun t M1 => if t = true then b { nx := aWh c b K n, rt := K.rt, bk := K.nx, ct := aWh c b K n } G M1 else K.nx G M1
def aWhile (c : AT) (b : AS) : AS := fun K G M => ∃ n, aWh c b K n G M
section
variable {X : Cx} {c : Expr} {body : List Stmt} {tc : TT} {ac : AT} {tb : TS} {ab : AS} {pos : Pos}
theorem ls_while (hc : LT tc ac) (hb : LS tb ab) : LS (tWhile tc tb) (aWhile ac ab) := fun A G M σ H K D R E h => by
  obtain ⟨n, h⟩ := h
  refine ⟨fun m σ' H' => ∃ A' G' M', Grow A M H A' M' H' ∧ Rep A' G' M' σ' H' ∧ aWh ac ab K m G' M', ⟨n, A, G, M, Grow.refl, R, h⟩, ?_⟩
  rintro m σ1 H1 ⟨A1, G1, M1, g1, R1, h1⟩
  cases m with
  | zero => exact h1.elim
  | succ m =>
    refine hc A1 G1 M1 σ1 H1 _ _ R1 h1 fun b A2 M2 H2 h2 g2 s2 => ?_
    cases b with
    | false => exact E.nx A2 G1 M2 σ1 H2 (g1.trans g2) (R1.grow g2 s2) h2
    | true =>
      rw [if_pos rfl]
      rw [if_pos rfl] at h2
      refine ⟨fun σ' H' => ∃ A' G' M', Grow A M H A' M' H' ∧ Rep A' G' M' σ' H' ∧ aWh ac ab K m G' M', fun σ' H' w => ⟨m, Nat.lt_succ_self m, w⟩, ?_⟩
      have E2 := E.grow (g1.trans g2)
      exact hb A2 G1 M2 σ1 H2 { nx := aWh ac ab K m, rt := K.rt, bk := K.nx, ct := aWh ac ab K m }
        { D with nx := fun σ' H' => ∃ A' G' M', Grow A M H A' M' H' ∧ Rep A' G' M' σ' H' ∧ aWh ac ab K m G' M', ct := fun σ' H' => ∃ A' G' M', Grow A M H A' M' H' ∧ Rep A' G' M' σ' H' ∧ aWh ac ab K m G' M', bk := D.nx } (R1.grow g2 s2) ⟨fun A' G' M' σ' H' g r k => ⟨A', G', M', (g1.trans g2).trans g, r, k⟩, E2.rt, E2.nx, fun A' G' M' σ' H' g r k => ⟨A', G', M', (g1.trans g2).trans g, r, k⟩⟩ h2
theorem d_while (hc : DT X c tc ac) (hb : DSs X body tb ab) (hp : PassesOwn (model X.prog X.w) X.A X.env X.xe := by exact PassesOwn.never) : DS X (.While c body [] pos) (tWhile tc tb) (aWhile ac ab) :=
  ⟨ps_while hp hc.pt hb.ps, ls_while hc.lt hb.ls⟩
end

/-! ### what is walked -/
abbrev AI := Gm → Sto → (List D → (Sto → Prop) → Sto → Prop) → Prop
def ItOk (A0 : Ad) (M0 : Sto) (H0 : Hp) (J : It) (items : List D) (chk : Sto → Prop) : Prop := ∀ A G M σ H, Grow A0 M0 H0 A M H → Rep A G M σ H → chk M →
  (∀ (i : Nat) (d : D), items[i]? = some d → J.go i H ∧ ∀ x H', J.yld i H x H' → Grow A M H A M H' ∧ Rep A G M σ H' ∧ DenD A (Live A M) H' d x) ∧ J.stop items.length H
def LI (wi : TI) (ai : AI) : Prop := ∀ A G M σ H Φ R, Rep A G M σ H → ai G M Φ →
  (∀ J items chk A' M' H', Φ items chk M' → Grow A M H A' M' H' → Rep A' G M' σ H' → ItOk A' M' H' J items chk → R J H') → wi σ H R
structure DI (X : Cx) (tg iter : Expr) (wi : TI) (ai : AI) : Prop where
  pi : PI X tg iter wi
  li : LI wi ai
def aLoop (ag : AG) (b : AS) (chk : Sto → Prop) (K : AEnds) : List D → Gm → Sto → Prop
  | [] => fun G M => chk M ∧ K.nx G M
  | d :: ds => fun G M => chk M ∧ (match ag d G with
    | some G' => b { nx := aLoop ag b chk K ds, rt := K.rt, bk := K.nx, ct := aLoop ag b chk K ds } G' M
    | none => False)
def aFor (ai : AI) (ag : AG) (b : AS) : AS := fun K G M => ai G M fun items chk M1 => aLoop ag b chk K items G M1
theorem loop_chk {ag : AG} {b : AS} {chk : Sto → Prop} {K : AEnds} : ∀ {items : List D} {G : Gm} {M : Sto}, aLoop ag b chk K items G M → chk M
  | [], _, _, h => h.1
  | _ :: _, _, _, h => h.1
theorem drop_at {α : Type} {l : List α} {i : Nat} {x : α} {r : List α} (h : l.drop i = x :: r) : l[i]? = some x ∧ l.drop (i + 1) = r ∧ i < l.length := by
  have hl : i < l.length := by
    by_cases hi : i < l.length
    · exact hi
    · rw [List.drop_eq_nil_of_le (by omega)] at h; cases h
  rw [List.drop_eq_getElem_cons hl] at h
  injection h with h1 h2
  exact ⟨by rw [List.getElem?_eq_getElem hl, h1], h2, hl⟩
theorem drop_nil {α : Type} {l : List α} {i : Nat} (h : l.drop i = []) (hi : i ≤ l.length) : i = l.length := by
  have := congrArg List.length h
  simp at this
  omega
section
variable {X : Cx} {tg iter : Expr} {body : List Stmt} {wi : TI} {ai : AI} {g : TG} {ag : AG} {ts : List Nat} {tb : TS} {ab : AS} {pos : Pos}
theorem ls_for (hi : LI wi ai) (hg : LG g ag ts) (hb : LS tb ab) : LS (tFor wi g tb) (aFor ai ag ab) := fun A G M σ H K D R E h => by
  refine hi A G M σ H _ _ R h fun J items chk A0 M0 H0 h0 g0 R0 it => ?_
  refine ⟨fun i m σ' H' => i ≤ items.length ∧ m = items.length - i ∧ ∃ A' G' M', Grow A0 M0 H0 A' M' H' ∧ Rep A' G' M' σ' H' ∧ aLoop ag ab chk K (items.drop i) G' M', ⟨_, Nat.zero_le _, rfl, A0, G, M0, Grow.refl, R0, h0⟩, ?_⟩
  rintro i m σ1 H1 ⟨hle, rfl, A1, G1, M1, g1, R1, h1⟩
  obtain ⟨hgo, hstop⟩ := it A1 G1 M1 σ1 H1 g1 R1 (loop_chk h1)
  cases hd : items.drop i with
  | nil =>
    have e := drop_nil hd hle
    subst e
    rw [hd] at h1
    exact .inl ⟨hstop, E.nx A1 G1 M1 σ1 H1 (g0.trans g1) R1 h1.2⟩
  | cons d r =>
    obtain ⟨e1, e2, hlt⟩ := drop_at hd
    rw [hd] at h1
    obtain ⟨hgo1, hyld⟩ := hgo i d e1
    refine .inr ⟨hgo1, fun σ' H' => ∃ A' G' M', Grow A0 M0 H0 A' M' H' ∧ Rep A' G' M' σ' H' ∧ aLoop ag ab chk K (items.drop (i + 1)) G' M', fun σ' H' w => ⟨items.length - (i + 1), by omega, by omega, rfl, w⟩, fun x H2 hy => ?_⟩
    obtain ⟨g2, R2, dx⟩ := hyld x H2 hy
    have h1' := h1.2
    revert h1'
    split
    · rename_i G' eg
      intro h1'
      refine hg A1 G1 M1 σ1 H2 d x _ R2 dx G' eg fun σ3 R3 _ => ?_
      have gg := g1.trans g2
      have E2 := E.grow (g0.trans gg)
      refine hb A1 G' M1 σ3 H2 { nx := aLoop ag ab chk K r, rt := K.rt, bk := K.nx, ct := aLoop ag ab chk K r }
        { D with nx := fun σ' H' => ∃ A' G' M', Grow A0 M0 H0 A' M' H' ∧ Rep A' G' M' σ' H' ∧ aLoop ag ab chk K (items.drop (i + 1)) G' M',
                 ct := fun σ' H' => ∃ A' G' M', Grow A0 M0 H0 A' M' H' ∧ Rep A' G' M' σ' H' ∧ aLoop ag ab chk K (items.drop (i + 1)) G' M', bk := D.nx } R3 ⟨fun A' G' M' σ' H' g r k => ⟨A', G', M', gg.trans g, r, ?_⟩, E2.rt, E2.nx, fun A' G' M' σ' H' g r k => ⟨A', G', M', gg.trans g, r, ?_⟩⟩ h1'
      · rw [e2]; exact k
      · rw [e2]; exact k
    · intro h; exact h.elim
theorem d_for (hc : X.calm = true) (hi : DI X tg iter wi ai) (hg : DG X tg g ag ts) (hb : DSs X body tb ab) (hp : PassesOwn (model X.prog X.w) X.A X.env X.xe := by exact PassesOwn.never)
    (hs : ∀ x, foldedSetIterable iter X.env x = pure x := by intro _; rfl) : DS X (.For tg iter body [] pos) (tFor wi g tb) (aFor ai ag ab) := ⟨ps_for hp hc hi.pi hg.pg hb.ps hs, ls_for hi.li hg.lg hb.ls⟩

/-! ### iterators -/
variable {e : Expr} {te : TE} {ae : AE}
/-- a list: data, or of the store; a tuple -/
def aIter (ae : AE) : AI := fun G M Φ => ae G M fun d M1 => match d with
  | .dat (.list ds) => Φ (ds.map D.dat) (fun _ => True) M1
  | .dat (.tuple ds) => Φ (ds.map D.dat) (fun _ => True) M1
  | .own j => (match M1[j]? with
    | some (some (.lst ds)) => Φ (ds.map D.dat) (fun M => M[j]? = some (some (.lst ds))) M1
    | _ => False)
  | _ => False
/-- iter(e) of a list or a tuple -/
def iSeq (K : PySem.W.Frag) (tl : TE) : TI := fun σ H R => tl σ H fun x H1 => ∃ a, x = .ref a ∧ (((∃ xs, SqL K H1 a xs) ∧ R (Itl K a) H1) ∨ ((∃ xs, SqT K H1 a xs) ∧ R (Itt K a) H1))
theorem it_fresh {pins : List (Addr × Obj)} {σ : L2.St} {H : Hp} {s : Shared} (I : Inv X pins σ H s) : ∀ b ∈ [s.heap.objs.size], FpOk X pins H b := fun b hb => by
  rw [List.mem_singleton] at hb
  rw [hb]
  exact I.fpOk (Nat.le_refl _) (I.hok.fresh (Nat.le_refl _))
theorem iter_list_at {pins : List (Addr × Obj)} {σ : L2.St} {H : Hp} {s : Shared} {R : It → Hp → Prop} {a : Addr} {xs : List V} (I : Inv X pins σ H s) (hq : SqL X.K H a xs) (q : R (Itl X.K a) H) :
    wpAny (model X.prog X.w) X.A (pyIter (.ref a)) (PIE X pins σ tg R) X.xe s := by
  obtain ⟨its, _, p, _⟩ := I.list hq
  refine wpAny_pyIter_list p.isList ⟨_, [s.heap.objs.size], _, _, H, rfl, ?_, turn_list a _, ?_, it_fresh I, q⟩
  · exact I.kept (t' := s.toks) fun b o w => Heap.get?_push_of_some _ w
  · exact ⟨_, Heap.get?_push_size _ rfl, rfl, rfl⟩
theorem iter_tup_at {pins : List (Addr × Obj)} {σ : L2.St} {H : Hp} {s : Shared} {R : It → Hp → Prop} {a : Addr} {xs : List V} (I : Inv X pins σ H s) (hq : SqT X.K H a xs) (q : R (Itt X.K a) H) :
    wpAny (model X.prog X.w) X.A (pyIter (.ref a)) (PIE X pins σ tg R) X.xe s := by
  obtain ⟨its, _, p, _⟩ := I.tuple hq
  refine wpAny_pyIter_tuple (items := its.toArray) p ⟨_, [s.heap.objs.size], _, _, H, rfl, ?_, turn_tuple a _, ?_, it_fresh I, q⟩
  · exact I.kept (t' := s.toks) fun b o w => Heap.get?_push_of_some _ w
  · exact ⟨_, Heap.get?_push_size _ rfl, rfl, rfl⟩
theorem pi_seq (hl : PE X e te) : PI X tg e (iSeq X.K te) := by
  refine ⟨fun pins s σ H R I h => ?_⟩
  refine thn (hl.run pins s σ H _ I h) fun v s1 ⟨x, H1, I1, r1, a, ea, q⟩ => ?_
  subst ea
  cases r1
  rcases q with ⟨⟨xs, hq⟩, q⟩ | ⟨⟨xs, hq⟩, q⟩
  · exact iter_list_at I1 hq q
  · exact iter_tup_at I1 hq q
theorem it_list {K : PySem.W.Frag} {A0 : Ad} {M0 : Sto} {H0 : Hp} {a : Addr} {ds : List PyData} {vs : List V} {chk : Sto → Prop}
    (h : ∀ A G M σ H, Grow A0 M0 H0 A M H → Rep A G M σ H → chk M → ∃ vs, H a = some (.lst vs) ∧ Dens (Live A M) H ds vs) : ItOk A0 M0 H0 (Itl K a) (ds.map D.dat) chk := fun A G M σ H g R c => by
  obtain ⟨vs, h1, h2⟩ := h A G M σ H g R c
  refine ⟨fun i d hd => ?_, vs, SqL.of h1, by rw [List.length_map, h2.length]; exact Nat.le_refl _⟩
  rw [List.getElem?_map] at hd
  obtain ⟨p, hp, rfl⟩ := Option.map_eq_some_iff.mp hd
  obtain ⟨v, hv, dv⟩ := h2.get hp
  refine ⟨⟨vs, v, SqL.of h1, hv⟩, fun x H' y => ?_⟩
  obtain ⟨rfl, y⟩ := y
  have := y vs (SqL.of h1)
  rw [hv] at this
  cases this
  exact ⟨Grow.refl, R, dv⟩
theorem it_tup {K : PySem.W.Frag} {A0 : Ad} {M0 : Sto} {H0 : Hp} {a : Addr} {ds : List PyData} {vs : List V} {chk : Sto → Prop}
    (h : ∀ A G M σ H, Grow A0 M0 H0 A M H → Rep A G M σ H → chk M → ∃ vs, H a = some (.tup vs) ∧ Dens (Live A M) H ds vs) : ItOk A0 M0 H0 (Itt K a) (ds.map D.dat) chk := fun A G M σ H g R c => by
  obtain ⟨vs, h1, h2⟩ := h A G M σ H g R c
  refine ⟨fun i d hd => ?_, vs, SqT.of h1, by rw [List.length_map, h2.length]; exact Nat.le_refl _⟩
  rw [List.getElem?_map] at hd
  obtain ⟨p, hp, rfl⟩ := Option.map_eq_some_iff.mp hd
  obtain ⟨v, hv, dv⟩ := h2.get hp
  refine ⟨⟨vs, v, SqT.of h1, hv⟩, fun x H' y => ?_⟩
  obtain ⟨rfl, y⟩ := y
  have := y vs (SqT.of h1)
  rw [hv] at this
  cases this
  exact ⟨Grow.refl, R, dv⟩
theorem li_seq {K : PySem.W.Frag} (he : LE te ae) : LI (iSeq K te) (aIter ae) := fun A G M σ H Φ R hR hh q =>
  he A G M σ H _ _ hR hh fun v d A1 M1 H1 h1 g1 s1 q1 => by
    revert h1
    split
    · rename_i ds
      intro h1
      have q' : Den (Live A1 M1) H1 (.list ds) v := q1
      have q2 := q'
      simp only [Den] at q2
      obtain ⟨a, vs, rfl, na, ha, t⟩ := q2
      refine ⟨a, rfl, .inl ⟨⟨vs, SqL.of ha⟩, q _ _ _ A1 M1 H1 h1 g1 (hR.grow g1 s1) (it_list (vs := vs) fun A' G' M' σ' H' g R' _ => ⟨vs, (g.kp a _ ha na).1, Dens.kept g.kept _ _ t⟩)⟩⟩
    · rename_i ds
      intro h1
      have q' : Den (Live A1 M1) H1 (.tuple ds) v := q1
      have q2 := q'
      simp only [Den] at q2
      obtain ⟨a, vs, rfl, na, ha, t⟩ := q2
      refine ⟨a, rfl, .inr ⟨⟨vs, SqT.of ha⟩, q _ _ _ A1 M1 H1 h1 g1 (hR.grow g1 s1) (it_tup (vs := vs) fun A' G' M' σ' H' g R' _ => ⟨vs, (g.kp a _ ha na).1, Dens.kept g.kept _ _ t⟩)⟩⟩
    · rename_i j
      split
      · rename_i ds hm
        intro h1
        obtain ⟨a, rfl, ha⟩ := q1
        obtain ⟨vs, hv, t⟩ := s1.ok j a _ ha hm
        refine ⟨a, rfl, .inl ⟨⟨vs, SqL.of hv⟩, q _ _ _ A1 M1 H1 h1 g1 (hR.grow g1 s1) (it_list (vs := vs) fun A' G' M' σ' H' g R' c => R'.sto.ok j a _ (g.pre j a ha) c)⟩⟩
      · intro h; exact h.elim
    · intro h; exact h.elim
theorem di_seq (he : DE X e te ae) : DI X tg e (iSeq X.K te) (aIter ae) := ⟨pi_seq he.pe, li_seq he.le⟩
/-- range(n), range(a, b) -/
def rng (lo : Int) (n : Nat) : List D := (List.range n).map fun i : Nat => D.dat (.int (lo + (i : Int)))
def aRng1 (aa : AA) : AI := fun G M Φ => aa G M fun ds M1 => match ds with
  | [.dat (.int j)] => -(2 ^ 62) ≤ j ∧ j < 2 ^ 62 ∧ Φ (rng 0 j.toNat) (fun _ => True) M1
  | _ => False
def aRng2 (aa : AA) : AI := fun G M Φ => aa G M fun ds M1 => match ds with
  | [.dat (.int i), .dat (.int j)] => (-(2 ^ 62) ≤ i ∧ i < 2 ^ 62 ∧ -(2 ^ 62) ≤ j ∧ j < 2 ^ 62) ∧ Φ (rng i (j - i).toNat) (fun _ => True) M1
  | _ => False
theorem it_rng {A0 : Ad} {M0 : Sto} {H0 : Hp} {lo : Int} {n : Nat} : ItOk A0 M0 H0 (Itr lo n) (rng lo n) (fun _ => True) := fun A G M σ H g R _ => by
  refine ⟨fun i d hd => ?_, by show n ≤ (rng lo n).length; unfold rng; simp⟩
  unfold rng at hd
  rw [List.getElem?_map] at hd
  obtain ⟨k, hk, rfl⟩ := Option.map_eq_some_iff.mp hd
  have hlt : i < n := by
    have := (List.getElem?_eq_some_iff.mp hk).1
    simpa using this
  rw [List.getElem?_range hlt] at hk
  cases hk
  refine ⟨hlt, fun x H' y => ?_⟩
  obtain ⟨rfl, rfl⟩ := y
  exact ⟨Grow.refl, R, rfl⟩
variable {a b : Expr} {ta : TA} {aa : AA} {p : Pos}
theorem li_rng1 (ha : LA ta aa) : LI (iRng1 ta) (aRng1 aa) := fun A G M σ H Φ R hR hh q =>
  ha A G M σ H _ _ hR hh fun vs ds A1 M1 H1 h1 g1 s1 q1 => by
    revert h1
    split
    · rename_i j
      intro h1
      obtain ⟨x, rfl, hx⟩ := dd1 q1
      cases (show x = V.int j from hx)
      exact ⟨j, rfl, h1.1, h1.2.1, q _ _ _ A1 M1 H1 h1.2.2 g1 (hR.grow g1 s1) it_rng⟩
    · intro h; exact h.elim
theorem li_rng2 (ha : LA ta aa) : LI (iRng2 ta) (aRng2 aa) := fun A G M σ H Φ R hR hh q =>
  ha A G M σ H _ _ hR hh fun vs ds A1 M1 H1 h1 g1 s1 q1 => by
    revert h1
    split
    · rename_i i j
      intro h1
      obtain ⟨x, y, rfl, hx, hy⟩ := dd2 q1
      cases (show x = V.int i from hx)
      cases (show y = V.int j from hy)
      exact ⟨i, j, rfl, h1.1, q _ _ _ A1 M1 H1 h1.2 g1 (hR.grow g1 s1) it_rng⟩
    · intro h; exact h.elim
theorem di_rng1 (hm : X.mg "range" = none) (ha : DA X [a] ta aa) (hg : Gl X "range" := by rfl) (hs : starEach [a] X.env = [(false, eval a X.env)] := by rfl) : DI X tg (.Call (.Name "range" p) [a] [] pos) (iRng1 ta) (aRng1 aa) :=
  ⟨pi_range1 hg hm ha.pa hs, li_rng1 ha.la⟩
theorem di_rng2 (hm : X.mg "range" = none) (ha : DA X [a, b] ta aa) (hg : Gl X "range" := by rfl) (hs : starEach [a, b] X.env = [(false, eval a X.env), (false, eval b X.env)] := by rfl) (hs2 : starEach [b] X.env = [(false, eval b X.env)] := by rfl) :
    DI X tg (.Call (.Name "range" p) [a, b] [] pos) (iRng2 ta) (aRng2 aa) := ⟨pi_range2 hg hm ha.pa hs hs2, li_rng2 ha.la⟩
end
end AM
end

section
set_option Elab.async false
set_option linter.all false
set_option maxRecDepth 100000
set_option maxHeartbeats 4000000
namespace AM
open PySem PySem.Spec PyProof.Rows L2

/-! ### [elt for target in iter if test] -/
def wipeG (G : Gm) : List Nat → Gm
  | [] => G
  | v :: vs => (wipeG G vs).set v none
theorem Rep.unset {A : Ad} {G : Gm} {M : Sto} {σ : L2.St} {H : Hp} (R : Rep A G M σ H) (i : Nat) : Rep A (G.set i none) M (σ.set i none) H := by
  refine ⟨R.sto, fun j e he => ?_, by rw [List.length_set, List.length_set, R.len]⟩
  by_cases hij : i = j
  · subst hij
    have hlt : i < G.length := by
      have := (List.getElem?_eq_some_iff.mp he).1
      simpa using this
    rw [List.getElem?_set_self hlt] at he
    cases he
  · rw [List.getElem?_set_ne hij] at he
    obtain ⟨w, e1, e2⟩ := R.sl j e he
    exact ⟨w, by rw [List.getElem?_set_ne hij]; exact e1, e2⟩
theorem Rep.wipe {A : Ad} {G : Gm} {M : Sto} {σ : L2.St} {H : Hp} (R : Rep A G M σ H) : ∀ vs : List Nat, Rep A (wipeG G vs) M (L2.wipe σ vs) H
  | [] => R
  | v :: vs => (R.wipe vs).unset v
def StoCl (M : Sto) : Prop := ∀ (j : Nat) (m : Mo), M[j]? = some (some m) → m.cl M.length
/-- the objects behind a turn name none that is not of the store -/
def ClRel (M M' : Sto) : Prop := M'.length = M.length ∧ ∀ (j : Nat) (m : Mo), M'[j]? = some (some m) → M[j]? = some (some m) ∨ m.cl M.length
theorem ClRel.refl {M : Sto} : ClRel M M := ⟨rfl, fun _ _ h => .inl h⟩
theorem ClRel.set {M : Sto} {j : Nat} {m : Mo} (h : m.cl M.length) : ClRel M (M.set j (some m)) := by
  refine ⟨List.length_set, fun i n e => ?_⟩
  by_cases q : j = i
  · subst q
    have hl : j < M.length := by
      have := (List.getElem?_eq_some_iff.mp e).1
      simpa using this
    rw [List.getElem?_set_self hl] at e
    cases e
    exact .inr h
  · rw [List.getElem?_set_ne q] at e
    exact .inl e
theorem ClRel.trans {M M1 M2 : Sto} (a : ClRel M M1) (b : ClRel M1 M2) : ClRel M M2 := ⟨b.1.trans a.1, fun j m h => by
  rcases b.2 j m h with h | h
  · exact a.2 j m h
  · rw [a.1] at h; exact .inr h⟩
theorem StoCl.rel {M M' : Sto} (c : StoCl M) (r : ClRel M M') : StoCl M' := fun j m h => by
  rw [r.1]
  rcases r.2 j m h with h | h
  · exact c j m h
  · exact h
theorem cl_of {A : Ad} {L : Addr → Prop} {H : Hp} : ∀ {d : D} {v : V}, DenD A L H d v → d.cl A.l.length
  | .dat p, v, _ => trivial
  | .own j, v, ⟨a, _, h⟩ => (List.getElem?_eq_some_iff.mp h).1
  | .raw u, v, _ => trivial
  | .scr K ns, v, _ => trivial
theorem dic_cl {κ : Type} {A : Ad} {L : Addr → Prop} {H : Hp} : ∀ {kvs : List (κ × D)} {ws : List (κ × V)}, DicG A L H kvs ws → ∀ x ∈ kvs, x.2.cl A.l.length
  | _, _, .nil, x, hx => by cases hx
  | _, _, .cons h t, x, hx => by
    rcases List.mem_cons.mp hx with e | hx
    · subst e; exact cl_of h.2
    · exact dic_cl t x hx
theorem Store.cl {A : Ad} {M : Sto} {H : Hp} (S : Store A M H) : StoCl M := fun j m h => by
  have hj := (List.getElem?_eq_some_iff.mp h).1
  have ha : j < A.l.length := by rw [S.len]; exact hj
  have q := S.ok j _ m (List.getElem?_eq_getElem ha) h
  rw [← S.len]
  cases m with
  | lst ds => trivial
  | dic kvs => obtain ⟨ws, _, t⟩ := q; exact dic_cl t
  | dit kvs => obtain ⟨ws, _, t⟩ := q; exact dic_cl t
  | raw o => trivial
/-- the turns: ps what is made so far -/
def aTurns (ag : AG) (at_ : AT) (ae : AE) (chk : Sto → Prop) (Gw : Gm) (Ψ : List PyData → Sto → Prop) : List D → List PyData → Sto → Prop
  | [] => fun ps M => (∀ o, chk (M ++ [some (.raw o)])) ∧ Ψ ps M
  | d :: ds => fun ps M => (∀ o, chk (M ++ [some (.raw o)])) ∧ (match ag d Gw with
    | some G' => ∀ o, at_ G' (M ++ [some (.raw o)]) fun b M1 => ∃ M1', M1 = M1' ++ [some (.raw o)] ∧ ClRel M M1' ∧
        if b = true then ae G' (M1' ++ [some (.raw o)]) fun z M2 => ∃ q M2', z = .dat q ∧ M2 = M2' ++ [some (.raw o)] ∧ ClRel M1' M2' ∧ ps.length < 16777216 ∧ aTurns ag at_ ae chk Gw Ψ ds (ps ++ [q]) M2'
        else aTurns ag at_ ae chk Gw Ψ ds ps M1'
    | none => False)
def aLc (ai : AI) (ag : AG) (at_ : AT) (ae : AE) (vs : List Nat) : AE := fun G M Ψ => ai G M fun items chk M1 => aTurns ag at_ ae chk (wipeG G vs) (fun ps M2 => Ψ (.dat (.list ps)) M2) items [] M1

theorem take_app {α : Type} {l r : List α} {n : Nat} (h : l.length = n) : (l ++ r).take n = l := by subst h; simp
section
variable {A A0 : Ad} {M M0 : Sto} {H H0 : Hp}
theorem turns_chk {ag : AG} {at_ : AT} {ae : AE} {chk : Sto → Prop} {Gw : Gm} {Ψ : List PyData → Sto → Prop} : ∀ {items : List D} {ps : List PyData} {M : Sto}, aTurns ag at_ ae chk Gw Ψ items ps M → ∀ o, chk (M ++ [some (.raw o)])
  | [], _, _, h => h.1
  | _ :: _, _, _, h => h.1
theorem len_of_app {A1 : Ad} {M1 : Sto} {x : Option Mo} (h : A1.l.length = (M1 ++ [x]).length) {A : Ad} {D : Addr} (hp : ∀ (j : Nat) (a : Addr), (A.push D).l[j]? = some a → A1.l[j]? = some a) (hl : M1.length = A.l.length) : A1 = (A1.cut A.l.length).push D := by
  have h1 : A1.l.length = A.l.length + 1 := by rw [h]; simp [hl]
  have h2 : A1.l[A.l.length]? = some D := hp A.l.length D (by show (A.l ++ [D])[A.l.length]? = _; simp)
  have h3 : A1.l.drop A.l.length = [D] := by
    have hlt : A.l.length < A1.l.length := by omega
    rw [List.drop_eq_getElem_cons hlt]
    have : A1.l[A.l.length] = D := by rw [List.getElem?_eq_getElem hlt] at h2; exact Option.some.inj h2
    rw [this, List.drop_eq_nil_of_le (by omega)]
  show A1 = ⟨A1.l.take A.l.length ++ [D], A1.F⟩
  rw [← h3, List.take_append_drop]
theorem cut_push {A : Ad} {D : Addr} {n : Nat} (h : A.l.length = n) : (A.push D).cut n = A := by
  show (⟨(A.l ++ [D]).take n, A.F⟩ : Ad) = A
  rw [take_app h]
theorem push_at {A : Ad} {D : Addr} : (A.push D).l[A.l.length]? = some D := by show (A.l ++ [D])[A.l.length]? = _; simp
theorem push_len {A : Ad} {D : Addr} : (A.push D).l.length = A.l.length + 1 := by show (A.l ++ [D]).length = _; simp
/-- the accumulator's object goes: it is data now -/
theorem acc_end {D : Addr} {ps : List PyData} {vs : List V} (l : A.l.length = M.length) (S : Store (A.push D) (M ++ [some (.raw (.lst vs))]) H)
    (t : Dens (Live (A.push D) (M ++ [some (.raw (.lst vs))])) H ps vs) (hc : StoCl M) : Store A M H ∧ Den (Live A M) H (.list ps) (.ref D) := by
  have hD : H D = some (.lst vs) := (S.ok A.l.length D (.raw (.lst vs)) push_at (by rw [l]; simp)).1
  have S' : Store A M H := by
    have := S.take M.length (fun j m hj hm => hc j m (by rw [List.getElem?_append_left hj] at hm; exact hm))
    rw [cut_push l, take_app rfl] at this
    exact this
  have nl : ¬ Live A M D := fun w => by
    rcases w with ⟨j, m, h1, h2⟩ | w
    · have hj := (List.getElem?_eq_some_iff.mp h1).1
      have := S.inj j A.l.length D m (.raw (.lst vs)) (by show (A.l ++ [D])[j]? = _; rw [List.getElem?_append_left hj]; exact h1) push_at (by rw [List.getElem?_append_left (by omega)]; exact h2) (by rw [l]; simp)
      omega
    · exact (S.fr D w).2 A.l.length (.raw (.lst vs)) push_at (by rw [l]; simp)
  have kp : Kept (Live (A.push D) (M ++ [some (.raw (.lst vs))])) H (Live A M) H := fun b o e nb => ⟨e, fun lb => nb (lb.push_old l)⟩
  refine ⟨S', ?_⟩
  simp only [Den]
  exact ⟨D, vs, rfl, nl, hD, Dens.kept kp ps vs t⟩
end
section
variable {wi : TI} {ai : AI} {g : TG} {ag : AG} {ts : List Nat} {tt : TT} {at_ : AT} {te : TE} {ae : AE} {vs : List Nat}
theorem le_lc (hi : LI wi ai) (hg : LG g ag ts) (ht : LT tt at_) (he : LE te ae) (hts : ∀ i ∈ ts, i ∈ vs) : LE (tLc wi g tt te vs) (aLc ai ag at_ ae vs) := fun A G M σ H Ψ Q R h p => by
  refine hi A G M σ H _ _ R h fun J items chk A0 M0 H0 h0 g0 R0 it => fun D hD => ?_
  have S0 := R0.sto
  -- what holds ahead of turn i, the list at D
  refine ⟨fun i m H1 => i ≤ items.length ∧ m = items.length - i ∧ ∃ (A1 : Ad) (M1 : Sto) (ps : List PyData) (us : List V), A1.l.length = M1.length ∧ StoCl M1 ∧ Grow A0 M0 H0 (A1.push D) (M1 ++ [some (.raw (.lst us))]) H1 ∧ Store (A1.push D) (M1 ++ [some (.raw (.lst us))]) H1 ∧
    A0.l.length ≤ A1.l.length ∧ Dens (Live (A1.push D) (M1 ++ [some (.raw (.lst us))])) H1 ps us ∧ aTurns ag at_ ae chk (wipeG G vs) (fun ps M2 => Ψ (.dat (.list ps)) M2) (items.drop i) ps M1, ⟨_, Nat.zero_le _, rfl, ?_⟩, ?_⟩
  · obtain ⟨g1, s1⟩ := S0.push (o := .lst []) (m := .raw (.lst [])) hD ⟨upd_same, trivial⟩
    exact ⟨A0, M0, [], [], S0.len, S0.cl, g1, s1, Nat.le_refl _, by simp [Dens], h0⟩
  rintro i m H1 ⟨hle, rfl, A1, M1, ps, us, hl, hcl, g1, S1, hl0, t1, h1⟩
  have R1 : Rep (A1.push D) G (M1 ++ [some (.raw (.lst us))]) σ H1 := R0.grow g1 S1
  obtain ⟨hgo, hstop⟩ := it _ G _ σ H1 g1 R1 (turns_chk h1 _)
  cases hd : items.drop i with
  | nil =>
    have e := drop_nil hd hle
    subst e
    rw [hd] at h1
    obtain ⟨S2, d2⟩ := acc_end hl S1 t1 hcl
    refine .inl ⟨hstop, p _ _ A1 M1 H1 h1.2 ?_ S2 d2⟩
    have := (g0.trans g1).take (n := A1.l.length) (by
      have q := (g0.trans g1).pre
      by_cases hA : A.l.length = 0
      · omega
      · have hlt : A.l.length - 1 < A.l.length := by omega
        have := g0.pre (A.l.length - 1) _ (List.getElem?_eq_getElem hlt)
        have := (List.getElem?_eq_some_iff.mp this).1
        omega)
    rw [cut_push rfl, take_app hl.symm] at this
    exact this
  | cons d r =>
    obtain ⟨e1, e2, hlt⟩ := drop_at hd
    rw [hd] at h1
    obtain ⟨hgo1, hyld⟩ := hgo i d e1
    refine .inr ⟨hgo1, fun H' => ∃ (A1 : Ad) (M1 : Sto) (ps : List PyData) (us : List V), A1.l.length = M1.length ∧ StoCl M1 ∧ Grow A0 M0 H0 (A1.push D) (M1 ++ [some (.raw (.lst us))]) H' ∧ Store (A1.push D) (M1 ++ [some (.raw (.lst us))]) H' ∧
      A0.l.length ≤ A1.l.length ∧ Dens (Live (A1.push D) (M1 ++ [some (.raw (.lst us))])) H' ps us ∧ aTurns ag at_ ae chk (wipeG G vs) (fun ps M2 => Ψ (.dat (.list ps)) M2) (items.drop (i + 1)) ps M1,
      fun H' w => ⟨items.length - (i + 1), by omega, by omega, rfl, w⟩, fun x H2 hy => ?_⟩
    obtain ⟨g2, R2, dx⟩ := hyld x H2 hy
    have h1' := h1.2
    revert h1'
    split
    · rename_i G' eg
      intro h1'
      refine hg _ (wipeG G vs) _ (wipe σ vs) H2 d x _ (R2.wipe vs) dx G' eg fun σ3 R3 w3 => ⟨?_, ?_⟩
      · rw [w3 vs hts]
        apply List.ext_getElem?
        intro j
        by_cases hj : j < σ.length
        · by_cases hv : j ∈ vs
          · rw [wipe_in hv (by rw [wipe_length]; exact hj), wipe_in hv hj]
          · rw [wipe_out hv]
        · rw [List.getElem?_eq_none (by rw [wipe_length, wipe_length]; omega), List.getElem?_eq_none (by rw [wipe_length]; omega)]
      · refine ht _ G' _ σ3 H2 _ _ R3 (h1' (.lst us)) fun b A3 M3 H3 h3 g3 s3 => ?_
        obtain ⟨M3', rfl, c3, h3⟩ := h3
        have eA := len_of_app s3.len g3.pre (by rw [c3.1]; exact hl.symm)
        have hl3 : (A3.cut A1.l.length).l.length = M3'.length := by
          have := congrArg (fun q : Ad => q.l.length) eA
          have l2 := s3.len
          simp [push_len] at this l2 ⊢
          omega
        rw [eA] at g3 s3
        have gg := (g1.trans g2).trans g3
        have hl0' : A0.l.length ≤ (A3.cut A1.l.length).l.length := by rw [hl3, c3.1]; omega
        cases b with
        | false =>
          rw [if_neg Bool.false_ne_true] at h3 ⊢
          rw [e2]
          exact ⟨_, M3', ps, us, hl3, hcl.rel c3, gg, s3, hl0', Dens.kept ((g2.trans g3).kept) _ _ t1, h3⟩
        | true =>
          rw [if_pos rfl] at h3 ⊢
          refine he _ G' _ σ3 H3 _ _ (R3.grow g3 s3) h3 fun y z A4 M4 H4 h4 g4 s4 q4 => ?_
          obtain ⟨q, M4', rfl, rfl, c4, hz, h4⟩ := h4
          have eB := len_of_app s4.len g4.pre (by rw [c4.1]; exact hl3.symm)
          have hl4 : (A4.cut (A3.cut A1.l.length).l.length).l.length = M4'.length := by
            have := congrArg (fun q : Ad => q.l.length) eB
            have l2 := s4.len
            simp [push_len] at this l2 ⊢
            omega
          rw [eB] at g4 s4 q4
          have hD4 : H4 D = some (.lst us) := s4.ok (A4.cut (A3.cut A1.l.length).l.length).l.length D (.raw (.lst us)) push_at (by rw [hl4]; simp) |>.1
          have t4 := Dens.kept ((g2.trans (g3.trans g4)).kept) _ _ t1
          refine ⟨us, hD4, by rw [sizeLine_eq, ← t1.length]; exact hz, ?_⟩
          obtain ⟨g5, s5⟩ := s4.set (j := M4'.length) (a := D) (o := .lst (us ++ [y])) (m := .raw (.lst (us ++ [y]))) (n := .raw (.lst us)) (by rw [← hl4]; exact push_at) (by simp) ⟨upd_same, trivial⟩
          have e5 : (M4' ++ [some (Mo.raw (.lst us))]).set M4'.length (some (.raw (.lst (us ++ [y])))) = M4' ++ [some (.raw (.lst (us ++ [y])))] := by simp
          rw [e5] at g5 s5
          rw [e2]
          refine ⟨_, M4', ps ++ [q], us ++ [y], hl4, (hcl.rel c3).rel c4, (gg.trans g4).trans g5, s5, by rw [hl4, c4.1]; omega, ?_, h4⟩
          refine (Dens.kept g5.kept _ _ t4).append ?_
          simp only [Dens]
          exact ⟨y, [], rfl, Den.kept g5.kept _ _ q4, rfl⟩
    · intro h; exact h.elim
end
end AM
end

section
set_option Elab.async false
set_option linter.all false
set_option maxRecDepth 100000
set_option maxHeartbeats 4000000
namespace AM
open PySem PySem.Spec PyProof.Rows L2

structure DTs (X : Cx) (ifs : List Expr) (tt : TT) (at_ : AT) : Prop where
  pt : PTs X ifs tt
  lt : LT tt at_
def aYes : AT := fun _ M Ψ => Ψ true M
section
variable {X : Cx} {c : Expr} {tt : TT} {at_ : AT}
theorem dts_nil : DTs X [] tYes aYes := ⟨pts_nil, fun A G M σ H Ψ Q R h p => p true A M H h Grow.refl R.sto⟩
theorem dts_one (h : DT X c tt at_) : DTs X [c] tt at_ := ⟨pts_one h.pt, h.lt⟩
end
section
variable {X : Cx} {elt tg iter : Expr} {ifs : List Expr} {scope : Scope} {own : List (Str × Nat)} {pos : Pos} {wi : TI} {ai : AI} {g : TG} {ag : AG} {ts : List Nat} {tt : TT} {at_ : AT} {te : TE} {ae : AE}
theorem d_lc (hc : X.calm = true) (hN : X.N.Nodup) (hi : DI X tg iter wi ai) (ok : BlkOk X.N X.env.scope scope own)
    (hg : ∀ (s : Shared) (H : Hp) (C : Addr) (cl : List (Str × Addr)) (fp : List Addr), DG (X.blk s H scope (compEnvC scope cl C X.env) fp) tg g ag ts)
    (ht : ∀ (s : Shared) (H : Hp) (C : Addr) (cl : List (Str × Addr)) (fp : List Addr), DTs (X.blk s H scope (compEnvC scope cl C X.env) fp) ifs tt at_)
    (he : ∀ (s : Shared) (H : Hp) (C : Addr) (cl : List (Str × Addr)) (fp : List Addr), DE (X.blk s H scope (compEnvC scope cl C X.env) fp) elt te ae)
    (hts : ∀ i ∈ ts, i ∈ own.map (·.2) := by decide) (hs : ∀ x, foldedSetIterable iter X.env x = pure x := by intro _; rfl) :
    DE X (.ListComp elt [⟨tg, iter, ifs, 0⟩] scope pos) (tLc wi g tt te (own.map (·.2))) (aLc ai ag at_ ae (own.map (·.2))) :=
  ⟨pe_lc hc hN hi.pi ok (fun s H C cl fp => (hg s H C cl fp).pg) (fun s H C cl fp => (ht s H C cl fp).pt) (fun s H C cl fp => (he s H C cl fp).pe) hs,
    le_lc hi.li (hg X.s_0 X.H_0 0 [] []).lg (ht X.s_0 X.H_0 0 [] []).lt (he X.s_0 X.H_0 0 [] []).le hts⟩
/-- y = [..] on one line, y a local -/
theorem d_setLc {i : Nat} {y : Str} {py spos : Pos} (hc : X.calm = true) (hN : X.N.Nodup) (hyl : X.env.scope.names.lookup y = some .local)
    (hsw : swapsWith (.ListComp elt [⟨tg, iter, ifs, 0⟩] scope pos) (some (.Name y py)) spos.line X.env = pure true) (hi : DI X tg iter wi ai) (ok : BlkOk X.N X.env.scope scope own)
    (hg : ∀ (s : Shared) (H : Hp) (C : Addr) (cl : List (Str × Addr)) (fp : List Addr), DG (X.blk s H scope (compEnvC scope cl C X.env) fp) tg g ag ts)
    (ht : ∀ (s : Shared) (H : Hp) (C : Addr) (cl : List (Str × Addr)) (fp : List Addr), DTs (X.blk s H scope (compEnvC scope cl C X.env) fp) ifs tt at_)
    (he : ∀ (s : Shared) (H : Hp) (C : Addr) (cl : List (Str × Addr)) (fp : List Addr), DE (X.blk s H scope (compEnvC scope cl C X.env) fp) elt te ae)
    (hy : X.N[i]? = some y := by rfl) (hts : ∀ i ∈ ts, i ∈ own.map (·.2) := by decide) (hs : ∀ x, foldedSetIterable iter X.env x = pure x := by intro _; rfl) :
    DS X (.Assign [.Name y py] (.ListComp elt [⟨tg, iter, ifs, 0⟩] scope pos) spos) (tAsg (tLc wi g tt te (own.map (·.2))) (gName i)) (aAsg (aLc ai ag at_ ae (own.map (·.2))) (aName i)) :=
  ⟨ps_setLc hc hN hy hyl hsw hi.pi ok (fun s H C cl fp => (hg s H C cl fp).pg) (fun s H C cl fp => (ht s H C cl fp).pt) (fun s H C cl fp => (he s H C cl fp).pe) hs,
    ls_asg (le_lc hi.li (hg X.s_0 X.H_0 0 [] []).lg (ht X.s_0 X.H_0 0 [] []).lt (he X.s_0 X.H_0 0 [] []).le hts) lg_name⟩
end

/-! ### methods of lists of the store -/
def isLst (d : D) (M : Sto) : Prop := match cv d M with
  | .lst _ => True
  | _ => False
def isDic (d : D) (M : Sto) : Prop := match cv d M with
  | .dk _ => True
  | .dt _ => True
  | _ => False
/-- a list of the store -/
def ownL (d : D) (M : Sto) : Option (Nat × List PyData) := match d with
  | .own j => (match M[j]? with
    | some (some (.lst ds)) => some (j, ds)
    | _ => none)
  | _ => none
theorem ownL_at {A : Ad} {M : Sto} {H : Hp} {d : D} {v : V} {j : Nat} {ds : List PyData} (S : Store A M H) (h : DenD A (Live A M) H d v) (e : ownL d M = some (j, ds)) :
    ∃ a vs, v = .ref a ∧ A.l[j]? = some a ∧ M[j]? = some (some (.lst ds)) ∧ H a = some (.lst vs) ∧ Dens (Live A M) H ds vs := by
  unfold ownL at e
  split at e
  · rename_i j'
    split at e
    · rename_i ds' hm
      cases e
      obtain ⟨a, rfl, ha⟩ := h
      obtain ⟨vs, h1, h2⟩ := S.ok j a _ ha hm
      exact ⟨a, vs, rfl, ha, hm, h1, h2⟩
    · cases e
  · cases e
/-- the list of the store is another one now -/
theorem Post.setL {A : Ad} {M : Sto} {H : Hp} {Ψ : K1} {Q : VK} {j : Nat} {a : Addr} {ds es : List PyData} {us : List V} {d : D} {v : V} (p : Post A M H Ψ Q) (S : Store A M H) (ha : A.l[j]? = some a) (hm : M[j]? = some (some (.lst ds)))
    (t : Dens (Live A M) H es us) (h : Ψ d (M.set j (some (.lst es)))) (hd : DenD A (Live A M) H d v) : Q v (upd H a (.lst us)) := by
  have kp : Kept (Live A M) H (Live A M) (upd H a (.lst us)) := (S.kp_at ha hm).kp
  obtain ⟨g, s⟩ := S.set (o := .lst us) (m := .lst es) ha hm ⟨us, upd_same, Dens.kept kp _ _ t⟩
  exact p _ _ _ _ _ h g s (DenD.grow g d v hd)
def aAppend : D → AL := fun d ds M Ψ => match ownL d M, ds with
  | some (j, xs), [e] => (match pv e M with
    | some q => (match e with
      | .dat _ => xs.length < sizeLine ∧ Ψ (.dat .none) (M.set j (some (.lst (xs ++ [q]))))
      | _ => False)
    | none => False)
  | _, _ => False
def aExtend : D → AL := fun d ds M Ψ => match ownL d M, ds with
  | some (j, xs), [e] => (match listOf e M with
    | some zs => xs.length + zs.length ≤ sizeLine ∧ Ψ (.dat .none) (M.set j (some (.lst (xs ++ zs))))
    | none => False)
  | _, _ => False
def aPop : D → AL := fun d ds M Ψ => match ownL d M, ds with
  | some (j, xs), [] => (match xs[xs.length - 1]? with
    | some q => Ψ (.dat q) (M.set j (some (.lst xs.dropLast)))
    | none => False)
  | some (j, xs), [.dat (.int i)] => 0 ≤ i ∧ i < 2 ^ 63 ∧ (match xs[i.toNat]? with
    | some q => Ψ (.dat q) (M.set j (some (.lst (xs.eraseIdx i.toNat))))
    | none => False)
  | _, _ => False
theorem Dens.dropLast {L : Addr → Prop} {H : Hp} {ds : List PyData} {vs : List V} (h : Dens L H ds vs) : Dens L H ds.dropLast vs.dropLast := by
  rw [List.dropLast_eq_take, List.dropLast_eq_take, h.length]
  exact h.take _
theorem Dens.erase {L : Addr → Prop} {H : Hp} : ∀ {ds : List PyData} {vs : List V} (i : Nat), Dens L H ds vs → Dens L H (ds.eraseIdx i) (vs.eraseIdx i)
  | [], vs, i, h => by simp only [Dens] at h; subst h; simp [Dens]
  | d :: ds, vs, 0, h => by
    simp only [Dens] at h
    obtain ⟨v, r, rfl, h1, h2⟩ := h
    exact h2
  | d :: ds, vs, i + 1, h => by
    simp only [Dens] at h
    obtain ⟨v, r, rfl, h1, h2⟩ := h
    simp only [List.eraseIdx_cons_succ, Dens]
    exact ⟨v, _, rfl, h1, Dens.erase i h2⟩
section
variable {X : Cx}
theorem mt_appendG : MtR X "list.append" (cM aAppend) := by
  intro pins s σ H x xs v us Q I rx rxs h
  obtain ⟨A, M, d, ds, Ψ, S, hd, hds, hh, p⟩ := h
  unfold aAppend at hh
  split at hh
  · rename_i j ys e e1
    obtain ⟨z, rfl, hz⟩ := dd1 hds
    split at hh
    · rename_i q e2
      split at hh
      · rename_i q'
        cases e2
        obtain ⟨a, vs, rfl, ha, hm, h1, t⟩ := ownL_at S hd e1
        have t2 : Dens (Live A M) H (ys ++ [q]) (vs ++ [z]) := t.append (by simp only [Dens]; exact ⟨z, [], rfl, hz, rfl⟩)
        exact mt_append pins s σ H _ _ v us Q I rx rxs ⟨a, vs, z, rfl, rfl, h1, by rw [← t.length]; exact hh.1, p.setL S ha hm t2 hh.2 rfl⟩
      · exact hh.elim
    · exact hh.elim
  · exact hh.elim
theorem mt_extendG : MtR X "list.extend" (cM aExtend) := by
  intro pins s σ H x xs v us Q I rx rxs h
  obtain ⟨A, M, d, ds, Ψ, S, hd, hds, hh, p⟩ := h
  unfold aExtend at hh
  split at hh
  · rename_i j ys e e1
    obtain ⟨z, rfl, hz⟩ := dd1 hds
    split at hh
    · rename_i zs e2
      obtain ⟨b, ws, rfl, hb, t2⟩ := listOf_at S hz e2
      obtain ⟨a, vs, rfl, ha, hm, h1, t⟩ := ownL_at S hd e1
      exact mt_extend pins s σ H _ _ v us Q I rx rxs ⟨a, b, vs, ws, rfl, rfl, h1, hb, by rw [← t.length, ← t2.length]; exact hh.1, p.setL S ha hm (t.append t2) hh.2 rfl⟩
    · exact hh.elim
  · exact hh.elim
theorem mt_popG : MtR X "list.pop" (cM aPop) := by
  intro pins s σ H x xs v us Q I rx rxs h
  obtain ⟨A, M, d, ds, Ψ, S, hd, hds, hh, p⟩ := h
  unfold aPop at hh
  split at hh
  · rename_i j ys e1
    cases hds
    obtain ⟨a, vs, rfl, ha, hm, h1, t⟩ := ownL_at S hd e1
    split at hh
    · rename_i q e2
      obtain ⟨z, hz, dz⟩ := t.get e2
      exact mt_pop pins s σ H _ _ v us Q I rx rxs ⟨a, vs, z, rfl, rfl, h1, by rw [← t.length]; exact hz, p.setL S ha hm t.dropLast hh dz⟩
    · exact hh.elim
  · rename_i j ys i e1
    obtain ⟨y, rfl, hy⟩ := dd1 hds
    cases (show y = V.int i from hy)
    obtain ⟨a, vs, rfl, ha, hm, h1, t⟩ := ownL_at S hd e1
    obtain ⟨i0, i1, hh⟩ := hh
    split at hh
    · rename_i q e2
      obtain ⟨z, hz, dz⟩ := t.get e2
      have hlt := (List.getElem?_eq_some_iff.mp hz).1
      exact mt_popAt pins s σ H _ _ v us Q I rx rxs ⟨a, vs, i, i.toNat, z, rfl, rfl, h1, by omega, i1, seqIndex_of i0 (by omega), hz, p.setL S ha hm (t.erase _) hh dz⟩
    · exact hh.elim
  · exact hh.elim
variable {o e : Expr} {es : List Expr} {to : TE} {ao : AE} {t : TA} {aa : AA} {name : Str} {apos cpos : Pos} {id : String} {r : D → AL}
def aBM0 (r : D → AL) (ao : AE) : AE := fun G M Ψ => ao G M fun d M1 => isLst d M1 ∧ r d [] M1 Ψ
def aBM (r : D → AL) (ao : AE) (aa : AA) : AE := fun G M Ψ => ao G M fun d M1 => isLst d M1 ∧ aa G M1 fun ds M2 => r d ds M2 Ψ
theorem isLst_ty {K : PySem.W.Frag} {A : Ad} {M : Sto} {H : Hp} {d : D} {v : V} (S : Store A M H) (h : DenD A (Live A M) H d v) (e : isLst d M) : tyV K "list" v H := by
  unfold isLst at e
  split at e
  · rename_i xs e1
    obtain ⟨a, vs, rfl, h1, h2⟩ := cv_of S h e1
    exact .inl ⟨rfl, vs, SqL.of h1⟩
  · exact e.elim
theorem le_bm0 {K : PySem.W.Frag} (ho : LE to ao) : LE (tBM0 K "list" (cM r) to) (aBM0 r ao) := fun A G M σ H Ψ Q R hh q =>
  ho A G M σ H _ _ R hh fun v d A1 M1 H1 h1 g1 s1 q1 => ⟨isLst_ty s1 q1 h1.1, A1, M1, d, [], Ψ, s1, q1, .nil, h1.2, q.grow g1⟩
theorem le_bm {K : PySem.W.Frag} (ho : LE to ao) (ha : LA t aa) : LE (tBM K "list" (cM r) to t) (aBM r ao aa) := fun A G M σ H Ψ Q R hh q =>
  ho A G M σ H _ _ R hh fun v d A1 M1 H1 h1 g1 s1 q1 => ⟨isLst_ty s1 q1 h1.1, ha A1 G M1 σ H1 _ _ (R.grow g1 s1) h1.2 fun vs ds A2 M2 H2 h2 g2 s2 q2 =>
    ⟨A2, M2, d, ds, Ψ, s2, DenD.grow g2 d v q1, q2, h2, q.grow (g1.trans g2)⟩⟩
theorem d_bm0 {K : PySem.W.Frag} (hK : X.K = K) (slot : Slot "list" name id) (hty : typeOf (.builtin id) = pure (.type "method_descriptor")) (hm : MtR X id (cM r)) (ho : DE X o to ao)
    (hbase : attributeBase o name X.env (eval o X.env) = eval o X.env := by rfl) (hline : (apos.endLine == cpos.line) = true := by rfl) : DE X (.Call (.Attribute o name apos) [] [] cpos) (tBM0 K "list" (cM r) to) (aBM0 r ao) := by
  subst hK
  exact ⟨pe_bm0 PySem.F.plainAttrs_list slot hty hm ho.pe hbase hline, le_bm0 ho.le⟩
theorem d_bm {K : PySem.W.Frag} (hK : X.K = K) (slot : Slot "list" name id) (hty : typeOf (.builtin id) = pure (.type "method_descriptor")) (hm : MtR X id (cM r)) (ho : DE X o to ao) (ha : DA X (e :: es) t aa)
    (hbase : attributeBase o name X.env (eval o X.env) = eval o X.env := by rfl)
    (hfew : ((backTo cpos (starEach (e :: es) X.env)).all (fun x => !x.1) && (backToKw cpos (keywordEach [] X.env)).all (fun x => x.1.isSome)
      && decide ((e :: es).length + ([] : List Keyword).length + (if ([] : List Keyword).isEmpty then 0 else 1) < 30)) = true := by rfl)
    (hline : (apos.endLine == cpos.line) = true := by rfl) (hs : starEach (e :: es) X.env = (false, eval e X.env) :: starEach es X.env := by rfl) (hplain : (backTo cpos (starEach es X.env)).any (·.1) = false := by rfl) :
    DE X (.Call (.Attribute o name apos) (e :: es) [] cpos) (tBM K "list" (cM r) to t) (aBM r ao aa) := by
  subst hK
  exact ⟨pe_bm PySem.F.plainAttrs_list slot hty hm ho.pe ha.pa hbase hfew hline hs hplain, le_bm ho.le ha.la⟩

/-! ### dicts of the store -/
def aDPut (av ao ai : AE) : AS := fun K G M => av G M fun d M1 => ao G M1 fun o M2 => ai G M2 fun i M3 => match o with
  | .own j => (match M3[j]?, pv i M3 with
    | some (some (.dic kvs)), some p => (match toKey p with
      | some k => kvs.length < sizeLine ∧ K.nx G (M3.set j (some (.dic (put kvs k d))))
      | none => False)
    | some (some (.dit kvs)), some (.tuple ps) => (match toKeys ps with
      | some k => kvs.length < sizeLine ∧ K.nx G (M3.set j (some (.dit (put kvs k d))))
      | none => False)
    | _, _ => False)
  | _ => False
theorem put_den {κ : Type} [DecidableEq κ] {A : Ad} {L : Addr → Prop} {H : Hp} {k : κ} {d : D} {v : V} (hd : DenD A L H d v) : ∀ {kvs : List (κ × D)} {ws : List (κ × V)}, DicG A L H kvs ws → DicG A L H (put kvs k d) (putK ws k v) := by
  have hany : ∀ {kvs : List (κ × D)} {ws : List (κ × V)}, DicG A L H kvs ws → (kvs.any fun kv => decide (kv.1 = k)) = (ws.any fun kv => decide (kv.1 = k)) := by
    intro kvs ws h
    induction h with
    | nil => rfl
    | cons h t ih => simp only [List.any_cons, h.1, ih]
  have hmap : ∀ {kvs : List (κ × D)} {ws : List (κ × V)}, DicG A L H kvs ws → DicG A L H (kvs.map fun kv => if kv.1 = k then (kv.1, d) else kv) (ws.map fun kv => if kv.1 = k then (kv.1, v) else kv) := by
    intro kvs ws h
    induction h with
    | nil => exact .nil
    | cons h t ih =>
      simp only [List.map_cons]
      refine .cons ?_ ih
      rw [h.1]
      split
      · exact ⟨rfl, hd⟩
      · exact h
  have happ : ∀ {kvs : List (κ × D)} {ws : List (κ × V)}, DicG A L H kvs ws → DicG A L H (kvs ++ [(k, d)]) (ws ++ [(k, v)]) := by
    intro kvs ws h
    induction h with
    | nil => exact .cons ⟨rfl, hd⟩ .nil
    | cons h t ih => exact .cons h ih
  intro kvs ws h
  unfold put putK
  rw [hany h]
  split
  · exact hmap h
  · exact happ h
theorem ls_dput {tv to ti : TE} {av ao ai : AE} (hv : LE tv av) (ho : LE to ao) (hi : LE ti ai) : LS (sDPut to ti tv) (aDPut av ao ai) := fun A G M σ H K D R E h =>
  hv A G M σ H _ _ R h fun v d A1 M1 H1 h1 g1 s1 q1 => ho A1 G M1 σ H1 _ _ (R.grow g1 s1) h1 fun x o A2 M2 H2 h2 g2 s2 q2 => hi A2 G M2 σ H2 _ _ (R.grow (g1.trans g2) s2) h2 fun y i A3 M3 H3 h3 g3 s3 q3 => by
    have q1' := DenD.grow (g2.trans g3) d v q1
    have q2' := DenD.grow g3 o x q2
    have R3 := R.grow ((g1.trans g2).trans g3) s3
    have g0 := (g1.trans g2).trans g3
    revert h3
    split
    · rename_i j
      obtain ⟨a, rfl, ha⟩ := q2'
      split
      · rename_i kvs p hm hp
        split
        · rename_i k hk
          intro h3
          obtain ⟨ws, hw, t⟩ := s3.ok j a _ ha hm
          have hy := kV_of hk (pv_see s3 hp q3)
          subst hy
          have t2 := put_den (k := k) q1' t
          have g4 : Grow A3 M3 H3 A3 M3 (upd H3 a (.dK (putK ws k v))) → DicG A3 (Live A3 M3) (upd H3 a (.dK (putK ws k v))) (put kvs k d) (putK ws k v) := fun g => DicG.grow g t2
          obtain ⟨g, s⟩ := s3.set (o := .dK (putK ws k v)) (m := .dic (put kvs k d)) ha hm ⟨_, upd_same, g4 (s3.kp_at ha hm)⟩
          exact ⟨a, _, rfl, DPut.k hw (by rw [← Paired.length t]; exact h3.1), E.nx A3 G _ σ _ (g0.trans g) (R3.grow g s) h3.2⟩
        · intro h; exact h.elim
      · rename_i kvs ps hm hp
        split
        · rename_i k hk
          intro h3
          obtain ⟨ws, hw, t⟩ := s3.ok j a _ ha hm
          obtain ⟨pa, va, rfl, _, hpa, tp⟩ := see_tup (pv_see s3 hp q3)
          have hy := kVs_of hk tp
          subst hy
          have t2 := put_den (k := k) q1' t
          have g4 : Grow A3 M3 H3 A3 M3 (upd H3 a (.dT (putK ws k v))) → DicG A3 (Live A3 M3) (upd H3 a (.dT (putK ws k v))) (put kvs k d) (putK ws k v) := fun g => DicG.grow g t2
          obtain ⟨g, s⟩ := s3.set (o := .dT (putK ws k v)) (m := .dit (put kvs k d)) ha hm ⟨_, upd_same, g4 (s3.kp_at ha hm)⟩
          exact ⟨a, _, rfl, DPut.t hw hpa (by rw [← Paired.length t]; exact h3.1), E.nx A3 G _ σ _ (g0.trans g) (R3.grow g s) h3.2⟩
        · intro h; exact h.elim
      · intro h; exact h.elim
    · intro h; exact h.elim
theorem d_dput {k : Nat} {value i : Expr} {tv ti : TE} {av ai : AE} {pos pos' : Pos} (hr : Room k X.A) (hv : DE X value tv av) (ho : DE X o to ao) (hi : DE X i ti ai) (hs : swapsWith value (some (.Subscript o i pos')) pos.line X.env = pure false := by rfl) :
    DS X (.Assign [.Subscript o i pos'] value pos) (sDPut to ti tv) (aDPut av ao ai) := ⟨ps_dput (by have := hr.un; omega) ho.pe hi.pe hv.pe hs, ls_dput hv.le ho.le hi.le⟩
/-- {}: of the store (keys ints and texts, or tuples), or data -/
def aDNew (kd : Nat) : AE := fun _ M Ψ => match kd with
  | 0 => Ψ (.own M.length) (M ++ [some (.dic [])])
  | 1 => Ψ (.own M.length) (M ++ [some (.dit [])])
  | _ => Ψ (.dat (.dict [])) M
theorem le_dnewK : LE tDNewK (aDNew 0) := fun A G M σ H Ψ Q R h p q hq => by
  obtain ⟨g, s⟩ := R.sto.push (o := .dK []) (m := .dic []) hq ⟨[], upd_same, .nil⟩
  exact p _ _ _ _ _ h g s ⟨q, rfl, by show (A.l ++ [q])[M.length]? = _; rw [← R.sto.len]; simp⟩
theorem le_dnewT : LE tDNewT (aDNew 1) := fun A G M σ H Ψ Q R h p q hq => by
  obtain ⟨g, s⟩ := R.sto.push (o := .dT []) (m := .dit []) hq ⟨[], upd_same, .nil⟩
  exact p _ _ _ _ _ h g s ⟨q, rfl, by show (A.l ++ [q])[M.length]? = _; rw [← R.sto.len]; simp⟩
theorem le_dnewD : LE tDNewK (aDNew 2) := fun A G M σ H Ψ Q R h p q hq => by
  obtain ⟨g, s⟩ := R.sto.new (o := .dK []) hq
  refine p _ _ _ _ _ h g s ?_
  show Den _ _ (.dict []) _
  simp only [Den]
  exact ⟨q, rfl, R.sto.fresh hq, .inl ⟨[], upd_same, by simp [DenK]⟩⟩
theorem d_dnewK {pos : Pos} : DE X (.Dict [] [] pos) tDNewK (aDNew 0) := ⟨pe_dnewK, le_dnewK⟩
theorem d_dnewT {pos : Pos} : DE X (.Dict [] [] pos) tDNewT (aDNew 1) := ⟨pe_dnewT, le_dnewT⟩
theorem d_dnewD {pos : Pos} : DE X (.Dict [] [] pos) tDNewK (aDNew 2) := ⟨pe_dnewK, le_dnewD⟩
end
end AM
end

section
set_option Elab.async false
set_option linter.all false
set_option maxRecDepth 100000
set_option maxHeartbeats 4000000
namespace AM
open PySem PySem.Spec PyProof.Rows L2

/-! ### defs -/
/-- what a def promises, by its abstract reading; no repr guard stands around it -/
structure FnG (P : Program) (w : World) (K : PySem.W.Frag) (mg : Str → Option Value) (base : Heap) (k : Nat) (f : Addr) (fd : FuncData) (ps : List Str) (asp : AL) : Prop where
  run : ∀ (A : Around) (outer : List Env) (s : Shared) (H : Hp) (args : Args) (us : List Value) (vs : List V) (Q : VK),
    Room k A → A.guards = some [] → Env0 P w K mg base A outer s H → BindsTo s fd args (ps.zip us) → Vals vs us → vs.length = ps.length → cL asp vs H Q →
    codeAny (model P w) A (.call (.ref f) args) (CR CX0 outer P w H s Q E0) s
def startG (N : List Str) (ds : List D) : Gm := ds.map some ++ List.replicate (N.length - ds.length) none
/-- a body's reading, as the def's -/
def aBody (N : List Str) (b : AS) : AL := fun ds M Ψ => b { nx := fun _ M' => Ψ (.dat .none) M', rt := Ψ } (startG N ds) M
section
variable {P : Program} {w : World} {K : PySem.W.Frag} {mg : Str → Option Value} {base : Heap} {k : Nat} {f : Addr} {fd : FuncData} {ps N : List Str} {asp : AL}
theorem FnG.imp {asp' : AL} (F : FnG P w K mg base k f fd ps asp) (h : ∀ (ds : List D) (M : Sto) (Ψ : K1), ds.length = ps.length → asp' ds M Ψ → asp ds M Ψ) : FnG P w K mg base k f fd ps asp' :=
  ⟨fun A outer s H args us vs Q hr hg he hb hv hl ⟨A1, M, ds, Ψ, S, hd, ha, p⟩ => F.run A outer s H args us vs Q hr hg he hb hv hl ⟨A1, M, ds, Ψ, S, hd, h ds M Ψ (by rw [Paired.length hd]; exact hl) ha, p⟩⟩
theorem FnG.mono {j : Nat} (F : FnG P w K mg base j f fd ps asp) (h : j ≤ k) : FnG P w K mg base k f fd ps asp :=
  ⟨fun A outer s H args us vs Q hr => F.run A outer s H args us vs Q (hr.mono h)⟩
theorem start_at {A : Ad} {L : Addr → Prop} {H : Hp} {n : Nat} : ∀ {ds : List D} {vs : List V}, DenDs A L H ds vs → ∀ (i : Nat) (d : D), (ds.map some ++ List.replicate n none)[i]? = some (some d) → ∃ v, (vs.map some ++ List.replicate n none)[i]? = some (some v) ∧ DenD A L H d v
  | _, _, .nil, i, d, h => by
    simp only [List.map_nil, List.nil_append] at h
    rw [List.getElem?_replicate] at h
    split at h <;> cases h
  | _, _, .cons a t, 0, d, h => by
    simp only [List.map_cons, List.cons_append, List.getElem?_cons_zero] at h
    cases h
    exact ⟨_, rfl, a⟩
  | _, _, .cons a t, i + 1, d, h => by
    simp only [List.map_cons, List.cons_append, List.getElem?_cons_succ] at h ⊢
    exact start_at t i d h
/-- a def of the text keeps the promise of its body -/
theorem FnG.of {x qual : Str} {params : Arguments} {body : List Stmt} {scope : Scope} {dvs : List V} {kws : List (Str × V)} {as_ : AS} (F : FunD K x qual params body scope dvs kws f fd) (S : FnScope N ps scope)
    (hbody : ∀ (cdv : Value) (A : Around) (outer : List Env) (s : Shared) (H : Hp), Room k (A.deeper (envOfC qual scope s.heap.objs.size f cdv)) → (A.deeper (envOfC qual scope s.heap.objs.size f cdv)).guards = some [] →
      ∃ ts, DSs (cxOf CX0 P w K mg base N qual scope f cdv A outer s H E0).nox body ts as_) : FnG P w K mg base (k + 1) f fd ps (aBody N as_) := by
  obtain ⟨oc, od, dV, kV, doc, pm, an, cdv, ct, osl, rfl, lk, hcd, _, _⟩ := F.ex
  refine ⟨fun A outer s H args us vs Q hr hg e0 hb rv hl ⟨A1, M, ds, Ψ, S1, hd, ha, po⟩ => ?_⟩
  have inK : K.In s.heap :=
    e0.mod.kin.keeps fun b o e => (e0.bs b o e).1
  have lim := e0.mod.nolimit.keeps (h' := s.heap) fun b o e => (e0.bs b o e).1
  have cells : ∀ y ∈ ps.zip us, scope.names.lookup y.1 = some .local ∨
      (scope.names.lookup y.1 = some .cell ∧ ((cellsFrom (s.heap.objs.size + 1) scope.names []).lookup y.1).isSome = true) := by
    rintro ⟨n, v⟩ hy
    refine (S.par n (List.of_mem_zip hy).1).imp id fun q => ?_
    exact ⟨q, PySem.W.cellsFrom_some _ _ _ (.inl q)⟩
  refine codeAny_call_function hr.depth (inK _ _ lk) rfl S.co S.gen rfl
    (PySem.W.codeRec_of inK hcd) (hb _ _ _ _ ?_)
  refine wpAny_newFunctionEnv_cells S.kind cells ?_
  rintro env rfl s1 x
  refine ⟨lim.keeps x.toInCall.keep, codeAny_func ?_⟩
  obtain ⟨ts, D⟩ := hbody cdv A outer s H (hr.deeper _) hg
  have hls := D.ls A1 (startG N ds) M (L2.start N vs) H { nx := fun _ M' => Ψ (.dat .none) M', rt := Ψ } { nx := fun _ H' => Q .non H', rt := Q } ⟨S1, fun i d hi => by
      have e := Paired.length hd
      unfold startG at hi
      unfold L2.start
      rw [e] at hi
      exact start_at hd i d hi, by
      have e := Paired.length hd
      unfold startG L2.start
      simp [e]⟩
    ⟨fun A' G' M' σ' H' g r q => po _ _ A' M' H' q g r.sto rfl, fun v d A' M' H' g s q h => po v d A' M' H' h g s q, fun _ _ _ _ _ _ _ h => h.elim, fun _ _ _ _ _ _ _ h => h.elim⟩ ha
  have I0 := inv_start (CX := CX0) (P := P) (w := w) (mg := mg) (qual := qual) (cd := cdv) (E := E0) S hr.hd e0 hl rv x
  refine wpAny_mono (D.ps.nox.run [] s1 _ H _ I0 hls) (fun fl s' hs => ?_) fun e s' hs => hs
  cases fl with
  | next =>
    obtain ⟨σ', H', J, q⟩ := hs
    exact ⟨.non, H', J.os, J.bare, J.base, J.hok, rfl, q⟩
  | ret u =>
    obtain ⟨v, σ', H', J, r, q⟩ := hs
    exact ⟨v, H', J.os, J.bare, J.base, J.hok, r, q⟩
  | brk =>
    obtain ⟨_, _, _, q⟩ := hs
    exact q.elim
  | cont =>
    obtain ⟨_, _, _, q⟩ := hs
    exact q.elim
end

/-! ### calls of defs -/
section
variable {X : Cx} {k : Nat} {f : Addr} {fd : FuncData} {ps : List Str} {asp : AL} {x : Str} {p pos : Pos} {e : Expr} {es : List Expr} {t : TA} {aa : AA}
/-- a def of the module as its callers know it -/
structure Cg (P : Program) (w : World) (K : PySem.W.Frag) (mg : Str → Option Value) (base : Heap) (k : Nat) (x : Str) (n : Nat) (asp : AL) : Prop where
  ex : ∃ (f : Addr) (fd : FuncData) (ps : List Str), ps.length = n ∧ FnG P w K mg base k f fd ps asp ∧ mg x = some (.ref f) ∧ PySem.W.keepIn K (.ref f) = true ∧ Binds K fd ps []
def cN (n : Nat) (asp : AL) : List V → Hp → VK → Prop := fun vs H Q => vs.length = n ∧ cL asp vs H Q
theorem run_cg {pins : List (Addr × Obj)} {σ : L2.St} {H : Hp} {s : Shared} {Q : VK} {us : List Value} {vs : List V} {n : Nat} {mg : Str → Option Value} (F : FnG X.prog X.w X.K X.mg X.base k f fd ps asp) (hr : Room k X.A) (hg : X.A.guards = some []) (hb : Binds X.K fd ps [])
    (I : Inv X pins σ H s) (r : Vals vs us) (hl : vs.length = ps.length) (h : cL asp vs H Q) : wpAny (model X.prog X.w) X.A (call (.ref f) us) (EP X pins σ Q) X.xe s := by
  have hu : (us ++ []).length = ps.length := by rw [List.append_nil, ← r.length]; exact hl
  have hb' := hb s us I.kIn hu
  rw [List.append_nil] at hb'
  refine wpAny_call (codeAny_mono (F.run X.A X.stack s H ⟨us, []⟩ us vs Q hr hg I.env0 hb' r hl h) ?_)
  rintro (e | fl) s' hq
  · exact hq.elim
  · cases fl with
    | ret u => exact I.after hq
    | _ => exact False.elim hq
theorem pe_cg {n : Nat} (F : Cg X.prog X.w X.K X.mg X.base k x n asp) (hr : Room k X.A) (hgd : X.A.guards = some []) (hg : Gl X x) (ha : PA X (e :: es) t) (hdb : (x == ("__debug__" : Str)) = false := by decide)
    (he : starEach (e :: es) X.env = (false, eval e X.env) :: starEach es X.env := by rfl) (hpl : (backTo pos (starEach es X.env)).any (·.1) = false := by rfl) : PE X (.Call (.Name x p) (e :: es) [] pos) (tCB (cN n asp) t) := by
  obtain ⟨f, fd, ps, hn, G, hm, hk, hb⟩ := F.ex
  refine ⟨fun pins s σ H Q I h => wpAny_Call_Name_kw (ld_glob I hg hm ?_ hdb)⟩
  refine PySem.W.callWith_K (h₀ := X.base) I.ok.mod.kin hk (thn (ha.run pos pins s σ H _ I h) ?_) he hpl
  rintro us s1 ⟨vs, H1, I1, r, hl, q⟩
  exact ⟨I1.kIn, run_cg (n := n) (mg := X.mg) G hr hgd hb I1 r (by rw [hn]; exact hl) q⟩

/-- the first n objects are passed, the others are held back -/
def Ad.part (A : Ad) (M : Sto) (n : Nat) : Ad := ⟨A.l.take n, fun b => A.F b ∨ ∃ (j : Nat) (m : Mo), n ≤ j ∧ A.l[j]? = some b ∧ M[j]? = some (some m)⟩
/-- the objects behind the call -/
def Ad.join (A' A : Ad) (n : Nat) : Ad := ⟨A'.l.take n ++ A.l.drop n, A.F⟩
/-- the result is data: or a new list, data from now on -/
def resD (n : Nat) (d : D) (M : Sto) : Option PyData := match d with
  | .dat p => some p
  | .own j => if n ≤ j then (match M[j]? with
    | some (some (.lst ds)) => some (.list ds)
    | _ => none) else none
  | _ => none
def ClN (n : Nat) (M : Sto) : Prop := ∀ (j : Nat) (m : Mo), j < n → M[j]? = some (some m) → m.cl n
end
section
variable {A A' : Ad} {M M' : Sto} {H H' : Hp} {n : Nat}
theorem part_live {b : Addr} : Live (A.part M n) (M.take n) b ↔ Live A M b := by
  constructor
  · rintro (⟨j, m, h1, h2⟩ | h | ⟨j, m, _, h1, h2⟩)
    · replace h1 : (A.l.take n)[j]? = some b := h1
      rw [List.getElem?_take] at h1 h2
      split at h1
      · rename_i hj
        rw [if_pos hj] at h2
        exact .inl ⟨j, m, h1, h2⟩
      · cases h1
    · exact .inr h
    · exact .inl ⟨j, m, h1, h2⟩
  · rintro (⟨j, m, h1, h2⟩ | h)
    · by_cases hj : j < n
      · exact .inl ⟨j, m, by show (A.l.take n)[j]? = _; rw [List.getElem?_take, if_pos hj]; exact h1, by rw [List.getElem?_take, if_pos hj]; exact h2⟩
      · exact .inr (.inr ⟨j, m, by omega, h1, h2⟩)
    · exact .inr (.inl h)
theorem part_eq : Live (A.part M n) (M.take n) = Live A M := funext fun _ => propext part_live
theorem part_den : ∀ {d : D} {v : V}, d.cl n → DenD A (Live A M) H d v → DenD (A.part M n) (Live (A.part M n) (M.take n)) H d v
  | .dat p, v, _, h => by rw [part_eq]; exact h
  | .own j, v, c, ⟨a, e, h⟩ => ⟨a, e, by show (A.l.take n)[j]? = _; rw [List.getElem?_take, if_pos (show j < n from c)]; exact h⟩
  | .raw u, v, _, h => h
  | .scr K ns, v, _, h => by rw [part_eq]; exact h
theorem part_dens : ∀ {ds : List D} {vs : List V}, (∀ d ∈ ds, d.cl n) → DenDs A (Live A M) H ds vs → DenDs (A.part M n) (Live (A.part M n) (M.take n)) H ds vs
  | _, _, _, .nil => .nil
  | _, _, c, .cons h t => .cons (part_den (c _ List.mem_cons_self) h) (part_dens (fun d hd => c d (List.mem_cons_of_mem _ hd)) t)
theorem part_dic {κ : Type} : ∀ {kvs : List (κ × D)} {ws : List (κ × V)}, (∀ x ∈ kvs, x.2.cl n) → DicG A (Live A M) H kvs ws → DicG (A.part M n) (Live (A.part M n) (M.take n)) H kvs ws
  | _, _, _, .nil => .nil
  | _, _, c, .cons h t => .cons ⟨h.1, part_den (c _ List.mem_cons_self) h.2⟩ (part_dic (fun y hy => c y (List.mem_cons_of_mem _ hy)) t)
theorem part_mo {a : Addr} : ∀ {m : Mo}, m.cl n → MoOk A (Live A M) H a m → MoOk (A.part M n) (Live (A.part M n) (M.take n)) H a m
  | .lst ds, _, ⟨vs, h1, h2⟩ => ⟨vs, h1, by rw [part_eq]; exact h2⟩
  | .dic kvs, c, ⟨ws, h1, h2⟩ => ⟨ws, h1, part_dic c h2⟩
  | .dit kvs, c, ⟨ws, h1, h2⟩ => ⟨ws, h1, part_dic c h2⟩
  | .raw o, _, h => h
theorem Store.part (s : Store A M H) (c : ClN n M) : Store (A.part M n) (M.take n) H := by
  have f : ∀ {j : Nat} {x : Option Mo}, j < n → (M.take n)[j]? = some x → M[j]? = some x := fun {j x} hj e => by
    rw [List.getElem?_take, if_pos hj] at e
    exact e
  have g : ∀ {j : Nat} {a : Addr}, (A.part M n).l[j]? = some a → j < n ∧ A.l[j]? = some a := fun {j a} h => by
    replace h : (A.l.take n)[j]? = some a := h
    rw [List.getElem?_take] at h
    split at h
    · rename_i hj; exact ⟨hj, h⟩
    · cases h
  refine ⟨by show (A.l.take n).length = _; rw [List.length_take, List.length_take, s.len], fun i j a m1 n1 hi hj mi mj => ?_, fun j a m h1 h2 => ?_, fun b hb => ⟨?_, fun j m h1 h2 => ?_⟩⟩
  · exact s.inj i j a m1 n1 (g hi).2 (g hj).2 (f (g hi).1 mi) (f (g hj).1 mj)
  · exact part_mo (c j m (g h1).1 (f (g h1).1 h2)) (s.ok j a m (g h1).2 (f (g h1).1 h2))
  · rcases hb with hb | ⟨j, m, _, h1, h2⟩
    · exact (s.fr b hb).1
    · exact s.liveN (.inl ⟨j, m, h1, h2⟩)
  · obtain ⟨hj, h1⟩ := g h1
    have h2 := f hj h2
    rcases hb with hb | ⟨i, m1, hi, e1, e2⟩
    · exact (s.fr b hb).2 j m h1 h2
    · have := s.inj j i b m m1 h1 e1 h2 e2
      omega
/-- behind a call: the passed objects as the callee left them, the others as they were -/
theorem join_ok (hn : n ≤ M.length) (s : Store A M H) (g : Grow (A.part M n) (M.take n) H A' M' H') (s' : Store A' M' H') (c' : ClN n M') :
    Grow A M H (A'.join A n) (M'.take n ++ M.drop n) H' ∧ Store (A'.join A n) (M'.take n ++ M.drop n) H' ∧ (∀ b, Live (A'.join A n) (M'.take n ++ M.drop n) b → Live A' M' b) := by
  have hnA : n ≤ A.l.length := by rw [s.len]; exact hn
  have hnA' : n ≤ A'.l.length := by
    by_cases h0 : n = 0
    · omega
    · have h1 : n - 1 < A.l.length := by omega
      have := g.pre (n - 1) (A.l[n - 1]'h1) (by show (A.l.take n)[n - 1]? = _; rw [List.getElem?_take, if_pos (by omega)]; exact List.getElem?_eq_getElem h1)
      have := (List.getElem?_eq_some_iff.mp this).1
      omega
  have hnM' : n ≤ M'.length := by rw [← s'.len]; exact hnA'
  have lo : ∀ {j : Nat}, j < n → (A'.join A n).l[j]? = A'.l[j]? ∧ (M'.take n ++ M.drop n)[j]? = M'[j]? := fun {j} hj => by
    constructor
    · show (A'.l.take n ++ A.l.drop n)[j]? = _
      rw [List.getElem?_append_left (by rw [List.length_take]; omega), List.getElem?_take, if_pos hj]
    · rw [List.getElem?_append_left (by rw [List.length_take]; omega), List.getElem?_take, if_pos hj]
  have hi : ∀ {j : Nat}, ¬ j < n → (A'.join A n).l[j]? = A.l[j]? ∧ (M'.take n ++ M.drop n)[j]? = M[j]? := fun {j} hj => by
    have e1 : (A'.l.take n).length = n := by rw [List.length_take]; omega
    have e2 : (M'.take n).length = n := by rw [List.length_take]; omega
    have e3 : n + (j - n) = j := by omega
    constructor
    · show (A'.l.take n ++ A.l.drop n)[j]? = _
      rw [List.getElem?_append_right (by omega), e1, List.getElem?_drop, e3]
    · rw [List.getElem?_append_right (by omega), e2, List.getElem?_drop, e3]
  have old : ∀ {j : Nat} {a : Addr} {m : Mo}, ¬ j < n → A.l[j]? = some a → M[j]? = some (some m) → A'.F a := fun {j a m} hj h1 h2 => by
    rw [g.fr.1]
    exact .inr ⟨j, m, by omega, h1, h2⟩
  have lv : ∀ b, Live (A'.join A n) (M'.take n ++ M.drop n) b → Live A' M' b := by
    rintro b (⟨j, m, h1, h2⟩ | h)
    · by_cases hj : j < n
      · rw [(lo hj).1] at h1; rw [(lo hj).2] at h2
        exact .inl ⟨j, m, h1, h2⟩
      · rw [(hi hj).1] at h1; rw [(hi hj).2] at h2
        exact .inr (old hj h1 h2)
    · exact .inr (by rw [g.fr.1]; exact .inl h)
  have G : Grow A M H (A'.join A n) (M'.take n ++ M.drop n) H' := by
    refine ⟨fun j a h => ?_, fun b o e nl => ?_, fun b l => ?_, rfl, fun b hb => g.fr.2 b (.inl hb)⟩
    · by_cases hj : j < n
      · rw [(lo hj).1]
        exact g.pre j a (by show (A.l.take n)[j]? = _; rw [List.getElem?_take, if_pos hj]; exact h)
      · rw [(hi hj).1]; exact h
    · obtain ⟨e1, n1⟩ := g.kp b o e (by rw [part_eq]; exact nl)
      exact ⟨e1, fun l => n1 (lv b l)⟩
    · rcases g.lv b (lv b l) with h | h
      · rw [part_eq] at h; exact .inl h
      · exact .inr h
  have kj : Kept (Live A' M') H' (Live (A'.join A n) (M'.take n ++ M.drop n)) H' := fun b o e nl => ⟨e, fun l => nl (lv b l)⟩
  have dj : ∀ {d : D} {v : V}, d.cl n → DenD A' (Live A' M') H' d v → DenD (A'.join A n) (Live (A'.join A n) (M'.take n ++ M.drop n)) H' d v := fun {d v} c h => by
    cases d with
    | dat p => exact Den.kept kj p v h
    | own j =>
      obtain ⟨a, e, h⟩ := h
      exact ⟨a, e, by rw [(lo (show j < n from c)).1]; exact h⟩
    | raw u => exact h
    | scr K ns =>
      obtain ⟨a, e, h⟩ := h
      exact ⟨a, e, h.imp (fun q => ⟨q.1, fun l => q.2 (lv a l)⟩) id⟩
  have mj : ∀ {a : Addr} {m : Mo}, m.cl n → MoOk A' (Live A' M') H' a m → MoOk (A'.join A n) (Live (A'.join A n) (M'.take n ++ M.drop n)) H' a m := fun {a m} c h => by
    cases m with
    | lst ds => exact ⟨h.choose, h.choose_spec.1, Dens.kept kj _ _ h.choose_spec.2⟩
    | dic kvs =>
      obtain ⟨ws, h1, h2⟩ := h
      refine ⟨ws, h1, ?_⟩
      have c' : ∀ x ∈ kvs, x.2.cl n := c
      clear h1 c
      induction h2 with
      | nil => exact .nil
      | cons a t ih => exact .cons ⟨a.1, dj (c' _ List.mem_cons_self) a.2⟩ (ih fun y hy => c' y (List.mem_cons_of_mem _ hy))
    | dit kvs =>
      obtain ⟨ws, h1, h2⟩ := h
      refine ⟨ws, h1, ?_⟩
      have c' : ∀ x ∈ kvs, x.2.cl n := c
      clear h1 c
      induction h2 with
      | nil => exact .nil
      | cons a t ih => exact .cons ⟨a.1, dj (c' _ List.mem_cons_self) a.2⟩ (ih fun y hy => c' y (List.mem_cons_of_mem _ hy))
    | raw o => exact h
  refine ⟨G, ⟨?_, ?_, ?_, ?_⟩, lv⟩
  · show (A'.l.take n ++ A.l.drop n).length = _
    rw [List.length_append, List.length_append, List.length_take, List.length_take, List.length_drop, List.length_drop, s.len, s'.len]
  · intro i j a m1 n1 ai aj mi mj
    by_cases ji : i < n
    · rw [(lo ji).1] at ai; rw [(lo ji).2] at mi
      by_cases jj : j < n
      · rw [(lo jj).1] at aj; rw [(lo jj).2] at mj
        exact s'.inj i j a m1 n1 ai aj mi mj
      · rw [(hi jj).1] at aj; rw [(hi jj).2] at mj
        exact ((s'.fr a (old jj aj mj)).2 i m1 ai mi).elim
    · rw [(hi ji).1] at ai; rw [(hi ji).2] at mi
      by_cases jj : j < n
      · rw [(lo jj).1] at aj; rw [(lo jj).2] at mj
        exact ((s'.fr a (old ji ai mi)).2 j n1 aj mj).elim
      · rw [(hi jj).1] at aj; rw [(hi jj).2] at mj
        exact s.inj i j a m1 n1 ai aj mi mj
  · intro j a m h1 h2
    by_cases hj : j < n
    · rw [(lo hj).1] at h1; rw [(lo hj).2] at h2
      exact mj (c' j m hj h2) (s'.ok j a m h1 h2)
    · rw [(hi hj).1] at h1; rw [(hi hj).2] at h2
      exact MoOk.grow G (g.fr.2 a (.inr ⟨j, m, by omega, h1, h2⟩)) m (s.ok j a m h1 h2)
  · intro b hb
    refine ⟨(s'.fr b (by rw [g.fr.1]; exact .inl hb)).1, fun j m h1 h2 => ?_⟩
    by_cases hj : j < n
    · rw [(lo hj).1] at h1; rw [(lo hj).2] at h2
      exact (s'.fr b (by rw [g.fr.1]; exact .inl hb)).2 j m h1 h2
    · rw [(hi hj).1] at h1; rw [(hi hj).2] at h2
      exact (s.fr b hb).2 j m h1 h2
theorem res_den {d : D} {v : V} {p : PyData} (hn : n ≤ M.length) (s : Store A M H) (g : Grow (A.part M n) (M.take n) H A' M' H') (s' : Store A' M' H') (c' : ClN n M') (h : DenD A' (Live A' M') H' d v) (e : resD n d M' = some p) :
    Den (Live (A'.join A n) (M'.take n ++ M.drop n)) H' p v := by
  obtain ⟨G, S, lv⟩ := join_ok hn s g s' c'
  have kj : Kept (Live A' M') H' (Live (A'.join A n) (M'.take n ++ M.drop n)) H' := fun b o e nl => ⟨e, fun l => nl (lv b l)⟩
  unfold resD at e
  split at e
  · cases e
    exact Den.kept kj _ v h
  · rename_i j
    split at e
    · rename_i hj
      split at e
      · rename_i ds hm
        cases e
        obtain ⟨a, rfl, ha⟩ := h
        obtain ⟨vs, h1, h2⟩ := s'.ok j a _ ha hm
        simp only [Den]
        refine ⟨a, vs, rfl, fun l => ?_, h1, Dens.kept kj ds vs h2⟩
        have hnA : n ≤ A.l.length := by rw [s.len]; exact hn
        rcases l with ⟨i, m, q1, q2⟩ | q
        · by_cases hi : i < n
          · have hlen' : n ≤ M'.length := by
              have := (List.getElem?_eq_some_iff.mp hm).1
              omega
            have hlenA : n ≤ A'.l.length := by rw [s'.len]; exact hlen'
            replace q1 : (A'.l.take n ++ A.l.drop n)[i]? = some a := q1
            rw [List.getElem?_append_left (by rw [List.length_take]; omega), List.getElem?_take, if_pos hi] at q1
            rw [List.getElem?_append_left (by rw [List.length_take]; omega), List.getElem?_take, if_pos hi] at q2
            have := s'.inj i j a m _ q1 ha q2 hm
            omega
          · have hlen' : n ≤ M'.length := by
              have := (List.getElem?_eq_some_iff.mp hm).1
              omega
            have hlenA : n ≤ A'.l.length := by rw [s'.len]; exact hlen'
            have e1 : (A'.l.take n).length = n := by rw [List.length_take]; omega
            have e2 : (M'.take n).length = n := by rw [List.length_take]; omega
            have e3 : n + (i - n) = i := by omega
            replace q1 : (A'.l.take n ++ A.l.drop n)[i]? = some a := q1
            rw [List.getElem?_append_right (by omega), e1, List.getElem?_drop, e3] at q1
            rw [List.getElem?_append_right (by omega), e2, List.getElem?_drop, e3] at q2
            have : A'.F a := by rw [g.fr.1]; exact .inr ⟨i, m, by omega, q1, q2⟩
            exact (s'.fr a this).2 j _ ha hm
        · have : A'.F a := by rw [g.fr.1]; exact .inl q
          exact (s'.fr a this).2 j _ ha hm
      · cases e
    · cases e
  · cases e
end
section
variable {X : Cx} {k : Nat} {asp : AL} {x : Str} {p pos : Pos} {e : Expr} {es : List Expr} {t : TA} {aa : AA} {m n : Nat}
/-- f(e, ..): the first n objects of the store are passed; the result is data -/
def aCall (m n : Nat) (asp : AL) (aa : AA) : AE := fun G M Ψ => aa G M fun ds M1 => ds.length = m ∧ (∀ d ∈ ds, d.cl n) ∧ ClN n M1 ∧ n ≤ M1.length ∧ asp ds (M1.take n) fun d M2 => ClN n M2 ∧ (match resD n d M2 with
  | some q => Ψ (.dat q) (M2.take n ++ M1.drop n)
  | none => False)
theorem le_cg (ha : LA t aa) : LE (tCB (cN m asp) t) (aCall m n asp aa) := fun A G M σ H Ψ Q R hh po =>
  ha A G M σ H _ _ R hh fun vs ds A1 M1 H1 h1 g1 s1 q1 => by
    obtain ⟨hl, c1, c2, hn, h1⟩ := h1
    refine ⟨by rw [← Paired.length q1]; exact hl, A1.part M1 n, M1.take n, ds, _, s1.part c2, part_dens c1 q1, h1, fun v d A2 M2 H2 h2 g2 s2 q2 => ?_⟩
    obtain ⟨c3, h2⟩ := h2
    revert h2
    split
    · rename_i q eq
      intro h2
      obtain ⟨G', S', _⟩ := join_ok hn s1 g2 s2 c3
      exact po v (.dat q) _ _ H2 h2 (g1.trans G') S' (res_den hn s1 g2 s2 c3 q2 eq)
    · intro h; exact h.elim
/-- .. the whole store is passed, the result is what it is -/
def aCallO (m : Nat) (asp : AL) (aa : AA) : AE := fun G M Ψ => aa G M fun ds M1 => ds.length = m ∧ asp ds M1 Ψ
theorem le_cgO (ha : LA t aa) : LE (tCB (cN m asp) t) (aCallO m asp aa) := fun A G M σ H Ψ Q R hh po =>
  ha A G M σ H _ _ R hh fun vs ds A1 M1 H1 h1 g1 s1 q1 => ⟨by rw [← Paired.length q1]; exact h1.1, A1, M1, ds, Ψ, s1, q1, h1.2, po.grow g1⟩
theorem d_cg (F : Cg X.prog X.w X.K X.mg X.base k x m asp) (hr : Room k X.A) (hgd : X.A.guards = some []) (ha : DA X (e :: es) t aa) (hg : Gl X x := by rfl) (hdb : (x == ("__debug__" : Str)) = false := by decide)
    (he : starEach (e :: es) X.env = (false, eval e X.env) :: starEach es X.env := by rfl) (hpl : (backTo pos (starEach es X.env)).any (·.1) = false := by rfl) : DE X (.Call (.Name x p) (e :: es) [] pos) (tCB (cN m asp) t) (aCall m n asp aa) :=
  ⟨pe_cg F hr hgd hg ha.pa hdb he hpl, le_cg ha.la⟩
theorem d_cgO (F : Cg X.prog X.w X.K X.mg X.base k x m asp) (hr : Room k X.A) (hgd : X.A.guards = some []) (ha : DA X (e :: es) t aa) (hg : Gl X x := by rfl) (hdb : (x == ("__debug__" : Str)) = false := by decide)
    (he : starEach (e :: es) X.env = (false, eval e X.env) :: starEach es X.env := by rfl) (hpl : (backTo pos (starEach es X.env)).any (·.1) = false := by rfl) : DE X (.Call (.Name x p) (e :: es) [] pos) (tCB (cN m asp) t) (aCallO m asp aa) :=
  ⟨pe_cg F hr hgd hg ha.pa hdb he hpl, le_cgO ha.la⟩
end

/-! ### the law's own call -/
/-- the script, as the law is handed it -/
theorem law_cg {P : Program} {w : World} {K : PySem.W.Frag} {mg mb : Str → Option Value} {k : Nat} {fa a : Addr} {fd : FuncData} {x : Str} {asp : AL} {s₁ : Shared} {vs : List Value} {ns : List Int}
    (inK : K.In s₁.heap) (hns : s₁.heap.Ns mainGlobals mg) (hb : s₁.heap.Ns builtinsNs mb) (hbb : ∀ y : Str, y ≠ "__name__" → mb y = bootBuiltins y) (lim : s₁.heap.NoLimit) (hg : s₁.gens = #[])
    (ha : s₁.heap.get? a = some { cls := .type "list", data := .seq vs.toArray }) (hi : IntsAre vs ns) (hl : ns.length ≤ sizeLine) (hr : Room k callerA) (hgd : callerA.guards = some [])
    (F : ∀ base : Heap, K.In base → base.Ns mainGlobals mg → FnG P w K mg base k fa fd [x] asp)
    (bind : ∀ (s : Shared) (u : Value), BindsTo s fd ⟨[u], []⟩ [(x, u)]) (hsp : asp [.scr K ns] [] fun d _ => d = .dat (.bool true)) :
    codeAny (model P w) callerA (.call (.ref fa) ⟨[.ref a], []⟩)
      (fun r s' => r = .ok (.ret (.bool true)) ∧ OldK s₁.heap s'.heap ∧ s'.os = s₁.os ∧ AllBare s'.gens) s₁ := by
  have rv : Vals (ns.map V.int) vs := vals_ints hi
  have lenV := hi.length
  -- the heap of the walk: nothing is tracked, or the script alone
  obtain ⟨H, only, hok, notK, den⟩ : ∃ H : Hp, (∀ b, H b = none ∨ (b = a ∧ ∃ o xs, H b = some (.frz o (.lst xs)))) ∧ HOk P w H s₁.heap ∧ (H a ≠ none → K.lookup a = none) ∧
      DenD ⟨[], fun _ => False⟩ (Live ⟨[], fun _ => False⟩ []) H (.scr K ns) (.ref a) := by
    have nl : ¬ Live ⟨[], fun _ => False⟩ [] a := by
      rintro (⟨j, m, h, _⟩ | h)
      · simp at h
      · exact h
    cases hk : K.lookup a with
    | some o =>
      have e := inK a o hk
      rw [ha] at e
      cases e
      refine ⟨fun _ => none, fun _ => .inl rfl, fun b u z => (by cases (show (none : Option HO) = some u from z)), fun z => absurd rfl z, a, rfl, .inr fun H2 => .inr ⟨_, vs.toArray, _, hk, rfl, rfl, rfl, ?_, by simpa using rv⟩⟩
      rw [List.size_toArray, lenV]; exact hl
    | none =>
      let o0 : Obj := { cls := .type "list", data := .seq vs.toArray }
      have self : ∀ b, b = a → (fun c => if c = a then some (HO.frz o0 (.lst (ns.map V.int))) else none : Hp) b = some (HO.frz o0 (.lst (ns.map V.int))) := fun b e => if_pos e
      have other : ∀ b, ¬ b = a → (fun c => if c = a then some (HO.frz o0 (.lst (ns.map V.int))) else none : Hp) b = none := fun b e => if_neg e
      refine ⟨fun c => if c = a then some (HO.frz o0 (.lst (ns.map V.int))) else none, fun b => ?_, fun b u z => ?_, fun _ => rfl, a, rfl, .inl ⟨.inr ⟨o0, self a rfl⟩, nl⟩⟩
      · by_cases q : b = a
        · exact .inr ⟨q, _, _, self b q⟩
        · exact .inl (other b q)
      · by_cases q : b = a
        · have z' := (self b q).symm.trans z
          cases z'
          subst q
          exact ⟨ha, by rw [List.length_map]; exact hl, vs, _, rv, ha⟩
        · have z' := (other b q).symm.trans z
          cases z'
  have base_of : ∀ {b : Addr} {o : Obj}, s₁.heap.get? b = some o → H b = none → (hidT s₁.heap H).get? b = some o :=
    fun e n => hidT_get e n
  have free : ∀ {b : Addr} {o : Obj} {es : Array DictEntry} {ep : Nat}, s₁.heap.get? b = some o → o.data = .dict es ep → H b = none := fun {b o es ep} e d => by
    rcases only b with q | ⟨q, _⟩
    · exact q
    · rw [q, ha] at e
      cases e
      cases (show Data.seq vs.toArray _ = Data.dict es ep from d)
  have nsK : ∀ {b : Addr} {m : Str → Option Value}, s₁.heap.Ns b m → (hidT s₁.heap H).Ns b m := by
    rintro b m ⟨o, es, ep, e, d, r⟩
    exact ⟨o, es, ep, base_of e (free e d), d, r⟩
  have inB : K.In (hidT s₁.heap H) := fun b o e => base_of (inK b o e) (by
    rcases only b with q | ⟨q, o', xs, z⟩
    · exact q
    · subst q
      rw [notK (by rw [z]; simp)] at e
      cases e)
  have hM : Mod K mg (hidT s₁.heap H) :=
    ⟨inB, nsK hns, ⟨mb, nsK hb, hbb⟩, let ⟨mc, h1, h2⟩ := lim; ⟨mc, nsK h1, h2⟩⟩
  have e0 : Env0 P w K mg (hidT s₁.heap H) callerA [] s₁ H :=
    ⟨rfl, hM, fun b o e => of_hidT e, Nat.le_of_eq (hidT_size _ _), trivial, fun b z => absurd (show b ∈ ([] : List Addr) from z) (by simp), hok, .of_eq hg⟩
  have st : Store ⟨[], fun _ => False⟩ [] H := ⟨rfl, fun i j a m n h => by simp at h, fun j a m h => by simp at h, fun b h => h.elim⟩
  refine codeAny_mono ((F _ inB (nsK hns)).run callerA [] s₁ H ⟨[.ref a], []⟩ [.ref a] [.ref a] (fun v _ => v = .bl true) hr hgd e0 (bind s₁ (.ref a)) (.cons rfl .nil) rfl
    ⟨_, [], _, _, st, .cons den .nil, hsp, fun v d A' M' H' h _ _ q => by subst h; exact q⟩) ?_
  rintro (e | fl) s' h
  · exact h.elim
  cases fl with
  | ret u =>
    obtain ⟨v, H', os, bare, un, hok', r', q⟩ := h
    cases (show v = V.bl true from q)
    obtain rfl : u = Value.bool true := r'
    refine ⟨rfl, OldK.of_keep fun b o e => ?_, os, bare⟩
    rcases only b with q | ⟨_, ob, xs, z⟩
    · exact un.keep b o e q (fun z => absurd (show b ∈ ([] : List Addr) from z) (by simp)) (by simp)
    · obtain ⟨e1, _⟩ := hok b _ z
      obtain ⟨e2, _⟩ := hok' b _ (un.frzs b ob _ z)
      rw [e] at e1
      cases e1
      exact e2
  | _ => exact False.elim h
/-- the goal case hc that the head leaves -/
theorem walk_cg {l : PySem.W.OpenLaw} {n k : Nat} {q : Program} {loose : List Str} {XP : (Str → Option Value) → Heap → Prop} {YP : World → Heap → Prop} {d : DefRec} {x : Str}
    (hn : l.most = some n) (hn2 : n ≤ sizeLine) (hdf : d.params.defaults = []) (hr : Room k callerA)
    (F : ∀ (w : World) (mg : Str → Option Value) (fa : Addr) (h : Heap), YP w h → h.Ns mainGlobals mg → mg d.name = some (.ref fa) →
      ∃ (K : PySem.W.Frag) (fd : FuncData) (asp : AL), K.In h ∧ (∀ (s : Shared) (u : Value), BindsTo s fd ⟨[u], []⟩ [(x, u)]) ∧
        (∀ ns : List Int, ns.length ≤ n → asp [.scr K ns] [] fun d _ => d = .dat (.bool true)) ∧
        ∀ base : Heap, K.In base → base.Ns mainGlobals mg → FnG l.prog w K mg base k fa fd [x] asp) :
    PySem.W.WalkO q loose XP YP l.row.toRowW d [] (fun f vs => PySem.call f vs) := by
  refine Att.attach_call hn hdf ?_
  intro w s₀ s₁ mg mb fa o pm cd doc a vs ns G Y _ _ _ hmg hobj hints hlen hg
  obtain ⟨K, fd, asp, inK, bind, hsp, hF⟩ := F w mg fa _ Y G.T.g hmg
  exact law_cg inK G.T.g G.T.b G.T.builtins G.T.nolimit hg hobj hints (Nat.le_trans hlen hn2) hr rfl hF bind (hsp ns hlen)
end AM
end

section
set_option Elab.async false
set_option linter.all false
set_option maxRecDepth 100000
set_option maxHeartbeats 4000000
namespace AM
open PySem PySem.Spec PyProof.Rows L2

/-! ### a dict beside a tuple, a text -/
theorem tuple_eq_declines_dict (l b : Addr) (its : Array Value) (es : Array DictEntry) (n n2 : Nat) (dd dd2 : Option Addr) (sl sl2 : Array (Option Value)) :
    Meets (Builtin.«tuple.__eq__» ⟨[.ref l, .ref b], []⟩) (fun _ R s => s.heap.get? l = some { cls := .type "tuple", dict := dd, data := .seq its n, slots := sl } ∧
      s.heap.get? b = some { cls := .type "dict", dict := dd2, data := .dict es n2, slots := sl2 } ∧ R (.ok (.ret .notImplemented)) s) :=
  .of_wp fun prog w A R s h => by
    obtain ⟨hp, g, d, tk, os⟩ := s
    obtain ⟨hl, hb, h⟩ := h
    have f1 := F.sub_dict_tuple
    wp_walk using wpAny_loadPart' hl, wpAny_loadPart' hb
    exact ⟨_, rfl, h⟩
theorem str_eq_declines_dict (x : Str) (u : Tok) (b : Addr) (es : Array DictEntry) (n2 : Nat) (dd2 : Option Addr) (sl2 : Array (Option Value)) :
    Meets (Builtin.«str.__eq__» ⟨[.str x u, .ref b], []⟩) (fun _ R s => s.heap.get? b = some { cls := .type "dict", dict := dd2, data := .dict es n2, slots := sl2 } ∧ R (.ok (.ret .notImplemented)) s) :=
  .of_wp fun prog w A R s h => by
    obtain ⟨hp, g, d, tk, os⟩ := s
    obtain ⟨hb, h⟩ := h
    have f1 := F.sub_dict_str
    wp_walk using wpAny_loadPart' hb, wpAny_load hb
    exact ⟨_, rfl, h⟩
section
variable {A : Around} {s : Shared}
theorem dict_declines {P : Program} {w : World} {E : Value → Shared → Prop} {Q : Value → Shared → Prop} {a : Addr} {y : Value} {T : String} (ha : s.TypeIs (.ref a) "dict") (hy : s.TypeIs y T) (hs : isSubtype (.type T) (.type "dict") = pure false) (h : Q .notImplemented s) :
    wpAny (model P w) A (call (.builtin "dict.__eq__") [.ref a, y]) Q E s := by
  refine wpAny_call_entry PySem.F.slot_dict_eq ha PySem.F.entry_dict_eq ?_ (PySem.F.args_dict_eq_2 _ _)
  show wpAny _ _ (Builtin.Dict.dictSlotArgs "__eq__" ⟨[.ref a, y], []⟩ >>= _) _ _ s
  refine wpAny_bind ?_
  unfold Builtin.Dict.dictSlotArgs
  refine wpAny_bind (wpAny_notOrdered_dict ha ?_)
  show wpAny _ _ (pure (Value.ref a, y)) _ _ s
  refine wpAny_pure ?_
  refine wpAny_bind (wpAny_isInstance (T := T) hy hs ?_)
  simp only [Bool.not_false, if_true]
  exact wpAny_bind (wpAny_rule (wpAny_pure ⟨_, rfl, h⟩))
theorem slot_dict_eq2 : Slot "dict" (cmpInfo .Eq).2.2 "dict.__eq__" := PySem.F.slot_dict_eq
/-- a dict is not a tuple -/
theorem rc_dict_tuple {a b : Addr} {o : Obj} {es : Array DictEntry} {n : Nat} {its : Array Value} (ho : s.heap.get? a = some o) (hc : o.cls = .type "dict") (hd : o.data = .dict es n) (hb : s.heap.IsTuple b its) (hu : A.units < cLine) : SeqAt.RcAt A s (.ref a) (.ref b) false := fun prog w E Q h => by
  obtain ⟨cls, dd, data, sl⟩ := o
  obtain ⟨⟨cls2, dd2, data2, sl2⟩, ho2, hc2, n2, hd2⟩ := id hb
  simp only at hc hd hc2 hd2
  subst hc hd hc2 hd2
  have hne : b ≠ a := fun z => by
    subst z
    have e := ho.symm.trans ho2
    simp at e
  have ta : s.TypeIs (.ref a) "dict" := ⟨_, ho, rfl⟩
  have tb : s.TypeIs (.ref b) "tuple" := ⟨_, ho2, rfl⟩
  exact SeqAt.rc_eq_decline_or (k := false) ta tb (by decide) F.sub_tuple_dict PySem.F.slot_dict_eq F.slot_tuple_eq_refl
    (fun _ hq => dict_declines ta tb F.sub_tuple_dict hq)
    (fun _ hq => call_meets F.slot_tuple_eq_refl tb F.entry_tuple_eq (F.args_tuple_eq_2 _ _) (tuple_eq_declines_dict b a its es n2 n dd2 dd sl2 sl) ⟨ho2, ho, hq⟩)
    (fun R hq => by
      show wpAny _ _ (if (a == b) = true then pure true else _) R E s
      rw [if_neg (by simpa using hne.symm)]
      refine wpAny_bind (wpAny_load ho (wpAny_bind (wpAny_load ho2 ?_)))
      exact wpAny_pure hq) (.inr hu) h
/-- a text is not a dict -/
theorem rc_str_dict {b : Addr} {o : Obj} {es : Array DictEntry} {n : Nat} (x : Str) (u : Tok) (ho : s.heap.get? b = some o) (hc : o.cls = .type "dict") (hd : o.data = .dict es n) (hu : A.units < cLine) : SeqAt.RcAt A s (.str x u) (.ref b) false := fun prog w E Q h => by
  obtain ⟨cls, dd, data, sl⟩ := o
  simp only at hc hd
  subst hc hd
  have tb : s.TypeIs (.ref b) "dict" := ⟨_, ho, rfl⟩
  exact SeqAt.rc_eq_decline_or (k := false) (typeIs_str s x u) tb (by decide) F.sub_dict_str F.slot_str_eq slot_dict_eq2
    (fun _ hq => call_meets F.slot_str_eq (typeIs_str s x u) F.entry_str_eq (F.args_str_eq_2 _ _) (str_eq_declines_dict x u b es n dd sl) ⟨ho, hq⟩)
    (fun _ hq => dict_declines tb (typeIs_str s x u) F.sub_str_dict hq)
    (fun _ hq => wpAny_of_eq (rfl : isSame (.str x u) (.ref b) = pure false) hq) (.inr hu) h
theorem eq_str_dict {b : Addr} {o : Obj} {es : Array DictEntry} {n : Nat} (x : Str) (u : Tok) (ho : s.heap.get? b = some o) (hc : o.cls = .type "dict") (hd : o.data = .dict es n) (hu : A.units < cLine) : SeqAt.EqAt A s (.str x u) (.ref b) false := fun prog w E Q h => by
  unfold eqBool
  refine wpAny_holding ?_
  refine wpAny_ite_split (fun q => absurd (eq_of_beq q) nofun) fun _ => ?_
  exact wpAny_bind (rc_str_dict x u ho hc hd hu prog w E _ (wpAny_truthy_bool h))
end
section
variable {X : Cx}
theorem dict_obj {pins : List (Addr × Obj)} {σ : L2.St} {H : Hp} {s : Shared} {L : Addr → Prop} {kvs : List (PyData × PyData)} {x : V} {u : Value} (I : L2.Inv X pins σ H s) (h : Den L H (.dict kvs) x) (r : RelV x u) :
    ∃ (a : Addr) (o : Obj) (es : Array DictEntry) (n : Nat), u = .ref a ∧ s.heap.get? a = some o ∧ o.cls = .type "dict" ∧ o.data = .dict es n := by
  simp only [Den] at h
  obtain ⟨a, rfl, _, h⟩ := h
  cases (show u = Value.ref a from r)
  rcases h with ⟨ws, ha, t⟩ | ⟨ws, ha, t⟩
  · obtain ⟨_, _, vs, _, o, es, ep, ho, hc, hd, _⟩ := I.hok a _ ha
    exact ⟨a, o, es, ep, rfl, ho, hc.1, hd⟩
  · obtain ⟨_, _, vs, _, o, es, ep, ho, hc, hd, _⟩ := I.hok a _ ha
    exact ⟨a, o, es, ep, rfl, ho, hc.1, hd⟩
/-- ==, a dict beside a tuple too -/
def aEqX : A2 := fun d e M Ψ => match pv d M, pv e M with
  | some (.dict _), some (.tuple _) => Ψ (.dat (.bool false)) M
  | _, _ => aEq d e M Ψ
theorem op_eqX {k : Nat} (hr : Room k X.A) : OpR X (compareOp .Eq) (c2 aEqX) := by
  intro pins s σ H x y v u Q I rx ry h
  obtain ⟨A, M, d, e, Ψ, S, hd, he, hh, p⟩ := h
  have hun := hr.un
  unfold aEqX at hh
  split at hh
  · rename_i kvs ts e1 e2
    obtain ⟨a, o, es, n, rfl, ho, hc, hdat⟩ := dict_obj I (pv_see S e1 hd) rx
    obtain ⟨b, vs, rfl, _, hb, t⟩ := see_tup (pv_see S e2 he)
    obtain ⟨its, _, pt, _⟩ := I.tuple (SqT.of hb)
    cases (show u = Value.ref b from ry)
    exact rc_dict_tuple ho hc hdat pt (by omega) X.prog X.w _ _ ⟨.bl _, H, I, rfl, p.here S hh rfl⟩
  · exact op_eqD' hr pins s σ H x y v u Q I rx ry ⟨A, M, d, e, Ψ, S, hd, he, hh, p⟩
def isStrP : PyData → Bool
  | .str _ => true
  | _ => false
/-- in, a dict in a tuple of texts too -/
def aInX : A2 := fun d e M Ψ => match pv d M, cv e M with
  | some (.dict _), .tup ds => ds.all isStrP = true ∧ Ψ (.dat (.bool false)) M
  | _, _ => aIn d e M Ψ
theorem str_vals {L : Addr → Prop} {H : Hp} : ∀ {ds : List PyData} {vs : List V} {us : List Value}, ds.all isStrP = true → Dens L H ds vs → Vals vs us → ∀ y ∈ us, ∃ (x : Str) (t : Tok), y = .str x t
  | [], vs, us, _, h, r, y, hy => by
    simp only [Dens] at h
    subst h
    cases r
    cases hy
  | d :: ds, vs, us, c, h, r, y, hy => by
    simp only [Dens] at h
    obtain ⟨v, vs', rfl, h1, h2⟩ := h
    simp only [List.all_cons, Bool.and_eq_true] at c
    cases r with
    | cons ra rt =>
      rcases List.mem_cons.mp hy with rfl | hy
      · cases d with
        | str x =>
          cases (show v = V.str x from by simpa only [Den] using h1)
          obtain ⟨t, rfl⟩ := ra
          exact ⟨x, t, rfl⟩
        | _ => cases c.1
      · exact str_vals c.2 h2 rt y hy
theorem op_inX {k : Nat} (hr : Room k X.A) : OpR X (compareOp .In) (c2 aInX) := by
  intro pins s σ H x y v u Q I rx ry h
  obtain ⟨A, M, d, e, Ψ, S, hd, he, hh, p⟩ := h
  have hun := hr.un
  unfold aInX at hh
  split at hh
  · rename_i kvs ds e1 e2
    obtain ⟨a, o, es, n, rfl, ho, hc, hdat⟩ := dict_obj I (pv_see S e1 hd) rx
    obtain ⟨b, vs, rfl, _, hb, t⟩ := cv_of S he e2
    obtain ⟨its, rv, pt, _⟩ := I.tuple (SqT.of hb)
    cases (show u = Value.ref b from ry)
    refine SeqAt.in_tupleAt (fun _ => false) pt (fun z hz => ?_) ?_
    · obtain ⟨x', t', rfl⟩ := str_vals hh.1 t rv z (by simpa using hz)
      exact eq_str_dict x' t' ho hc hdat (by show X.A.units + 1 < _; omega)
    · have e0 : its.toArray.any (fun _ => false) = false := by simp
      rw [e0]
      exact ⟨.bl _, H, I, rfl, p.here S hh.2 rfl⟩
  · exact op_inG hr pins s σ H x y v u Q I rx ry ⟨A, M, d, e, Ψ, S, hd, he, hh, p⟩
end
end AM
end

section
set_option Elab.async false
set_option linter.all false
set_option maxRecDepth 100000
set_option maxHeartbeats 4000000
namespace AM
open PySem PySem.Spec PyProof.Rows L2

/-! ### t[::-1], xs[::-1] -/
section
variable {prog : Program} {w : World} {A : Around} {E : Value → Shared → Prop} {s : Shared}
theorem places_back (n : Nat) : Builtin.Slice.slicePlaces ((n : Int) - 1) (-1) (-1) = n := by
  unfold Builtin.Slice.slicePlaces
  simp only [show ¬ ((-1 : Int) > 0) by decide, if_false, show (- -1 : Int) = 1 by decide, Int.ediv_one]
  split <;> omega
theorem adjust_back (n : Nat) : Builtin.Slice.sliceAdjust none none (-1) (n : Int) = ((n : Int) - 1, -1) := by
  unfold Builtin.Slice.sliceAdjust
  simp only [show ((-1 : Int) < 0) by decide, if_true]
theorem pick_back (xs : Array Value) : ((List.range xs.size).filterMap fun (k : Nat) => xs[(((xs.size : Int) - 1) + (k : Int) * (-1)).toNat]?).toArray = xs.toList.reverse.toArray := by
  have e := PySem.W.krv_pick xs
  unfold slicePick at e
  rw [PySem.W.krv_bounds] at e
  have e' : ((sliceRange ((xs.size : Int) - 1) (-1) (-1)).filterMap (xs[·]?)).toArray = xs.toList.reverse.toArray := e
  rw [PySem.W.krv_sliceRange, List.filterMap_map] at e'
  rw [← e']
  have go : ∀ l : List Nat, (∀ k ∈ l, k < xs.size) → (l.filterMap fun (k : Nat) => xs[(((xs.size : Int) - 1) + (k : Int) * (-1)).toNat]?) = l.filterMap ((fun j => xs[j]?) ∘ fun k => xs.size - 1 - k) := by
    intro l
    induction l with
    | nil => intro _; rfl
    | cons k l ih =>
      intro hk
      have h1 := hk k List.mem_cons_self
      have e2 : (((xs.size : Int) - 1) + (k : Int) * (-1)).toNat = xs.size - 1 - k := by omega
      simp only [List.filterMap_cons, e2, Function.comp, ih fun j hj => hk j (List.mem_cons_of_mem _ hj)]
  rw [go _ fun k hk => List.mem_range.mp hk]
theorem applied_back {sl : Addr} {vs : Value} {n : Nat} {Q : Int × Int × Nat → Shared → Prop} (hs : s.heap.IsSliceOf sl .none .none vs) (ps : IsPart vs (some (-1))) (h : Q ((n : Int) - 1, -1, n) s) :
    wpAny (model prog w) A (Builtin.Slice.sliceApplied (.ref sl) (pure (n : Int))) Q E s := by
  obtain ⟨os, hos, hcs, hds⟩ := id hs
  unfold Builtin.Slice.sliceApplied Builtin.Slice.sliceFields
  refine wpAny_bind (wpAny_bind (wpAny_field hos hds (x := .none) rfl ?_))
  refine wpAny_bind (wpAny_field hos hds (x := .none) rfl (wpAny_bind (wpAny_field hos hds (x := vs) rfl (wpAny_pure ?_))))
  refine wpAny_bind (HT.slicePart_ ps ?_)
  show wpAny _ _ (if ((-1 : Int) == 0) = true then _ else _) _ _ s
  rw [if_neg (by decide)]
  refine wpAny_bind (HT.slicePart_ .none (wpAny_bind (HT.slicePart_ .none ?_)))
  refine wpAny_bind (wpAny_pure ?_)
  show wpAny _ _ (match Builtin.Slice.sliceAdjust none none (-1) (n : Int) with | (lo, hi) => pure (lo, (-1 : Int), Builtin.Slice.slicePlaces lo hi (-1))) _ _ s
  rw [adjust_back]
  show wpAny _ _ (pure ((n : Int) - 1, (-1 : Int), Builtin.Slice.slicePlaces ((n : Int) - 1) (-1) (-1))) _ _ s
  rw [places_back]
  exact wpAny_pure h
theorem getItem_back {t sl : Addr} {items : Array Value} {vs : Value} {Q : Value → Shared → Prop} (ht : IsTup s.heap t items) (hs : s.heap.IsSliceOf sl .none .none vs) (ps : IsPart vs (some (-1)))
    (h : Q (.ref s.heap.objs.size) { s with heap := s.heap.push { cls := .type "tuple", data := .seq items.toList.reverse.toArray } }) (hz : items.size ≤ sizeLine) :
    wpAny (model prog w) A (getItem (.ref t) (.ref sl)) Q E s := by
  have fits : sizeOk (.seq items.toList.reverse.toArray) := by
    show items.toList.reverse.toArray.size ≤ sizeLine
    simpa using hz
  obtain ⟨os, hos, hcs, hds⟩ := id hs
  have ts : s.TypeIs (.ref sl) "slice" := ⟨os, hos, hcs⟩
  unfold getItem
  try with_reducible refine wpAny_holding ?_
  first | refine wpAny_bind (wpAny_pure ?_) | skip
  refine wpAny_bind (wpAny_sequenceKey ht.typeIs (by decide) ?_)
  refine wpAny_bind (wpAny_callSpecial?_slot (name := Str.ofString "__getitem__") ht.typeIs PyProof.Rows.slot_tuple_getitem ?_)
  refine wpAny_call_entry PyProof.Rows.slot_tuple_getitem ht.typeIs entry_tuple_getitem ?_ (args_tuple_getitem _ _)
  show wpAny _ _ (Builtin.Tuple.tupleItemsOf (.ref t) >>= _) _ _ s
  refine wpAny_bind (tupleItemsOf_ ht (wpAny_bind (wpAny_typeOf ts ?_)))
  rw [if_pos (by decide)]
  refine wpAny_bind (applied_back hs ps ?_)
  have no : ¬ (((items.size : Int) - 1 == 0 && (-1 : Int) == 1 && items.size == items.size) = true) := by simp
  show wpAny _ _ (if ((items.size : Int) - 1 == 0 && (-1 : Int) == 1 && items.size == items.size) = true then _ else _) _ _ s
  rw [if_neg no, pick_back]
  first
    | exact wpAny_bind (m := Builtin.Tuple.tupleExact _) (wpAny_newObj_type (wpAny_pure ⟨_, rfl, wpAny_pure h⟩) fits)
    | exact wpAny_bind (wpAny_bind (m := Builtin.Tuple.tupleExact _) (wpAny_newObj_type (wpAny_pure (wpAny_pure ⟨_, rfl, wpAny_pure h⟩)) fits))
end
section
variable {X : Cx} {e : Expr} {te : TE} {ae : AE} {k : Nat} {p1 p2 p3 pos : Pos}
/-- x[::-1] of a list or a tuple -/
def tRev (K : PySem.W.Frag) (te : TE) : TE := fun σ H Q => te σ H fun x H1 => ∃ a xs, x = .ref a ∧
  ((SqL K H1 a xs ∧ ∀ p, H1 p = none → Q (.ref p) (upd H1 p (.lst xs.reverse))) ∨ (SqT K H1 a xs ∧ ∀ p, H1 p = none → Q (.ref p) (upd H1 p (.tup xs.reverse))))
theorem pe_rev (he : PE X e te) : PE X (.Subscript e (.Slice none none (some (.UnaryOp .USub (.Constant (.int 1) k p1) p2)) p3) pos) (tRev X.K te) := by
  refine ⟨fun pins s σ H Q I h => Subscript_ (thn (he.run pins s σ H _ I h) ?_)⟩
  rintro v s1 ⟨x, H1, I1, r1, a, xs, rfl, hx⟩
  cases (show v = Value.ref a from r1)
  have step : PO X (some (.UnaryOp .USub (.Constant (.int 1) k p1) p2)) (tPart (tUn (rU fun i => .int (-i)) (tC (.int 1)))) := po_some (pe_un un_neg pe_int)
  refine wpAny_Slice ?_
  rw [evalPart_none]
  refine wpAny_pure (wpAny_pure ?_)
  refine thn (step.run pins s1 σ H1 (fun o H4 => o = some (-1) ∧ H4 = H1) I1 ⟨1, rfl, -1, rfl, rfl, rfl⟩) ?_
  rintro vs s4 ⟨o, H4, I4, ps, rfl, rfl⟩
  have I5 : L2.Inv X pins σ H4 { s4 with heap := s4.heap.push { cls := .type "slice", data := .fields #[.none, .none, vs] } } := I4.kept (t' := s4.toks) fun b ob q => Heap.get?_push_of_some _ q
  show wpAny (model X.prog X.w) X.A (subscriptTail e (.Slice none none (some (.UnaryOp .USub (.Constant (.int 1) k p1) p2)) p3) (.ref a) (.ref s4.heap.objs.size)) (EP X pins σ Q) X.xe
    { s4 with heap := s4.heap.push { cls := .type "slice", data := .fields #[.none, .none, vs] } }
  rcases hx with ⟨hx, q⟩ | ⟨hx, q⟩
  · obtain ⟨its, r, ht, hz⟩ := I5.list hx
    have hlen := r.length
    refine tail_any (ops := [.ref a, .ref s4.heap.objs.size]) ht.isList.typeIs (PySem.slot_list_getitem.lookup) ?_ (by with_unfolding_all rfl)
    refine wpAny_getItem_list_slice ht.isList (Heap.IsSliceOf.new _ .none .none vs) .none .none ps (by decide) ?_ (by rw [List.size_toArray]; omega)
    rw [PySem.W.krv_pick]
    refine ⟨.ref _, _, I5.laid (t' := s4.toks) (o := .lst xs.reverse) (fun b ob q => Heap.get?_push_of_some _ q) (Nat.le_refl _) ⟨by rw [List.length_reverse]; exact hz, _, 0, r.reverse, Heap.get?_push_size _ rfl⟩, rfl, ?_⟩
    exact q _ (I5.hok.fresh (Nat.le_refl _))
  · obtain ⟨its, r, ht, hz⟩ := I5.tuple hx
    have hlen := r.length
    refine tail_any (ops := [.ref a, .ref s4.heap.objs.size]) ht.typeIs PyProof.Rows.slot_tuple_getitem.lookup ?_ (by with_unfolding_all rfl)
    refine getItem_back ht (Heap.IsSliceOf.new _ .none .none vs) ps ?_ (by rw [List.size_toArray]; omega)
    refine ⟨.ref _, _, I5.laid (t' := s4.toks) (o := .tup xs.reverse) (fun b ob q => Heap.get?_push_of_some _ q) (Nat.le_refl _) ⟨by rw [List.length_reverse]; exact hz, _, r.reverse, IsTup.new _ _⟩, rfl, ?_⟩
    exact q _ (I5.hok.fresh (Nat.le_refl _))
def aRev (n : Bool) (ae : AE) : AE := fun G M Ψ => ae G M fun d M1 => match pv d M1 with
  | some (.list ds) => Res n ds.reverse M1 Ψ
  | some (.tuple ds) => Ψ (.dat (.tuple ds.reverse)) M1
  | _ => False
theorem le_rev {n : Bool} {K : PySem.W.Frag} (he : LE te ae) : LE (tRev K te) (aRev n ae) := fun A G M σ H Ψ Q R hh p =>
  he A G M σ H _ _ R hh fun v d A1 M1 H1 h1 g1 s1 q1 => by
    revert h1
    split
    · rename_i ds e1
      intro h1
      obtain ⟨a, vs, rfl, ha, t⟩ := see_lst (pv_see s1 e1 q1)
      exact ⟨a, vs, rfl, .inl ⟨SqL.of ha, (p.grow g1).newR s1 h1 t.reverse⟩⟩
    · rename_i ds e1
      intro h1
      obtain ⟨a, vs, rfl, _, ha, t⟩ := see_tup (pv_see s1 e1 q1)
      exact ⟨a, vs, rfl, .inr ⟨SqT.of ha, (p.grow g1).newT s1 h1 t.reverse⟩⟩
    · intro h; exact h.elim
theorem d_rev {K : PySem.W.Frag} (hK : X.K = K) (n : Bool) (he : DE X e te ae) : DE X (.Subscript e (.Slice none none (some (.UnaryOp .USub (.Constant (.int 1) k p1) p2)) p3) pos) (tRev K te) (aRev n ae) := by
  subst hK
  exact ⟨pe_rev he.pe, le_rev he.le⟩
end
end AM
end

section
set_option Elab.async false
set_option linter.all false
set_option maxRecDepth 100000
set_option maxHeartbeats 4000000
namespace AM
open PySem PySem.Spec PyProof.Rows L2

/-! ### the script -/
section
variable {X : Cx} {tg : Expr} {e : Expr} {te : TE} {ae : AE}
def aScr (K : PySem.W.Frag) (ae : AE) : AI := fun G M Φ => ae G M fun d M1 => ∃ ns, d = .scr K ns ∧ Φ (ns.map fun i => D.dat (.int i)) (fun _ => True) M1
theorem scr_at {K : PySem.W.Frag} {ns : List Int} {A : Ad} {M : Sto} {H : Hp} {v : V} (h : DenD A (Live A M) H (.scr K ns) v) : ∃ a, v = .ref a ∧ SqL K H a (ns.map V.int) := by
  obtain ⟨a, e, h⟩ := h
  exact ⟨a, e, h.elim (fun q => .inl q.1) fun q => q H⟩
theorem li_scr {K : PySem.W.Frag} (he : LE te ae) : LI (iSeq K te) (aScr K ae) := fun A G M σ H Φ R hR hh q =>
  he A G M σ H _ _ hR hh fun v d A1 M1 H1 h1 g1 s1 q1 => by
    obtain ⟨ns, rfl, h1⟩ := h1
    obtain ⟨a, e, hs⟩ := scr_at q1
    refine ⟨a, e, .inl ⟨⟨_, hs⟩, q _ _ _ A1 M1 H1 h1 g1 (hR.grow g1 s1) fun A' G' M' σ' H' g' R' _ => ?_⟩⟩
    obtain ⟨a', e', hs'⟩ := scr_at (DenD.grow g' _ _ q1)
    cases e.symm.trans e'
    refine ⟨fun i d hd => ?_, _, hs', by rw [List.length_map, List.length_map]; exact Nat.le_refl _⟩
    rw [List.getElem?_map] at hd
    obtain ⟨n, hn, rfl⟩ := Option.map_eq_some_iff.mp hd
    have hn' : (ns.map V.int)[i]? = some (.int n) := by rw [List.getElem?_map, hn]; rfl
    refine ⟨⟨_, _, hs', hn'⟩, fun x H2 y => ?_⟩
    obtain ⟨rfl, y⟩ := y
    have e2 := y _ hs'
    rw [hn'] at e2
    cases e2
    exact ⟨Grow.refl, R', rfl⟩
theorem di_scr (he : DE X e te ae) : DI X tg e (iSeq X.K te) (aScr X.K ae) := ⟨pi_seq he.pe, li_scr he.le⟩
end

/-! ### zip, enumerate -/
theorem Rep.new {A : Ad} {G : Gm} {M : Sto} {σ : L2.St} {H : Hp} (R : Rep A G M σ H) {T : Addr} {xs : List V} {ds : List PyData} (h : H T = none) (t : Dens (Live A M) H ds xs) :
    Grow A M H A M (upd H T (.tup xs)) ∧ Rep A G M σ (upd H T (.tup xs)) ∧ DenD A (Live A M) (upd H T (.tup xs)) (.dat (.tuple ds)) (.ref T) := by
  obtain ⟨g, s⟩ := R.sto.new (o := .tup xs) h
  refine ⟨g, R.grow g s, ?_⟩
  show Den _ _ (.tuple ds) _
  simp only [Den]
  exact ⟨T, xs, rfl, R.sto.fresh h, upd_same, Dens.kept g.kept ds xs t⟩
theorem dens2 {L : Addr → Prop} {H : Hp} {p q : PyData} {x y : V} (h1 : Den L H p x) (h2 : Den L H q y) : Dens L H [p, q] [x, y] := by
  simp only [Dens]
  exact ⟨x, [y], rfl, h1, y, [], rfl, h2, rfl⟩
def zipD : List PyData → List PyData → List D
  | p :: ps, q :: qs => D.dat (.tuple [p, q]) :: zipD ps qs
  | _, _ => []
theorem zipD_at : ∀ {ps qs : List PyData} {i : Nat} {d : D}, (zipD ps qs)[i]? = some d → ∃ p q, ps[i]? = some p ∧ qs[i]? = some q ∧ d = .dat (.tuple [p, q])
  | p :: ps, q :: qs, 0, d, h => by simp [zipD] at h; exact ⟨p, q, rfl, rfl, h.symm⟩
  | p :: ps, q :: qs, i + 1, d, h => by
    simp only [zipD, List.getElem?_cons_succ] at h
    obtain ⟨a, b, h1, h2, h3⟩ := zipD_at h
    exact ⟨a, b, by simpa using h1, by simpa using h2, h3⟩
  | [], _, i, d, h => by simp [zipD] at h
  | _ :: _, [], i, d, h => by simp [zipD] at h
theorem zipD_len : ∀ (ps qs : List PyData), ps.length ≤ (zipD ps qs).length ∨ qs.length ≤ (zipD ps qs).length
  | p :: ps, q :: qs => by
    simp only [zipD, List.length_cons]
    have := zipD_len ps qs
    omega
  | [], _ => .inl (Nat.zero_le _)
  | _ :: _, [] => .inr (Nat.zero_le _)
def enumD : Nat → List PyData → List D
  | _, [] => []
  | i, p :: ps => D.dat (.tuple [.int (i : Int), p]) :: enumD (i + 1) ps
theorem enumD_at : ∀ {ps : List PyData} {k i : Nat} {d : D}, (enumD k ps)[i]? = some d → ∃ p, ps[i]? = some p ∧ d = .dat (.tuple [.int ((k + i : Nat) : Int), p])
  | p :: ps, k, 0, d, h => by simp [enumD] at h; exact ⟨p, rfl, by simpa using h.symm⟩
  | p :: ps, k, i + 1, d, h => by
    simp only [enumD, List.getElem?_cons_succ] at h
    obtain ⟨a, h1, h2⟩ := enumD_at h
    exact ⟨a, by simpa using h1, by rw [h2]; congr 5; omega⟩
  | [], k, i, d, h => by simp [enumD] at h
theorem enumD_len : ∀ (k : Nat) (ps : List PyData), (enumD k ps).length = ps.length
  | _, [] => rfl
  | k, p :: ps => by simp [enumD, enumD_len (k + 1) ps]
section
variable {X : Cx} {e e2 : Expr} {ta : TA} {aa : AA} {p pos tpos : Pos} {elts : List Expr} {kk : Nat}
def kpL (d : D) (ds : List PyData) (M : Sto) : Prop := match d with
  | .own j => M[j]? = some (some (.lst ds))
  | _ => True
theorem kp_lst {K : PySem.W.Frag} {A0 A : Ad} {M0 M : Sto} {H0 H : Hp} {G : Gm} {σ : L2.St} {d : D} {ds : List PyData} {a : Addr} (g : Grow A0 M0 H0 A M H) (R : Rep A G M σ H) (e : cv d M0 = .lst ds) (q : DenD A0 (Live A0 M0) H0 d (.ref a)) (c : kpL d ds M) :
    ∃ vs, SqL K H a vs ∧ Dens (Live A M) H ds vs := by
  unfold cv at e
  split at e
  · cases e
    have q' : Den (Live A0 M0) H0 _ (.ref a) := q
    have q2 := Den.kept g.kept _ _ q'
    simp only [Den] at q2
    obtain ⟨b, vs, eb, _, h1, h2⟩ := q2
    cases eb
    exact ⟨vs, SqL.of h1, h2⟩
  · cases e
  · rename_i j
    split at e
    · cases e
      obtain ⟨b, eb, hb⟩ := q
      cases eb
      obtain ⟨vs, h1, h2⟩ := R.sto.ok j _ _ (g.pre j _ hb) c
      exact ⟨vs, SqL.of h1, h2⟩
    · cases e
    · cases e
    · cases e
  · cases e
theorem kp_tup {K : PySem.W.Frag} {A0 A : Ad} {M0 M : Sto} {H0 H : Hp} {d : D} {ds : List PyData} {a : Addr} (g : Grow A0 M0 H0 A M H) (e : cv d M0 = .tup ds) (q : DenD A0 (Live A0 M0) H0 d (.ref a)) :
    ∃ vs, SqT K H a vs ∧ Dens (Live A M) H ds vs := by
  unfold cv at e
  split at e
  · cases e
  · cases e
    have q' : Den (Live A0 M0) H0 _ (.ref a) := q
    have q2 := Den.kept g.kept _ _ q'
    simp only [Den] at q2
    obtain ⟨b, vs, eb, _, h1, h2⟩ := q2
    cases eb
    exact ⟨vs, SqT.of h1, h2⟩
  · split at e <;> cases e
  · cases e
def aZip (aa : AA) : AI := fun G M Φ => aa G M fun ds M1 => match ds with
  | [d, e] => (match cv d M1, cv e M1 with
    | .lst xs, .lst ys => Φ (zipD xs ys) (fun M => kpL d xs M ∧ kpL e ys M) M1
    | .tup xs, .tup ys => Φ (zipD xs ys) (fun _ => True) M1
    | _, _ => False)
  | _ => False
theorem li_zip {K : PySem.W.Frag} (ha : LA ta aa) : LI (RZ.iZipA K ta) (aZip aa) := fun A G M σ H Φ R hR hh q =>
  ha A G M σ H _ _ hR hh fun vs ds A1 M1 H1 h1 g1 s1 q1 => by
    revert h1
    split
    · rename_i d e
      obtain ⟨x, y, rfl, hx, hy⟩ := dd2 q1
      split
      · rename_i xs ys e1 e2
        intro h1
        obtain ⟨a, vs1, rfl, ha1, t1⟩ := cv_of s1 hx e1
        obtain ⟨b, vs2, rfl, hb1, t2⟩ := cv_of s1 hy e2
        refine ⟨a, b, vs1, vs2, rfl, .inl ⟨SqL.of ha1, SqL.of hb1, q _ _ _ A1 M1 H1 h1 g1 (hR.grow g1 s1) fun A' G' M' σ' H' g' R' c => ?_⟩⟩
        obtain ⟨us1, k1, w1⟩ := kp_lst (K := K) g' R' e1 hx c.1
        obtain ⟨us2, k2, w2⟩ := kp_lst (K := K) g' R' e2 hy c.2
        refine ⟨fun i d hd => ?_, us1, us2, k1, k2, ?_⟩
        · obtain ⟨p, q, hp, hq, rfl⟩ := zipD_at hd
          obtain ⟨u, hu, du⟩ := w1.get hp
          obtain ⟨v, hv, dv⟩ := w2.get hq
          refine ⟨⟨us1, us2, u, v, k1, k2, hu, hv⟩, fun z H2 yy => ?_⟩
          obtain ⟨T, u', v', rfl, hT, rfl, f1, f2⟩ := yy
          cases hu.symm.trans (f1 us1 k1)
          cases hv.symm.trans (f2 us2 k2)
          exact R'.new hT (dens2 du dv)
        · rw [← w1.length, ← w2.length]
          exact zipD_len xs ys
      · rename_i xs ys e1 e2
        intro h1
        obtain ⟨a, vs1, rfl, _, ha1, t1⟩ := cv_of s1 hx e1
        obtain ⟨b, vs2, rfl, _, hb1, t2⟩ := cv_of s1 hy e2
        refine ⟨a, b, vs1, vs2, rfl, .inr ⟨SqT.of ha1, SqT.of hb1, q _ _ _ A1 M1 H1 h1 g1 (hR.grow g1 s1) fun A' G' M' σ' H' g' R' c => ?_⟩⟩
        obtain ⟨us1, k1, w1⟩ := kp_tup (K := K) g' e1 hx
        obtain ⟨us2, k2, w2⟩ := kp_tup (K := K) g' e2 hy
        refine ⟨fun i d hd => ?_, us1, us2, k1, k2, ?_⟩
        · obtain ⟨p, q, hp, hq, rfl⟩ := zipD_at hd
          obtain ⟨u, hu, du⟩ := w1.get hp
          obtain ⟨v, hv, dv⟩ := w2.get hq
          refine ⟨⟨us1, us2, u, v, k1, k2, hu, hv⟩, fun z H2 yy => ?_⟩
          obtain ⟨T, u', v', rfl, hT, rfl, f1, f2⟩ := yy
          cases hu.symm.trans (f1 us1 k1)
          cases hv.symm.trans (f2 us2 k2)
          exact R'.new hT (dens2 du dv)
        · rw [← w1.length, ← w2.length]
          exact zipD_len xs ys
      · intro h; exact h.elim
    · intro h; exact h.elim
theorem di_zip (hm : X.mg "zip" = none) (ha : DA X [e, e2] ta aa) (hg : Gl X "zip" := by rfl) (hs : starEach [e, e2] X.env = (false, eval e X.env) :: starEach [e2] X.env := by rfl) (hpl : (backTo pos (starEach [e2] X.env)).any (·.1) = false := by rfl) :
    DI X (.Tuple elts kk tpos) (.Call (.Name "zip" p) [e, e2] [] pos) (RZ.iZipA X.K ta) (aZip aa) := ⟨RZ.pi_zipA hg hm ha.pa hs hpl, li_zip ha.la⟩
def aEnum (aa : AA) : AI := fun G M Φ => aa G M fun ds M1 => match ds with
  | [d] => (match cv d M1 with
    | .lst xs => Φ (enumD 0 xs) (kpL d xs) M1
    | _ => False)
  | _ => False
theorem li_enum {K : PySem.W.Frag} (ha : LA ta aa) : LI (iEnum K ta) (aEnum aa) := fun A G M σ H Φ R hR hh q =>
  ha A G M σ H _ _ hR hh fun vs ds A1 M1 H1 h1 g1 s1 q1 => by
    revert h1
    split
    · rename_i d
      obtain ⟨x, rfl, hx⟩ := dd1 q1
      split
      · rename_i xs e1
        intro h1
        obtain ⟨a, vs1, rfl, ha1, t1⟩ := cv_of s1 hx e1
        refine ⟨a, vs1, rfl, SqL.of ha1, q _ _ _ A1 M1 H1 h1 g1 (hR.grow g1 s1) fun A' G' M' σ' H' g' R' c => ?_⟩
        obtain ⟨us1, k1, w1⟩ := kp_lst (K := K) g' R' e1 hx c
        refine ⟨fun i d hd => ?_, us1, k1, by rw [enumD_len, w1.length]; exact Nat.le_refl _⟩
        obtain ⟨p, hp, rfl⟩ := enumD_at hd
        obtain ⟨u, hu, du⟩ := w1.get hp
        refine ⟨⟨us1, u, k1, hu⟩, fun z H2 yy => ?_⟩
        obtain ⟨T, u', rfl, hT, rfl, f1⟩ := yy
        cases hu.symm.trans (f1 us1 k1)
        exact R'.new hT (dens2 (by simp only [Den]; congr 1; omega) du)
      · intro h; exact h.elim
    · intro h; exact h.elim
theorem di_enum (hm : X.mg "enumerate" = none) (ha : DA X [e] ta aa) (hg : Gl X "enumerate" := by rfl) (hs : starEach [e] X.env = [(false, eval e X.env)] := by rfl) :
    DI X (.Tuple elts kk tpos) (.Call (.Name "enumerate" p) [e] [] pos) (iEnum X.K ta) (aEnum aa) := ⟨pi_enum hg hm ha.pa hs, li_enum ha.la⟩

/-! ### list(range(..)) -/
variable {te tb : TE} {ae ab : AE} {p' pos' : Pos}
def rngP (lo : Int) (n : Nat) : List PyData := (List.range n).map fun i : Nat => PyData.int (lo + (i : Int))
theorem rng_den {L : Addr → Prop} {H : Hp} {lo hi : Int} : Dens L H (rngP lo (hi - lo).toNat) (rgV lo hi) := by
  unfold rngP rgV
  induction (List.range (hi - lo).toNat) with
  | nil => simp [Dens]
  | cons a l ih => simp only [List.map_cons, Dens]; exact ⟨_, _, rfl, rfl, ih⟩
def aLr1 (n : Bool) (ae : AE) : AE := fun G M Ψ => ae G M fun d M1 => match d with
  | .dat (.int j) => (-(2 ^ 62) ≤ j ∧ j ≤ 16777216) ∧ Res n (rngP 0 j.toNat) M1 Ψ
  | _ => False
def aLr2 (n : Bool) (ae ab : AE) : AE := fun G M Ψ => ae G M fun d M1 => ab G M1 fun d2 M2 => match d, d2 with
  | .dat (.int i), .dat (.int j) => (-(2 ^ 62) ≤ i ∧ i < 2 ^ 62 ∧ -(2 ^ 62) ≤ j ∧ j < 2 ^ 62 ∧ (j - i).toNat ≤ 16777216) ∧ Res n (rngP i (j - i).toNat) M2 Ψ
  | _, _ => False
theorem le_lr1 {n : Bool} (he : LE te ae) : LE (tLstRg (tRg1 te)) (aLr1 n ae) := fun A G M σ H Ψ Q R hh p =>
  he A G M σ H _ _ R hh fun v d A1 M1 H1 h1 g1 s1 q1 => by
    revert h1
    split
    · rename_i j
      intro h1
      cases (show v = V.int j from q1)
      have e0 : (j - 0).toNat = j.toNat := by omega
      have t : Dens (Live A1 M1) H1 (rngP 0 j.toNat) (rgV 0 j) := by
        have := rng_den (L := Live A1 M1) (H := H1) (lo := 0) (hi := j)
        rw [e0] at this
        exact this
      exact ⟨j, rfl, ⟨by omega, by omega, by omega, by omega, by rw [e0]; omega⟩, (p.grow g1).newR s1 h1.2 t⟩
    · intro h; exact h.elim
theorem le_lr2 {n : Bool} (he : LE te ae) (hb : LE tb ab) : LE (tLstRg (tRg2 te tb)) (aLr2 n ae ab) := fun A G M σ H Ψ Q R hh p =>
  he A G M σ H _ _ R hh fun v d A1 M1 H1 h1 g1 s1 q1 => hb A1 G M1 σ H1 _ _ (R.grow g1 s1) h1 fun u d2 A2 M2 H2 h2 g2 s2 q2 => by
    revert h2
    split
    · rename_i i j
      intro h2
      cases (show v = V.int i from q1)
      cases (show u = V.int j from q2)
      exact ⟨i, j, rfl, rfl, ⟨h2.1.1, h2.1.2.1, h2.1.2.2.1, h2.1.2.2.2.1, h2.1.2.2.2.2⟩, (p.grow (g1.trans g2)).newR s2 h2.2 rng_den⟩
    · intro h; exact h.elim
variable {a b : Expr}
theorem d_lr1 (n : Bool) (hc : X.calm = true) (hl : X.mg "list" = none) (hm : X.mg "range" = none) (ha : DE X a te ae) (hgl : Gl X "list" := by rfl) (hg : Gl X "range" := by rfl) (na : starEach [a] X.env = (false, eval a X.env) :: starEach [] X.env := by rfl)
    (nb : starEach [.Call (.Name "range" p') [a] [] pos'] X.env = (false, eval (.Call (.Name "range" p') [a] [] pos') X.env) :: starEach [] X.env := by rfl) :
    DE X (.Call (.Name "list" p) [.Call (.Name "range" p') [a] [] pos'] [] pos) (tLstRg (tRg1 te)) (aLr1 n ae) := ⟨pe_listRg hc hgl hl (prg_1 hg hm ha.pe na) nb, le_lr1 ha.le⟩
theorem d_lr2 (n : Bool) (hc : X.calm = true) (hl : X.mg "list" = none) (hm : X.mg "range" = none) (ha : DE X a te ae) (hb : DE X b tb ab) (hgl : Gl X "list" := by rfl) (hg : Gl X "range" := by rfl) (na : starEach [a, b] X.env = (false, eval a X.env) :: starEach [b] X.env := by rfl)
    (na2 : starEach [b] X.env = (false, eval b X.env) :: starEach [] X.env := by rfl) (hp : (backTo pos' (starEach [b] X.env)).any (·.1) = false := by rfl)
    (nb : starEach [.Call (.Name "range" p') [a, b] [] pos'] X.env = (false, eval (.Call (.Name "range" p') [a, b] [] pos') X.env) :: starEach [] X.env := by rfl) :
    DE X (.Call (.Name "list" p) [.Call (.Name "range" p') [a, b] [] pos'] [] pos) (tLstRg (tRg2 te tb)) (aLr2 n ae ab) := ⟨pe_listRg hc hgl hl (prg_2 hg hm ha.pe hb.pe na na2 hp) nb, le_lr2 ha.le hb.le⟩
end
end AM
end

section
set_option Elab.async false
set_option linter.all false
set_option maxRecDepth 100000
set_option maxHeartbeats 4000000
namespace AM
open PySem PySem.Spec PyProof.Rows L2 PySem.Calls

/-! ### {k: v, ..} -/
def aPrs : List (AE × AE) → Gm → Sto → (List (D × D) → Sto → Prop) → Prop
  | [] => fun _ M Ψ => Ψ [] M
  | (ak, av) :: r => fun G M Ψ => ak G M fun k M1 => av G M1 fun v M2 => aPrs r G M2 fun ps M3 => Ψ ((k, v) :: ps) M3
def PrDen (A : Ad) (L : Addr → Prop) (H : Hp) : List (D × D) → List (V × V) → Prop := Paired fun d v => DenD A L H d.1 v.1 ∧ DenD A L H d.2 v.2
def LPr (tr : List (TE × TE)) (ar : List (AE × AE)) : Prop := ∀ A G M σ H (Ψ : List (D × D) → Sto → Prop) (Q : List (V × V) → Hp → Prop), Rep A G M σ H → aPrs ar G M Ψ →
  (∀ vs ds A' M' H', Ψ ds M' → Grow A M H A' M' H' → Store A' M' H' → PrDen A' (Live A' M') H' ds vs → Q vs H') → tPairs tr σ H Q
theorem lpr_nil : LPr [] [] := fun A G M σ H Ψ Q R h p => p [] [] A M H h Grow.refl R.sto .nil
theorem lpr_cons {tk tv : TE} {ak av : AE} {tr : List (TE × TE)} {ar : List (AE × AE)} (hk : LE tk ak) (hv : LE tv av) (hr : LPr tr ar) : LPr ((tk, tv) :: tr) ((ak, av) :: ar) := fun A G M σ H Ψ Q R h p =>
  hk A G M σ H _ _ R h fun x d A1 M1 H1 h1 g1 s1 q1 => hv A1 G M1 σ H1 _ _ (R.grow g1 s1) h1 fun y e A2 M2 H2 h2 g2 s2 q2 =>
    hr A2 G M2 σ H2 _ _ (R.grow (g1.trans g2) s2) h2 fun vs ds A3 M3 H3 h3 g3 s3 q3 =>
      p _ _ A3 M3 H3 h3 ((g1.trans g2).trans g3) s3 (.cons ⟨DenD.grow (g2.trans g3) d x q1, DenD.grow g3 e y q2⟩ q3)
structure DP (X : Cx) (pos : Pos) (keys : List (Option Expr)) (values : List Expr) (tr : List (TE × TE)) (ar : List (AE × AE)) : Prop where
  pp : PPs X pos keys values tr
  lp : LPr tr ar
def keysD : List (D × D) → Option (List (Key × D))
  | [] => some []
  | (.dat p, v) :: r => (match toKey p, keysD r with
    | some k, some kvs => some ((k, v) :: kvs)
    | _, _ => none)
  | _ => none
def mergeD (kvs more : List (Key × D)) : List (Key × D) := more.foldl (fun acc kv => put acc kv.1 kv.2) kvs
def aDisp (ar : List (AE × AE)) : AE := fun G M Ψ => aPrs ar G (M ++ [some (.dic [])]) fun ps M2 => M2[M.length]? = some (some (.dic [])) ∧ (match keysD ps with
  | some kvs => kvs.length ≤ 15 ∧ Ψ (.own M.length) (M2.set M.length (some (.dic (mergeD [] kvs))))
  | none => False)
section
variable {A : Ad} {L : Addr → Prop} {H : Hp}
theorem merge_den : ∀ {more : List (Key × D)} {rs : List (Key × V)} {kvs : List (Key × D)} {ws : List (Key × V)}, DicG A L H more rs → DicG A L H kvs ws → DicG A L H (mergeD kvs more) (mergeK ws rs)
  | _, _, _, _, .nil, h => h
  | x :: _, y :: _, kvs, ws, .cons a t, h => by
    have q := put_den (k := x.1) a.2 h
    show DicG A L H (mergeD (put kvs x.1 x.2) _) (mergeK (putK ws y.1 y.2) _)
    rw [← a.1]
    exact merge_den t q
theorem keysD_den : ∀ {ps : List (D × D)} {kvs : List (Key × D)} {vs : List (V × V)}, keysD ps = some kvs → PrDen A L H ps vs → ∃ ws : List (Key × V), vs = ws.map (fun kv => (kV kv.1, kv.2)) ∧ DicG A L H kvs ws
  | [], kvs, vs, e, h => by cases e; cases h; exact ⟨[], rfl, .nil⟩
  | (k, v) :: r, kvs, vs, e, h => by
    cases k with
    | dat p =>
      simp only [keysD] at e
      split at e
      · rename_i k' kvs' e1 e2
        cases e
        cases h with
        | @cons _ y _ vs' a t =>
          obtain ⟨ws, rfl, q⟩ := keysD_den e2 t
          refine ⟨(k', y.2) :: ws, ?_, .cons ⟨rfl, a.2⟩ q⟩
          have := kV_of (L := L) e1 (see_of a.1)
          obtain ⟨y1, y2⟩ := y
          simp only [List.map_cons]
          rw [show y1 = kV k' from this]
      · cases e
    | own j => cases e
    | raw u => cases e
    | scr _ _ => cases e
end
theorem le_disp {tr : List (TE × TE)} {ar : List (AE × AE)} (h : LPr tr ar) : LE (tDisp tr) (aDisp ar) := fun A G M σ H Ψ Q R hh p q hq => by
  obtain ⟨g0, s0⟩ := R.sto.push (o := .dK []) (m := .dic []) hq ⟨[], upd_same, .nil⟩
  refine h _ G _ σ _ _ _ (R.grow g0 s0) hh fun vs ds A2 M2 H2 h2 g2 s2 q2 => ?_
  obtain ⟨hm, h2⟩ := h2
  have hA : A2.l[M.length]? = some q := g2.pre _ _ (by show (A.l ++ [q])[M.length]? = _; rw [← R.sto.len]; simp)
  obtain ⟨ws0, e0, t0⟩ := s2.ok _ _ _ hA hm
  cases t0
  refine ⟨e0, ?_⟩
  revert h2
  split
  · rename_i kvs ek
    intro h2
    obtain ⟨ws, rfl, t⟩ := keysD_den ek q2
    refine ⟨ws, rfl, by rw [← Paired.length t]; exact h2.1, ?_⟩
    have t2 := merge_den t (kvs := []) (ws := []) .nil
    obtain ⟨g, s⟩ := s2.set (o := .dK (mergeK [] ws)) (m := .dic (mergeD [] kvs)) hA hm ⟨_, upd_same, DicG.grow (s2.kp_at hA hm) t2⟩
    exact p _ _ _ _ _ h2.2 ((g0.trans g2).trans g) s ⟨q, rfl, hA⟩
  · intro h; exact h.elim
section
variable {X : Cx} {pos : Pos} {keys : List (Option Expr)} {values : List Expr} {tr : List (TE × TE)} {ar : List (AE × AE)} {k v : Expr} {tk tv : TE} {ak av : AE}
theorem dp_nil : DP X pos [] [] [] [] := ⟨pps_nil, lpr_nil⟩
theorem dp_cons (hk : DE X k tk ak) (hv : DE X v tv av) (hr : DP X pos keys values tr ar) : DP X pos (some k :: keys) (v :: values) ((tk, tv) :: tr) ((ak, av) :: ar) := ⟨pps_cons hk.pe hv.pe hr.pp, lpr_cons hk.le hv.le hr.lp⟩
theorem d_disp (h : DP X pos keys values tr ar) (hall : keys.all (·.isSome) = true := by rfl) (hl : keys.length = values.length := by rfl) (h0 : keys ≠ [] := by exact fun z => nomatch z) (h15 : keys.length ≤ 15 := by decide) :
    DE X (.Dict keys values pos) (tDisp tr) (aDisp ar) := ⟨pe_disp h.pp hall hl h0 h15, le_disp h.lp⟩
end

/-! ### sorted(d), d a dict with tuple keys -/
section
variable {prog : Program} {w : World} {A : Around} {E : Value → Shared → Prop} {s : Shared} {T : String} {r d : Addr} {n : Nat} {P : Nat → Value → Prop} {OK : Heap → Prop}
theorem collect_src {R : List Value → Shared → Prop} (K : PySem.W.KdlSrc prog w T r d n P OK) (hh : A.handled = none) (hok : OK s.heap) (hn : n ≤ sizeLine)
    (h : ∀ (h' : Heap) (tk : Nat) (acc : Array Value), (∀ b o, s.heap.get? b = some o → h'.get? b = some o) → ItemsOf P acc n → R acc.toList { s with heap := h', toks := tk }) :
    wpAny (model prog w) A (collect (.ref r)) R E s := by
  have lt := K.there _ hok
  unfold collect
  refine wpAny_bind (wpAny_runValue (codeAny_builtin entry_proto_collect' ?_))
  rw [Around.under_plainId PySem.F.plain_proto_collect _]
  show wpAny _ A.in1 (newList [] >>= fun l => again (.builtin "list.__iadd__" ⟨[l, .ref r], []⟩)) _ _ s
  refine wpAny_bind (wpAny_newObj_type (wpAny_pure ⟨plainId_quiet PySem.F.plain_list_iadd _, codeAny_builtin entry_list_iadd' ?_⟩))
  rw [Around.under_plainId PySem.F.plain_list_iadd _]
  show wpAny _ A.in1 (Builtin.List.listExtendWith (.ref s.heap.objs.size) (.ref r) (.ref s.heap.objs.size)) _ _ _
  have key := PySem.W.kdl_extend (s := { s with heap := s.heap.push { cls := .type "list", data := .seq ([] : List Value).toArray } })
    (R := fun (q : Result) (s' : Shared) => ∃ (h' : Heap) (tk : Nat) (acc : Array Value) (c' : Nat), q = .ok (.ret (.ref s.heap.objs.size)) ∧ s' = { s with heap := h', toks := tk } ∧
      (∀ b o, s.heap.get? b = some o → h'.get? b = some o) ∧ h'.get? s.heap.objs.size = some { cls := .type "list", dict := none, data := .seq acc c', slots := #[] } ∧ ItemsOf P acc n)
    K hh (K.keep _ _ hok fun b _ o e => Heap.get?_push_of_some _ e) s.heap.objs.size (Nat.ne_of_gt lt.1) (Nat.ne_of_gt lt.2) (.ref s.heap.objs.size) 0 (Heap.get?_push_size _ rfl)
    (fun h' tk acc c' hk hS hacc => ⟨h', tk, acc, c', rfl, rfl, fun b o e => hk b o (Nat.ne_of_lt (Heap.lt_size e)) (Heap.get?_push_of_some _ e), hS, hacc⟩) hn
  refine wpAny_mono key (fun fin s' x => ?_) fun e s' x => ?_
  · cases fin with
    | done f =>
      obtain ⟨h', tk, acc, c', e, rfl, hk, hS, hacc⟩ := x
      cases e
      show wpAny _ A (load s.heap.objs.size >>= _) _ _ _
      exact wpAny_bind (wpAny_load hS (wpAny_pure (h h' tk acc hk hacc)))
    | again c₁ =>
      refine ⟨x.1, codeAny_mono x.2 fun q s₂ y => ?_⟩
      obtain ⟨h', tk, acc, c', rfl, rfl, hk, hS, hacc⟩ := y
      show wpAny _ A (load s.heap.objs.size >>= _) _ _ _
      exact wpAny_bind (wpAny_load hS (wpAny_pure (h h' tk acc hk hacc)))
  · obtain ⟨_, _, _, _, e', _⟩ := x
    cases e'
theorem sorted_src {Q : Value → Shared → Prop} (K : PySem.W.KdlSrc prog w T r d n P OK) (hh : A.handled = none) (hok : OK s.heap) (hn : n ≤ sizeLine)
    (h : ∀ (h' : Heap) (tk : Nat) (acc : Array Value), (∀ b o, s.heap.get? b = some o → h'.get? b = some o) → ItemsOf P acc n →
      wpAny (model prog w) A.in1 (call (.builtin "list.sort") [.ref h'.objs.size]) (fun _ s' => Q (.ref h'.objs.size) s') E { s with heap := h'.push { cls := .type "list", data := .seq acc.toList.toArray }, toks := tk }) :
    wpAny (model prog w) A (call (.builtin "sorted") [.ref r]) Q E s := by
  refine call_function_entry kind_sorted plain_sorted entry_sorted (args_sorted1 _) ?_
  unfold Builtin.«sorted»
  refine wpAny_bind (m := checkCount "sorted" 1 1 _) (wpAny_pure ?_)
  refine wpAny_bind (collect_src (A := A.in1) K hh hok hn fun h' tk acc hk hacc => ?_)
  refine wpAny_bind (wpAny_newList ?_ (by rw [Array.length_toList, hacc.1]; exact hn))
  refine wpAny_bind (wpAny_holding (wpAny_mono (h h' tk acc hk hacc) (fun _ s' x => ?_) fun _ _ e => e))
  exact wpAny_pure ⟨_, rfl, x⟩
end
section
variable {X : Cx}
def ktups {β : Type} (kvs : List (List Key × β)) : List PyData := kvs.map fun kv => PyData.tuple (kv.1.map ofKey)
theorem den_keys {L : Addr → Prop} {H : Hp} : ∀ ks : List Key, Dens L H (ks.map ofKey) (ks.map kV)
  | [] => by simp [Dens]
  | k :: ks => by
    simp only [List.map_cons, Dens]
    refine ⟨_, _, rfl, ?_, den_keys ks⟩
    cases k with
    | inl i => simp only [ofKey, Den]; rfl
    | inr x => simp only [ofKey, Den]; rfl
theorem dit_keys {A : Ad} {M : Sto} {H : Hp} (S : Store A M H) : ∀ {kvs : List (List Key × D)} {ws : List (List Key × V)} {xs : List (List Key × Addr × Value)}, DicG A (Live A M) H kvs ws →
    Paired (fun (p : List Key × V) (q : List Key × Addr × Value) => p.1 = q.1 ∧ H q.2.1 = some (.tup (p.1.map kV)) ∧ RelV p.2 q.2.2) ws xs → Dens (Live A M) H (ktups kvs) (xs.map fun x => V.ref x.2.1)
  | _, _, _, .nil, .nil => by simp [ktups, Dens]
  | _, _, _, .cons a t, .cons b u => by
    have ih := dit_keys S t u
    simp only [ktups, List.map_cons, Dens] at ih ⊢
    refine ⟨_, _, rfl, ?_, ih⟩
    simp only [Den]
    refine ⟨_, _, rfl, S.tup b.2.1, b.2.1, ?_⟩
    rw [a.1]
    exact den_keys _
theorem refs_vals : ∀ xs : List (List Key × Addr × Value), Vals (xs.map fun x => V.ref x.2.1) (xs.map fun x => Value.ref x.2.1)
  | [] => .nil
  | _ :: xs => .cons rfl (refs_vals xs)
theorem plain_keys : ∀ ks : List Key, PyData.plainAll (ks.map ofKey) = true
  | [] => rfl
  | k :: ks => by cases k <;> simp [PyData.plainAll, ofKey, PyData.plain, plain_keys ks]
theorem plain_ktups {β : Type} : ∀ kvs : List (List Key × β), PyData.plainAll (ktups kvs) = true
  | [] => rfl
  | kv :: kvs => by
    have := plain_ktups kvs
    unfold ktups at this ⊢
    simp only [List.map_cons, PyData.plainAll, PyData.plain, plain_keys, this, Bool.and_self]
theorem items_map {es : Array DictEntry} {acc : Array Value} (h : ItemsOf (fun i v => ∃ hi : i < es.size, v = es[i].key) acc es.size) : acc.toList = es.toList.map (·.key) := by
  apply List.ext_getElem?
  intro j
  rw [List.getElem?_map, Array.getElem?_toList, Array.getElem?_toList]
  by_cases hj : j < acc.size
  · obtain ⟨hi, e⟩ := h.2 j _ (Array.getElem?_eq_getElem hj)
    rw [Array.getElem?_eq_getElem hj, Array.getElem?_eq_getElem hi, e]
    rfl
  · rw [Array.getElem?_eq_none (by omega), Array.getElem?_eq_none (by rw [← h.1]; omega)]
    rfl
/-- sorted(x): a list, or a dict of the store with tuple keys -/
def aSortedX (n : Bool) : AL := fun ds M Ψ => match ds with
  | [.own j] => (match M[j]? with
    | some (some (.dit kvs)) => kvs.length ≤ sizeLine ∧ PySem.W.AllAlike (ktups kvs) ∧ PySem.W.Sortable (ktups kvs) ∧ (∀ x ∈ ktups kvs, x.depth ≤ 60) ∧ Res n ((ktups kvs).mergeSort (PySem.W.dataLe false id)) M Ψ
    | _ => aSorted n ds M Ψ)
  | _ => aSorted n ds M Ψ
theorem call_sortedX {n : Bool} {k : Nat} (hc : X.calm = true) (hr : Room k X.A) : CallR X (.builtin "sorted") (cL (aSortedX n)) := by
  intro pins s σ H xs us Q I r h
  obtain ⟨A, M, ds, Ψ, S, hd, hh, p⟩ := h
  unfold aSortedX at hh
  split at hh
  · rename_i j
    split at hh
    · rename_i kvs hm
      obtain ⟨hl, c1, c2, c3, q⟩ := hh
      obtain ⟨x, rfl, hx⟩ := dd1 hd
      obtain ⟨a, rfl, ha⟩ := hx
      obtain ⟨ws, hw, t⟩ := S.ok j a _ ha hm
      obtain ⟨z, hne, xs, rel, o, es, ep, ho, hx, hdat, hes, nd⟩ := I.hok a _ hw
      rw [Vals.ref1 r]
      have hlen : es.size = kvs.length := by
        have e1 : es.toList.length = xs.length := by rw [hes, List.length_map]
        rw [Array.length_toList] at e1
        rw [e1, ← Paired.length rel, ← Paired.length t]
      refine sorted_src (PySem.KdlSrc.rawDict (es := es) (ep := ep) hne) (I.ok.hd hc) ⟨o, ho, hx, hdat⟩ (by rw [hlen]; exact hl) fun h' tk acc hk hacc => ?_
      have hits : acc.toList = xs.map fun x => Value.ref x.2.1 := by
        rw [items_map hacc, hes, List.map_map]
        rfl
      have I1 : L2.Inv X pins σ H { s with heap := h', toks := tk } := I.kept (t' := tk) hk
      obtain ⟨e2, e3⟩ := each_of (K := X.K) I1 (plain_ktups kvs) (dit_keys S t rel) (refs_vals xs)
      have hun := hr.un
      have hm2 : (ktups kvs).map id = ktups kvs := List.map_id _
      have hold : ∀ b o, h'.get? b = some o → (h'.push (seqObj "list" acc.toList.toArray 0)).get? b = some o := fun b o e => Heap.get?_push_of_some _ e
      rw [hits]
      refine PySem.W.list_sort_data (enc := id) (n := 0) (vs := xs.map fun x => Value.ref x.2.1) (bs := ktups kvs) (Heap.get?_push_size _ rfl) e2 ?_ (by rw [hm2]; exact c1) (by rw [hm2]; exact c2) (by unfold ktups; rw [List.length_map]; exact hl) (fun b hb => ?_) fun out h1 h2 => ?_
      · refine e3.mono fun u b ⟨as, rd⟩ => ⟨as, PyProof.Rows.Reads.keeps (fun b o e => Heap.get?_push_of_some _ e) rd, fun hin => ?_⟩
        obtain ⟨o', ho'⟩ := PyProof.On.reads_mem_get rd _ hin
        exact Nat.lt_irrefl _ (Heap.lt_size ho')
      · have := c3 b hb
        show X.A.units + 1 + 1 + b.depth < cLine
        omega
      · obtain ⟨vs', r', t'⟩ := each_back h2
        obtain ⟨ep', he'⟩ := PyProof.Rows.sortedHeap_at (h := h'.push (seqObj "list" (xs.map fun x => Value.ref x.2.1).toArray 0)) (a := h'.objs.size) (vs := xs.map fun x => Value.ref x.2.1) (n := 0) (out := List.toArray out) (Heap.get?_push_size _ rfl)
        have hf : H h'.objs.size = none := I1.hok.fresh (Nat.le_refl _)
        have q' := p.newR S q t' _ hf
        have hlen2 : vs'.length ≤ sizeLine := by
          rw [← t'.length, List.length_mergeSort]
          unfold ktups
          rw [List.length_map]
          exact hl
        refine ⟨.ref _, _, I1.laid (t' := tk) (o := .lst vs') (fun b o e => ?_) (Nat.le_refl _) ⟨hlen2, out, ep', r', he'⟩, rfl, q'⟩
        have hb : b < h'.objs.size := Heap.lt_size e
        rw [PyProof.Rows.sortedHeap_old (Nat.ne_of_lt hb) (by rw [size_push']; exact Nat.lt_succ_of_lt hb)]
        exact Heap.get?_push_of_some _ e
    · exact call_sortedG hr pins s σ H xs us Q I r ⟨A, M, _, Ψ, S, hd, hh, p⟩
  · exact call_sortedG hr pins s σ H xs us Q I r ⟨A, M, _, Ψ, S, hd, hh, p⟩
end
end AM
end

section
set_option Elab.async false
set_option linter.all false
set_option maxRecDepth 100000
set_option maxHeartbeats 4000000
namespace AM
open PySem PySem.Spec PyProof.Rows L2
/-! ### a, b = x, y stored from the left -/
def aAsgL (n : Nat) (aa : AA) (ags : AGs) : AS := fun K G M => aa G M fun ds M1 => ds.length = n ∧ n ≤ sizeLine ∧ (match ags ds G with
  | some G' => K.nx G' M1
  | none => False)
theorem ls_asgL {K : PySem.W.Frag} {n : Nat} {t : TA} {aa : AA} {g : TGs} {ags : AGs} {ts : List Nat} (ha : LA t aa) (hg : LGs g ags ts) : LS (tAsg (tTup t) (gAny K n g)) (aAsgL n aa ags) := fun A G M σ H Ke De R E h =>
  ha A G M σ H _ _ R h fun vs ds A1 M1 H1 h1 g1 s1 q1 => by
    obtain ⟨hl, hz, h1⟩ := h1
    have hlv : vs.length = n := by rw [← Paired.length q1]; exact hl
    refine ⟨by rw [hlv]; exact hz, fun q hq => ?_⟩
    obtain ⟨g2, s2⟩ := s1.new (o := .tup vs) hq
    have R2 := R.grow (g1.trans g2) s2
    refine .inl ⟨q, vs, rfl, SqT.of upd_same, hlv, ?_⟩
    revert h1
    split
    · rename_i G' e
      intro h1
      exact hg A1 G M1 σ _ ds vs _ R2 (DenDs.grow g2 q1) G' e fun σ' R' _ => E.nx A1 G' M1 σ' _ (g1.trans g2) R' h1
    · intro h; exact h.elim
section
variable {X : Cx} {tg es : List Expr} {t : TA} {aa : AA} {g : TGs} {ags : AGs} {ts : List Nat} {k k2 n : Nat} {pos p1 p2 : Pos}
theorem d_asgL (hc : X.calm = true) (ha : DA X es t aa) (hg : DGs X tg g ags ts) (hn : (assignEach tg X.env).length = n := by rfl) (hst : (assignEach tg X.env).findIdx? (·.1) = none := by rfl)
    (hs : swapsWithSole [.Tuple tg k p1] (.Tuple es k2 p2) pos.line X.env = pure false := by rfl) (hw : swappedStores [.Tuple tg k p1] (.Tuple es k2 p2) X.env = pure none := by rfl)
    (h1 : (assignEach [.Tuple tg k p1] X.env).map (·.2) = [assign (.Tuple tg k p1) X.env] := by rfl) : DS X (.Assign [.Tuple tg k p1] (.Tuple es k2 p2) pos) (tAsg (tTup t) (gAny X.K n g)) (aAsgL n aa ags) :=
  ⟨ps_asg (pe_tup ha.pa) (pg_any hc hg.pg hn hst) hs hw h1, ls_asgL ha.la hg.lg⟩
end
end AM
end

section
set_option Elab.async false
set_option linter.all false
set_option maxRecDepth 100000
set_option maxHeartbeats 4000000
namespace AM
open PySem
/-! ### plain laws -/
theorem ty_int : ("int" ∈ tyNames) = True := by simp [tyNames]
theorem ty_bool : ("bool" ∈ tyNames) = True := by simp [tyNames]
theorem ty_str : ("str" ∈ tyNames) = True := by simp [tyNames]
theorem ty_list : ("list" ∈ tyNames) = True := by simp [tyNames]
theorem ty_tuple : ("tuple" ∈ tyNames) = True := by simp [tyNames]
theorem ty_dict : ("dict" ∈ tyNames) = True := by simp [tyNames]
/-- a comprehension that leaves the store alone -/
theorem turns_pure {ag : AG} {at_ : AT} {ae : AE} {chk : Sto → Prop} {Gw : Gm} {Ψ : List PyData → Sto → Prop} (E : D → Gm) (t : D → Bool) (f : D → PyData) : ∀ (items : List D) (ps : List PyData) (M : Sto),
    (∀ o, chk (M ++ [some (.raw o)])) → (∀ d ∈ items, ag d Gw = some (E d)) →
    (∀ d ∈ items, ∀ (N : Sto) (Φ : Bool → Sto → Prop), (∃ o, N = M ++ [some (.raw o)]) → Φ (t d) N → at_ (E d) N Φ) →
    (∀ d ∈ items, t d = true → ∀ (N : Sto) (Φ : K1), (∃ o, N = M ++ [some (.raw o)]) → Φ (.dat (f d)) N → ae (E d) N Φ) →
    ps.length + items.length ≤ 16777216 → Ψ (ps ++ (items.filter t).map f) M → aTurns ag at_ ae chk Gw Ψ items ps M
  | [], ps, M, hc, _, _, _, _, h => ⟨hc, by simpa using h⟩
  | d :: ds, ps, M, hc, hg, ht, he, hl, h => by
    refine ⟨hc, ?_⟩
    rw [hg d List.mem_cons_self]
    intro o
    refine ht d List.mem_cons_self _ _ ⟨o, rfl⟩ ⟨M, rfl, .refl, ?_⟩
    have hl' : ps.length + ds.length + 1 ≤ 16777216 := by simpa [Nat.add_assoc] using hl
    by_cases q : t d = true
    · rw [if_pos q]
      refine he d List.mem_cons_self q _ _ ⟨o, rfl⟩ ⟨_, M, rfl, rfl, .refl, by omega, ?_⟩
      refine turns_pure E t f ds _ M hc (fun x hx => hg x (List.mem_cons_of_mem _ hx)) (fun x hx => ht x (List.mem_cons_of_mem _ hx)) (fun x hx => he x (List.mem_cons_of_mem _ hx)) (by simp; omega) ?_
      rw [List.filter_cons_of_pos q] at h
      simpa using h
    · rw [if_neg q]
      refine turns_pure E t f ds _ M hc (fun x hx => hg x (List.mem_cons_of_mem _ hx)) (fun x hx => ht x (List.mem_cons_of_mem _ hx)) (fun x hx => he x (List.mem_cons_of_mem _ hx)) (by omega) ?_
      rw [List.filter_cons_of_neg q] at h
      exact h
/-- .. over data -/
theorem turns_dat {ag : AG} {at_ : AT} {ae : AE} {chk : Sto → Prop} {Gw : Gm} {Ψ : List PyData → Sto → Prop} {α : Type} (enc : α → PyData) (E : α → Gm) (t : α → Bool) (f : α → PyData) (xs : List α) (M : Sto)
    (hc : ∀ o, chk (M ++ [some (.raw o)])) (hg : ∀ x ∈ xs, ag (.dat (enc x)) Gw = some (E x))
    (ht : ∀ x ∈ xs, ∀ (N : Sto) (Φ : Bool → Sto → Prop), (∃ o, N = M ++ [some (.raw o)]) → Φ (t x) N → at_ (E x) N Φ)
    (he : ∀ x ∈ xs, t x = true → ∀ (N : Sto) (Φ : K1), (∃ o, N = M ++ [some (.raw o)]) → Φ (.dat (f x)) N → ae (E x) N Φ)
    (hl : xs.length ≤ 16777216) (h : Ψ ((xs.filter t).map f) M) : aTurns ag at_ ae chk Gw Ψ ((xs.map enc).map D.dat) [] M := by
  have go : ∀ (ys : List α) (ps : List PyData), (∀ x ∈ ys, x ∈ xs) → ps.length + ys.length ≤ 16777216 → Ψ (ps ++ (ys.filter t).map f) M → aTurns ag at_ ae chk Gw Ψ (ys.map fun x => D.dat (enc x)) ps M := by
    intro ys
    induction ys with
    | nil => intro ps _ _ h; exact ⟨hc, by simpa using h⟩
    | cons y ys ih =>
      intro ps hm hl h
      have hy := hm y List.mem_cons_self
      have hl' : ps.length + ys.length + 1 ≤ 16777216 := by simpa [Nat.add_assoc] using hl
      refine ⟨hc, ?_⟩
      rw [hg y hy]
      intro o
      refine ht y hy _ _ ⟨o, rfl⟩ ⟨M, rfl, .refl, ?_⟩
      by_cases q : t y = true
      · rw [if_pos q]
        refine he y hy q _ _ ⟨o, rfl⟩ ⟨_, M, rfl, rfl, .refl, by omega, ih _ (fun x hx => hm x (List.mem_cons_of_mem _ hx)) (by simp; omega) ?_⟩
        rw [List.filter_cons_of_pos q] at h
        simpa using h
      · rw [if_neg q]
        refine ih _ (fun x hx => hm x (List.mem_cons_of_mem _ hx)) (by omega) ?_
        rw [List.filter_cons_of_neg q] at h
        exact h
  rw [List.map_map]
  exact go xs [] (fun _ h => h) (by simpa using hl) (by simpa using h)
/-- .. with no test -/
theorem turns_map {ag : AG} {ae : AE} {chk : Sto → Prop} {Gw : Gm} {Ψ : List PyData → Sto → Prop} {α : Type} (enc : α → PyData) (E : α → Gm) (f : α → PyData) (xs : List α) (M : Sto)
    (hc : ∀ o, chk (M ++ [some (.raw o)])) (hg : ∀ x ∈ xs, ag (.dat (enc x)) Gw = some (E x))
    (he : ∀ x ∈ xs, ∀ (N : Sto) (Φ : K1), (∃ o, N = M ++ [some (.raw o)]) → Φ (.dat (f x)) N → ae (E x) N Φ)
    (hl : xs.length ≤ 16777216) (h : Ψ (xs.map f) M) : aTurns ag aYes ae chk Gw Ψ ((xs.map enc).map D.dat) [] M := by
  refine turns_dat enc E (fun _ => true) f xs M hc hg (fun _ _ _ _ _ h => h) (fun x hx _ => he x hx) hl ?_
  have e : xs.filter (fun _ => true) = xs := List.filter_eq_self.mpr fun _ _ => rfl
  rw [e]
  exact h
/-- .. over data as they are -/
theorem turns_mapD {ag : AG} {ae : AE} {chk : Sto → Prop} {Gw : Gm} {Ψ : List PyData → Sto → Prop} (E : PyData → Gm) (f : PyData → PyData) (xs : List PyData) (M : Sto)
    (hc : ∀ o, chk (M ++ [some (.raw o)])) (hg : ∀ x ∈ xs, ag (.dat x) Gw = some (E x))
    (he : ∀ x ∈ xs, ∀ (N : Sto) (Φ : K1), (∃ o, N = M ++ [some (.raw o)]) → Φ (.dat (f x)) N → ae (E x) N Φ)
    (hl : xs.length ≤ 16777216) (h : Ψ (xs.map f) M) : aTurns ag aYes ae chk Gw Ψ (xs.map D.dat) [] M := by
  have := turns_map id E f xs M hc hg he hl h
  rwa [List.map_id] at this
theorem turns_datD {ag : AG} {at_ : AT} {ae : AE} {chk : Sto → Prop} {Gw : Gm} {Ψ : List PyData → Sto → Prop} (E : PyData → Gm) (t : PyData → Bool) (f : PyData → PyData) (xs : List PyData) (M : Sto)
    (hc : ∀ o, chk (M ++ [some (.raw o)])) (hg : ∀ x ∈ xs, ag (.dat x) Gw = some (E x))
    (ht : ∀ x ∈ xs, ∀ (N : Sto) (Φ : Bool → Sto → Prop), (∃ o, N = M ++ [some (.raw o)]) → Φ (t x) N → at_ (E x) N Φ)
    (he : ∀ x ∈ xs, t x = true → ∀ (N : Sto) (Φ : K1), (∃ o, N = M ++ [some (.raw o)]) → Φ (.dat (f x)) N → ae (E x) N Φ)
    (hl : xs.length ≤ 16777216) (h : Ψ ((xs.filter t).map f) M) : aTurns ag at_ ae chk Gw Ψ (xs.map D.dat) [] M := by
  have := turns_dat id E t f xs M hc hg ht he hl h
  rwa [List.map_id] at this
end AM
end

section
set_option Elab.async false
set_option linter.all false
set_option maxRecDepth 100000
set_option maxHeartbeats 4000000
namespace AM
open PySem
/-! ### steps of a reading, one rule a node: the goal shrinks from the left -/
section
variable {K : AEnds} {G G' : Gm} {M : Sto} {Ψ : K1} {N : List Str} {ds : List D} {d e : D} {ae aa ab ac : AE} {x y : AT} {t u b : AS} {at' : AA} {i j : Nat} {ag : AG} {n : Bool} {p q : PyData}
theorem x_body (h : b { nx := fun _ M' => Ψ (.dat .none) M', rt := Ψ } (startG N ds) M) : aBody N b ds M Ψ := h
theorem x_next (h : K.nx G M) : aNext K G M := h
theorem x_seq (h : t { nx := u K, rt := K.rt, bk := K.bk, ct := K.ct } G M) : aSeq t u K G M := h
theorem x_expr (h : ae G M fun _ M1 => K.nx G M1) : aExpr ae K G M := h
theorem x_ret (h : ae G M K.rt) : aRet ae K G M := h
theorem x_retN (h : K.rt (.dat .none) M) : aRetN K G M := h
theorem x_ifS {c : AT} (h : c G M fun b M1 => if b = true then t K G M1 else u K G M1) : aIfS c t u K G M := h
theorem x_break (h : K.bk G M) : aBreak K G M := h
theorem x_cont (h : K.ct G M) : aCont K G M := h
theorem x_asgN (h : ae G M fun d M1 => K.nx (G.set i (some d)) M1) : aAsg ae (aName i) K G M := h
def kAsg (ag : AG) (K : AEnds) (G : Gm) : K1 := fun d M1 => match ag d G with
  | some G' => K.nx G' M1
  | none => False
theorem x_asgT {n : Nat} {ags : AGs} (h : ae G M (kAsg (aGTup n ags) K G)) : aAsg ae (aGTup n ags) K G M := h
theorem x_kAsg (h1 : ag d G = some G') (h : K.nx G' M) : kAsg ag K G d M := by
  unfold kAsg
  rw [h1]
  exact h
theorem x_par {ix : List Nat} (h : at' G M fun ds M1 => ds.length = ix.length ∧ K.nx ((ix.zip ds).foldl (fun G p => G.set p.1 (some p.2)) G) M1) : aPar ix at' K G M := h
theorem x_for {ai : AI} (h : ai G M fun items chk M1 => aLoop ag b chk K items G M1) : aFor ai ag b K G M := h
theorem x_while {c : AT} (n : Nat) (h : aWh c b K n G M) : aWhile c b K G M := ⟨n, h⟩
/-! expressions -/
theorem x_var (h1 : G[i]? = some (some d)) (h : Ψ d M) : aVar i G M Ψ := by
  unfold aVar
  rw [h1]
  exact h
theorem x_c (h : Ψ d M) : aC d G M Ψ := h
theorem x_op {r : A2} (h : aa G M fun d M1 => ab G M1 fun e M2 => r d e M2 Ψ) : aOp r aa ab G M Ψ := h
theorem x_un {r : A1} (h : aa G M fun d M1 => r d M1 Ψ) : aUn r aa G M Ψ := h
def kTst (Ψ : Bool → Sto → Prop) : K1 := fun d M1 => match d with
  | .dat (.bool b) => Ψ b M1
  | _ => False
theorem x_tst {Ψ : Bool → Sto → Prop} (h : ae G M (kTst Ψ)) : aTst ae G M Ψ := h
theorem x_kTst {Ψ : Bool → Sto → Prop} {b : Bool} (h : Ψ b M) : kTst Ψ (.dat (.bool b)) M := h
theorem x_kTst2 {Ψ : Bool → Sto → Prop} {b : Bool} (h1 : d = .dat (.bool b)) (h : Ψ b M) : kTst Ψ d M := by
  subst h1
  exact h
theorem x_and {Ψ : Bool → Sto → Prop} (h : x G M fun b M1 => if b = true then y G M1 Ψ else Ψ false M1) : aAnd x y G M Ψ := h
theorem x_or {Ψ : Bool → Sto → Prop} (h : x G M fun b M1 => if b = true then Ψ true M1 else y G M1 Ψ) : aOr x y G M Ψ := h
theorem x_not {Ψ : Bool → Sto → Prop} (h : x G M fun b M1 => Ψ (!b) M1) : aNot x G M Ψ := h
def kAndV (y : AE) (G : Gm) (Ψ : K1) : K1 := fun d M1 => match d with
  | .dat (.bool b) => if b = true then y G M1 Ψ else Ψ (.dat (.bool false)) M1
  | _ => False
def kOrV (y : AE) (G : Gm) (Ψ : K1) : K1 := fun d M1 => match d with
  | .dat (.bool b) => if b = true then Ψ (.dat (.bool true)) M1 else y G M1 Ψ
  | _ => False
def kNotV (Ψ : K1) : K1 := fun d M1 => match d with
  | .dat (.bool b) => Ψ (.dat (.bool (!b))) M1
  | _ => False
theorem x_andV (h : aa G M (kAndV ab G Ψ)) : aAndV aa ab G M Ψ := h
theorem x_orV (h : aa G M (kOrV ab G Ψ)) : aOrV aa ab G M Ψ := h
theorem x_notV (h : aa G M (kNotV Ψ)) : aNotV aa G M Ψ := h
theorem x_kAndV {b : Bool} (h : if b = true then ab G M Ψ else Ψ (.dat (.bool false)) M) : kAndV ab G Ψ (.dat (.bool b)) M := h
theorem x_kOrV {b : Bool} (h : if b = true then Ψ (.dat (.bool true)) M else ab G M Ψ) : kOrV ab G Ψ (.dat (.bool b)) M := h
theorem x_kNotV {b : Bool} (h : Ψ (.dat (.bool (!b))) M) : kNotV Ψ (.dat (.bool b)) M := h
theorem x_if (h : x G M fun b M1 => if b = true then aa G M1 Ψ else ab G M1 Ψ) : aIf x aa ab G M Ψ := h
theorem x_yes {Ψ : Bool → Sto → Prop} (h : Ψ true M) : aYes G M Ψ := h
def kCh (r' : A2) (ac : AE) (G : Gm) (Ψ : K1) (e : D) : K1 := fun z M3 => match z with
  | .dat (.bool true) => ac G M3 fun f M4 => r' e f M4 Ψ
  | .dat (.bool false) => Ψ (.dat (.bool false)) M3
  | _ => False
theorem x_chain {r r' : A2} (h : aa G M fun d M1 => ab G M1 fun e M2 => r d e M2 (kCh r' ac G Ψ e)) : aChain r r' aa ab ac G M Ψ := h
theorem x_kCh {r' : A2} {b : Bool} (h : if b = true then ac G M fun f M4 => r' e f M4 Ψ else Ψ (.dat (.bool false)) M) : kCh r' ac G Ψ e (.dat (.bool b)) M := by
  cases b with
  | true => exact h
  | false => exact h
theorem x_nil {Ψ : List D → Sto → Prop} (h : Ψ [] M) : aNil G M Ψ := h
theorem x_cons {Ψ : List D → Sto → Prop} (h : ae G M fun d M1 => at' G M1 fun ds M2 => Ψ (d :: ds) M2) : aCons ae at' G M Ψ := h
def kStar (at' : AA) (G : Gm) (Ψ : List D → Sto → Prop) : K1 := fun d M1 => match sq d M1 with
  | some ds => at' G M1 fun es M2 => Ψ (ds.map D.dat ++ es) M2
  | none => False
theorem x_star {Ψ : List D → Sto → Prop} (h : ae G M (kStar at' G Ψ)) : aStar ae at' G M Ψ := h
theorem x_kStar {Ψ : List D → Sto → Prop} {ps : List PyData} (h1 : sq d M = some ps) (h : at' G M fun es M2 => Ψ (ps.map D.dat ++ es) M2) : kStar at' G Ψ d M := by
  unfold kStar
  rw [h1]
  exact h
theorem x_cb {r : AL} (h : at' G M fun ds M1 => r ds M1 Ψ) : aCB r at' G M Ψ := h
def kTup (Ψ : K1) : List D → Sto → Prop := fun ds M1 => match dats ds with
  | some ps => ps.length ≤ sizeLine ∧ Ψ (.dat (.tuple ps)) M1
  | none => False
def kLst (n : Bool) (Ψ : K1) : List D → Sto → Prop := fun ds M1 => match dats ds with
  | some ps => ps.length ≤ sizeLine ∧ Res n ps M1 Ψ
  | none => False
theorem x_tup (h : at' G M (kTup Ψ)) : aTup at' G M Ψ := h
theorem x_lst (h : at' G M (kLst n Ψ)) : aLst n at' G M Ψ := h
theorem x_kTup {ps : List PyData} (h1 : dats ds = some ps) (h : Ψ (.dat (.tuple ps)) M) (c : ps.length ≤ sizeLine) : kTup Ψ ds M := by
  unfold kTup
  rw [h1]
  exact ⟨c, h⟩
theorem x_kLstF {ps : List PyData} (h1 : dats ds = some ps) (h : Ψ (.dat (.list ps)) M) (c : ps.length ≤ sizeLine) : kLst false Ψ ds M := by
  unfold kLst
  rw [h1]
  exact ⟨c, h⟩
theorem x_kLstT {ps : List PyData} (h1 : dats ds = some ps) (h : Ψ (.own M.length) (M ++ [some (.lst ps)])) (c : ps.length ≤ sizeLine) : kLst true Ψ ds M := by
  unfold kLst
  rw [h1]
  exact ⟨c, h⟩
theorem dats_map (ps : List PyData) : dats (ps.map D.dat) = some ps := by
  induction ps with
  | nil => rfl
  | cons p ps ih => simp only [List.map_cons, dats, ih]
theorem dats_append {ds es : List D} {ps qs : List PyData} : dats ds = some ps → dats es = some qs → dats (ds ++ es) = some (ps ++ qs) := by
  induction ds generalizing ps with
  | nil => intro h1 h2; cases h1; exact h2
  | cons d ds ih =>
    intro h1 h2
    cases d with
    | dat p =>
      simp only [dats] at h1
      split at h1
      · rename_i ps' e1
        cases h1
        simp only [List.cons_append, dats, ih e1 h2]
      · cases h1
    | own j => cases h1
    | raw u => cases h1
    | scr _ _ => cases h1
/-! iterators -/
theorem x_lc {ai : AI} {vs : List Nat} (h : ai G M fun items chk M1 => aTurns ag x ae chk (wipeG G vs) (fun ps M2 => Ψ (.dat (.list ps)) M2) items [] M1) : aLc ai ag x ae vs G M Ψ := h
def kIter (Φ : List D → (Sto → Prop) → Sto → Prop) : K1 := fun d M1 => match d with
  | .dat (.list ds) => Φ (ds.map D.dat) (fun _ => True) M1
  | .dat (.tuple ds) => Φ (ds.map D.dat) (fun _ => True) M1
  | .own j => (match M1[j]? with
    | some (some (.lst ds)) => Φ (ds.map D.dat) (fun M => M[j]? = some (some (.lst ds))) M1
    | _ => False)
  | _ => False
variable {Φ : List D → (Sto → Prop) → Sto → Prop}
theorem x_iter (h : ae G M (kIter Φ)) : aIter ae G M Φ := h
theorem x_kIterT {ps : List PyData} (h1 : d = .dat (.tuple ps)) (h : Φ (ps.map D.dat) (fun _ => True) M) : kIter Φ d M := by
  subst h1
  exact h
theorem x_kIterL {ps : List PyData} (h1 : d = .dat (.list ps)) (h : Φ (ps.map D.dat) (fun _ => True) M) : kIter Φ d M := by
  subst h1
  exact h
theorem x_kIterO {ps : List PyData} (h1 : M[j]? = some (some (.lst ps))) (h : Φ (ps.map D.dat) (fun M => M[j]? = some (some (.lst ps))) M) : kIter Φ (.own j) M := by
  unfold kIter
  dsimp only
  rw [h1]
  exact h
def kRng1 (Φ : List D → (Sto → Prop) → Sto → Prop) : List D → Sto → Prop := fun ds M1 => match ds with
  | [.dat (.int j)] => -(2 ^ 62) ≤ j ∧ j < 2 ^ 62 ∧ Φ (rng 0 j.toNat) (fun _ => True) M1
  | _ => False
def kRng2 (Φ : List D → (Sto → Prop) → Sto → Prop) : List D → Sto → Prop := fun ds M1 => match ds with
  | [.dat (.int i), .dat (.int j)] => (-(2 ^ 62) ≤ i ∧ i < 2 ^ 62 ∧ -(2 ^ 62) ≤ j ∧ j < 2 ^ 62) ∧ Φ (rng i (j - i).toNat) (fun _ => True) M1
  | _ => False
theorem x_rg1 (h : at' G M (kRng1 Φ)) : aRng1 at' G M Φ := h
theorem x_rg2 (h : at' G M (kRng2 Φ)) : aRng2 at' G M Φ := h
theorem x_kRng1 {m : Int} (h : Φ (rng 0 m.toNat) (fun _ => True) M) (c : -(2 ^ 62) ≤ m ∧ m < 2 ^ 62) : kRng1 Φ [.dat (.int m)] M := ⟨c.1, c.2, h⟩
theorem x_kRng2 {l m : Int} (h : Φ (rng l (m - l).toNat) (fun _ => True) M) (c : -(2 ^ 62) ≤ l ∧ l < 2 ^ 62 ∧ -(2 ^ 62) ≤ m ∧ m < 2 ^ 62) : kRng2 Φ [.dat (.int l), .dat (.int m)] M := ⟨c, h⟩
def kZip (Φ : List D → (Sto → Prop) → Sto → Prop) : List D → Sto → Prop := fun ds M1 => match ds with
  | [d, e] => (match cv d M1, cv e M1 with
    | .lst xs, .lst ys => Φ (zipD xs ys) (fun M => kpL d xs M ∧ kpL e ys M) M1
    | .tup xs, .tup ys => Φ (zipD xs ys) (fun _ => True) M1
    | _, _ => False)
  | _ => False
theorem x_zip (h : at' G M (kZip Φ)) : aZip at' G M Φ := h
theorem x_kZipT {xs ys : List PyData} (h1 : cv d M = .tup xs) (h2 : cv e M = .tup ys) (h : Φ (zipD xs ys) (fun _ => True) M) : kZip Φ [d, e] M := by
  unfold kZip
  dsimp only
  rw [h1, h2]
  exact h
theorem x_kZipL {xs ys : List PyData} (h1 : cv d M = .lst xs) (h2 : cv e M = .lst ys) (h : Φ (zipD xs ys) (fun M => kpL d xs M ∧ kpL e ys M) M) : kZip Φ [d, e] M := by
  unfold kZip
  dsimp only
  rw [h1, h2]
  exact h
/-! operators -/
variable {k l : Int}
theorem x_int {C : Int → Int → Prop} {g : Int → Int → PyData} (h1 : pv d M = some (.int k)) (h2 : pv e M = some (.int l)) (h : Ψ (.dat (g k l)) M) (c : C k l) : aInt C g d e M Ψ := by
  unfold aInt
  rw [h1, h2]
  exact ⟨c, h⟩
theorem x_intT {g : Int → Int → PyData} (h1 : pv d M = some (.int k)) (h2 : pv e M = some (.int l)) (h : Ψ (.dat (g k l)) M) : aInt (fun _ _ => True) g d e M Ψ := x_int h1 h2 h trivial
theorem x_addI (h1 : pv d M = some (.int k)) (h2 : pv e M = some (.int l)) (h : Ψ (.dat (.int (k + l))) M) : aAdd n d e M Ψ := by
  unfold aAdd
  rw [h1, h2]
  exact h
theorem x_addT {ps qs : List PyData} (h1 : pv d M = some (.tuple ps)) (h2 : pv e M = some (.tuple qs)) (h : Ψ (.dat (.tuple (ps ++ qs))) M) (c : ps.length + qs.length ≤ sizeLine) : aAdd n d e M Ψ := by
  unfold aAdd
  rw [h1, h2]
  exact ⟨c, h⟩
theorem x_addL {ps qs : List PyData} (h1 : pv d M = some (.list ps)) (h2 : pv e M = some (.list qs)) (h : Ψ (.dat (.list (ps ++ qs))) M) (c : ps.length + qs.length ≤ sizeLine) : aAdd false d e M Ψ := by
  unfold aAdd
  rw [h1, h2]
  exact ⟨c, h⟩
theorem x_addLn {ps qs : List PyData} (h1 : pv d M = some (.list ps)) (h2 : pv e M = some (.list qs)) (h : Ψ (.own M.length) (M ++ [some (.lst (ps ++ qs))])) (c : ps.length + qs.length ≤ sizeLine) : aAdd true d e M Ψ := by
  unfold aAdd
  rw [h1, h2]
  exact ⟨c, h⟩
theorem x_mulI (h1 : pv d M = some (.int k)) (h2 : pv e M = some (.int l)) (h : Ψ (.dat (.int (k * l))) M) (c : L2.CMul k l ∨ L2.CMulW k l) : aMul n d e M Ψ := by
  unfold aMul
  rw [h1, h2]
  exact ⟨c, h⟩
theorem x_mulT {ps : List PyData} (h1 : pv d M = some (.tuple ps)) (h2 : pv e M = some (.int k)) (h : Ψ (.dat (.tuple (List.replicate k.toNat ps).flatten)) M) (c : ps ≠ [] ∧ 2 ≤ k ∧ k ≤ 1000 ∧ ps.length ≤ 1000) : aMul n d e M Ψ := by
  unfold aMul
  rw [h1, h2]
  exact ⟨c.1, c.2.1, c.2.2.1, c.2.2.2, h⟩
theorem x_neg (h1 : pv d M = some (.int k)) (h : Ψ (.dat (.int (-k))) M) : aNeg d M Ψ := by
  unfold aNeg
  rw [h1]
  exact h
/-- two data that are compared: no dict in them, not too deep -/
def Cmp (p q : PyData) : Prop := p.plain = true ∧ q.plain = true ∧ p.depth + q.depth ≤ 90
theorem x_ne (h1 : pv d M = some p) (h2 : pv e M = some q) (h : Ψ (.dat (.bool (!p.eqv q))) M) (c : Cmp p q) : aNe d e M Ψ := by
  unfold aNe
  rw [h1, h2]
  exact ⟨c.1, c.2.1, c.2.2, h⟩
theorem x_eq (h1 : pv d M = some p) (h2 : pv e M = some q) (h : Ψ (.dat (.bool (p.eqv q))) M) (c : Cmp p q ∨ ((∃ kvs, p = .dict kvs) ∧ ∃ ts, q = .tuple ts)) : aEqX d e M Ψ := by
  unfold aEqX
  rw [h1, h2]
  rcases c with c | ⟨⟨kvs, rfl⟩, ts, rfl⟩
  · split
    · rename_i kvs ts e1 e2
      cases e1
      have := c.1
      simp [PyData.plain] at this
    · unfold aEq
      rw [h1, h2]
      exact ⟨c.1, c.2.1, c.2.2, h⟩
  · have e0 : PyData.eqv (.dict kvs) (.tuple ts) = false := by simp only [PyData.eqv]
    rw [e0] at h
    exact h
theorem x_in {ps : List PyData} (h1 : pv d M = some p) (h2 : pv e M = some (.tuple ps) ∨ pv e M = some (.list ps)) (h : Ψ (.dat (.bool (ps.any fun z => z.eqv p))) M)
    (c : (p.plain = true ∧ PyData.plainAll ps = true ∧ (p.depth ≤ 90 ∨ PyData.depthAll ps ≤ 90)) ∨ ((∃ kvs, p = .dict kvs) ∧ ps.all isStrP = true ∧ pv e M = some (.tuple ps))) : aInX d e M Ψ := by
  unfold aInX
  rcases c with c | ⟨⟨kvs, rfl⟩, c, c2⟩
  · have cve : cv e M = .tup ps ∨ cv e M = .lst ps := by
      unfold AM.pv at h2
      unfold cv
      cases e with
      | dat z =>
        rcases h2 with h2 | h2
        · cases h2; exact .inl rfl
        · cases h2; exact .inr rfl
      | own j =>
        dsimp only at h2 ⊢
        rcases h2 with h2 | h2
        · split at h2 <;> cases h2
        · split at h2
          · rename_i xs e1
            cases h2
            exact .inr (by rw [e1])
          · cases h2
      | raw u => rcases h2 with h2 | h2 <;> cases h2
      | scr _ _ => rcases h2 with h2 | h2 <;> cases h2
    rw [h1]
    have hp : ∀ kvs, p ≠ .dict kvs := fun kvs z => by
      have := c.1
      rw [z] at this
      simp [PyData.plain] at this
    have key : aIn d e M Ψ := by
      unfold aIn inG
      rw [h1]
      rcases cve with cve | cve
      · rw [cve]
        exact ⟨c.1, c.2.1, c.2.2, by simpa using h⟩
      · rw [cve]
        exact ⟨c.1, c.2.1, c.2.2, by simpa using h⟩
    split
    · rename_i kvs ds e1 e2
      cases e1
      exact absurd rfl (hp kvs)
    · exact key
  · rw [h1]
    have cve : cv e M = .tup ps := by
      unfold AM.pv at c2
      unfold cv
      cases e with
      | dat z => cases c2; rfl
      | own j => dsimp only at c2 ⊢; split at c2 <;> cases c2
      | raw u => cases c2
      | scr _ _ => cases c2
    rw [cve]
    have e0 : (ps.any fun z => z.eqv (.dict kvs)) = false := by
      rw [List.any_eq_false]
      intro z hz
      have := List.all_eq_true.mp c z hz
      cases z <;> simp [isStrP] at this
      simp [PyData.eqv]
    rw [e0] at h
    exact ⟨c, h⟩
theorem x_notIn {ps : List PyData} (h1 : pv d M = some p) (h2 : cv e M = .tup ps ∨ cv e M = .lst ps) (h : Ψ (.dat (.bool (!ps.any fun z => z.eqv p))) M) (c : p.plain = true ∧ PyData.plainAll ps = true ∧ (p.depth ≤ 90 ∨ PyData.depthAll ps ≤ 90)) : aNotIn d e M Ψ := by
  unfold aNotIn inG
  rw [h1]
  rcases h2 with h2 | h2 <;> rw [h2] <;> exact ⟨c.1, c.2.1, c.2.2, by simpa using h⟩
theorem x_isN {g : Bool} (h1 : pv d M = some p) (h2 : pv e M = some .none) (h : Ψ (.dat (.bool (g ^^ isNon p))) M) : isG g d e M Ψ := by
  unfold isG
  rw [h1, h2]
  exact h
theorem x_isB {g b c : Bool} (h1 : pv d M = some (.bool b)) (h2 : pv e M = some (.bool c)) (h : Ψ (.dat (.bool (g ^^ decide (b = c)))) M) : isG g d e M Ψ := by
  unfold isG
  rw [h1, h2]
  exact h
theorem x_ixL {ps : List PyData} (h1 : cv d M = .lst ps ∨ cv d M = .tup ps) (h2 : pv e M = some (.int k)) (h3 : L2.atI ps k = some p) (h : Ψ (.dat p) M) : aIx d e M Ψ := by
  unfold aIx
  rcases h1 with h1 | h1 <;> rw [h1, h2] <;> (dsimp only; rw [h3]; exact h)
theorem x_ixD {kvs : List (L2.Key × D)} {kk : L2.Key} {r : D} (h1 : cv d M = .dk kvs) (h2 : pv e M = some p) (h3 : toKey p = some kk) (h4 : look kvs kk = some r) (h : Ψ r M) : aIx d e M Ψ := by
  unfold aIx
  rw [h1, h2]
  simp only [h3, Option.bind_some, h4]
  exact h
/-! slices -/
def kSl (n : Bool) (al ah : AO) (G : Gm) (Ψ : K1) : K1 := fun d M1 => al G M1 fun lo M2 => ah G M2 fun hi M3 => match pv d M3 with
  | some (.list ds) => Res n (cutP ds lo hi) M3 Ψ
  | some (.tuple ds) => Ψ (.dat (.tuple (cutP ds lo hi))) M3
  | _ => False
def kSl2 (n : Bool) (d : D) (lo hi : Option Int) (Ψ : K1) (M3 : Sto) : Prop := match pv d M3 with
  | some (.list ds) => Res n (cutP ds lo hi) M3 Ψ
  | some (.tuple ds) => Ψ (.dat (.tuple (cutP ds lo hi))) M3
  | _ => False
def kPart (Ψ : Option Int → Sto → Prop) : K1 := fun d M1 => match pv d M1 with
  | some (.int i) => Ψ (some i) M1
  | _ => False
theorem x_sl {al ah : AO} (h : ae G M (kSl n al ah G Ψ)) : aSl n ae al ah G M Ψ := h
theorem x_kSl {al ah : AO} (h : al G M fun lo M2 => ah G M2 fun hi M3 => kSl2 n d lo hi Ψ M3) : kSl n al ah G Ψ d M := h
theorem x_noPart {Ψ : Option Int → Sto → Prop} (h : Ψ none M) : aNoPart G M Ψ := h
theorem x_part {Ψ : Option Int → Sto → Prop} (h : ae G M (kPart Ψ)) : aPart ae G M Ψ := h
theorem x_kPart {Ψ : Option Int → Sto → Prop} (h1 : pv d M = some (.int k)) (h : Ψ (some k) M) : kPart Ψ d M := by
  unfold kPart
  rw [h1]
  exact h
theorem x_slT {ps : List PyData} {lo hi : Option Int} (h1 : pv d M = some (.tuple ps)) (h : Ψ (.dat (.tuple (cutP ps lo hi))) M) : kSl2 n d lo hi Ψ M := by
  unfold kSl2
  rw [h1]
  exact h
theorem x_slL {ps : List PyData} {lo hi : Option Int} (h1 : pv d M = some (.list ps)) (h : Ψ (.dat (.list (cutP ps lo hi))) M) : kSl2 false d lo hi Ψ M := by
  unfold kSl2
  rw [h1]
  exact h
def kRev (n : Bool) (Ψ : K1) : K1 := fun d M1 => match pv d M1 with
  | some (.list ds) => Res n ds.reverse M1 Ψ
  | some (.tuple ds) => Ψ (.dat (.tuple ds.reverse)) M1
  | _ => False
theorem x_rev (h : ae G M (kRev n Ψ)) : aRev n ae G M Ψ := h
theorem x_revT {ps : List PyData} (h1 : pv d M = some (.tuple ps)) (h : Ψ (.dat (.tuple ps.reverse)) M) : kRev n Ψ d M := by
  unfold kRev
  rw [h1]
  exact h
theorem x_revL {ps : List PyData} (h1 : pv d M = some (.list ps)) (h : Ψ (.dat (.list ps.reverse)) M) : kRev false Ψ d M := by
  unfold kRev
  rw [h1]
  exact h
theorem x_revLn {ps : List PyData} (h1 : pv d M = some (.list ps)) (h : Ψ (.own M.length) (M ++ [some (.lst ps.reverse)])) : kRev true Ψ d M := by
  unfold kRev
  rw [h1]
  exact h
/-! built-ins -/
theorem x_lenS {ps : List PyData} (h1 : cv d M = .lst ps ∨ cv d M = .tup ps) (h : Ψ (.dat (.int (ps.length : Int))) M) : aLen [d] M Ψ := by
  unfold aLen
  rcases h1 with h1 | h1 <;> (dsimp only; rw [h1]; exact h)
theorem x_isi {T : String} (h1 : pv d M = some p) (h : Ψ (.dat (.bool (isTy p T))) M) (c : T ∈ tyNames) : aIsi [d, .raw (.ty T)] M Ψ := by
  unfold aIsi
  dsimp only
  rw [h1]
  exact ⟨c, h⟩
theorem x_all {bs : List Bool} (h1 : (AM.listOf d M).bind boolsOf = some bs) (h : Ψ (.dat (.bool (bs.all id))) M) : aAll [d] M Ψ := by
  unfold aAll
  dsimp only
  rw [h1]
  exact h
theorem x_sum {ns : List Int} (h1 : (AM.listOf d M).bind intsOf = some ns) (h : Ψ (.dat (.int ns.sum)) M) : aSum [d] M Ψ := by
  unfold aSum
  dsimp only
  rw [h1]
  exact h
theorem x_abs (h1 : pv d M = some (.int k)) (h : Ψ (.dat (.int k.natAbs)) M) : aAbs [d] M Ψ := by
  unfold aAbs
  dsimp only
  rw [h1]
  exact h
theorem x_int1 (h1 : pv d M = some (.int k)) (h : Ψ (.dat (.int k)) M) : aInt1 [d] M Ψ := by
  unfold aInt1
  dsimp only
  rw [h1]
  exact h
theorem x_tupleOf {ps : List PyData} (h1 : cv d M = .lst ps ∨ cv d M = .tup ps) (h : Ψ (.dat (.tuple ps)) M) : aTupleOf [d] M Ψ := by
  unfold aTupleOf
  rcases h1 with h1 | h1 <;> (dsimp only; rw [h1]; exact h)
theorem x_listOfF {ps : List PyData} (h1 : cv d M = .lst ps ∨ cv d M = .tup ps) (h : Ψ (.dat (.list ps)) M) : aListOf false [d] M Ψ := by
  unfold aListOf
  rcases h1 with h1 | h1 <;> (dsimp only; rw [h1]; exact h)
theorem x_listOfT {ps : List PyData} (h1 : cv d M = .lst ps ∨ cv d M = .tup ps) (h : Ψ (.own M.length) (M ++ [some (.lst ps)])) : aListOf true [d] M Ψ := by
  unfold aListOf
  rcases h1 with h1 | h1 <;> (dsimp only; rw [h1]; exact h)
def kLr1 (n : Bool) (Ψ : K1) : K1 := fun d M1 => match d with
  | .dat (.int j) => (-(2 ^ 62) ≤ j ∧ j ≤ 16777216) ∧ Res n (rngP 0 j.toNat) M1 Ψ
  | _ => False
theorem x_lr1 (h : ae G M (kLr1 n Ψ)) : aLr1 n ae G M Ψ := h
theorem x_kLr1 (h : Ψ (.dat (.list (rngP 0 k.toNat))) M) (c : -(2 ^ 62) ≤ k ∧ k ≤ 16777216) : kLr1 false Ψ (.dat (.int k)) M := ⟨c, h⟩
theorem x_repr (h1 : pv d M = some p) (h : Ψ (.dat (.str p.shown)) M) (c : (p.plain = true ∨ p = .dict []) ∧ p.showable = true ∧ p.depth ≤ 60 ∧ p.shown.length ≤ sizeLine) : aRepr [d] M Ψ := by
  unfold aRepr
  dsimp only
  rw [h1]
  exact ⟨c.1, c.2.1, c.2.2.1, c.2.2.2, h⟩
/-! calls -/
/-- what stands behind a call -/
def kRes (n : Nat) (M1 : Sto) (Ψ : K1) : K1 := fun d M2 => ClN n M2 ∧ (match resD n d M2 with
  | some q => Ψ (.dat q) (M2.take n ++ M1.drop n)
  | none => False)
def kCall (m n : Nat) (asp : AL) (Ψ : K1) : List D → Sto → Prop := fun ds M1 => ds.length = m ∧ (∀ d ∈ ds, d.cl n) ∧ ClN n M1 ∧ n ≤ M1.length ∧ asp ds (M1.take n) (kRes n M1 Ψ)
theorem x_call {m n : Nat} {asp : AL} (h : at' G M (kCall m n asp Ψ)) : aCall m n asp at' G M Ψ := h
def datB : D → Bool
  | .dat _ => true
  | .raw _ => true
  | _ => false
theorem x_kCall0 {m : Nat} {asp : AL} (h1 : ds.length = m) (h2 : ds.all datB = true) (h : asp ds [] (kRes 0 M Ψ)) : kCall m 0 asp Ψ ds M :=
  ⟨h1, fun d hd => by
    have := List.all_eq_true.mp h2 d hd
    cases d <;> simp [datB] at this <;> trivial, fun j m hj _ => absurd hj (Nat.not_lt_zero j), Nat.zero_le _, h⟩
theorem x_kRes0 {M2 : Sto} (h : Ψ (.dat p) M) : kRes 0 M Ψ (.dat p) M2 := ⟨fun j m hj _ => absurd hj (Nat.not_lt_zero j), h⟩
theorem x_kRes0o {M2 : Sto} {ps : List PyData} (h1 : M2[j]? = some (some (.lst ps))) (h : Ψ (.dat (.list ps)) M) : kRes 0 M Ψ (.own j) M2 := ⟨fun j m hj _ => absurd hj (Nat.not_lt_zero j), by
  have e : resD 0 (.own j) M2 = some (.list ps) := by
    unfold resD
    dsimp only
    rw [if_pos (Nat.zero_le _), h1]
  rw [e]
  exact h⟩
def kCallO (m : Nat) (asp : AL) (Ψ : K1) : List D → Sto → Prop := fun ds M1 => ds.length = m ∧ asp ds M1 Ψ
theorem x_callO {m : Nat} {asp : AL} (h : at' G M (kCallO m asp Ψ)) : aCallO m asp at' G M Ψ := h
theorem x_kCallO {m : Nat} {asp : AL} (h1 : ds.length = m) (h : asp ds M Ψ) : kCallO m asp Ψ ds M := ⟨h1, h⟩
/-! methods of lists of the store -/
theorem x_bm0 {r : D → AL} (h : aa G M fun d M1 => isLst d M1 ∧ r d [] M1 Ψ) : aBM0 r aa G M Ψ := h
theorem x_bm {r : D → AL} (h : aa G M fun d M1 => isLst d M1 ∧ at' G M1 fun ds M2 => r d ds M2 Ψ) : aBM r aa at' G M Ψ := h
theorem x_isLst {ps : List PyData} (h1 : M[j]? = some (some (.lst ps))) : isLst (.own j) M := by
  unfold isLst cv
  dsimp only
  rw [h1]
  trivial
theorem ownL_of {ps : List PyData} (h1 : M[j]? = some (some (.lst ps))) : ownL (.own j) M = some (j, ps) := by
  unfold ownL
  dsimp only
  rw [h1]
theorem x_append {ps : List PyData} (h1 : M[j]? = some (some (.lst ps))) (h : Ψ (.dat .none) (M.set j (some (.lst (ps ++ [p]))))) (c : ps.length < sizeLine) : aAppend (.own j) [.dat p] M Ψ := by
  unfold aAppend
  rw [ownL_of h1]
  exact ⟨c, h⟩
theorem x_extend {ps qs : List PyData} (h1 : M[j]? = some (some (.lst ps))) (h2 : AM.listOf e M = some qs) (h : Ψ (.dat .none) (M.set j (some (.lst (ps ++ qs))))) (c : ps.length + qs.length ≤ sizeLine) : aExtend (.own j) [e] M Ψ := by
  unfold aExtend
  rw [ownL_of h1]
  dsimp only
  rw [h2]
  exact ⟨c, h⟩
theorem x_pop0 {ps : List PyData} (h1 : M[j]? = some (some (.lst ps))) (h2 : ps[ps.length - 1]? = some p) (h : Ψ (.dat p) (M.set j (some (.lst ps.dropLast)))) : aPop (.own j) [] M Ψ := by
  unfold aPop
  rw [ownL_of h1]
  dsimp only
  rw [h2]
  exact h
theorem x_pop {ps : List PyData} (h1 : M[j]? = some (some (.lst ps))) (h2 : ps[k.toNat]? = some p) (h : Ψ (.dat p) (M.set j (some (.lst (ps.eraseIdx k.toNat))))) (c : 0 ≤ k ∧ k < 2 ^ 63) : aPop (.own j) [.dat (.int k)] M Ψ := by
  unfold aPop
  rw [ownL_of h1]
  dsimp only
  rw [h2]
  exact ⟨c.1, c.2, h⟩
/-! dicts of the store -/
def kDPut (K : AEnds) (G : Gm) (d o : D) : K1 := fun i M3 => match o with
  | .own j => (match M3[j]?, pv i M3 with
    | some (some (.dic kvs)), some p => (match toKey p with
      | some k => kvs.length < sizeLine ∧ K.nx G (M3.set j (some (.dic (put kvs k d))))
      | none => False)
    | some (some (.dit kvs)), some (.tuple ps) => (match toKeys ps with
      | some k => kvs.length < sizeLine ∧ K.nx G (M3.set j (some (.dit (put kvs k d))))
      | none => False)
    | _, _ => False)
  | _ => False
theorem x_dput (h : aa G M fun d M1 => ab G M1 fun o M2 => ac G M2 (kDPut K G d o)) : aDPut aa ab ac K G M := h
theorem x_kDPutK {kvs : List (L2.Key × D)} {kk : L2.Key} (h1 : M[j]? = some (some (.dic kvs))) (h2 : pv e M = some p) (h3 : toKey p = some kk) (h : K.nx G (M.set j (some (.dic (put kvs kk d))))) (c : kvs.length < sizeLine) : kDPut K G d (.own j) e M := by
  unfold kDPut
  dsimp only
  rw [h1, h2]
  dsimp only
  rw [h3]
  exact ⟨c, h⟩
theorem x_kDPutT {kvs : List (List L2.Key × D)} {ps : List PyData} {kk : List L2.Key} (h1 : M[j]? = some (some (.dit kvs))) (h2 : pv e M = some (.tuple ps)) (h3 : toKeys ps = some kk) (h : K.nx G (M.set j (some (.dit (put kvs kk d))))) (c : kvs.length < sizeLine) : kDPut K G d (.own j) e M := by
  unfold kDPut
  dsimp only
  rw [h1, h2]
  dsimp only
  rw [h3]
  exact ⟨c, h⟩
def kDisp (M0 : Sto) (Ψ : K1) : List (D × D) → Sto → Prop := fun ps M2 => M2[M0.length]? = some (some (.dic [])) ∧ (match keysD ps with
  | some kvs => kvs.length ≤ 15 ∧ Ψ (.own M0.length) (M2.set M0.length (some (.dic (mergeD [] kvs))))
  | none => False)
theorem x_disp {ar : List (AE × AE)} (h : aPrs ar G (M ++ [some (.dic [])]) (kDisp M Ψ)) : aDisp ar G M Ψ := h
theorem x_prs0 {Ψ : List (D × D) → Sto → Prop} (h : Ψ [] M) : aPrs [] G M Ψ := h
theorem x_prs {ar : List (AE × AE)} {Ψ : List (D × D) → Sto → Prop} (h : aa G M fun k M1 => ab G M1 fun v M2 => aPrs ar G M2 fun ps M3 => Ψ ((k, v) :: ps) M3) : aPrs ((aa, ab) :: ar) G M Ψ := h
/-! what stands behind a call that was passed the first objects -/
theorem x_kCallN {m n : Nat} {asp : AL} (h1 : ds.length = m) (h2 : ∀ d ∈ ds, d.cl n) (h3 : ClN n M) (h4 : n ≤ M.length) (h : asp ds (M.take n) (kRes n M Ψ)) : kCall m n asp Ψ ds M := ⟨h1, h2, h3, h4, h⟩
theorem x_kResN {n : Nat} {M2 : Sto} (h1 : ClN n M2) (h : Ψ (.dat p) (M2.take n ++ M.drop n)) : kRes n M Ψ (.dat p) M2 := ⟨h1, h⟩
/-! the law's ifs -/
theorem x_ifT {A B : Prop} {b : Bool} (h1 : b = true) (h : A) : if b = true then A else B := by rw [if_pos h1]; exact h
theorem x_ifF {A B : Prop} {b : Bool} (h1 : b = false) (h : B) : if b = true then A else B := by rw [if_neg (by rw [h1]; decide)]; exact h
theorem x_if2 {A B : Prop} {b : Bool} (h1 : b = true → A) (h2 : b = false → B) : if b = true then A else B := by
  cases b with
  | true => exact h1 rfl
  | false => exact h2 rfl
/-! what stands behind -/
theorem x_nx {f g h' : Gm → Sto → Prop} {r : D → Sto → Prop} (h : f G M) : AEnds.nx { nx := f, rt := r, bk := g, ct := h' } G M := h
theorem x_rt {f g h' : Gm → Sto → Prop} {r : D → Sto → Prop} (h : r d M) : AEnds.rt { nx := f, rt := r, bk := g, ct := h' } d M := h
theorem x_bk {f g h' : Gm → Sto → Prop} {r : D → Sto → Prop} (h : g G M) : AEnds.bk { nx := f, rt := r, bk := g, ct := h' } G M := h
theorem x_ct {f g h' : Gm → Sto → Prop} {r : D → Sto → Prop} (h : h' G M) : AEnds.ct { nx := f, rt := r, bk := g, ct := h' } G M := h
def kAsgL (n : Nat) (ags : AGs) (K : AEnds) (G : Gm) : List D → Sto → Prop := fun ds M1 => ds.length = n ∧ n ≤ sizeLine ∧ (match ags ds G with
  | some G' => K.nx G' M1
  | none => False)
theorem x_asgL {n : Nat} {ags : AGs} (h : at' G M (kAsgL n ags K G)) : aAsgL n at' ags K G M := h
theorem x_kAsgL {n : Nat} {ags : AGs} (h1 : ds.length = n) (h2 : ags ds G = some G') (h : K.nx G' M) (c : n ≤ sizeLine) : kAsgL n ags K G ds M := ⟨h1, c, by rw [h2]; exact h⟩
end
end AM
end

section
set_option Elab.async false
set_option linter.all false
set_option maxRecDepth 100000
set_option maxHeartbeats 4000000
namespace AM
open PySem
/-! ### how long a repr is at most -/
mutual
def wd : PyData → Nat
  | .none => 4
  | .bool _ => 5
  | .int _ => 1921
  | .str x => (PyData.str x).shown.length
  | .list xs => 2 + wdAll xs
  | .tuple xs => 3 + wdAll xs
  | .dict _ => 0
def wdAll : List PyData → Nat
  | [] => 0
  | x :: xs => (wd x + 2) + wdAll xs
end
theorem text_le : ∀ (ts : List Str) (acc : Str), (textFrom 0 acc ts).length ≤ acc.length + piled ts
  | [], acc => Nat.le_refl _
  | t :: r, acc => by
    have ih := textFrom_length_pos r 1 (acc ++ (if 0 > 0 then ", " else "" : String) ++ t) (by decide)
    show (textFrom 1 (acc ++ (if 0 > 0 then ", " else "" : String) ++ t) r).length ≤ _
    rw [ih, strLen_append, strLen_append, piled_cons]
    have : (((if 0 > 0 then ", " else "" : String) : Str)).length = 0 := rfl
    omega
theorem list_le (ts : List Str) : (listText ts).length ≤ piled ts + 2 := by
  unfold listText
  rw [strLen_append]
  have h := text_le ts "["
  have e1 : ((("[" : String) : Str)).length = 1 := rfl
  have e2 : ((("]" : String) : Str)).length = 1 := rfl
  omega
theorem tuple_le (ts : List Str) : (tupleText ts).length ≤ piled ts + 3 := by
  unfold tupleText
  rw [strLen_append, strLen_append]
  have e1 : ((("(" : String) : Str)).length = 1 := rfl
  have e3 : (((if ts.length == 1 then ",)" else ")" : String) : Str)).length ≤ 2 := by split <;> decide
  by_cases h : ts = []
  · subst h
    have e4 : (Str.join ", " []).length = 0 := rfl
    omega
  · have := join_length_add ts h
    omega
mutual
theorem shown_le : ∀ p : PyData, p.plain = true → p.showable = true → p.shown.length ≤ wd p
  | .none, _, _ => by simp only [PyData.shown, wd]; decide
  | .bool b, _, _ => by cases b <;> (simp only [PyData.shown, wd]; decide)
  | .int i, _, h => by
    have h' : i.natAbs.log2 < 1920 := by simpa [PyData.showable] using h
    simp only [PyData.shown, wd]
    exact PyProof.Rows.int_text_len_1921 h'
  | .str x, _, _ => Nat.le_refl _
  | .list xs, hp, hs => by
    have := shown_all xs (by simpa [PyData.plain] using hp) (by simpa [PyData.showable] using hs)
    have h2 := list_le (PyData.shownAll xs)
    simp only [PyData.shown, wd]
    omega
  | .tuple xs, hp, hs => by
    have := shown_all xs (by simpa [PyData.plain] using hp) (by simpa [PyData.showable] using hs)
    have h2 := tuple_le (PyData.shownAll xs)
    simp only [PyData.shown, wd]
    omega
  | .dict _, hp, _ => by simp [PyData.plain] at hp
theorem shown_all : ∀ xs : List PyData, PyData.plainAll xs = true → PyData.showableAll xs = true → piled (PyData.shownAll xs) ≤ wdAll xs
  | [], _, _ => by simp [PyData.shownAll, wdAll, piled]
  | x :: xs, hp, hs => by
    have hp' : x.plain = true ∧ PyData.plainAll xs = true := by simpa [PyData.plainAll] using hp
    have hs' : x.showable = true ∧ PyData.showableAll xs = true := by simpa [PyData.showableAll] using hs
    have h1 := shown_le x hp'.1 hs'.1
    have h2 := shown_all xs hp'.2 hs'.2
    simp only [PyData.shownAll, wdAll]
    rw [piled_cons]
    omega
end
/-- data that repr may show -/
structure Shw (n : Nat) (p : PyData) : Prop where
  pl : p.plain = true
  sh : p.showable = true
  dp : p.depth ≤ 60
  wd : wd p ≤ n
theorem Shw.repr {n : Nat} {p : PyData} (h : Shw n p) (hn : n ≤ 16000000) : (p.plain = true ∨ p = .dict []) ∧ p.showable = true ∧ p.depth ≤ 60 ∧ p.shown.length ≤ sizeLine :=
  ⟨.inl h.pl, h.sh, h.dp, Nat.le_trans (shown_le p h.pl h.sh) (Nat.le_trans h.wd (Nat.le_trans hn (by decide)))⟩
end AM
end

section
set_option Elab.async false
set_option linter.all false
set_option maxRecDepth 100000
set_option maxHeartbeats 0
namespace K17
open PySem PySem.Spec PyProof.Rows L2 AM

/-! ### what the defs compute, in plain words -/
abbrev Job := Nat × Nat
def iL (xs : List Nat) : List PyData := xs.map fun (a : Nat) => PyData.int (a : Int)
def jobD (j : Job) : PyData := .tuple [.int (j.1 : Int), .int (j.2 : Int)]
def jobsD (jobs : List Job) : PyData := .tuple (jobs.map jobD)
def lotD (lot : List Nat) : PyData := .tuple (iL lot)
def JobsOk (jobs : List Job) : Prop := jobs.length ≤ 60 ∧ ∀ j ∈ jobs, (1 ≤ j.1 ∧ j.1 ≤ 1000000000) ∧ 1 ≤ j.2 ∧ j.2 ≤ 1000000000
def LotOk (n : Nat) (lot : List Nat) : Prop := lot.length ≤ 60 ∧ ∀ a ∈ lot, a < n
def wOf (jobs : List Job) (lot : List Nat) : Nat := (lot.map fun a => (jobs.getD a (0, 0)).2).sum
def lOf (jobs : List Job) (lot : List Nat) : Nat := (lot.map fun a => (jobs.getD a (0, 0)).1).sum
def pressN (jobs : List Job) (lot : List Nat) : Nat × Nat := (wOf jobs lot / Nat.gcd (wOf jobs lot) (lOf jobs lot), lOf jobs lot / Nat.gcd (wOf jobs lot) (lOf jobs lot))
def lessP (p q : Nat × Nat) : Bool := decide (p.1 * q.2 < q.1 * p.2)
def Sm (p : Nat × Nat) : Prop := p.1 ≤ 60000000000 ∧ p.2 ≤ 60000000000
def firstB (aheads : List (Nat × Nat)) (lot : List Nat) : Bool := !lot.isEmpty && aheads.all fun p => !(lot.contains p.2) || lot.contains p.1
def AhOk (n : Nat) (aheads : List (Nat × Nat)) : Prop := aheads.length ≤ 1000 ∧ ∀ p ∈ aheads, p.1 < n ∧ p.2 < n
def lotsOf : List Nat → List (List Nat) → List (List Nat)
  | [], found => found
  | a :: r, found => lotsOf r (found ++ found.map fun lot => lot ++ [a])
def stepG (jobs : List Job) (aheads : List (Nat × Nat)) (best lot : List Nat) : List Nat :=
  if firstB aheads lot = true then (if best.isEmpty || lessP (pressN jobs best) (pressN jobs lot) || (decide (pressN jobs best = pressN jobs lot) && decide (best.length < lot.length)) then lot else best) else best
def greatest (jobs : List Job) (aheads : List (Nat × Nat)) : List Nat := (lotsOf (List.range jobs.length) [[]]).foldl (stepG jobs aheads) []
def strP (x : Str) : PyData := .str x
def dueD (jobs : List Job) (aheads : List (Nat × Nat)) (lot : List Nat) : PyData :=
  if lessP (pressN jobs lot) (pressN jobs (greatest jobs aheads)) = true then .tuple [.str "more", lotD (greatest jobs aheads)] else .tuple [.str "most"]
def isNum : PyData → Bool
  | .int i => decide (0 ≤ i)
  | _ => false
def isInt : PyData → Bool
  | .int _ => true
  | _ => false
def ltI : PyData → PyData → Bool
  | .int i, .int j => decide (i < j)
  | _, _ => false
def told (n : Nat) : PyData → Bool
  | .tuple xs => !xs.isEmpty && xs.all (fun x => isNum x && ltI x (.int n)) && (xs.zip xs.tail).all fun p => ltI p.1 p.2
  | _ => false
def natOf : PyData → Nat
  | .int i => i.toNat
  | _ => 0
def judge (jobs : List Job) (aheads : List (Nat × Nat)) (lot : List Nat) (value : PyData) : PyData := match value with
  | .tuple [.str x] => if x = "most" then (if (dueD jobs aheads lot).eqv value = true then .none else dueD jobs aheads lot) else .tuple [.str "form"]
  | .tuple [.str x, v] => if x = "more" ∧ told jobs.length v = true then
      (match v with
      | .tuple vs => (match aheads.filter fun p => (vs.map natOf).contains p.2 && !(vs.map natOf).contains p.1 with
        | p :: _ => .tuple [.str "ahead", .int (p.1 : Int), .int (p.2 : Int)]
        | [] => if lessP (pressN jobs lot) (pressN jobs (vs.map natOf)) = true then .none else .tuple [.str "press", jobD (pressN jobs (vs.map natOf))])
      | _ => .tuple [.str "form"])
    else .tuple [.str "form"]
  | _ => .tuple [.str "form"]
def OkV (v : PyData) : Prop := (v.plain = true ∧ v.depth ≤ 40) ∨ v = .dict []
/-- the items of a shape, from the left: how many stand, and the numbers told so far -/
def shapeR (n : Nat) : List PyData → Int → List Int → Bool
  | [], many, jobs => decide (many = 1) && PyData.eqv (.list ((jobs.map PyData.int).mergeSort (PySem.W.dataLe false id))) (.list (rngP 0 (n : Int).toNat))
  | p :: ps, many, jobs => match p with
    | .int i => decide (0 ≤ i) && shapeR n ps (many + 1) (jobs ++ [i])
    | .str x => (decide (x = "row") || decide (x = "sides")) && decide (1 < many) && shapeR n ps (many - 1) jobs
    | _ => false
def shapeV (n : Nat) : PyData → Bool
  | .tuple xs => shapeR n xs 0 []
  | _ => false
def OkT (v : PyData) : Prop := v.plain = true ∧ v.depth ≤ 40 ∧ ∀ xs, v = .tuple xs → xs.length ≤ 100000
def leP (p q : Nat × Nat) : Prop := p.1 < q.1 ∨ (p.1 = q.1 ∧ p.2 ≤ q.2)
def OkJ (v : PyData) : Prop := OkV v ∧ ∀ x vs, v = .tuple [x, .tuple vs] → vs.length ≤ 100000
def OkS (v : PyData) : Prop := match v with
  | .tuple xs => xs.length ≤ 100000 ∧ ∀ x ∈ xs, OkV x
  | _ => True
/-- the law's source of draws, at the first two places of the store -/
def srcK (left mixed turn : D) : List (L2.Key × D) := [(.inr "cells", .own 1), (.inr "left", left), (.inr "mixed", mixed), (.inr "turn", turn)]
def srcM (cells : List Int) (left mixed turn : Int) : Sto := [some (.dic (srcK (.dat (.int left)) (.dat (.int mixed)) (.dat (.int turn)))), some (.lst (cells.map PyData.int))]
def Src (M : Sto) : Prop := ∃ (cells : List Int) (left mixed turn : Int), M = srcM cells left mixed turn
def N_is_number : List Str := ["value"]
def as_is_number : AS := aRet (aAndV (aCB aIsi (aCons (aVar 0) (aCons (aC (.raw (.ty "int"))) (aNil)))) (aAndV (aNotV (aCB aIsi (aCons (aVar 0) (aCons (aC (.raw (.ty "bool"))) (aNil))))) (aOp aGe (aVar 0) (aC (.dat (.int 0))))))
def sp_is_number : AL := fun ds M Ψ => ∃ p, ds = [.dat p] ∧ Ψ (.dat (.bool (isNum p))) M
def as_divisor_of_b6 : AS := aPar [0, 1] (aCons (aVar 1) (aCons (aOp aMod (aVar 0) (aVar 1)) (aNil)))
def N_divisor_of : List Str := ["a", "b"]
def as_divisor_of : AS := aSeq (aWhile (aTst (aOp aGt (aVar 1) (aC (.dat (.int 0))))) (as_divisor_of_b6))
  (aRet (aVar 0))
def sp_divisor_of : AL := fun ds M Ψ => ∃ a b : Nat, ds = [.dat (.int (a : Int)), .dat (.int (b : Int))] ∧ Ψ (.dat (.int ((Nat.gcd a b : Nat) : Int))) M
def N_press_of : List Str := ["jobs", "lot", "weight", "length", "by", "a"]
def as_press_of : AS := aSeq (aPar [2, 3] (aCons (aCB aSum (aCons (aLc (aIter (aVar 1)) (aName 5) aYes (aOp aIx (aOp aIx (aVar 0) (aVar 5)) (aC (.dat (.int 1)))) [5]) (aNil))) (aCons (aCB aSum (aCons (aLc (aIter (aVar 1)) (aName 5) aYes (aOp aIx (aOp aIx (aVar 0) (aVar 5)) (aC (.dat (.int 0)))) [5]) (aNil))) (aNil))))
  (aSeq (aAsg (aCall 2 0 sp_divisor_of (aCons (aVar 2) (aCons (aVar 3) (aNil)))) (aName 4))
  (aRet (aTup (aCons (aOp aFdv (aVar 2) (aVar 4)) (aCons (aOp aFdv (aVar 3) (aVar 4)) (aNil))))))
def sp_press_of : AL := fun ds M Ψ => ∃ (jobs : List Job) (lot : List Nat), ds = [.dat (jobsD jobs), .dat (lotD lot)] ∧ JobsOk jobs ∧ LotOk jobs.length lot ∧ lot ≠ [] ∧ Ψ (.dat (jobD (pressN jobs lot))) M
def N_is_press_less : List Str := ["one", "other"]
def as_is_press_less : AS := aRet (aOp aLt (aOp (aMul false) (aOp aIx (aVar 0) (aC (.dat (.int 0)))) (aOp aIx (aVar 1) (aC (.dat (.int 1))))) (aOp (aMul false) (aOp aIx (aVar 1) (aC (.dat (.int 0)))) (aOp aIx (aVar 0) (aC (.dat (.int 1))))))
def sp_is_press_less : AL := fun ds M Ψ => ∃ p q : Nat × Nat, ds = [.dat (jobD p), .dat (jobD q)] ∧ Sm p ∧ Sm q ∧ Ψ (.dat (.bool (lessP p q))) M
def N_is_first_lot : List Str := ["aheads", "lot", "a", "b"]
def as_is_first_lot : AS := aRet (aAndV (aOp aNe (aVar 1) (aTup (aNil))) (aCB aAll (aCons (aLc (aIter (aVar 0)) (aGTup 2 (aGCons (aName 2) (aGCons (aName 3) (aGNil)))) (aTst (aOp aInX (aVar 3) (aVar 1))) (aOp aInX (aVar 2) (aVar 1)) [2, 3]) (aNil))))
def sp_is_first_lot : AL := fun ds M Ψ => ∃ (n : Nat) (ad : PyData) (aheads : List (Nat × Nat)) (lot : List Nat), ds = [.dat ad, .dat (lotD lot)] ∧ (ad = .tuple (aheads.map jobD) ∨ ad = .list (aheads.map jobD)) ∧ AhOk n aheads ∧ Ψ (.dat (.bool (firstB aheads lot))) M
def as_lots_among_b19 : AS := aExpr (aBM aExtend (aVar 1) (aCons (aLc (aIter (aVar 1)) (aName 3) aYes (aTup (aStar (aVar 3) (aCons (aVar 2) (aNil)))) [3]) (aNil)))
def N_lots_among : List Str := ["some", "found", "a", "lot"]
def as_lots_among : AS := aSeq (aAsg (aLst true (aCons (aTup (aNil)) (aNil))) (aName 1))
  (aSeq (aFor (aIter (aVar 0)) (aName 2) (as_lots_among_b19))
  (aRet (aVar 1)))
def sp_lots_among : AL := fun ds M Ψ => ∃ n : Nat, ds = [.dat (.list (iL (List.range n)))] ∧ n ≤ 9 ∧ M = [] ∧ Ψ (.own 0) [some (.lst ((lotsOf (List.range n) [[]]).map lotD))]
def as_greatest_among_b24 : AS := aIfS (aTst (aCall 2 0 sp_is_first_lot (aCons (aVar 3) (aCons (aVar 5) (aNil))))) (aIfS (aOr (aTst (aOp aEqX (aVar 4) (aTup (aNil)))) (aTst (aCall 2 0 sp_is_press_less (aCons (aCall 2 0 sp_press_of (aCons (aVar 0) (aCons (aVar 4) (aNil)))) (aCons (aCall 2 0 sp_press_of (aCons (aVar 0) (aCons (aVar 5) (aNil)))) (aNil)))))) (aAsg (aVar 5) (aName 4)) (aIfS (aAnd (aTst (aOp aEqX (aCall 2 0 sp_press_of (aCons (aVar 0) (aCons (aVar 4) (aNil)))) (aCall 2 0 sp_press_of (aCons (aVar 0) (aCons (aVar 5) (aNil)))))) (aTst (aOp aGt (aCB aLen (aCons (aVar 5) (aNil))) (aCB aLen (aCons (aVar 4) (aNil)))))) (aAsg (aVar 5) (aName 4)) (aNext))) (aNext)
def N_greatest_among : List Str := ["jobs", "some", "aheads", "here", "best", "lot", "pair"]
def as_greatest_among : AS := aSeq (aPar [3, 4] (aCons (aLc (aIter (aVar 2)) (aName 6) (aAnd (aTst (aOp aInX (aOp aIx (aVar 6) (aC (.dat (.int 0)))) (aVar 1))) (aTst (aOp aInX (aOp aIx (aVar 6) (aC (.dat (.int 1)))) (aVar 1)))) (aVar 6) [6]) (aCons (aTup (aNil)) (aNil))))
  (aSeq (aFor (aIter (aCall 1 0 sp_lots_among (aCons (aVar 1) (aNil)))) (aName 5) (as_greatest_among_b24))
  (aRet (aVar 4)))
def sp_greatest_among : AL := fun ds M Ψ => ∃ (jobs : List Job) (aheads : List (Nat × Nat)), ds = [.dat (jobsD jobs), .dat (.list (iL (List.range jobs.length))), .dat (.tuple (aheads.map jobD))] ∧ JobsOk jobs ∧ jobs.length ≤ 9 ∧ 1 ≤ jobs.length ∧ AhOk jobs.length aheads ∧ M = [] ∧ Ψ (.dat (lotD (greatest jobs aheads))) M
def N_greatest_first_lot : List Str := ["jobs", "aheads"]
def as_greatest_first_lot : AS := aRet (aCall 3 0 sp_greatest_among (aCons (aVar 0) (aCons (aLr1 false (aCB aLen (aCons (aVar 0) (aNil)))) (aCons (aVar 1) (aNil)))))
def sp_greatest_first_lot : AL := fun ds M Ψ => ∃ (jobs : List Job) (aheads : List (Nat × Nat)), ds = [.dat (jobsD jobs), .dat (.tuple (aheads.map jobD))] ∧ (JobsOk jobs ∧ jobs.length ≤ 9 ∧ 1 ≤ jobs.length ∧ AhOk jobs.length aheads) ∧ M = [] ∧ Ψ (.dat (lotD (greatest jobs aheads))) M
def N_press_paper : List Str := ["jobs", "aheads", "lot", "best"]
def as_press_paper : AS := aSeq (aAsg (aCall 2 0 sp_greatest_first_lot (aCons (aVar 0) (aCons (aVar 1) (aNil)))) (aName 3))
  (aRet (aIf (aTst (aCall 2 0 sp_is_press_less (aCons (aCall 2 0 sp_press_of (aCons (aVar 0) (aCons (aVar 2) (aNil)))) (aCons (aCall 2 0 sp_press_of (aCons (aVar 0) (aCons (aVar 3) (aNil)))) (aNil))))) (aTup (aCons (aC (.dat (.str "more"))) (aCons (aVar 3) (aNil)))) (aTup (aCons (aC (.dat (.str "most"))) (aNil)))))
def sp_press_paper : AL := fun ds M Ψ => ∃ (jobs : List Job) (aheads : List (Nat × Nat)) (lot : List Nat), ds = [.dat (jobsD jobs), .dat (.tuple (aheads.map jobD)), .dat (lotD lot)] ∧ (JobsOk jobs ∧ jobs.length ≤ 9 ∧ 1 ≤ jobs.length ∧ AhOk jobs.length aheads) ∧ LotOk jobs.length lot ∧ lot ≠ [] ∧ M = [] ∧ Ψ (.dat (dueD jobs aheads lot)) M
def N_is_lot_told : List Str := ["n", "value", "a", "b"]
def as_is_lot_told : AS := aSeq (aIfS (aOr (aNot (aTst (aCB aIsi (aCons (aVar 1) (aCons (aC (.raw (.ty "tuple"))) (aNil)))))) (aOr (aTst (aOp aEqX (aVar 1) (aTup (aNil)))) (aNot (aTst (aCB aAll (aCons (aLc (aIter (aVar 1)) (aName 2) aYes (aAndV (aCall 1 0 sp_is_number (aCons (aVar 2) (aNil))) (aOp aLt (aVar 2) (aVar 0))) [2]) (aNil))))))) (aRet (aC (.dat (.bool false)))) (aNext))
  (aRet (aCB aAll (aCons (aLc (aZip (aCons (aVar 1) (aCons (aSl false (aVar 1) (aPart (aC (.dat (.int 1)))) aNoPart) (aNil)))) (aGTup 2 (aGCons (aName 2) (aGCons (aName 3) (aGNil)))) aYes (aOp aLt (aVar 2) (aVar 3)) [2, 3]) (aNil))))
def sp_is_lot_told : AL := fun ds M Ψ => ∃ (n : Nat) (v : PyData), ds = [.dat (.int (n : Int)), .dat v] ∧ OkT v ∧ Ψ (.dat (.bool (told n v))) M
def as_judge_press_s53 : AS := aRet (aIf (aTst (aCall 2 0 sp_is_press_less (aCons (aCall 2 0 sp_press_of (aCons (aVar 0) (aCons (aVar 2) (aNil)))) (aCons (aVar 6) (aNil))))) (aC (.dat .none)) (aTup (aCons (aC (.dat (.str "press"))) (aCons (aVar 6) (aNil)))))
def as_judge_press_s52 : AS := aSeq (aAsg (aCall 2 0 sp_press_of (aCons (aVar 0) (aCons (aOp aIx (aVar 3) (aC (.dat (.int 1)))) (aNil)))) (aName 6))
  (as_judge_press_s53)
def as_judge_press_s50 : AS := aSeq (aIfS (aTst (aOp aNe (aVar 5) (aLst false (aNil)))) (aRet (aTup (aCons (aC (.dat (.str "ahead"))) (aStar (aOp aIx (aVar 5) (aC (.dat (.int 0)))) (aNil))))) (aNext))
  (as_judge_press_s52)
def as_judge_press_s49 : AS := aSeq (aAsg (aLc (aIter (aVar 1)) (aGTup 2 (aGCons (aName 7) (aGCons (aName 8) (aGNil)))) (aAnd (aTst (aOp aInX (aVar 8) (aOp aIx (aVar 3) (aC (.dat (.int 1)))))) (aTst (aOp aNotIn (aVar 7) (aOp aIx (aVar 3) (aC (.dat (.int 1))))))) (aTup (aCons (aVar 7) (aCons (aVar 8) (aNil)))) [7, 8]) (aName 5))
  (as_judge_press_s50)
def as_judge_press_s47 : AS := aSeq (aIfS (aOr (aTst (aOp aNe (aOp aIx (aVar 3) (aC (.dat (.int 0)))) (aC (.dat (.str "more"))))) (aOr (aTst (aOp aNe (aCB aLen (aCons (aVar 3) (aNil))) (aC (.dat (.int 2))))) (aNot (aTst (aCall 2 0 sp_is_lot_told (aCons (aCB aLen (aCons (aVar 0) (aNil))) (aCons (aOp aIx (aVar 3) (aC (.dat (.int 1)))) (aNil)))))))) (aRet (aTup (aCons (aC (.dat (.str "form"))) (aNil)))) (aNext))
  (as_judge_press_s49)
def as_judge_press_s44 : AS := aSeq (aIfS (aTst (aOp aEqX (aVar 3) (aTup (aCons (aC (.dat (.str "most"))) (aNil))))) (aSeq (aAsg (aCall 3 0 sp_press_paper (aCons (aVar 0) (aCons (aVar 1) (aCons (aVar 2) (aNil))))) (aName 4))
  (aRet (aIf (aTst (aOp aEqX (aVar 4) (aVar 3))) (aC (.dat .none)) (aVar 4)))) (aNext))
  (as_judge_press_s47)
def N_judge_press : List Str := ["jobs", "aheads", "lot", "value", "told", "lacking", "press", "a", "b"]
def as_judge_press : AS := aSeq (aIfS (aOr (aNot (aTst (aCB aIsi (aCons (aVar 3) (aCons (aC (.raw (.ty "tuple"))) (aNil)))))) (aOr (aTst (aOp aEqX (aVar 3) (aTup (aNil)))) (aNot (aTst (aCB aIsi (aCons (aOp aIx (aVar 3) (aC (.dat (.int 0)))) (aCons (aC (.raw (.ty "str"))) (aNil)))))))) (aRet (aTup (aCons (aC (.dat (.str "form"))) (aNil)))) (aNext))
  (as_judge_press_s44)
def sp_judge_press : AL := fun ds M Ψ => ∃ (jobs : List Job) (aheads : List (Nat × Nat)) (lot : List Nat) (value : PyData), ds = [.dat (jobsD jobs), .dat (.tuple (aheads.map jobD)), .dat (lotD lot), .dat value] ∧ (JobsOk jobs ∧ jobs.length ≤ 9 ∧ 1 ≤ jobs.length ∧ AhOk jobs.length aheads) ∧ LotOk jobs.length lot ∧ lot ≠ [] ∧ OkJ value ∧ M = [] ∧ Ψ (.dat (judge jobs aheads lot value)) M
def as_is_shape_b59 : AS := aIfS (aTst (aCall 1 0 sp_is_number (aCons (aVar 4) (aNil)))) (aSeq (aAsg (aOp (aAdd false) (aVar 2) (aC (.dat (.int 1)))) (aName 2))
  (aExpr (aBM aAppend (aVar 3) (aCons (aVar 4) (aNil))))) (aIfS (aAnd (aTst (aCB aIsi (aCons (aVar 4) (aCons (aC (.raw (.ty "str"))) (aNil))))) (aAnd (aTst (aOp aInX (aVar 4) (aTup (aCons (aC (.dat (.str "row"))) (aCons (aC (.dat (.str "sides"))) (aNil)))))) (aTst (aOp aGt (aVar 2) (aC (.dat (.int 1))))))) (aAsg (aOp aSub (aVar 2) (aC (.dat (.int 1)))) (aName 2)) (aRet (aC (.dat (.bool false)))))
def as_is_shape_s67 : AS := aRet (aAndV (aOp aEqX (aVar 2) (aC (.dat (.int 1)))) (aOp aEqX (aCB (aSortedX false) (aCons (aVar 3) (aNil))) (aLr1 false (aVar 0))))
def as_is_shape_s59 : AS := aSeq (aFor (aIter (aVar 1)) (aName 4) (as_is_shape_b59))
  (as_is_shape_s67)
def as_is_shape_s58 : AS := aSeq (aPar [2, 3] (aCons (aC (.dat (.int 0))) (aCons (aLst true (aNil)) (aNil))))
  (as_is_shape_s59)
def N_is_shape : List Str := ["n", "value", "told", "jobs", "member"]
def as_is_shape : AS := aSeq (aIfS (aNot (aTst (aCB aIsi (aCons (aVar 1) (aCons (aC (.raw (.ty "tuple"))) (aNil)))))) (aRet (aC (.dat (.bool false)))) (aNext))
  (as_is_shape_s58)
def sp_is_shape : AL := fun ds M Ψ => ∃ (n : Nat) (v : PyData), ds = [.dat (.int (n : Int)), .dat v] ∧ n ≤ 1000 ∧ OkS v ∧ M = [] ∧ ∀ M', Ψ (.dat (.bool (shapeV n v))) M'
def as__law_open_cells_b71 : AS := aAsg (aOp aMod (aCB aInt1 (aCons (aOp (aAdd false) (aOp (aAdd false) (aOp (aMul false) (aVar 1) (aC (.dat (.int 69069)))) (aOp (aMul false) (aVar 2) (aC (.dat (.int 31))))) (aC (.dat (.int 5)))) (aNil))) (aC (.dat (.int 2147483629)))) (aName 1)
def as__law_open_cells_s74 : AS := aRet (aDisp [((aC (.dat (.str "cells"))), (aRev true (aVar 3))), ((aC (.dat (.str "left"))), (aC (.dat (.int 1)))), ((aC (.dat (.str "mixed"))), (aVar 1)), ((aC (.dat (.str "turn"))), (aC (.dat (.int 0))))])
def as__law_open_cells_s73 (K : PySem.W.Frag) : AS := aSeq (aAsg (aLc (aScr K (aVar 0)) (aName 2) aYes (aCB aAbs (aCons (aVar 2) (aNil))) [2]) (aName 3))
  (as__law_open_cells_s74)
def as__law_open_cells_s71 (K : PySem.W.Frag) : AS := aSeq (aFor (aScr K (aVar 0)) (aName 2) (as__law_open_cells_b71))
  (as__law_open_cells_s73 K)
def N__law_open_cells : List Str := ["script", "stirred", "cell", "cells"]
def as__law_open_cells (K : PySem.W.Frag) : AS := aSeq (aAsg (aC (.dat (.int 11))) (aName 1))
  (as__law_open_cells_s71 K)
def sp__law_open_cells (K : PySem.W.Frag) : AL := fun ds M Ψ => ∃ ns : List Int, ds = [.scr K ns] ∧ ns.length ≤ 63 ∧ M = [] ∧ ∀ M', Src M' → Ψ (.own 0) M'
def as__law_pick_b79 : AS := aDPut (aBM0 aPop (aVar 2)) (aVar 0) (aC (.dat (.str "left")))
def as__law_pick_s89 : AS := aRet (aOp aMod (aCB aInt1 (aCons (aOp aFdv (aVar 5) (aC (.dat (.int 16)))) (aNil))) (aVar 1))
def as__law_pick_s88 : AS := aSeq (aAsg (aOp aMod (aCB aInt1 (aCons (aOp (aAdd false) (aOp (aMul false) (aVar 5) (aVar 5)) (aOp (aMul false) (aVar 4) (aC (.dat (.int 17))))) (aNil))) (aC (.dat (.int 2147483647)))) (aName 5))
  (as__law_pick_s89)
def as__law_pick_s87 : AS := aSeq (aAsg (aOp aMod (aCB aInt1 (aCons (aOp (aAdd false) (aOp aIx (aVar 0) (aC (.dat (.str "mixed")))) (aOp (aMul false) (aVar 4) (aC (.dat (.int 104729))))) (aNil))) (aC (.dat (.int 998244353)))) (aName 5))
  (as__law_pick_s88)
def as__law_pick_s86 : AS := aSeq (aAsg (aOp aIx (aVar 0) (aC (.dat (.str "turn")))) (aName 4))
  (as__law_pick_s87)
def as__law_pick_s85 : AS := aSeq (aDPut (aOp (aAdd false) (aOp aIx (aVar 0) (aC (.dat (.str "turn")))) (aC (.dat (.int 1)))) (aVar 0) (aC (.dat (.str "turn"))))
  (as__law_pick_s86)
def as__law_pick_s82 : AS := aSeq (aIfS (aTst (aOp aGt (aVar 3) (aC (.dat (.int 1))))) (aSeq (aDPut (aOp aFdv (aVar 3) (aVar 1)) (aVar 0) (aC (.dat (.str "left"))))
  (aRet (aOp aMod (aCB aInt1 (aCons (aVar 3) (aNil))) (aVar 1)))) (aNext))
  (as__law_pick_s85)
def as__law_pick_s81 : AS := aSeq (aAsg (aOp aIx (aVar 0) (aC (.dat (.str "left")))) (aName 3))
  (as__law_pick_s82)
def as__law_pick_s79 : AS := aSeq (aWhile (aAnd (aTst (aOp aLt (aOp aIx (aVar 0) (aC (.dat (.str "left")))) (aC (.dat (.int 2))))) (aTst (aOp aGt (aCB aLen (aCons (aVar 2) (aNil))) (aC (.dat (.int 0)))))) (as__law_pick_b79))
  (as__law_pick_s81)
def as__law_pick_s78 : AS := aSeq (aAsg (aOp aIx (aVar 0) (aC (.dat (.str "cells")))) (aName 2))
  (as__law_pick_s79)
def N__law_pick : List Str := ["source", "most", "cells", "others", "lap", "stirred"]
def as__law_pick : AS := aSeq (aIfS (aTst (aOp aLt (aVar 1) (aC (.dat (.int 2))))) (aRet (aC (.dat (.int 0)))) (aNext))
  (as__law_pick_s78)
def sp__law_pick : AL := fun ds M Ψ => ∃ most : Nat, ds = [.own 0, .dat (.int (most : Int))] ∧ most < 1000000000 ∧ Src M ∧ ∀ (r : Nat) (M' : Sto), (r < most ∨ r = 0) → Src M' → Ψ (.dat (.int (r : Int))) M'
def N__law_of : List Str := ["source", "some"]
def as__law_of : AS := aRet (aOp aIx (aVar 1) (aCall 2 2 sp__law_pick (aCons (aVar 0) (aCons (aCB aLen (aCons (aVar 1) (aNil))) (aNil)))))
def sp__law_of : AL := fun ds M Ψ => ∃ xs : List PyData, ds = [.own 0, .dat (.list xs)] ∧ xs ≠ [] ∧ xs.length < 1000 ∧ Src M ∧ ∀ (x : PyData) (M' : Sto), x ∈ xs → Src M' → Ψ (.dat x) M'
def N__law_mixed : List Str := ["source", "things", "pool", "lap"]
def as__law_mixed : AS := aSeq (aAsg (aCB (aListOf true) (aCons (aVar 1) (aNil))) (aName 2))
  (aRet (aLc (aRng1 (aCons (aCB aLen (aCons (aVar 2) (aNil))) (aNil))) (aName 3) aYes (aBM aPop (aVar 2) (aCons (aCall 2 2 sp__law_pick (aCons (aVar 0) (aCons (aCB aLen (aCons (aVar 2) (aNil))) (aNil)))) (aNil))) [3]))
def sp__law_mixed : AL := fun ds M Ψ => ∃ xs : List PyData, ds = [.own 0, .dat (.list xs)] ∧ xs.length < 1000 ∧ Src M ∧ ∀ (ys : List PyData) (M' : Sto) (x : Option Mo), ys.Perm xs → Src M' → Ψ (.dat (.list ys)) (M' ++ [x])
def N__law_is_int : List Str := ["value"]
def as__law_is_int : AS := aRet (aAndV (aCB aIsi (aCons (aVar 0) (aCons (aC (.raw (.ty "int"))) (aNil)))) (aNotV (aCB aIsi (aCons (aVar 0) (aCons (aC (.raw (.ty "bool"))) (aNil))))))
def sp__law_is_int : AL := fun ds M Ψ => ∃ p, ds = [.dat p] ∧ Ψ (.dat (.bool (isInt p))) M
def N__law_weighted : List Str := ["source", "n", "most", "turn"]
def as__law_weighted : AS := aRet (aCB aTupleOf (aCons (aLc (aRng1 (aCons (aVar 1) (aNil))) (aName 3) aYes (aTup (aCons (aOp (aAdd false) (aC (.dat (.int 1))) (aCall 2 2 sp__law_pick (aCons (aVar 0) (aCons (aVar 2) (aNil))))) (aCons (aOp (aAdd false) (aC (.dat (.int 1))) (aCall 2 2 sp__law_pick (aCons (aVar 0) (aCons (aVar 2) (aNil))))) (aNil)))) [3]) (aNil)))
def sp__law_weighted : AL := fun ds M Ψ => ∃ n most : Nat, ds = [.own 0, .dat (.int (n : Int)), .dat (.int (most : Int))] ∧ n ≤ 60 ∧ 1 ≤ most ∧ most ≤ 100000000 ∧ Src M ∧ ∀ (jobs : List Job) (M' : Sto), jobs.length = n → (∀ j ∈ jobs, (1 ≤ j.1 ∧ j.1 ≤ most) ∧ 1 ≤ j.2 ∧ j.2 ≤ most) → Src M' → Ψ (.dat (jobsD jobs)) M'
def as__law_press_b102 : AS := aPar [4, 5] (aCons (aVar 5) (aCons (aOp aMod (aCB aInt1 (aCons (aVar 4) (aNil))) (aVar 5)) (aNil)))
def as__law_press_s104 : AS := aRet (aTup (aCons (aOp aFdv (aVar 2) (aVar 4)) (aCons (aOp aFdv (aVar 3) (aVar 4)) (aNil))))
def as__law_press_s102 : AS := aSeq (aWhile (aTst (aOp aGt (aVar 5) (aC (.dat (.int 0))))) (as__law_press_b102))
  (as__law_press_s104)
def as__law_press_s101 : AS := aSeq (aPar [4, 5] (aCons (aVar 2) (aCons (aVar 3) (aNil))))
  (as__law_press_s102)
def N__law_press : List Str := ["jobs", "lot", "weight", "length", "a", "b"]
def as__law_press : AS := aSeq (aPar [2, 3] (aCons (aCB aSum (aCons (aLc (aIter (aVar 1)) (aName 4) aYes (aOp aIx (aOp aIx (aVar 0) (aVar 4)) (aC (.dat (.int 1)))) [4]) (aNil))) (aCons (aCB aSum (aCons (aLc (aIter (aVar 1)) (aName 4) aYes (aOp aIx (aOp aIx (aVar 0) (aVar 4)) (aC (.dat (.int 0)))) [4]) (aNil))) (aNil))))
  (as__law_press_s101)
def sp__law_press : AL := fun ds M Ψ => ∃ (jobs : List Job) (lot : List Nat), ds = [.dat (jobsD jobs), .dat (lotD lot)] ∧ JobsOk jobs ∧ LotOk jobs.length lot ∧ lot ≠ [] ∧ Ψ (.dat (jobD (pressN jobs lot))) M
def N__law_is_less : List Str := ["one", "other"]
def as__law_is_less : AS := aRet (aOp aLt (aOp (aMul false) (aOp aIx (aVar 0) (aC (.dat (.int 0)))) (aOp aIx (aVar 1) (aC (.dat (.int 1))))) (aOp (aMul false) (aOp aIx (aVar 1) (aC (.dat (.int 0)))) (aOp aIx (aVar 0) (aC (.dat (.int 1))))))
def sp__law_is_less : AL := fun ds M Ψ => ∃ p q : Nat × Nat, ds = [.dat (jobD p), .dat (jobD q)] ∧ Sm p ∧ Sm q ∧ Ψ (.dat (.bool (lessP p q))) M
def N__law_is_first : List Str := ["aheads", "lot", "a", "b"]
def as__law_is_first : AS := aRet (aAndV (aOp aNe (aVar 1) (aTup (aNil))) (aOp aEqX (aLc (aIter (aVar 0)) (aGTup 2 (aGCons (aName 2) (aGCons (aName 3) (aGNil)))) (aAnd (aTst (aOp aInX (aVar 3) (aVar 1))) (aTst (aOp aNotIn (aVar 2) (aVar 1)))) (aC (.dat (.int 1))) [2, 3]) (aLst false (aNil))))
def sp__law_is_first : AL := fun ds M Ψ => ∃ (n : Nat) (ad : PyData) (aheads : List (Nat × Nat)) (lot : List Nat), ds = [.dat ad, .dat (lotD lot)] ∧ (ad = .tuple (aheads.map jobD) ∨ ad = .list (aheads.map jobD)) ∧ AhOk n aheads ∧ Ψ (.dat (.bool (firstB aheads lot))) M
def as__law_greatest_b111 : AS := aAsg (aOp (aAdd false) (aVar 2) (aLc (aIter (aVar 2)) (aName 5) aYes (aOp (aAdd false) (aVar 5) (aTup (aCons (aVar 4) (aNil)))) [5])) (aName 2)
def as__law_greatest_b113 : AS := aIfS (aTst (aCall 2 0 sp__law_is_first (aCons (aVar 1) (aCons (aVar 5) (aNil))))) (aSeq (aAsg (aCall 2 0 sp__law_press (aCons (aVar 0) (aCons (aVar 5) (aNil)))) (aName 6))
  (aSeq (aAsg (aOrV (aOp (isG false) (aVar 3) (aC (.dat .none))) (aCall 2 0 sp__law_is_less (aCons (aOp aIx (aVar 3) (aC (.dat (.int 0)))) (aCons (aVar 6) (aNil))))) (aName 7))
  (aIfS (aOr (aTst (aVar 7)) (aAnd (aTst (aOp aEqX (aVar 6) (aOp aIx (aVar 3) (aC (.dat (.int 0)))))) (aTst (aOp aGt (aCB aLen (aCons (aVar 5) (aNil))) (aCB aLen (aCons (aOp aIx (aVar 3) (aC (.dat (.int 1)))) (aNil))))))) (aAsg (aTup (aCons (aVar 6) (aCons (aVar 5) (aNil)))) (aName 3)) (aNext)))) (aNext)
def as__law_greatest_s119 : AS := aRet (aOp aIx (aVar 3) (aC (.dat (.int 1))))
def as__law_greatest_s113 : AS := aSeq (aFor (aIter (aSl false (aVar 2) (aPart (aC (.dat (.int 1)))) aNoPart)) (aName 5) (as__law_greatest_b113))
  (as__law_greatest_s119)
def as__law_greatest_s111 : AS := aSeq (aFor (aRng1 (aCons (aCB aLen (aCons (aVar 0) (aNil))) (aNil))) (aName 4) (as__law_greatest_b111))
  (as__law_greatest_s113)
def N__law_greatest : List Str := ["jobs", "aheads", "lots", "best", "a", "lot", "press", "is_more"]
def as__law_greatest : AS := aSeq (aPar [2, 3] (aCons (aLst false (aCons (aTup (aNil)) (aNil))) (aCons (aC (.dat .none)) (aNil))))
  (as__law_greatest_s111)
def sp__law_greatest : AL := fun ds M Ψ => ∃ (jobs : List Job) (aheads : List (Nat × Nat)), ds = [.dat (jobsD jobs), .dat (.tuple (aheads.map jobD))] ∧ (JobsOk jobs ∧ jobs.length ≤ 9 ∧ 1 ≤ jobs.length ∧ AhOk jobs.length aheads) ∧ M = [] ∧ Ψ (.dat (lotD (greatest jobs aheads))) M
def as__law_fault_s134 : AS := aRet (aIf (aNot (aTst (aCall 2 0 sp__law_is_less (aCons (aCall 2 0 sp__law_press (aCons (aVar 0) (aCons (aVar 2) (aNil)))) (aCons (aVar 7) (aNil)))))) (aTup (aCons (aC (.dat (.str "press"))) (aCons (aVar 7) (aNil)))) (aC (.dat .none)))
def as__law_fault_s133 : AS := aSeq (aAsg (aCall 2 0 sp__law_press (aCons (aVar 0) (aCons (aVar 5) (aNil)))) (aName 7))
  (as__law_fault_s134)
def as__law_fault_s131 : AS := aSeq (aIfS (aTst (aOp aNe (aVar 6) (aLst false (aNil)))) (aRet (aOp (aAdd false) (aTup (aCons (aC (.dat (.str "ahead"))) (aNil))) (aOp aIx (aVar 6) (aC (.dat (.int 0)))))) (aNext))
  (as__law_fault_s133)
def as__law_fault_s130 : AS := aSeq (aAsg (aCB (aSortedX false) (aCons (aLc (aIter (aVar 1)) (aGTup 2 (aGCons (aName 9) (aGCons (aName 10) (aGNil)))) (aAnd (aTst (aOp aInX (aVar 10) (aVar 5))) (aTst (aOp aNotIn (aVar 9) (aVar 5)))) (aTup (aCons (aVar 9) (aCons (aVar 10) (aNil)))) [9, 10]) (aNil))) (aName 6))
  (as__law_fault_s131)
def as__law_fault_s128 : AS := aSeq (aIfS (aOr (aTst (aOp aNe (aLc (aIter (aVar 5)) (aName 8) (aNot (aTst (aChain aLe aLt (aC (.dat (.int 0))) (aVar 8) (aCB aLen (aCons (aVar 0) (aNil)))))) (aVar 8) [8]) (aLst false (aNil)))) (aTst (aOp aNe (aLc (aZip (aCons (aVar 5) (aCons (aSl false (aVar 5) (aPart (aC (.dat (.int 1)))) aNoPart) (aNil)))) (aGTup 2 (aGCons (aName 9) (aGCons (aName 10) (aGNil)))) (aTst (aOp aGe (aVar 9) (aVar 10))) (aC (.dat (.int 1))) [9, 10]) (aLst false (aNil))))) (aRet (aTup (aCons (aC (.dat (.str "form"))) (aNil)))) (aNext))
  (as__law_fault_s130)
def as__law_fault_s126 : AS := aSeq (aIfS (aOr (aNot (aTst (aCB aIsi (aCons (aVar 5) (aCons (aC (.raw (.ty "tuple"))) (aNil)))))) (aOr (aTst (aOp aEqX (aVar 5) (aTup (aNil)))) (aTst (aOp aNe (aLc (aIter (aVar 5)) (aName 8) (aNot (aTst (aCall 1 0 sp__law_is_int (aCons (aVar 8) (aNil))))) (aVar 8) [8]) (aLst false (aNil)))))) (aRet (aTup (aCons (aC (.dat (.str "form"))) (aNil)))) (aNext))
  (as__law_fault_s128)
def as__law_fault_s125 : AS := aSeq (aAsg (aOp aIx (aVar 4) (aC (.dat (.int 1)))) (aName 5))
  (as__law_fault_s126)
def as__law_fault_s123 : AS := aSeq (aIfS (aOr (aNot (aTst (aCB aIsi (aCons (aVar 4) (aCons (aC (.raw (.ty "tuple"))) (aNil)))))) (aOr (aTst (aOp aNe (aCB aLen (aCons (aVar 4) (aNil))) (aC (.dat (.int 2))))) (aTst (aOp aNe (aOp aIx (aVar 4) (aC (.dat (.int 0)))) (aC (.dat (.str "more"))))))) (aRet (aTup (aCons (aC (.dat (.str "form"))) (aNil)))) (aNext))
  (as__law_fault_s125)
def N__law_fault : List Str := ["jobs", "aheads", "lot", "due", "value", "some", "wrong", "press", "x", "a", "b"]
def as__law_fault : AS := aSeq (aIfS (aAnd (aTst (aOp aEqX (aVar 4) (aTup (aCons (aC (.dat (.str "most"))) (aNil))))) (aTst (aCB aIsi (aCons (aVar 4) (aCons (aC (.raw (.ty "tuple"))) (aNil)))))) (aRet (aIf (aTst (aOp aEqX (aVar 3) (aTup (aCons (aC (.dat (.str "most"))) (aNil))))) (aC (.dat .none)) (aVar 3))) (aNext))
  (as__law_fault_s123)
def sp__law_fault : AL := fun ds M Ψ => ∃ (jobs : List Job) (aheads : List (Nat × Nat)) (lot : List Nat) (value : PyData), ds = [.dat (jobsD jobs), .dat (.tuple (aheads.map jobD)), .dat (lotD lot), .dat (dueD jobs aheads lot), .dat value] ∧ (JobsOk jobs ∧ jobs.length ≤ 9 ∧ 1 ≤ jobs.length ∧ AhOk jobs.length aheads) ∧ LotOk jobs.length lot ∧ lot ≠ [] ∧ OkJ value ∧ aheads.Pairwise leP ∧ M = [] ∧ Ψ (.dat (judge jobs aheads lot value)) M
def as__law_is_shape_b139 : AS := aIfS (aTst (aCall 1 0 sp__law_is_int (aCons (aVar 4) (aNil)))) (aPar [2, 3] (aCons (aOp (aAdd false) (aVar 2) (aC (.dat (.int 1)))) (aCons (aOp (aAdd false) (aVar 3) (aLst false (aCons (aVar 4) (aNil)))) (aNil)))) (aIfS (aAnd (aTst (aOp aInX (aVar 4) (aTup (aCons (aC (.dat (.str "row"))) (aCons (aC (.dat (.str "sides"))) (aNil)))))) (aTst (aOp aGt (aVar 2) (aC (.dat (.int 1)))))) (aAsg (aOp aSub (aVar 2) (aC (.dat (.int 1)))) (aName 2)) (aRet (aC (.dat (.bool false)))))
def as__law_is_shape_s146 : AS := aRet (aAndV (aOp aEqX (aVar 2) (aC (.dat (.int 1)))) (aOp aEqX (aCB (aSortedX false) (aCons (aVar 3) (aNil))) (aLr1 false (aVar 0))))
def as__law_is_shape_s139 : AS := aSeq (aFor (aIter (aVar 1)) (aName 4) (as__law_is_shape_b139))
  (as__law_is_shape_s146)
def as__law_is_shape_s138 : AS := aSeq (aPar [2, 3] (aCons (aC (.dat (.int 0))) (aCons (aLst false (aNil)) (aNil))))
  (as__law_is_shape_s139)
def N__law_is_shape : List Str := ["n", "value", "many", "jobs", "part"]
def as__law_is_shape : AS := aSeq (aIfS (aNot (aTst (aCB aIsi (aCons (aVar 1) (aCons (aC (.raw (.ty "tuple"))) (aNil)))))) (aRet (aC (.dat (.bool false)))) (aNext))
  (as__law_is_shape_s138)
def sp__law_is_shape : AL := fun ds M Ψ => ∃ (n : Nat) (v : PyData), ds = [.dat (.int (n : Int)), .dat v] ∧ n ≤ 1000 ∧ OkS v ∧ M = [] ∧ ∀ M', Ψ (.dat (.bool (shapeV n v))) M'
def as_law_b151 : AS := aAsg (aIf (aTst (aOp aGt (aCall 2 2 sp__law_pick (aCons (aVar 1) (aCons (aC (.dat (.int 3))) (aNil)))) (aC (.dat (.int 0))))) (aTup (aCons (aVar 3) (aNil))) (aLst false (aCons (aVar 3) (aNil)))) (aName 3)
def as_law_b158 : AS := aSeq (aAsg (aCB (aSortedX false) (aCons (aSl false (aCall 2 2 sp__law_mixed (aCons (aVar 1) (aCons (aLr1 false (aVar 6)) (aNil)))) aNoPart (aPart (aC (.dat (.int 2))))) (aNil))) (aGTup 2 (aGCons (aName 10) (aGCons (aName 11) (aGNil)))))
  (aDPut (aC (.dat (.int 0))) (aVar 9) (aTup (aCons (aOp aIx (aVar 8) (aVar 10)) (aCons (aOp aIx (aVar 8) (aVar 11)) (aNil)))))
def as_law_b179 : AS := aSeq (aAsg (aCB aRepr (aCons (aVar 21) (aNil))) (aName 22))
  (aSeq (aAsg (aCall 5 0 sp__law_fault (aCons (aVar 7) (aCons (aVar 12) (aCons (aVar 14) (aCons (aVar 18) (aCons (aVar 21) (aNil))))))) (aName 23))
  (aIfS (aOr (aTst (aOp aNe (aCB aRepr (aCons (aCall 4 0 sp_judge_press (aCons (aVar 7) (aCons (aVar 12) (aCons (aVar 14) (aCons (aVar 21) (aNil)))))) (aNil))) (aCB aRepr (aCons (aVar 23) (aNil))))) (aTst (aOp aNe (aCB aRepr (aCons (aVar 21) (aNil))) (aVar 22)))) (aRet (aC (.dat (.bool false)))) (aNext)))
def as_law_b185 : AS := aSeq (aAsg (aCall 2 2 sp__law_pick (aCons (aVar 1) (aCons (aOp aSub (aCB aLen (aCons (aVar 24) (aNil))) (aC (.dat (.int 1)))) (aNil)))) (aName 10))
  (aSeq (aAsg (aOp (aAdd false) (aOp (aAdd false) (aOp aIx (aVar 24) (aVar 10)) (aOp aIx (aVar 24) (aOp (aAdd false) (aVar 10) (aC (.dat (.int 1)))))) (aTup (aCons (aCall 2 2 sp__law_of (aCons (aVar 1) (aCons (aLst false (aCons (aC (.dat (.str "row"))) (aCons (aC (.dat (.str "sides"))) (aNil)))) (aNil)))) (aNil)))) (aName 25))
  (aAsg (aOp (aAdd false) (aOp (aAdd false) (aSl false (aVar 24) aNoPart (aPart (aVar 10))) (aLst false (aCons (aVar 25) (aNil)))) (aSl false (aVar 24) (aPart (aOp (aAdd false) (aVar 10) (aC (.dat (.int 2))))) aNoPart)) (aName 24)))
def as_law_b192 : AS := aSeq (aPar [27, 28] (aCons (aCall 2 2 sp__law_pick (aCons (aVar 1) (aCons (aCB aLen (aCons (aVar 26) (aNil))) (aNil)))) (aCons (aCall 2 2 sp__law_of (aCons (aVar 1) (aCons (aVar 2) (aNil)))) (aNil))))
  (aSeq (aAsg (aOp (aAdd true) (aVar 20) (aLst false (aCons (aOp (aAdd false) (aOp (aAdd false) (aSl false (aVar 26) aNoPart (aPart (aVar 27))) (aTup (aCons (aVar 28) (aNil)))) (aSl false (aVar 26) (aPart (aOp (aAdd false) (aVar 27) (aC (.dat (.int 1))))) aNoPart)) (aCons (aOp (aAdd false) (aOp (aAdd false) (aSl false (aVar 26) aNoPart (aPart (aVar 27))) (aTup (aCons (aVar 28) (aNil)))) (aSl false (aVar 26) (aPart (aVar 27)) aNoPart)) (aNil))))) (aName 20))
  (aExpr (aBM aAppend (aVar 20) (aCons (aOp (aAdd false) (aSl false (aVar 26) aNoPart (aPart (aVar 27))) (aSl false (aVar 26) (aPart (aOp (aAdd false) (aVar 27) (aC (.dat (.int 1))))) aNoPart)) (aNil)))))
def as_law_b197 : AS := aIfS (aTst (aOp aNe (aCB aRepr (aCons (aCall 2 0 sp_is_shape (aCons (aVar 29) (aCons (aVar 21) (aNil)))) (aNil))) (aCB aRepr (aCons (aCall 2 0 sp__law_is_shape (aCons (aVar 29) (aCons (aVar 21) (aNil)))) (aNil))))) (aRet (aC (.dat (.bool false)))) (aNext)
def as_law_b196 : AS := aFor (aIter (aTup (aCons (aVar 6) (aCons (aOp (aAdd false) (aVar 6) (aC (.dat (.int 1)))) (aNil))))) (aName 29) (as_law_b197)
def as_law_s196 : AS := aFor (aIter (aOp (aAdd false) (aVar 20) (aVar 2))) (aName 21) (as_law_b196)
def as_law_s192 : AS := aSeq (aFor (aRng1 (aCons (aC (.dat (.int 6))) (aNil))) (aName 4) (as_law_b192))
  (as_law_s196)
def as_law_s191 : AS := aSeq (aAsg (aOp (aAdd false) (aVar 20) (aLst false (aCons (aRev false (aVar 26)) (aCons (aTup (aCons (aC (.dat (.str "row"))) (aNil))) (aNil))))) (aName 20))
  (as_law_s192)
def as_law_s190 : AS := aSeq (aAsg (aLst false (aCons (aVar 26) (aCons (aCB (aListOf false) (aCons (aVar 26) (aNil))) (aCons (aSl false (aVar 26) aNoPart (aPart (aUn aNeg (aC (.dat (.int 1)))))) (aCons (aSl false (aVar 26) (aPart (aC (.dat (.int 1)))) aNoPart) (aCons (aOp (aAdd false) (aVar 26) (aTup (aCons (aC (.dat (.str "row"))) (aNil)))) (aCons (aOp (aAdd false) (aVar 26) (aTup (aCons (aVar 6) (aNil)))) (aCons (aOp (aAdd false) (aVar 26) (aTup (aCons (aVar 6) (aCons (aC (.dat (.str "sides"))) (aNil))))) (aNil))))))))) (aName 20))
  (as_law_s191)
def as_law_s189 : AS := aSeq (aAsg (aOp aIx (aVar 24) (aC (.dat (.int 0)))) (aName 26))
  (as_law_s190)
def as_law_s185 : AS := aSeq (aWhile (aTst (aOp aGt (aCB aLen (aCons (aVar 24) (aNil))) (aC (.dat (.int 1))))) (as_law_b185))
  (as_law_s189)
def as_law_s184 : AS := aSeq (aAsg (aLc (aIter (aVar 8)) (aName 30) aYes (aTup (aCons (aVar 30) (aNil))) [30]) (aName 24))
  (as_law_s185)
def as_law_s179 : AS := aSeq (aFor (aIter (aOp (aAdd false) (aVar 20) (aVar 2))) (aName 21) (as_law_b179))
  (as_law_s184)
def as_law_s178 : AS := aSeq (aAsg (aOp (aAdd false) (aLst false (aCons (aVar 18) (aCons (aTup (aCons (aC (.dat (.str "most"))) (aNil))) (aCons (aCB (aListOf false) (aCons (aVar 18) (aNil))) (aCons (aOp (aAdd false) (aVar 18) (aTup (aCons (aC (.dat (.int 0))) (aNil)))) (aNil)))))) (aLc (aIter (aVar 19)) (aName 31) aYes (aTup (aCons (aC (.dat (.str "more"))) (aCons (aVar 31) (aNil)))) [31])) (aName 20))
  (as_law_s179)
def as_law_s177 : AS := aSeq (aAsg (aOp (aAdd false) (aOp (aAdd false) (aVar 19) (aLc (aRng2 (aCons (aC (.dat (.int 1))) (aCons (aOp (aAdd false) (aVar 6) (aC (.dat (.int 1)))) (aNil)))) (aName 27) aYes (aCB aTupleOf (aCons (aCB (aSortedX false) (aCons (aSl false (aVar 8) aNoPart (aPart (aVar 27))) (aNil))) (aNil))) [27])) (aLc (aRng1 (aCons (aVar 6) (aNil))) (aName 30) aYes (aTup (aCons (aVar 30) (aNil))) [30])) (aName 19))
  (as_law_s178)
def as_law_s176 : AS := aSeq (aExpr (aBM aAppend (aVar 19) (aCons (aOp (aAdd false) (aVar 15) (aSl false (aVar 15) (aPart (aUn aNeg (aC (.dat (.int 1))))) aNoPart)) (aNil))))
  (as_law_s177)
def as_law_s175 : AS := aSeq (aAsg (aLst true (aCons (aVar 13) (aCons (aVar 15) (aCons (aVar 14) (aCons (aRev false (aVar 13)) (aCons (aCB (aListOf false) (aCons (aVar 13) (aNil))) (aCons (aOp (aAdd false) (aVar 15) (aTup (aCons (aVar 6) (aNil)))) (aCons (aOp (aAdd false) (aSl false (aVar 15) aNoPart (aPart (aUn aNeg (aC (.dat (.int 1)))))) (aTup (aCons (aC (.dat (.bool true))) (aNil)))) (aCons (aOp (aAdd false) (aTup (aCons (aUn aNeg (aC (.dat (.int 1)))) (aNil))) (aVar 15)) (aNil)))))))))) (aName 19))
  (as_law_s176)
def as_law_s173 : AS := aSeq (aIfS (aOr (aTst (aOp aNe (aCB aRepr (aCons (aCall 3 0 sp_press_paper (aCons (aVar 7) (aCons (aVar 12) (aCons (aVar 14) (aNil))))) (aNil))) (aCB aRepr (aCons (aVar 18) (aNil))))) (aTst (aOp (isG true) (aCall 4 0 sp_judge_press (aCons (aVar 7) (aCons (aVar 12) (aCons (aVar 14) (aCons (aVar 18) (aNil)))))) (aC (.dat .none))))) (aRet (aC (.dat (.bool false)))) (aNext))
  (as_law_s175)
def as_law_s172 : AS := aSeq (aAsg (aIf (aTst (aVar 17)) (aTup (aCons (aC (.dat (.str "more"))) (aCons (aVar 13) (aNil)))) (aTup (aCons (aC (.dat (.str "most"))) (aNil)))) (aName 18))
  (as_law_s173)
def as_law_s171 : AS := aSeq (aAsg (aCall 2 0 sp__law_is_less (aCons (aCall 2 0 sp__law_press (aCons (aVar 7) (aCons (aVar 14) (aNil)))) (aCons (aCall 2 0 sp__law_press (aCons (aVar 7) (aCons (aVar 13) (aNil)))) (aNil)))) (aName 17))
  (as_law_s172)
def as_law_s169 : AS := aSeq (aIfS (aOr (aTst (aOp (isG true) (aCall 2 0 sp_is_first_lot (aCons (aVar 12) (aCons (aTup (aNil)) (aNil)))) (aC (.dat (.bool false))))) (aTst (aOp aNe (aCB aRepr (aCons (aCall 2 0 sp_press_of (aCons (aVar 7) (aCons (aVar 15) (aNil)))) (aNil))) (aCB aRepr (aCons (aCall 2 0 sp__law_press (aCons (aVar 7) (aCons (aVar 15) (aNil)))) (aNil)))))) (aRet (aC (.dat (.bool false)))) (aNext))
  (as_law_s171)
def as_law_s168 : AS := aSeq (aAsg (aIf (aTst (aOp (isG false) (aOp aIx (aVar 16) (aC (.dat (.int 0)))) (aC (.dat (.bool true))))) (aVar 14) (aVar 13)) (aName 14))
  (as_law_s169)
def as_law_s166 : AS := aSeq (aIfS (aTst (aOp aNe (aCB aRepr (aCons (aVar 16) (aNil))) (aCB aRepr (aCons (aLst false (aCons (aCall 2 0 sp__law_is_first (aCons (aVar 12) (aCons (aVar 14) (aNil)))) (aCons (aCall 2 0 sp__law_is_first (aCons (aVar 12) (aCons (aVar 15) (aNil)))) (aNil)))) (aNil))))) (aRet (aC (.dat (.bool false)))) (aNext))
  (as_law_s168)
def as_law_s165 : AS := aSeq (aAsg (aLst false (aCons (aCall 2 0 sp_is_first_lot (aCons (aVar 12) (aCons (aVar 14) (aNil)))) (aCons (aCall 2 0 sp_is_first_lot (aCons (aVar 12) (aCons (aVar 15) (aNil)))) (aNil)))) (aName 16))
  (as_law_s166)
def as_law_s164 : AS := aSeq (aAsg (aCB aTupleOf (aCons (aCB (aSortedX false) (aCons (aSl false (aCall 2 2 sp__law_mixed (aCons (aVar 1) (aCons (aLr1 false (aVar 6)) (aNil)))) aNoPart (aPart (aOp (aAdd false) (aC (.dat (.int 1))) (aCall 2 2 sp__law_pick (aCons (aVar 1) (aCons (aVar 6) (aNil))))))) (aNil))) (aNil))) (aName 15))
  (as_law_s165)
def as_law_s163 : AS := aSeq (aAsg (aCB aTupleOf (aCons (aCB (aSortedX false) (aCons (aSl false (aVar 8) aNoPart (aPart (aOp (aAdd false) (aC (.dat (.int 1))) (aCall 2 2 sp__law_pick (aCons (aVar 1) (aCons (aVar 6) (aNil))))))) (aNil))) (aNil))) (aName 14))
  (as_law_s164)
def as_law_s162 : AS := aSeq (aAsg (aCall 2 0 sp__law_greatest (aCons (aVar 7) (aCons (aVar 12) (aNil)))) (aName 13))
  (as_law_s163)
def as_law_s161 : AS := aSeq (aAsg (aCB aTupleOf (aCons (aCB (aSortedX false) (aCons (aVar 9) (aNil))) (aNil))) (aName 12))
  (as_law_s162)
def as_law_s158 : AS := aSeq (aFor (aRng1 (aCons (aIf (aTst (aOp aGt (aVar 6) (aC (.dat (.int 1))))) (aCall 2 2 sp__law_pick (aCons (aVar 1) (aCons (aOp (aMul false) (aC (.dat (.int 2))) (aVar 6)) (aNil)))) (aC (.dat (.int 0)))) (aNil))) (aName 4) (as_law_b158))
  (as_law_s161)
def as_law_s157 : AS := aSeq (aAsgL 2 (aCons (aCall 2 2 sp__law_mixed (aCons (aVar 1) (aCons (aLr1 false (aVar 6)) (aNil)))) (aCons (aDNew 1) (aNil))) (aGCons (aName 8) (aGCons (aName 9) (aGNil))))
  (as_law_s158)
def as_law_s156 : AS := aSeq (aAsg (aCall 3 2 sp__law_weighted (aCons (aVar 1) (aCons (aVar 6) (aCons (aCall 2 2 sp__law_of (aCons (aVar 1) (aCons (aLst false (aCons (aC (.dat (.int 3))) (aCons (aC (.dat (.int 9))) (aCons (aOp aPow (aC (.dat (.int 10))) (aC (.dat (.int 8)))) (aNil))))) (aNil)))) (aNil))))) (aName 7))
  (as_law_s157)
def as_law_b154 : AS := aSeq (aAsg (aOp (aAdd false) (aC (.dat (.int 1))) (aCall 2 2 sp__law_pick (aCons (aVar 1) (aCons (aIf (aTst (aOp aEqX (aCall 2 2 sp__law_pick (aCons (aVar 1) (aCons (aC (.dat (.int 6))) (aNil)))) (aC (.dat (.int 0))))) (aC (.dat (.int 9))) (aC (.dat (.int 6)))) (aNil))))) (aName 6))
  (as_law_s156)
def as_law_s200 : AS := aRet (aC (.dat (.bool true)))
def as_law_s154 : AS := aSeq (aFor (aRng1 (aCons (aC (.dat (.int 2))) (aNil))) (aName 5) (as_law_b154))
  (as_law_s200)
def as_law_s153 : AS := aSeq (aAsg (aOp (aAdd false) (aVar 2) (aLst false (aCons (aVar 3) (aCons (aTup (aCons (aC (.dat (.str "more"))) (aCons (aVar 3) (aNil)))) (aCons (aTup (aCons (aC (.dat (.str "more"))) (aCons (aOp (aMul false) (aTup (aCons (aC (.dat (.int 0))) (aNil))) (aC (.dat (.int 900)))) (aNil)))) (aCons (aTup (aCons (aC (.dat (.str "more"))) (aCons (aTup (aCons (aOp aPow (aC (.dat (.int 10))) (aC (.dat (.int 59)))) (aNil))) (aNil)))) (aCons (aOp (aMul false) (aTup (aCons (aC (.dat (.int 0))) (aCons (aC (.dat (.int 1))) (aNil)))) (aC (.dat (.int 400)))) (aCons (aTup (aCons (aC (.dat (.str "Most"))) (aNil))) (aNil))))))))) (aName 2))
  (as_law_s154)
def as_law_s151 : AS := aSeq (aFor (aRng1 (aCons (aC (.dat (.int 36))) (aNil))) (aName 4) (as_law_b151))
  (as_law_s153)
def as_law_s150 : AS := aSeq (aPar [2, 3] (aCons (aOp (aAdd false) (aVar 2) (aLst false (aCons (aTup (aCons (aC (.dat (.str "most"))) (aCons (aC (.dat (.int 0))) (aNil)))) (aCons (aLst false (aCons (aC (.dat (.str "most"))) (aNil))) (aNil))))) (aCons (aC (.dat (.int 1))) (aNil))))
  (as_law_s151)
def as_law_s149 : AS := aSeq (aAsg (aLst false (aCons (aC (.dat .none)) (aCons (aC (.dat (.bool true))) (aCons (aTup (aNil)) (aCons (aC (.dat (.int 0))) (aCons (aUn aNeg (aC (.dat (.int 1)))) (aCons (aC (.dat (.int 99))) (aCons (aC (.dat (.str "most"))) (aCons (aC (.dat (.str "more"))) (aCons (aC (.dat (.str "row"))) (aCons (aC (.dat (.str "sides"))) (aCons (aLst false (aNil)) (aCons (aDNew 2) (aCons (aTup (aCons (aC (.dat (.str "more"))) (aCons (aTup (aNil)) (aNil)))) (aCons (aTup (aCons (aC (.dat (.str "more"))) (aCons (aLst false (aNil)) (aNil)))) (aNil)))))))))))))))) (aName 2))
  (as_law_s150)
def N_law : List Str := ["script", "source", "odd", "deep", "turn", "lap", "n", "jobs", "names", "pairs", "i", "j", "aheads", "best", "lot", "some", "told", "is_more", "due", "lots", "values", "value", "held", "fault", "shapes", "both", "shape", "k", "thing", "m", "a", "one"]
def as_law (K : PySem.W.Frag) : AS := aSeq (aAsg (aCallO 1 (sp__law_open_cells K) (aCons (aVar 0) (aNil))) (aName 1))
  (as_law_s149)
def sp_law (K : PySem.W.Frag) : AL := fun ds M Ψ => ∃ ns : List Int, ds = [.scr K ns] ∧ ns.length ≤ 63 ∧ M = [] ∧ ∀ M', Ψ (.dat (.bool true)) M'
end K17
end

section
set_option Elab.async false
set_option linter.all false
set_option maxRecDepth 100000
set_option maxHeartbeats 0
namespace K17
open PySem PySem.Spec PyProof.Rows L2 AM
def top (i : Nat) : Stmt := PySem.Challenge.pw_jobsinturn_k17_whole_press_papers_and_sh.main.body.getD i (.Pass ⟨0, 0, 0, 0⟩)
/-- no global bears the name of a built-in that is used -/
structure Blt (mg : Str → Option Value) : Prop where
  b_abs : mg "abs" = none
  b_all : mg "all" = none
  b_bool : mg "bool" = none
  b_int : mg "int" = none
  b_isinstance : mg "isinstance" = none
  b_len : mg "len" = none
  b_list : mg "list" = none
  b_range : mg "range" = none
  b_repr : mg "repr" = none
  b_sorted : mg "sorted" = none
  b_str : mg "str" = none
  b_sum : mg "sum" = none
  b_tuple : mg "tuple" = none
  b_zip : mg "zip" = none
section
variable {P : Program} {w : World} {K : PySem.W.Frag} {mg : Str → Option Value} {base : Heap} {f : Addr} {fd : FuncData}
abbrev s_is_number : Stmt := top 1
theorem sc_is_number : FnScope N_is_number ["value"] (defScope s_is_number) := ⟨rfl, rfl, rfl, by decide +kernel, rfl, by decide +kernel, by decide +kernel⟩
theorem w_is_number (F : FunD K "is_number" "is_number" (defArgs s_is_number) (defBody s_is_number) (defScope s_is_number) [] [] f fd) (B : Blt mg)  :
    FnG P w K mg base 1 f fd ["value"] (aBody N_is_number as_is_number) := by
  have hN : N_is_number.Nodup := by decide +kernel
  exact FnG.of (k := 0) F sc_is_number fun cdv A outer s H hr hg => ⟨_, dss_one (d_ret (d_and (d_cb call_isiG B.b_isinstance (da_cons (dv 0) (da_cons (d_ty B.b_int) (da_nil)))) (d_and (d_not (d_cb call_isiG B.b_isinstance (da_cons (dv 0) (da_cons (d_ty B.b_bool) (da_nil))))) (d_one (d_cmp op_geD (dv 0) (d_int))))))⟩
abbrev s_divisor_of : Stmt := top 3
theorem sc_divisor_of : FnScope N_divisor_of ["a", "b"] (defScope s_divisor_of) := ⟨rfl, rfl, rfl, by decide +kernel, rfl, by decide +kernel, by decide +kernel⟩
theorem w_divisor_of (F : FunD K "divisor_of" "divisor_of" (defArgs s_divisor_of) (defBody s_divisor_of) (defScope s_divisor_of) [] [] f fd) (B : Blt mg)  :
    FnG P w K mg base 1 f fd ["a", "b"] (aBody N_divisor_of as_divisor_of) := by
  have hN : N_divisor_of.Nodup := by decide +kernel
  exact FnG.of (k := 0) F sc_divisor_of fun cdv A outer s H hr hg => ⟨_, dss_cons (d_while (d_tcmp op_gtD (dv 1) (d_int)) (dss_one (d_par2 rfl hN (da_cons (dv 1) (da_cons (d_op op_modD (dv 0) (dv 1)) (da_nil))))))
    (dss_one (d_ret (dv 0)))⟩
abbrev s_press_of : Stmt := top 4
theorem sc_press_of : FnScope N_press_of ["jobs", "lot"] (defScope s_press_of) := ⟨rfl, rfl, rfl, by decide +kernel, rfl, by decide +kernel, by decide +kernel⟩
theorem w_press_of (F : FunD K "press_of" "press_of" (defArgs s_press_of) (defBody s_press_of) (defScope s_press_of) [] [] f fd) (B : Blt mg) (C_divisor_of : Cg P w K mg base 1 "divisor_of" 2 sp_divisor_of) :
    FnG P w K mg base 2 f fd ["jobs", "lot"] (aBody N_press_of as_press_of) := by
  have hN : N_press_of.Nodup := by decide +kernel
  exact FnG.of (k := 1) F sc_press_of fun cdv A outer s H hr hg => ⟨_, dss_cons (d_par2 rfl hN (da_cons (d_cb (call_sumG rfl) B.b_sum (da_cons (d_lc (own := [("a", 5)]) rfl hN (di_seq (dv 1)) (by refine blkOk_by ?_; show blkC N_press_of (defScope s_press_of) _ _ = true; decide +kernel) (fun _ _ _ _ _ => dg_name hN) (fun _ _ _ _ _ => dts_nil) (fun _ _ _ _ _ => (d_ix hr (d_ix hr (dv 0) (dv 5)) (d_int)))) (da_nil))) (da_cons (d_cb (call_sumG rfl) B.b_sum (da_cons (d_lc (own := [("a", 5)]) rfl hN (di_seq (dv 1)) (by refine blkOk_by ?_; show blkC N_press_of (defScope s_press_of) _ _ = true; decide +kernel) (fun _ _ _ _ _ => dg_name hN) (fun _ _ _ _ _ => dts_nil) (fun _ _ _ _ _ => (d_ix hr (d_ix hr (dv 0) (dv 5)) (d_int)))) (da_nil))) (da_nil))))
    (dss_cons (d_set (d_cg (n := 0) C_divisor_of (hr.mono (by decide)) hg (da_cons (dv 2) (da_cons (dv 3) (da_nil)))) hN)
    (dss_one (d_ret (d_tup (da_cons (d_op op_fdvD (dv 2) (dv 4)) (da_cons (d_op op_fdvD (dv 3) (dv 4)) (da_nil)))))))⟩
abbrev s_is_press_less : Stmt := top 5
theorem sc_is_press_less : FnScope N_is_press_less ["one", "other"] (defScope s_is_press_less) := ⟨rfl, rfl, rfl, by decide +kernel, rfl, by decide +kernel, by decide +kernel⟩
theorem w_is_press_less (F : FunD K "is_press_less" "is_press_less" (defArgs s_is_press_less) (defBody s_is_press_less) (defScope s_is_press_less) [] [] f fd) (B : Blt mg)  :
    FnG P w K mg base 1 f fd ["one", "other"] (aBody N_is_press_less as_is_press_less) := by
  have hN : N_is_press_less.Nodup := by decide +kernel
  exact FnG.of (k := 0) F sc_is_press_less fun cdv A outer s H hr hg => ⟨_, dss_one (d_ret (d_cmp op_ltD (d_op (op_mulD (n := false)) (d_ix hr (dv 0) (d_int)) (d_ix hr (dv 1) (d_int))) (d_op (op_mulD (n := false)) (d_ix hr (dv 1) (d_int)) (d_ix hr (dv 0) (d_int)))))⟩
abbrev s_is_first_lot : Stmt := top 6
theorem sc_is_first_lot : FnScope N_is_first_lot ["aheads", "lot"] (defScope s_is_first_lot) := ⟨rfl, rfl, rfl, by decide +kernel, rfl, by decide +kernel, by decide +kernel⟩
theorem w_is_first_lot (F : FunD K "is_first_lot" "is_first_lot" (defArgs s_is_first_lot) (defBody s_is_first_lot) (defScope s_is_first_lot) [] [] f fd) (B : Blt mg)  :
    FnG P w K mg base 1 f fd ["aheads", "lot"] (aBody N_is_first_lot as_is_first_lot) := by
  have hN : N_is_first_lot.Nodup := by decide +kernel
  exact FnG.of (k := 0) F sc_is_first_lot fun cdv A outer s H hr hg => ⟨_, dss_one (d_ret (d_and (d_cmp (op_neD' hr) (dv 1) (d_tup (da_nil))) (d_one (d_cb (call_allG rfl) B.b_all (da_cons (d_lc (own := [("a", 2), ("b", 3)]) rfl hN (di_seq (dv 0)) (by refine blkOk_by ?_; show blkC N_is_first_lot (defScope s_is_first_lot) _ _ = true; decide +kernel) (fun _ _ _ _ _ => dg_tup (K := K) rfl rfl (dgs_cons (dg_name hN) (dgs_cons (dg_name hN) (dgs_nil)))) (fun _ _ _ _ _ => dts_one (d_tcmp (op_inX hr) (dv 3) (dv 1))) (fun _ _ _ _ _ => (d_cmp (op_inX hr) (dv 2) (dv 1)))) (da_nil))))))⟩
abbrev s_lots_among : Stmt := top 7
theorem sc_lots_among : FnScope N_lots_among ["some"] (defScope s_lots_among) := ⟨rfl, rfl, rfl, by decide +kernel, rfl, by decide +kernel, by decide +kernel⟩
theorem w_lots_among (F : FunD K "lots_among" "lots_among" (defArgs s_lots_among) (defBody s_lots_among) (defScope s_lots_among) [] [] f fd) (B : Blt mg)  :
    FnG P w K mg base 1 f fd ["some"] (aBody N_lots_among as_lots_among) := by
  have hN : N_lots_among.Nodup := by decide +kernel
  exact FnG.of (k := 0) F sc_lots_among fun cdv A outer s H hr hg => ⟨_, dss_cons (d_set (d_lst (n := true) (da_cons (d_tup (da_nil)) (da_nil))) hN)
    (dss_cons (d_for rfl (di_seq (dv 0)) (dg_name hN) (dss_one (d_expr (d_bm (K := K) rfl PySem.F.slot_list_extend PySem.F.type_list_extend mt_extendG (dv 1) (da_cons (d_lc (own := [("lot", 3)]) rfl hN (di_seq (dv 1)) (by refine blkOk_by ?_; show blkC N_lots_among (defScope s_lots_among) _ _ = true; decide +kernel) (fun _ _ _ _ _ => dg_name hN) (fun _ _ _ _ _ => dts_nil) (fun _ _ _ _ _ => (d_tup (da_star (K := K) rfl (dv 3) (da_cons (dv 2) (da_nil)))))) (da_nil))))))
    (dss_one (d_ret (dv 1))))⟩
abbrev s_greatest_among : Stmt := top 8
theorem sc_greatest_among : FnScope N_greatest_among ["jobs", "some", "aheads"] (defScope s_greatest_among) := ⟨rfl, rfl, rfl, by decide +kernel, rfl, by decide +kernel, by decide +kernel⟩
theorem w_greatest_among (F : FunD K "greatest_among" "greatest_among" (defArgs s_greatest_among) (defBody s_greatest_among) (defScope s_greatest_among) [] [] f fd) (B : Blt mg) (C_lots_among : Cg P w K mg base 1 "lots_among" 1 sp_lots_among) (C_is_first_lot : Cg P w K mg base 1 "is_first_lot" 2 sp_is_first_lot) (C_press_of : Cg P w K mg base 2 "press_of" 2 sp_press_of) (C_is_press_less : Cg P w K mg base 1 "is_press_less" 2 sp_is_press_less) :
    FnG P w K mg base 3 f fd ["jobs", "some", "aheads"] (aBody N_greatest_among as_greatest_among) := by
  have hN : N_greatest_among.Nodup := by decide +kernel
  exact FnG.of (k := 2) F sc_greatest_among fun cdv A outer s H hr hg => ⟨_, dss_cons (d_par2 rfl hN (da_cons (d_lc (own := [("pair", 6)]) rfl hN (di_seq (dv 2)) (by refine blkOk_by ?_; show blkC N_greatest_among (defScope s_greatest_among) _ _ = true; decide +kernel) (fun _ _ _ _ _ => dg_name hN) (fun _ _ _ _ _ => dts_one ((dw_and (d_tcmp (op_inX hr) (d_ix hr (dv 6) (d_int)) (dv 1)) (dw_and1 (d_tcmp (op_inX hr) (d_ix hr (dv 6) (d_int)) (dv 1)))).dt)) (fun _ _ _ _ _ => (dv 6))) (da_cons (d_tup (da_nil)) (da_nil))))
    (dss_cons (d_for rfl (di_seq (d_cg (n := 0) C_lots_among (hr.mono (by decide)) hg (da_cons (dv 1) (da_nil)))) (dg_name hN) (dss_one (d_ifS (d_tval (d_cg (n := 0) C_is_first_lot (hr.mono (by decide)) hg (da_cons (dv 3) (da_cons (dv 5) (da_nil))))) (dss_one (d_ifS ((dw_or (d_tcmp (op_eqX hr) (dv 4) (d_tup (da_nil))) (dw_or1 (d_tval (d_cg (n := 0) C_is_press_less (hr.mono (by decide)) hg (da_cons (d_cg (n := 0) C_press_of (hr.mono (by decide)) hg (da_cons (dv 0) (da_cons (dv 4) (da_nil)))) (da_cons (d_cg (n := 0) C_press_of (hr.mono (by decide)) hg (da_cons (dv 0) (da_cons (dv 5) (da_nil)))) (da_nil))))))).dt) (dss_one (d_set (dv 5) hN)) (dss_one (d_ifS ((dw_and (d_tcmp (op_eqX hr) (d_cg (n := 0) C_press_of (hr.mono (by decide)) hg (da_cons (dv 0) (da_cons (dv 4) (da_nil)))) (d_cg (n := 0) C_press_of (hr.mono (by decide)) hg (da_cons (dv 0) (da_cons (dv 5) (da_nil))))) (dw_and1 (d_tcmp op_gtD (d_cb call_lenG B.b_len (da_cons (dv 5) (da_nil))) (d_cb call_lenG B.b_len (da_cons (dv 4) (da_nil)))))).dt) (dss_one (d_set (dv 5) hN)) (dss_nil))))) (dss_nil))))
    (dss_one (d_ret (dv 4))))⟩
abbrev s_greatest_first_lot : Stmt := top 9
theorem sc_greatest_first_lot : FnScope N_greatest_first_lot ["jobs", "aheads"] (defScope s_greatest_first_lot) := ⟨rfl, rfl, rfl, by decide +kernel, rfl, by decide +kernel, by decide +kernel⟩
theorem w_greatest_first_lot (F : FunD K "greatest_first_lot" "greatest_first_lot" (defArgs s_greatest_first_lot) (defBody s_greatest_first_lot) (defScope s_greatest_first_lot) [] [] f fd) (B : Blt mg) (C_greatest_among : Cg P w K mg base 3 "greatest_among" 3 sp_greatest_among) :
    FnG P w K mg base 4 f fd ["jobs", "aheads"] (aBody N_greatest_first_lot as_greatest_first_lot) := by
  have hN : N_greatest_first_lot.Nodup := by decide +kernel
  exact FnG.of (k := 3) F sc_greatest_first_lot fun cdv A outer s H hr hg => ⟨_, dss_one (d_ret (d_cg (n := 0) C_greatest_among (hr.mono (by decide)) hg (da_cons (dv 0) (da_cons (d_lr1 false rfl B.b_list B.b_range (d_cb call_lenG B.b_len (da_cons (dv 0) (da_nil)))) (da_cons (dv 1) (da_nil))))))⟩
abbrev s_press_paper : Stmt := top 11
theorem sc_press_paper : FnScope N_press_paper ["jobs", "aheads", "lot"] (defScope s_press_paper) := ⟨rfl, rfl, rfl, by decide +kernel, rfl, by decide +kernel, by decide +kernel⟩
theorem w_press_paper (F : FunD K "press_paper" "press_paper" (defArgs s_press_paper) (defBody s_press_paper) (defScope s_press_paper) [] [] f fd) (B : Blt mg) (C_greatest_first_lot : Cg P w K mg base 4 "greatest_first_lot" 2 sp_greatest_first_lot) (C_press_of : Cg P w K mg base 2 "press_of" 2 sp_press_of) (C_is_press_less : Cg P w K mg base 1 "is_press_less" 2 sp_is_press_less) :
    FnG P w K mg base 5 f fd ["jobs", "aheads", "lot"] (aBody N_press_paper as_press_paper) := by
  have hN : N_press_paper.Nodup := by decide +kernel
  exact FnG.of (k := 4) F sc_press_paper fun cdv A outer s H hr hg => ⟨_, dss_cons (d_set (d_cg (n := 0) C_greatest_first_lot (hr.mono (by decide)) hg (da_cons (dv 0) (da_cons (dv 1) (da_nil)))) hN)
    (dss_one (d_ret (d_if (d_tval (d_cg (n := 0) C_is_press_less (hr.mono (by decide)) hg (da_cons (d_cg (n := 0) C_press_of (hr.mono (by decide)) hg (da_cons (dv 0) (da_cons (dv 2) (da_nil)))) (da_cons (d_cg (n := 0) C_press_of (hr.mono (by decide)) hg (da_cons (dv 0) (da_cons (dv 3) (da_nil)))) (da_nil))))) (d_tup (da_cons (d_str) (da_cons (dv 3) (da_nil)))) (d_tup (da_cons (d_str) (da_nil))))))⟩
abbrev s_is_lot_told : Stmt := top 12
theorem sc_is_lot_told : FnScope N_is_lot_told ["n", "value"] (defScope s_is_lot_told) := ⟨rfl, rfl, rfl, by decide +kernel, rfl, by decide +kernel, by decide +kernel⟩
theorem w_is_lot_told (F : FunD K "is_lot_told" "is_lot_told" (defArgs s_is_lot_told) (defBody s_is_lot_told) (defScope s_is_lot_told) [] [] f fd) (B : Blt mg) (C_is_number : Cg P w K mg base 1 "is_number" 1 sp_is_number) :
    FnG P w K mg base 2 f fd ["n", "value"] (aBody N_is_lot_told as_is_lot_told) := by
  have hN : N_is_lot_told.Nodup := by decide +kernel
  exact FnG.of (k := 1) F sc_is_lot_told fun cdv A outer s H hr hg => ⟨_, dss_cons (d_ifS ((dw_or (d_tnot (d_tval (d_cb call_isiG B.b_isinstance (da_cons (dv 1) (da_cons (d_ty B.b_tuple) (da_nil)))))) (dw_or (d_tcmp (op_eqX hr) (dv 1) (d_tup (da_nil))) (dw_or1 (d_tnot (d_tval (d_cb (call_allG rfl) B.b_all (da_cons (d_lc (own := [("a", 2)]) rfl hN (di_seq (dv 1)) (by refine blkOk_by ?_; show blkC N_is_lot_told (defScope s_is_lot_told) _ _ = true; decide +kernel) (fun _ _ _ _ _ => dg_name hN) (fun _ _ _ _ _ => dts_nil) (fun _ _ _ _ _ => (d_and (d_cg (n := 0) C_is_number (hr.mono (by decide)) hg (da_cons (dv 2) (da_nil))) (d_one (d_cmp op_ltD (dv 2) (dv 0)))))) (da_nil)))))))).dt) (dss_one (d_ret (d_bl))) (dss_nil))
    (dss_one (d_ret (d_cb (call_allG rfl) B.b_all (da_cons (d_lc (own := [("a", 2), ("b", 3)]) rfl hN (di_zip B.b_zip (da_cons (dv 1) (da_cons (d_sl (n := false) (dv 1) (do_some (d_int)) do_none) (da_nil)))) (by refine blkOk_by ?_; show blkC N_is_lot_told (defScope s_is_lot_told) _ _ = true; decide +kernel) (fun _ _ _ _ _ => dg_tup (K := K) rfl rfl (dgs_cons (dg_name hN) (dgs_cons (dg_name hN) (dgs_nil)))) (fun _ _ _ _ _ => dts_nil) (fun _ _ _ _ _ => (d_cmp op_ltD (dv 2) (dv 3)))) (da_nil)))))⟩
abbrev s_judge_press : Stmt := top 13
theorem sc_judge_press : FnScope N_judge_press ["jobs", "aheads", "lot", "value"] (defScope s_judge_press) := ⟨rfl, rfl, rfl, by decide +kernel, rfl, by decide +kernel, by decide +kernel⟩
theorem w_judge_press (F : FunD K "judge_press" "judge_press" (defArgs s_judge_press) (defBody s_judge_press) (defScope s_judge_press) [] [] f fd) (B : Blt mg) (C_press_paper : Cg P w K mg base 5 "press_paper" 3 sp_press_paper) (C_is_lot_told : Cg P w K mg base 2 "is_lot_told" 2 sp_is_lot_told) (C_press_of : Cg P w K mg base 2 "press_of" 2 sp_press_of) (C_is_press_less : Cg P w K mg base 1 "is_press_less" 2 sp_is_press_less) :
    FnG P w K mg base 6 f fd ["jobs", "aheads", "lot", "value"] (aBody N_judge_press as_judge_press) := by
  have hN : N_judge_press.Nodup := by decide +kernel
  exact FnG.of (k := 5) F sc_judge_press fun cdv A outer s H hr hg => ⟨_, dss_cons (d_ifS ((dw_or (d_tnot (d_tval (d_cb call_isiG B.b_isinstance (da_cons (dv 3) (da_cons (d_ty B.b_tuple) (da_nil)))))) (dw_or (d_tcmp (op_eqX hr) (dv 3) (d_tup (da_nil))) (dw_or1 (d_tnot (d_tval (d_cb call_isiG B.b_isinstance (da_cons (d_ix hr (dv 3) (d_int)) (da_cons (d_ty B.b_str) (da_nil))))))))).dt) (dss_one (d_ret (d_tup (da_cons (d_str) (da_nil))))) (dss_nil))
    (dss_cons (d_ifS (d_tcmp (op_eqX hr) (dv 3) (d_tup (da_cons (d_str) (da_nil)))) (dss_cons (d_set (d_cg (n := 0) C_press_paper (hr.mono (by decide)) hg (da_cons (dv 0) (da_cons (dv 1) (da_cons (dv 2) (da_nil))))) hN)
    (dss_one (d_ret (d_if (d_tcmp (op_eqX hr) (dv 4) (dv 3)) (d_non) (dv 4))))) (dss_nil))
    (dss_cons (d_ifS ((dw_or (d_tcmp (op_neD' hr) (d_ix hr (dv 3) (d_int)) (d_str)) (dw_or (d_tcmp (op_neD' hr) (d_cb call_lenG B.b_len (da_cons (dv 3) (da_nil))) (d_int)) (dw_or1 (d_tnot (d_tval (d_cg (n := 0) C_is_lot_told (hr.mono (by decide)) hg (da_cons (d_cb call_lenG B.b_len (da_cons (dv 0) (da_nil))) (da_cons (d_ix hr (dv 3) (d_int)) (da_nil))))))))).dt) (dss_one (d_ret (d_tup (da_cons (d_str) (da_nil))))) (dss_nil))
    (dss_cons (d_setLc (i := 5) (own := [("a", 7), ("b", 8)]) rfl hN rfl rfl (di_seq (dv 1)) (by refine blkOk_by ?_; show blkC N_judge_press (defScope s_judge_press) _ _ = true; decide +kernel) (fun _ _ _ _ _ => dg_tup (K := K) rfl rfl (dgs_cons (dg_name hN) (dgs_cons (dg_name hN) (dgs_nil)))) (fun _ _ _ _ _ => dts_one ((dw_and (d_tcmp (op_inX hr) (dv 8) (d_ix hr (dv 3) (d_int))) (dw_and1 (d_tcmp (op_notInG hr) (dv 7) (d_ix hr (dv 3) (d_int))))).dt)) (fun _ _ _ _ _ => (d_tup (da_cons (dv 7) (da_cons (dv 8) (da_nil))))))
    (dss_cons (d_ifS (d_tcmp (op_neD' hr) (dv 5) (d_lst (n := false) (da_nil))) (dss_one (d_ret (d_tup (da_cons (d_str) (da_star (K := K) rfl (d_ix hr (dv 5) (d_int)) (da_nil)))))) (dss_nil))
    (dss_cons (d_set (d_cg (n := 0) C_press_of (hr.mono (by decide)) hg (da_cons (dv 0) (da_cons (d_ix hr (dv 3) (d_int)) (da_nil)))) hN)
    (dss_one (d_ret (d_if (d_tval (d_cg (n := 0) C_is_press_less (hr.mono (by decide)) hg (da_cons (d_cg (n := 0) C_press_of (hr.mono (by decide)) hg (da_cons (dv 0) (da_cons (dv 2) (da_nil)))) (da_cons (dv 6) (da_nil))))) (d_non) (d_tup (da_cons (d_str) (da_cons (dv 6) (da_nil))))))))))))⟩
abbrev s_is_shape : Stmt := top 15
theorem sc_is_shape : FnScope N_is_shape ["n", "value"] (defScope s_is_shape) := ⟨rfl, rfl, rfl, by decide +kernel, rfl, by decide +kernel, by decide +kernel⟩
theorem w_is_shape (F : FunD K "is_shape" "is_shape" (defArgs s_is_shape) (defBody s_is_shape) (defScope s_is_shape) [] [] f fd) (B : Blt mg) (C_is_number : Cg P w K mg base 1 "is_number" 1 sp_is_number) :
    FnG P w K mg base 2 f fd ["n", "value"] (aBody N_is_shape as_is_shape) := by
  have hN : N_is_shape.Nodup := by decide +kernel
  exact FnG.of (k := 1) F sc_is_shape fun cdv A outer s H hr hg => ⟨_, dss_cons (d_ifS (d_tnot (d_tval (d_cb call_isiG B.b_isinstance (da_cons (dv 1) (da_cons (d_ty B.b_tuple) (da_nil)))))) (dss_one (d_ret (d_bl))) (dss_nil))
    (dss_cons (d_par2 rfl hN (da_cons (d_int) (da_cons (d_lst (n := true) (da_nil)) (da_nil))))
    (dss_cons (d_for rfl (di_seq (dv 1)) (dg_name hN) (dss_one (d_ifS (d_tval (d_cg (n := 0) C_is_number (hr.mono (by decide)) hg (da_cons (dv 4) (da_nil)))) (dss_cons (d_set (d_op (op_addD (n := false)) (dv 2) (d_int)) hN)
    (dss_one (d_expr (d_bm (K := K) rfl PySem.F.slot_list_append PySem.F.type_list_append mt_appendG (dv 3) (da_cons (dv 4) (da_nil)))))) (dss_one (d_ifS ((dw_and (d_tval (d_cb call_isiG B.b_isinstance (da_cons (dv 4) (da_cons (d_ty B.b_str) (da_nil))))) (dw_and (d_tcmp (op_inX hr) (dv 4) (d_tup (da_cons (d_str) (da_cons (d_str) (da_nil))))) (dw_and1 (d_tcmp op_gtD (dv 2) (d_int))))).dt) (dss_one (d_set (d_op op_subD (dv 2) (d_int)) hN)) (dss_one (d_ret (d_bl))))))))
    (dss_one (d_ret (d_and (d_cmp (op_eqX hr) (dv 2) (d_int)) (d_one (d_cmp (op_eqX hr) (d_cb (call_sortedX (n := false) rfl hr) B.b_sorted (da_cons (dv 3) (da_nil))) (d_lr1 false rfl B.b_list B.b_range (dv 0)))))))))⟩
abbrev s__law_open_cells : Stmt := top 17
theorem sc__law_open_cells : FnScope N__law_open_cells ["script"] (defScope s__law_open_cells) := ⟨rfl, rfl, rfl, by decide +kernel, rfl, by decide +kernel, by decide +kernel⟩
theorem w__law_open_cells (F : FunD K "_law_open_cells" "_law_open_cells" (defArgs s__law_open_cells) (defBody s__law_open_cells) (defScope s__law_open_cells) [] [] f fd) (B : Blt mg)  :
    FnG P w K mg base 1 f fd ["script"] (aBody N__law_open_cells (as__law_open_cells K)) := by
  have hN : N__law_open_cells.Nodup := by decide +kernel
  exact FnG.of (k := 0) F sc__law_open_cells fun cdv A outer s H hr hg => ⟨_, dss_cons (d_set (d_int) hN)
    (dss_cons (d_for rfl (di_scr (dv 0)) (dg_name hN) (dss_one (d_set (d_op op_modD (d_ct call_intG B.b_int (da_cons (d_op (op_addD (n := false)) (d_op (op_addD (n := false)) (d_op (op_mulD (n := false)) (dv 1) (d_int)) (d_op (op_mulD (n := false)) (dv 2) (d_int))) (d_int)) (da_nil))) (d_int)) hN)))
    (dss_cons (d_setLc (i := 3) (own := [("cell", 2)]) rfl hN rfl rfl (di_scr (dv 0)) (by refine blkOk_by ?_; show blkC N__law_open_cells (defScope s__law_open_cells) _ _ = true; decide +kernel) (fun _ _ _ _ _ => dg_name hN) (fun _ _ _ _ _ => dts_nil) (fun _ _ _ _ _ => (d_cb call_absG B.b_abs (da_cons (dv 2) (da_nil)))))
    (dss_one (d_ret (d_disp (dp_cons (d_str) (d_rev (K := K) rfl true (dv 3)) (dp_cons (d_str) (d_int) (dp_cons (d_str) (dv 1) (dp_cons (d_str) (d_int) (dp_nil))))))))))⟩
abbrev s__law_pick : Stmt := top 18
theorem sc__law_pick : FnScope N__law_pick ["source", "most"] (defScope s__law_pick) := ⟨rfl, rfl, rfl, by decide +kernel, rfl, by decide +kernel, by decide +kernel⟩
theorem w__law_pick (F : FunD K "_law_pick" "_law_pick" (defArgs s__law_pick) (defBody s__law_pick) (defScope s__law_pick) [] [] f fd) (B : Blt mg)  :
    FnG P w K mg base 1 f fd ["source", "most"] (aBody N__law_pick as__law_pick) := by
  have hN : N__law_pick.Nodup := by decide +kernel
  exact FnG.of (k := 0) F sc__law_pick fun cdv A outer s H hr hg => ⟨_, dss_cons (d_ifS (d_tcmp op_ltD (dv 1) (d_int)) (dss_one (d_ret (d_int))) (dss_nil))
    (dss_cons (d_set (d_ix hr (dv 0) (d_str)) hN)
    (dss_cons (d_while ((dw_and (d_tcmp op_ltD (d_ix hr (dv 0) (d_str)) (d_int)) (dw_and1 (d_tcmp op_gtD (d_cb call_lenG B.b_len (da_cons (dv 2) (da_nil))) (d_int)))).dt) (dss_one (d_dput hr (d_bm0 (K := K) rfl PySem.F.slot_list_pop PySem.F.type_list_pop mt_popG (dv 2)) (dv 0) (d_str))))
    (dss_cons (d_set (d_ix hr (dv 0) (d_str)) hN)
    (dss_cons (d_ifS (d_tcmp op_gtD (dv 3) (d_int)) (dss_cons (d_dput hr (d_op op_fdvD (dv 3) (dv 1)) (dv 0) (d_str))
    (dss_one (d_ret (d_op op_modD (d_ct call_intG B.b_int (da_cons (dv 3) (da_nil))) (dv 1))))) (dss_nil))
    (dss_cons (d_dput hr (d_op (op_addD (n := false)) (d_ix hr (dv 0) (d_str)) (d_int)) (dv 0) (d_str))
    (dss_cons (d_set (d_ix hr (dv 0) (d_str)) hN)
    (dss_cons (d_set (d_op op_modD (d_ct call_intG B.b_int (da_cons (d_op (op_addD (n := false)) (d_ix hr (dv 0) (d_str)) (d_op (op_mulD (n := false)) (dv 4) (d_int))) (da_nil))) (d_int)) hN)
    (dss_cons (d_set (d_op op_modD (d_ct call_intG B.b_int (da_cons (d_op (op_addD (n := false)) (d_op (op_mulD (n := false)) (dv 5) (dv 5)) (d_op (op_mulD (n := false)) (dv 4) (d_int))) (da_nil))) (d_int)) hN)
    (dss_one (d_ret (d_op op_modD (d_ct call_intG B.b_int (da_cons (d_op op_fdvD (dv 5) (d_int)) (da_nil))) (dv 1))))))))))))⟩
abbrev s__law_of : Stmt := top 19
theorem sc__law_of : FnScope N__law_of ["source", "some"] (defScope s__law_of) := ⟨rfl, rfl, rfl, by decide +kernel, rfl, by decide +kernel, by decide +kernel⟩
theorem w__law_of (F : FunD K "_law_of" "_law_of" (defArgs s__law_of) (defBody s__law_of) (defScope s__law_of) [] [] f fd) (B : Blt mg) (C__law_pick : Cg P w K mg base 1 "_law_pick" 2 sp__law_pick) :
    FnG P w K mg base 2 f fd ["source", "some"] (aBody N__law_of as__law_of) := by
  have hN : N__law_of.Nodup := by decide +kernel
  exact FnG.of (k := 1) F sc__law_of fun cdv A outer s H hr hg => ⟨_, dss_one (d_ret (d_ix hr (dv 1) (d_cg (n := 2) C__law_pick (hr.mono (by decide)) hg (da_cons (dv 0) (da_cons (d_cb call_lenG B.b_len (da_cons (dv 1) (da_nil))) (da_nil))))))⟩
abbrev s__law_mixed : Stmt := top 20
theorem sc__law_mixed : FnScope N__law_mixed ["source", "things"] (defScope s__law_mixed) := ⟨rfl, rfl, rfl, by decide +kernel, rfl, by decide +kernel, by decide +kernel⟩
theorem w__law_mixed (F : FunD K "_law_mixed" "_law_mixed" (defArgs s__law_mixed) (defBody s__law_mixed) (defScope s__law_mixed) [] [] f fd) (B : Blt mg) (C__law_pick : Cg P w K mg base 1 "_law_pick" 2 sp__law_pick) :
    FnG P w K mg base 2 f fd ["source", "things"] (aBody N__law_mixed as__law_mixed) := by
  have hN : N__law_mixed.Nodup := by decide +kernel
  exact FnG.of (k := 1) F sc__law_mixed fun cdv A outer s H hr hg => ⟨_, dss_cons (d_set (d_ct (call_listG (n := true)) B.b_list (da_cons (dv 1) (da_nil))) hN)
    (dss_one (d_ret (d_lc (own := [("lap", 3)]) rfl hN (di_rng1 B.b_range (da_cons (d_cb call_lenG B.b_len (da_cons (dv 2) (da_nil))) (da_nil))) (by refine blkOk_by ?_; show blkC N__law_mixed (defScope s__law_mixed) _ _ = true; decide +kernel) (fun _ _ _ _ _ => dg_name hN) (fun _ _ _ _ _ => dts_nil) (fun _ _ _ _ _ => (d_bm (K := K) rfl PySem.F.slot_list_pop PySem.F.type_list_pop mt_popG (dv 2) (da_cons (d_cg (n := 2) C__law_pick (hr.mono (by decide)) hg (da_cons (dv 0) (da_cons (d_cb call_lenG B.b_len (da_cons (dv 2) (da_nil))) (da_nil)))) (da_nil)))))))⟩
abbrev s__law_is_int : Stmt := top 21
theorem sc__law_is_int : FnScope N__law_is_int ["value"] (defScope s__law_is_int) := ⟨rfl, rfl, rfl, by decide +kernel, rfl, by decide +kernel, by decide +kernel⟩
theorem w__law_is_int (F : FunD K "_law_is_int" "_law_is_int" (defArgs s__law_is_int) (defBody s__law_is_int) (defScope s__law_is_int) [] [] f fd) (B : Blt mg)  :
    FnG P w K mg base 1 f fd ["value"] (aBody N__law_is_int as__law_is_int) := by
  have hN : N__law_is_int.Nodup := by decide +kernel
  exact FnG.of (k := 0) F sc__law_is_int fun cdv A outer s H hr hg => ⟨_, dss_one (d_ret (d_and (d_cb call_isiG B.b_isinstance (da_cons (dv 0) (da_cons (d_ty B.b_int) (da_nil)))) (d_one (d_not (d_cb call_isiG B.b_isinstance (da_cons (dv 0) (da_cons (d_ty B.b_bool) (da_nil))))))))⟩
abbrev s__law_weighted : Stmt := top 22
theorem sc__law_weighted : FnScope N__law_weighted ["source", "n", "most"] (defScope s__law_weighted) := ⟨rfl, rfl, rfl, by decide +kernel, rfl, by decide +kernel, by decide +kernel⟩
theorem w__law_weighted (F : FunD K "_law_weighted" "_law_weighted" (defArgs s__law_weighted) (defBody s__law_weighted) (defScope s__law_weighted) [] [] f fd) (B : Blt mg) (C__law_pick : Cg P w K mg base 1 "_law_pick" 2 sp__law_pick) :
    FnG P w K mg base 2 f fd ["source", "n", "most"] (aBody N__law_weighted as__law_weighted) := by
  have hN : N__law_weighted.Nodup := by decide +kernel
  exact FnG.of (k := 1) F sc__law_weighted fun cdv A outer s H hr hg => ⟨_, dss_one (d_ret (d_ct call_tupleG B.b_tuple (da_cons (d_lc (own := [("turn", 3)]) rfl hN (di_rng1 B.b_range (da_cons (dv 1) (da_nil))) (by refine blkOk_by ?_; show blkC N__law_weighted (defScope s__law_weighted) _ _ = true; decide +kernel) (fun _ _ _ _ _ => dg_name hN) (fun _ _ _ _ _ => dts_nil) (fun _ _ _ _ _ => (d_tup (da_cons (d_op (op_addD (n := false)) (d_int) (d_cg (n := 2) C__law_pick (hr.mono (by decide)) hg (da_cons (dv 0) (da_cons (dv 2) (da_nil))))) (da_cons (d_op (op_addD (n := false)) (d_int) (d_cg (n := 2) C__law_pick (hr.mono (by decide)) hg (da_cons (dv 0) (da_cons (dv 2) (da_nil))))) (da_nil)))))) (da_nil))))⟩
abbrev s__law_press : Stmt := top 23
theorem sc__law_press : FnScope N__law_press ["jobs", "lot"] (defScope s__law_press) := ⟨rfl, rfl, rfl, by decide +kernel, rfl, by decide +kernel, by decide +kernel⟩
theorem w__law_press (F : FunD K "_law_press" "_law_press" (defArgs s__law_press) (defBody s__law_press) (defScope s__law_press) [] [] f fd) (B : Blt mg)  :
    FnG P w K mg base 1 f fd ["jobs", "lot"] (aBody N__law_press as__law_press) := by
  have hN : N__law_press.Nodup := by decide +kernel
  exact FnG.of (k := 0) F sc__law_press fun cdv A outer s H hr hg => ⟨_, dss_cons (d_par2 rfl hN (da_cons (d_cb (call_sumG rfl) B.b_sum (da_cons (d_lc (own := [("a", 4)]) rfl hN (di_seq (dv 1)) (by refine blkOk_by ?_; show blkC N__law_press (defScope s__law_press) _ _ = true; decide +kernel) (fun _ _ _ _ _ => dg_name hN) (fun _ _ _ _ _ => dts_nil) (fun _ _ _ _ _ => (d_ix hr (d_ix hr (dv 0) (dv 4)) (d_int)))) (da_nil))) (da_cons (d_cb (call_sumG rfl) B.b_sum (da_cons (d_lc (own := [("a", 4)]) rfl hN (di_seq (dv 1)) (by refine blkOk_by ?_; show blkC N__law_press (defScope s__law_press) _ _ = true; decide +kernel) (fun _ _ _ _ _ => dg_name hN) (fun _ _ _ _ _ => dts_nil) (fun _ _ _ _ _ => (d_ix hr (d_ix hr (dv 0) (dv 4)) (d_int)))) (da_nil))) (da_nil))))
    (dss_cons (d_par2 rfl hN (da_cons (dv 2) (da_cons (dv 3) (da_nil))))
    (dss_cons (d_while (d_tcmp op_gtD (dv 5) (d_int)) (dss_one (d_par2 rfl hN (da_cons (dv 5) (da_cons (d_op op_modD (d_ct call_intG B.b_int (da_cons (dv 4) (da_nil))) (dv 5)) (da_nil))))))
    (dss_one (d_ret (d_tup (da_cons (d_op op_fdvD (dv 2) (dv 4)) (da_cons (d_op op_fdvD (dv 3) (dv 4)) (da_nil))))))))⟩
abbrev s__law_is_less : Stmt := top 24
theorem sc__law_is_less : FnScope N__law_is_less ["one", "other"] (defScope s__law_is_less) := ⟨rfl, rfl, rfl, by decide +kernel, rfl, by decide +kernel, by decide +kernel⟩
theorem w__law_is_less (F : FunD K "_law_is_less" "_law_is_less" (defArgs s__law_is_less) (defBody s__law_is_less) (defScope s__law_is_less) [] [] f fd) (B : Blt mg)  :
    FnG P w K mg base 1 f fd ["one", "other"] (aBody N__law_is_less as__law_is_less) := by
  have hN : N__law_is_less.Nodup := by decide +kernel
  exact FnG.of (k := 0) F sc__law_is_less fun cdv A outer s H hr hg => ⟨_, dss_one (d_ret (d_cmp op_ltD (d_op (op_mulD (n := false)) (d_ix hr (dv 0) (d_int)) (d_ix hr (dv 1) (d_int))) (d_op (op_mulD (n := false)) (d_ix hr (dv 1) (d_int)) (d_ix hr (dv 0) (d_int)))))⟩
abbrev s__law_is_first : Stmt := top 25
theorem sc__law_is_first : FnScope N__law_is_first ["aheads", "lot"] (defScope s__law_is_first) := ⟨rfl, rfl, rfl, by decide +kernel, rfl, by decide +kernel, by decide +kernel⟩
theorem w__law_is_first (F : FunD K "_law_is_first" "_law_is_first" (defArgs s__law_is_first) (defBody s__law_is_first) (defScope s__law_is_first) [] [] f fd) (B : Blt mg)  :
    FnG P w K mg base 1 f fd ["aheads", "lot"] (aBody N__law_is_first as__law_is_first) := by
  have hN : N__law_is_first.Nodup := by decide +kernel
  exact FnG.of (k := 0) F sc__law_is_first fun cdv A outer s H hr hg => ⟨_, dss_one (d_ret (d_and (d_cmp (op_neD' hr) (dv 1) (d_tup (da_nil))) (d_one (d_cmp (op_eqX hr) (d_lc (own := [("a", 2), ("b", 3)]) rfl hN (di_seq (dv 0)) (by refine blkOk_by ?_; show blkC N__law_is_first (defScope s__law_is_first) _ _ = true; decide +kernel) (fun _ _ _ _ _ => dg_tup (K := K) rfl rfl (dgs_cons (dg_name hN) (dgs_cons (dg_name hN) (dgs_nil)))) (fun _ _ _ _ _ => dts_one ((dw_and (d_tcmp (op_inX hr) (dv 3) (dv 1)) (dw_and1 (d_tcmp (op_notInG hr) (dv 2) (dv 1)))).dt)) (fun _ _ _ _ _ => (d_int))) (d_lst (n := false) (da_nil))))))⟩
abbrev s__law_greatest : Stmt := top 26
theorem sc__law_greatest : FnScope N__law_greatest ["jobs", "aheads"] (defScope s__law_greatest) := ⟨rfl, rfl, rfl, by decide +kernel, rfl, by decide +kernel, by decide +kernel⟩
theorem w__law_greatest (F : FunD K "_law_greatest" "_law_greatest" (defArgs s__law_greatest) (defBody s__law_greatest) (defScope s__law_greatest) [] [] f fd) (B : Blt mg) (C__law_is_first : Cg P w K mg base 1 "_law_is_first" 2 sp__law_is_first) (C__law_press : Cg P w K mg base 1 "_law_press" 2 sp__law_press) (C__law_is_less : Cg P w K mg base 1 "_law_is_less" 2 sp__law_is_less) :
    FnG P w K mg base 2 f fd ["jobs", "aheads"] (aBody N__law_greatest as__law_greatest) := by
  have hN : N__law_greatest.Nodup := by decide +kernel
  exact FnG.of (k := 1) F sc__law_greatest fun cdv A outer s H hr hg => ⟨_, dss_cons (d_par2 rfl hN (da_cons (d_lst (n := false) (da_cons (d_tup (da_nil)) (da_nil))) (da_cons (d_non) (da_nil))))
    (dss_cons (d_for rfl (di_rng1 B.b_range (da_cons (d_cb call_lenG B.b_len (da_cons (dv 0) (da_nil))) (da_nil))) (dg_name hN) (dss_one (d_set (d_op (op_addD (n := false)) (dv 2) (d_lc (own := [("lot", 5)]) rfl hN (di_seq (dv 2)) (by refine blkOk_by ?_; show blkC N__law_greatest (defScope s__law_greatest) _ _ = true; decide +kernel) (fun _ _ _ _ _ => dg_name hN) (fun _ _ _ _ _ => dts_nil) (fun _ _ _ _ _ => (d_op (op_addD (n := false)) (dv 5) (d_tup (da_cons (dv 4) (da_nil))))))) hN)))
    (dss_cons (d_for rfl (di_seq (d_sl (n := false) (dv 2) (do_some (d_int)) do_none)) (dg_name hN) (dss_one (d_ifS (d_tval (d_cg (n := 0) C__law_is_first (hr.mono (by decide)) hg (da_cons (dv 1) (da_cons (dv 5) (da_nil))))) (dss_cons (d_set (d_cg (n := 0) C__law_press (hr.mono (by decide)) hg (da_cons (dv 0) (da_cons (dv 5) (da_nil)))) hN)
    (dss_cons (d_set (d_or (d_cmp op_isG (dv 3) (d_non)) (d_one (d_cg (n := 0) C__law_is_less (hr.mono (by decide)) hg (da_cons (d_ix hr (dv 3) (d_int)) (da_cons (dv 6) (da_nil)))))) hN)
    (dss_one (d_ifS ((dw_or (d_tval (dv 7)) (dw_or1 ((dw_and (d_tcmp (op_eqX hr) (dv 6) (d_ix hr (dv 3) (d_int))) (dw_and1 (d_tcmp op_gtD (d_cb call_lenG B.b_len (da_cons (dv 5) (da_nil))) (d_cb call_lenG B.b_len (da_cons (d_ix hr (dv 3) (d_int)) (da_nil)))))).dt))).dt) (dss_one (d_set (d_tup (da_cons (dv 6) (da_cons (dv 5) (da_nil)))) hN)) (dss_nil))))) (dss_nil))))
    (dss_one (d_ret (d_ix hr (dv 3) (d_int))))))⟩
abbrev s__law_fault : Stmt := top 27
theorem sc__law_fault : FnScope N__law_fault ["jobs", "aheads", "lot", "due", "value"] (defScope s__law_fault) := ⟨rfl, rfl, rfl, by decide +kernel, rfl, by decide +kernel, by decide +kernel⟩
theorem w__law_fault (F : FunD K "_law_fault" "_law_fault" (defArgs s__law_fault) (defBody s__law_fault) (defScope s__law_fault) [] [] f fd) (B : Blt mg) (C__law_is_int : Cg P w K mg base 1 "_law_is_int" 1 sp__law_is_int) (C__law_press : Cg P w K mg base 1 "_law_press" 2 sp__law_press) (C__law_is_less : Cg P w K mg base 1 "_law_is_less" 2 sp__law_is_less) :
    FnG P w K mg base 2 f fd ["jobs", "aheads", "lot", "due", "value"] (aBody N__law_fault as__law_fault) := by
  have hN : N__law_fault.Nodup := by decide +kernel
  exact FnG.of (k := 1) F sc__law_fault fun cdv A outer s H hr hg => ⟨_, dss_cons (d_ifS ((dw_and (d_tcmp (op_eqX hr) (dv 4) (d_tup (da_cons (d_str) (da_nil)))) (dw_and1 (d_tval (d_cb call_isiG B.b_isinstance (da_cons (dv 4) (da_cons (d_ty B.b_tuple) (da_nil))))))).dt) (dss_one (d_ret (d_if (d_tcmp (op_eqX hr) (dv 3) (d_tup (da_cons (d_str) (da_nil)))) (d_non) (dv 3)))) (dss_nil))
    (dss_cons (d_ifS ((dw_or (d_tnot (d_tval (d_cb call_isiG B.b_isinstance (da_cons (dv 4) (da_cons (d_ty B.b_tuple) (da_nil)))))) (dw_or (d_tcmp (op_neD' hr) (d_cb call_lenG B.b_len (da_cons (dv 4) (da_nil))) (d_int)) (dw_or1 (d_tcmp (op_neD' hr) (d_ix hr (dv 4) (d_int)) (d_str))))).dt) (dss_one (d_ret (d_tup (da_cons (d_str) (da_nil))))) (dss_nil))
    (dss_cons (d_set (d_ix hr (dv 4) (d_int)) hN)
    (dss_cons (d_ifS ((dw_or (d_tnot (d_tval (d_cb call_isiG B.b_isinstance (da_cons (dv 5) (da_cons (d_ty B.b_tuple) (da_nil)))))) (dw_or (d_tcmp (op_eqX hr) (dv 5) (d_tup (da_nil))) (dw_or1 (d_tcmp (op_neD' hr) (d_lc (own := [("x", 8)]) rfl hN (di_seq (dv 5)) (by refine blkOk_by ?_; show blkC N__law_fault (defScope s__law_fault) _ _ = true; decide +kernel) (fun _ _ _ _ _ => dg_name hN) (fun _ _ _ _ _ => dts_one (d_tnot (d_tval (d_cg (n := 0) C__law_is_int (hr.mono (by decide)) hg (da_cons (dv 8) (da_nil)))))) (fun _ _ _ _ _ => (dv 8))) (d_lst (n := false) (da_nil)))))).dt) (dss_one (d_ret (d_tup (da_cons (d_str) (da_nil))))) (dss_nil))
    (dss_cons (d_ifS ((dw_or (d_tcmp (op_neD' hr) (d_lc (own := [("x", 8)]) rfl hN (di_seq (dv 5)) (by refine blkOk_by ?_; show blkC N__law_fault (defScope s__law_fault) _ _ = true; decide +kernel) (fun _ _ _ _ _ => dg_name hN) (fun _ _ _ _ _ => dts_one (d_tnot (d_tchain op_leD op_ltD (d_int) (dv 8) (d_cb call_lenG B.b_len (da_cons (dv 0) (da_nil)))))) (fun _ _ _ _ _ => (dv 8))) (d_lst (n := false) (da_nil))) (dw_or1 (d_tcmp (op_neD' hr) (d_lc (own := [("a", 9), ("b", 10)]) rfl hN (di_zip B.b_zip (da_cons (dv 5) (da_cons (d_sl (n := false) (dv 5) (do_some (d_int)) do_none) (da_nil)))) (by refine blkOk_by ?_; show blkC N__law_fault (defScope s__law_fault) _ _ = true; decide +kernel) (fun _ _ _ _ _ => dg_tup (K := K) rfl rfl (dgs_cons (dg_name hN) (dgs_cons (dg_name hN) (dgs_nil)))) (fun _ _ _ _ _ => dts_one (d_tcmp op_geD (dv 9) (dv 10))) (fun _ _ _ _ _ => (d_int))) (d_lst (n := false) (da_nil))))).dt) (dss_one (d_ret (d_tup (da_cons (d_str) (da_nil))))) (dss_nil))
    (dss_cons (d_set (d_cb (call_sortedX (n := false) rfl hr) B.b_sorted (da_cons (d_lc (own := [("a", 9), ("b", 10)]) rfl hN (di_seq (dv 1)) (by refine blkOk_by ?_; show blkC N__law_fault (defScope s__law_fault) _ _ = true; decide +kernel) (fun _ _ _ _ _ => dg_tup (K := K) rfl rfl (dgs_cons (dg_name hN) (dgs_cons (dg_name hN) (dgs_nil)))) (fun _ _ _ _ _ => dts_one ((dw_and (d_tcmp (op_inX hr) (dv 10) (dv 5)) (dw_and1 (d_tcmp (op_notInG hr) (dv 9) (dv 5)))).dt)) (fun _ _ _ _ _ => (d_tup (da_cons (dv 9) (da_cons (dv 10) (da_nil)))))) (da_nil))) hN)
    (dss_cons (d_ifS (d_tcmp (op_neD' hr) (dv 6) (d_lst (n := false) (da_nil))) (dss_one (d_ret (d_op (op_addD (n := false)) (d_tup (da_cons (d_str) (da_nil))) (d_ix hr (dv 6) (d_int))))) (dss_nil))
    (dss_cons (d_set (d_cg (n := 0) C__law_press (hr.mono (by decide)) hg (da_cons (dv 0) (da_cons (dv 5) (da_nil)))) hN)
    (dss_one (d_ret (d_if (d_tnot (d_tval (d_cg (n := 0) C__law_is_less (hr.mono (by decide)) hg (da_cons (d_cg (n := 0) C__law_press (hr.mono (by decide)) hg (da_cons (dv 0) (da_cons (dv 2) (da_nil)))) (da_cons (dv 7) (da_nil)))))) (d_tup (da_cons (d_str) (da_cons (dv 7) (da_nil)))) (d_non)))))))))))⟩
abbrev s__law_is_shape : Stmt := top 28
theorem sc__law_is_shape : FnScope N__law_is_shape ["n", "value"] (defScope s__law_is_shape) := ⟨rfl, rfl, rfl, by decide +kernel, rfl, by decide +kernel, by decide +kernel⟩
theorem w__law_is_shape (F : FunD K "_law_is_shape" "_law_is_shape" (defArgs s__law_is_shape) (defBody s__law_is_shape) (defScope s__law_is_shape) [] [] f fd) (B : Blt mg) (C__law_is_int : Cg P w K mg base 1 "_law_is_int" 1 sp__law_is_int) :
    FnG P w K mg base 2 f fd ["n", "value"] (aBody N__law_is_shape as__law_is_shape) := by
  have hN : N__law_is_shape.Nodup := by decide +kernel
  exact FnG.of (k := 1) F sc__law_is_shape fun cdv A outer s H hr hg => ⟨_, dss_cons (d_ifS (d_tnot (d_tval (d_cb call_isiG B.b_isinstance (da_cons (dv 1) (da_cons (d_ty B.b_tuple) (da_nil)))))) (dss_one (d_ret (d_bl))) (dss_nil))
    (dss_cons (d_par2 rfl hN (da_cons (d_int) (da_cons (d_lst (n := false) (da_nil)) (da_nil))))
    (dss_cons (d_for rfl (di_seq (dv 1)) (dg_name hN) (dss_one (d_ifS (d_tval (d_cg (n := 0) C__law_is_int (hr.mono (by decide)) hg (da_cons (dv 4) (da_nil)))) (dss_one (d_par2 rfl hN (da_cons (d_op (op_addD (n := false)) (dv 2) (d_int)) (da_cons (d_op (op_addD (n := false)) (dv 3) (d_lst (n := false) (da_cons (dv 4) (da_nil)))) (da_nil))))) (dss_one (d_ifS ((dw_and (d_tcmp (op_inX hr) (dv 4) (d_tup (da_cons (d_str) (da_cons (d_str) (da_nil))))) (dw_and1 (d_tcmp op_gtD (dv 2) (d_int)))).dt) (dss_one (d_set (d_op op_subD (dv 2) (d_int)) hN)) (dss_one (d_ret (d_bl))))))))
    (dss_one (d_ret (d_and (d_cmp (op_eqX hr) (dv 2) (d_int)) (d_one (d_cmp (op_eqX hr) (d_cb (call_sortedX (n := false) rfl hr) B.b_sorted (da_cons (dv 3) (da_nil))) (d_lr1 false rfl B.b_list B.b_range (dv 0)))))))))⟩
abbrev s_law : Stmt := top 29
theorem sc_law : FnScope N_law ["script"] (defScope s_law) := ⟨rfl, rfl, rfl, by decide +kernel, rfl, by decide +kernel, by decide +kernel⟩
theorem w_law (F : FunD K "law" "law" (defArgs s_law) (defBody s_law) (defScope s_law) [] [] f fd) (B : Blt mg) (C__law_open_cells : Cg P w K mg base 1 "_law_open_cells" 1 (sp__law_open_cells K)) (C__law_pick : Cg P w K mg base 1 "_law_pick" 2 sp__law_pick) (C__law_of : Cg P w K mg base 2 "_law_of" 2 sp__law_of) (C__law_weighted : Cg P w K mg base 2 "_law_weighted" 3 sp__law_weighted) (C__law_mixed : Cg P w K mg base 2 "_law_mixed" 2 sp__law_mixed) (C__law_greatest : Cg P w K mg base 2 "_law_greatest" 2 sp__law_greatest) (C_is_first_lot : Cg P w K mg base 1 "is_first_lot" 2 sp_is_first_lot) (C__law_is_first : Cg P w K mg base 1 "_law_is_first" 2 sp__law_is_first) (C_press_of : Cg P w K mg base 2 "press_of" 2 sp_press_of) (C__law_press : Cg P w K mg base 1 "_law_press" 2 sp__law_press) (C__law_is_less : Cg P w K mg base 1 "_law_is_less" 2 sp__law_is_less) (C_press_paper : Cg P w K mg base 5 "press_paper" 3 sp_press_paper) (C_judge_press : Cg P w K mg base 6 "judge_press" 4 sp_judge_press) (C__law_fault : Cg P w K mg base 2 "_law_fault" 5 sp__law_fault) (C_is_shape : Cg P w K mg base 2 "is_shape" 2 sp_is_shape) (C__law_is_shape : Cg P w K mg base 2 "_law_is_shape" 2 sp__law_is_shape) :
    FnG P w K mg base 7 f fd ["script"] (aBody N_law (as_law K)) := by
  have hN : N_law.Nodup := by decide +kernel
  exact FnG.of (k := 6) F sc_law fun cdv A outer s H hr hg => ⟨_, dss_cons (d_set (d_cgO C__law_open_cells (hr.mono (by decide)) hg (da_cons (dv 0) (da_nil))) hN)
    (dss_cons (d_set (d_lst (n := false) (da_cons (d_non) (da_cons (d_bl) (da_cons (d_tup (da_nil)) (da_cons (d_int) (da_cons (d_un un_negD (d_int)) (da_cons (d_int) (da_cons (d_str) (da_cons (d_str) (da_cons (d_str) (da_cons (d_str) (da_cons (d_lst (n := false) (da_nil)) (da_cons (d_dnewD) (da_cons (d_tup (da_cons (d_str) (da_cons (d_tup (da_nil)) (da_nil)))) (da_cons (d_tup (da_cons (d_str) (da_cons (d_lst (n := false) (da_nil)) (da_nil)))) (da_nil)))))))))))))))) hN)
    (dss_cons (d_par2 rfl hN (da_cons (d_op (op_addD (n := false)) (dv 2) (d_lst (n := false) (da_cons (d_tup (da_cons (d_str) (da_cons (d_int) (da_nil)))) (da_cons (d_lst (n := false) (da_cons (d_str) (da_nil))) (da_nil))))) (da_cons (d_int) (da_nil))))
    (dss_cons (d_for rfl (di_rng1 B.b_range (da_cons (d_int) (da_nil))) (dg_name hN) (dss_one (d_set (d_if (d_tcmp op_gtD (d_cg (n := 2) C__law_pick (hr.mono (by decide)) hg (da_cons (dv 1) (da_cons (d_int) (da_nil)))) (d_int)) (d_tup (da_cons (dv 3) (da_nil))) (d_lst (n := false) (da_cons (dv 3) (da_nil)))) hN)))
    (dss_cons (d_set (d_op (op_addD (n := false)) (dv 2) (d_lst (n := false) (da_cons (dv 3) (da_cons (d_tup (da_cons (d_str) (da_cons (dv 3) (da_nil)))) (da_cons (d_tup (da_cons (d_str) (da_cons (d_op (op_mulD (n := false)) (d_tup (da_cons (d_int) (da_nil))) (d_int)) (da_nil)))) (da_cons (d_tup (da_cons (d_str) (da_cons (d_tup (da_cons (d_op op_powD (d_int) (d_int)) (da_nil))) (da_nil)))) (da_cons (d_op (op_mulD (n := false)) (d_tup (da_cons (d_int) (da_cons (d_int) (da_nil)))) (d_int)) (da_cons (d_tup (da_cons (d_str) (da_nil))) (da_nil))))))))) hN)
    (dss_cons (d_for rfl (di_rng1 B.b_range (da_cons (d_int) (da_nil))) (dg_name hN) (dss_cons (d_set (d_op (op_addD (n := false)) (d_int) (d_cg (n := 2) C__law_pick (hr.mono (by decide)) hg (da_cons (dv 1) (da_cons (d_if (d_tcmp (op_eqX hr) (d_cg (n := 2) C__law_pick (hr.mono (by decide)) hg (da_cons (dv 1) (da_cons (d_int) (da_nil)))) (d_int)) (d_int) (d_int)) (da_nil))))) hN)
    (dss_cons (d_set (d_cg (n := 2) C__law_weighted (hr.mono (by decide)) hg (da_cons (dv 1) (da_cons (dv 6) (da_cons (d_cg (n := 2) C__law_of (hr.mono (by decide)) hg (da_cons (dv 1) (da_cons (d_lst (n := false) (da_cons (d_int) (da_cons (d_int) (da_cons (d_op op_powD (d_int) (d_int)) (da_nil))))) (da_nil)))) (da_nil))))) hN)
    (dss_cons (d_asgL rfl (da_cons (d_cg (n := 2) C__law_mixed (hr.mono (by decide)) hg (da_cons (dv 1) (da_cons (d_lr1 false rfl B.b_list B.b_range (dv 6)) (da_nil)))) (da_cons (d_dnewT) (da_nil))) (dgs_cons (dg_name hN) (dgs_cons (dg_name hN) (dgs_nil))))
    (dss_cons (d_for rfl (di_rng1 B.b_range (da_cons (d_if (d_tcmp op_gtD (dv 6) (d_int)) (d_cg (n := 2) C__law_pick (hr.mono (by decide)) hg (da_cons (dv 1) (da_cons (d_op (op_mulD (n := false)) (d_int) (dv 6)) (da_nil)))) (d_int)) (da_nil))) (dg_name hN) (dss_cons (d_asg (d_cb (call_sortedX (n := false) rfl hr) B.b_sorted (da_cons (d_sl (n := false) (d_cg (n := 2) C__law_mixed (hr.mono (by decide)) hg (da_cons (dv 1) (da_cons (d_lr1 false rfl B.b_list B.b_range (dv 6)) (da_nil)))) do_none (do_some (d_int))) (da_nil))) (dg_tup (K := K) rfl rfl (dgs_cons (dg_name hN) (dgs_cons (dg_name hN) (dgs_nil)))))
    (dss_one (d_dput hr (d_int) (dv 9) (d_tup (da_cons (d_ix hr (dv 8) (dv 10)) (da_cons (d_ix hr (dv 8) (dv 11)) (da_nil))))))))
    (dss_cons (d_set (d_ct call_tupleG B.b_tuple (da_cons (d_cb (call_sortedX (n := false) rfl hr) B.b_sorted (da_cons (dv 9) (da_nil))) (da_nil))) hN)
    (dss_cons (d_set (d_cg (n := 0) C__law_greatest (hr.mono (by decide)) hg (da_cons (dv 7) (da_cons (dv 12) (da_nil)))) hN)
    (dss_cons (d_set (d_ct call_tupleG B.b_tuple (da_cons (d_cb (call_sortedX (n := false) rfl hr) B.b_sorted (da_cons (d_sl (n := false) (dv 8) do_none (do_some (d_op (op_addD (n := false)) (d_int) (d_cg (n := 2) C__law_pick (hr.mono (by decide)) hg (da_cons (dv 1) (da_cons (dv 6) (da_nil))))))) (da_nil))) (da_nil))) hN)
    (dss_cons (d_set (d_ct call_tupleG B.b_tuple (da_cons (d_cb (call_sortedX (n := false) rfl hr) B.b_sorted (da_cons (d_sl (n := false) (d_cg (n := 2) C__law_mixed (hr.mono (by decide)) hg (da_cons (dv 1) (da_cons (d_lr1 false rfl B.b_list B.b_range (dv 6)) (da_nil)))) do_none (do_some (d_op (op_addD (n := false)) (d_int) (d_cg (n := 2) C__law_pick (hr.mono (by decide)) hg (da_cons (dv 1) (da_cons (dv 6) (da_nil))))))) (da_nil))) (da_nil))) hN)
    (dss_cons (d_set (d_lst (n := false) (da_cons (d_cg (n := 0) C_is_first_lot (hr.mono (by decide)) hg (da_cons (dv 12) (da_cons (dv 14) (da_nil)))) (da_cons (d_cg (n := 0) C_is_first_lot (hr.mono (by decide)) hg (da_cons (dv 12) (da_cons (dv 15) (da_nil)))) (da_nil)))) hN)
    (dss_cons (d_ifS (d_tcmp (op_neD' hr) (d_cb (call_reprG hr hg) B.b_repr (da_cons (dv 16) (da_nil))) (d_cb (call_reprG hr hg) B.b_repr (da_cons (d_lst (n := false) (da_cons (d_cg (n := 0) C__law_is_first (hr.mono (by decide)) hg (da_cons (dv 12) (da_cons (dv 14) (da_nil)))) (da_cons (d_cg (n := 0) C__law_is_first (hr.mono (by decide)) hg (da_cons (dv 12) (da_cons (dv 15) (da_nil)))) (da_nil)))) (da_nil)))) (dss_one (d_ret (d_bl))) (dss_nil))
    (dss_cons (d_set (d_if (d_tcmp op_isG (d_ix hr (dv 16) (d_int)) (d_bl)) (dv 14) (dv 13)) hN)
    (dss_cons (d_ifS ((dw_or (d_tcmp op_isNotG (d_cg (n := 0) C_is_first_lot (hr.mono (by decide)) hg (da_cons (dv 12) (da_cons (d_tup (da_nil)) (da_nil)))) (d_bl)) (dw_or1 (d_tcmp (op_neD' hr) (d_cb (call_reprG hr hg) B.b_repr (da_cons (d_cg (n := 0) C_press_of (hr.mono (by decide)) hg (da_cons (dv 7) (da_cons (dv 15) (da_nil)))) (da_nil))) (d_cb (call_reprG hr hg) B.b_repr (da_cons (d_cg (n := 0) C__law_press (hr.mono (by decide)) hg (da_cons (dv 7) (da_cons (dv 15) (da_nil)))) (da_nil)))))).dt) (dss_one (d_ret (d_bl))) (dss_nil))
    (dss_cons (d_set (d_cg (n := 0) C__law_is_less (hr.mono (by decide)) hg (da_cons (d_cg (n := 0) C__law_press (hr.mono (by decide)) hg (da_cons (dv 7) (da_cons (dv 14) (da_nil)))) (da_cons (d_cg (n := 0) C__law_press (hr.mono (by decide)) hg (da_cons (dv 7) (da_cons (dv 13) (da_nil)))) (da_nil)))) hN)
    (dss_cons (d_set (d_if (d_tval (dv 17)) (d_tup (da_cons (d_str) (da_cons (dv 13) (da_nil)))) (d_tup (da_cons (d_str) (da_nil)))) hN)
    (dss_cons (d_ifS ((dw_or (d_tcmp (op_neD' hr) (d_cb (call_reprG hr hg) B.b_repr (da_cons (d_cg (n := 0) C_press_paper (hr.mono (by decide)) hg (da_cons (dv 7) (da_cons (dv 12) (da_cons (dv 14) (da_nil))))) (da_nil))) (d_cb (call_reprG hr hg) B.b_repr (da_cons (dv 18) (da_nil)))) (dw_or1 (d_tcmp op_isNotG (d_cg (n := 0) C_judge_press (hr.mono (by decide)) hg (da_cons (dv 7) (da_cons (dv 12) (da_cons (dv 14) (da_cons (dv 18) (da_nil)))))) (d_non)))).dt) (dss_one (d_ret (d_bl))) (dss_nil))
    (dss_cons (d_set (d_lst (n := true) (da_cons (dv 13) (da_cons (dv 15) (da_cons (dv 14) (da_cons (d_rev (K := K) rfl false (dv 13)) (da_cons (d_ct (call_listG (n := false)) B.b_list (da_cons (dv 13) (da_nil))) (da_cons (d_op (op_addD (n := false)) (dv 15) (d_tup (da_cons (dv 6) (da_nil)))) (da_cons (d_op (op_addD (n := false)) (d_sl (n := false) (dv 15) do_none (do_some (d_un un_negD (d_int)))) (d_tup (da_cons (d_bl) (da_nil)))) (da_cons (d_op (op_addD (n := false)) (d_tup (da_cons (d_un un_negD (d_int)) (da_nil))) (dv 15)) (da_nil)))))))))) hN)
    (dss_cons (d_expr (d_bm (K := K) rfl PySem.F.slot_list_append PySem.F.type_list_append mt_appendG (dv 19) (da_cons (d_op (op_addD (n := false)) (dv 15) (d_sl (n := false) (dv 15) (do_some (d_un un_negD (d_int))) do_none)) (da_nil))))
    (dss_cons (d_set (d_op (op_addD (n := false)) (d_op (op_addD (n := false)) (dv 19) (d_lc (own := [("k", 27)]) rfl hN (di_rng2 B.b_range (da_cons (d_int) (da_cons (d_op (op_addD (n := false)) (dv 6) (d_int)) (da_nil)))) (by refine blkOk_by ?_; show blkC N_law (defScope s_law) _ _ = true; decide +kernel) (fun _ _ _ _ _ => dg_name hN) (fun _ _ _ _ _ => dts_nil) (fun _ _ _ _ _ => (d_ct call_tupleG B.b_tuple (da_cons (d_cb (call_sortedX (n := false) rfl hr) B.b_sorted (da_cons (d_sl (n := false) (dv 8) do_none (do_some (dv 27))) (da_nil))) (da_nil)))))) (d_lc (own := [("a", 30)]) rfl hN (di_rng1 B.b_range (da_cons (dv 6) (da_nil))) (by refine blkOk_by ?_; show blkC N_law (defScope s_law) _ _ = true; decide +kernel) (fun _ _ _ _ _ => dg_name hN) (fun _ _ _ _ _ => dts_nil) (fun _ _ _ _ _ => (d_tup (da_cons (dv 30) (da_nil)))))) hN)
    (dss_cons (d_set (d_op (op_addD (n := false)) (d_lst (n := false) (da_cons (dv 18) (da_cons (d_tup (da_cons (d_str) (da_nil))) (da_cons (d_ct (call_listG (n := false)) B.b_list (da_cons (dv 18) (da_nil))) (da_cons (d_op (op_addD (n := false)) (dv 18) (d_tup (da_cons (d_int) (da_nil)))) (da_nil)))))) (d_lc (own := [("one", 31)]) rfl hN (di_seq (dv 19)) (by refine blkOk_by ?_; show blkC N_law (defScope s_law) _ _ = true; decide +kernel) (fun _ _ _ _ _ => dg_name hN) (fun _ _ _ _ _ => dts_nil) (fun _ _ _ _ _ => (d_tup (da_cons (d_str) (da_cons (dv 31) (da_nil))))))) hN)
    (dss_cons (d_for rfl (di_seq (d_op (op_addD (n := false)) (dv 20) (dv 2))) (dg_name hN) (dss_cons (d_set (d_cb (call_reprG hr hg) B.b_repr (da_cons (dv 21) (da_nil))) hN)
    (dss_cons (d_set (d_cg (n := 0) C__law_fault (hr.mono (by decide)) hg (da_cons (dv 7) (da_cons (dv 12) (da_cons (dv 14) (da_cons (dv 18) (da_cons (dv 21) (da_nil))))))) hN)
    (dss_one (d_ifS ((dw_or (d_tcmp (op_neD' hr) (d_cb (call_reprG hr hg) B.b_repr (da_cons (d_cg (n := 0) C_judge_press (hr.mono (by decide)) hg (da_cons (dv 7) (da_cons (dv 12) (da_cons (dv 14) (da_cons (dv 21) (da_nil)))))) (da_nil))) (d_cb (call_reprG hr hg) B.b_repr (da_cons (dv 23) (da_nil)))) (dw_or1 (d_tcmp (op_neD' hr) (d_cb (call_reprG hr hg) B.b_repr (da_cons (dv 21) (da_nil))) (dv 22)))).dt) (dss_one (d_ret (d_bl))) (dss_nil))))))
    (dss_cons (d_setLc (i := 24) (own := [("a", 30)]) rfl hN rfl rfl (di_seq (dv 8)) (by refine blkOk_by ?_; show blkC N_law (defScope s_law) _ _ = true; decide +kernel) (fun _ _ _ _ _ => dg_name hN) (fun _ _ _ _ _ => dts_nil) (fun _ _ _ _ _ => (d_tup (da_cons (dv 30) (da_nil)))))
    (dss_cons (d_while (d_tcmp op_gtD (d_cb call_lenG B.b_len (da_cons (dv 24) (da_nil))) (d_int)) (dss_cons (d_set (d_cg (n := 2) C__law_pick (hr.mono (by decide)) hg (da_cons (dv 1) (da_cons (d_op op_subD (d_cb call_lenG B.b_len (da_cons (dv 24) (da_nil))) (d_int)) (da_nil)))) hN)
    (dss_cons (d_set (d_op (op_addD (n := false)) (d_op (op_addD (n := false)) (d_ix hr (dv 24) (dv 10)) (d_ix hr (dv 24) (d_op (op_addD (n := false)) (dv 10) (d_int)))) (d_tup (da_cons (d_cg (n := 2) C__law_of (hr.mono (by decide)) hg (da_cons (dv 1) (da_cons (d_lst (n := false) (da_cons (d_str) (da_cons (d_str) (da_nil)))) (da_nil)))) (da_nil)))) hN)
    (dss_one (d_set (d_op (op_addD (n := false)) (d_op (op_addD (n := false)) (d_sl (n := false) (dv 24) do_none (do_some (dv 10))) (d_lst (n := false) (da_cons (dv 25) (da_nil)))) (d_sl (n := false) (dv 24) (do_some (d_op (op_addD (n := false)) (dv 10) (d_int))) do_none)) hN)))))
    (dss_cons (d_set (d_ix hr (dv 24) (d_int)) hN)
    (dss_cons (d_set (d_lst (n := false) (da_cons (dv 26) (da_cons (d_ct (call_listG (n := false)) B.b_list (da_cons (dv 26) (da_nil))) (da_cons (d_sl (n := false) (dv 26) do_none (do_some (d_un un_negD (d_int)))) (da_cons (d_sl (n := false) (dv 26) (do_some (d_int)) do_none) (da_cons (d_op (op_addD (n := false)) (dv 26) (d_tup (da_cons (d_str) (da_nil)))) (da_cons (d_op (op_addD (n := false)) (dv 26) (d_tup (da_cons (dv 6) (da_nil)))) (da_cons (d_op (op_addD (n := false)) (dv 26) (d_tup (da_cons (dv 6) (da_cons (d_str) (da_nil))))) (da_nil))))))))) hN)
    (dss_cons (d_set (d_op (op_addD (n := false)) (dv 20) (d_lst (n := false) (da_cons (d_rev (K := K) rfl false (dv 26)) (da_cons (d_tup (da_cons (d_str) (da_nil))) (da_nil))))) hN)
    (dss_cons (d_for rfl (di_rng1 B.b_range (da_cons (d_int) (da_nil))) (dg_name hN) (dss_cons (d_par2 rfl hN (da_cons (d_cg (n := 2) C__law_pick (hr.mono (by decide)) hg (da_cons (dv 1) (da_cons (d_cb call_lenG B.b_len (da_cons (dv 26) (da_nil))) (da_nil)))) (da_cons (d_cg (n := 2) C__law_of (hr.mono (by decide)) hg (da_cons (dv 1) (da_cons (dv 2) (da_nil)))) (da_nil))))
    (dss_cons (d_set (d_op (op_addD (n := true)) (dv 20) (d_lst (n := false) (da_cons (d_op (op_addD (n := false)) (d_op (op_addD (n := false)) (d_sl (n := false) (dv 26) do_none (do_some (dv 27))) (d_tup (da_cons (dv 28) (da_nil)))) (d_sl (n := false) (dv 26) (do_some (d_op (op_addD (n := false)) (dv 27) (d_int))) do_none)) (da_cons (d_op (op_addD (n := false)) (d_op (op_addD (n := false)) (d_sl (n := false) (dv 26) do_none (do_some (dv 27))) (d_tup (da_cons (dv 28) (da_nil)))) (d_sl (n := false) (dv 26) (do_some (dv 27)) do_none)) (da_nil))))) hN)
    (dss_one (d_expr (d_bm (K := K) rfl PySem.F.slot_list_append PySem.F.type_list_append mt_appendG (dv 20) (da_cons (d_op (op_addD (n := false)) (d_sl (n := false) (dv 26) do_none (do_some (dv 27))) (d_sl (n := false) (dv 26) (do_some (d_op (op_addD (n := false)) (dv 27) (d_int))) do_none)) (da_nil))))))))
    (dss_one (d_for rfl (di_seq (d_op (op_addD (n := false)) (dv 20) (dv 2))) (dg_name hN) (dss_one (d_for rfl (di_seq (d_tup (da_cons (dv 6) (da_cons (d_op (op_addD (n := false)) (dv 6) (d_int)) (da_nil))))) (dg_name hN) (dss_one (d_ifS (d_tcmp (op_neD' hr) (d_cb (call_reprG hr hg) B.b_repr (da_cons (d_cg (n := 0) C_is_shape (hr.mono (by decide)) hg (da_cons (dv 29) (da_cons (dv 21) (da_nil)))) (da_nil))) (d_cb (call_reprG hr hg) B.b_repr (da_cons (d_cg (n := 0) C__law_is_shape (hr.mono (by decide)) hg (da_cons (dv 29) (da_cons (dv 21) (da_nil)))) (da_nil)))) (dss_one (d_ret (d_bl))) (dss_nil))))))))))))))))))))))))))))))))))
    (dss_one (d_ret (d_bl))))))))⟩
end
end K17
end

section
set_option Elab.async false
set_option linter.all false
set_option maxRecDepth 100000
set_option maxHeartbeats 0
namespace K17
open PySem AM
local macro_rules | `(tactic| walk_at "AMX") => `(tactic| (repeat first
      | with_reducible refine x_body ?_
      | with_reducible refine x_next ?_
      | with_reducible refine x_seq ?_
      | with_reducible refine x_expr ?_
      | with_reducible refine x_ret ?_
      | with_reducible refine x_retN ?_
      | with_reducible refine x_ifS ?_
      | with_reducible refine x_asgN ?_
      | with_reducible refine x_asgT ?_
      | with_reducible refine x_asgL ?_
      | with_reducible refine x_par ?_
      | with_reducible refine x_for ?_
      | with_reducible refine x_c ?_
      | with_reducible refine x_op ?_
      | with_reducible refine x_un ?_
      | with_reducible refine x_tst ?_
      | with_reducible refine x_kTst ?_
      | with_reducible refine x_and ?_
      | with_reducible refine x_or ?_
      | with_reducible refine x_not ?_
      | with_reducible refine x_andV ?_
      | with_reducible refine x_orV ?_
      | with_reducible refine x_notV ?_
      | with_reducible refine x_kAndV ?_
      | with_reducible refine x_kOrV ?_
      | with_reducible refine x_kNotV ?_
      | with_reducible refine x_if ?_
      | with_reducible refine x_yes ?_
      | with_reducible refine x_chain ?_
      | with_reducible refine x_kCh ?_
      | with_reducible refine x_nil ?_
      | with_reducible refine x_cons ?_
      | with_reducible refine x_star ?_
      | with_reducible refine x_cb ?_
      | with_reducible refine x_tup ?_
      | with_reducible refine x_lst ?_
      | with_reducible refine x_lc ?_
      | with_reducible refine x_iter ?_
      | with_reducible refine x_zip ?_
      | with_reducible refine x_rg1 ?_
      | with_reducible refine x_rg2 ?_
      | with_reducible refine x_sl ?_
      | with_reducible refine x_kSl ?_
      | with_reducible refine x_noPart ?_
      | with_reducible refine x_part ?_
      | with_reducible refine x_rev ?_
      | with_reducible refine x_lr1 ?_
      | with_reducible refine x_call ?_
      | with_reducible refine x_callO ?_
      | with_reducible refine x_bm0 ?_
      | with_reducible refine x_bm ?_
      | with_reducible refine x_nx ?_
      | with_reducible refine x_rt ?_
      | with_reducible refine x_bk ?_
      | with_reducible refine x_ct ?_
      | with_reducible refine x_kRes0 ?_
      | with_reducible refine x_break ?_
      | with_reducible refine x_cont ?_
      | ((with_reducible apply x_var); exact rfl)
      | ((with_reducible apply x_kIterT); exact rfl)
      | ((with_reducible apply x_kIterL); exact rfl)
      | ((with_reducible apply x_kAsg); exact rfl)
      | ((with_reducible apply x_kStar); exact rfl)
      | ((with_reducible apply x_kIterO); exact rfl)
      | ((with_reducible apply x_abs); exact rfl)
      | ((with_reducible apply x_int1); exact rfl)
      | ((with_reducible apply x_neg); exact rfl)
      | ((with_reducible apply x_kPart); exact rfl)
      | ((with_reducible apply x_slT); exact rfl)
      | ((with_reducible apply x_slL); exact rfl)
      | ((with_reducible apply x_revT); exact rfl)
      | ((with_reducible apply x_revL); exact rfl)
      | ((with_reducible apply x_revLn); exact rfl)
      | ((with_reducible apply x_sum); exact rfl)
      | ((with_reducible apply x_all); exact rfl)
      | ((with_reducible apply x_kTup); exact rfl)
      | ((with_reducible apply x_kLstF); exact rfl)
      | ((with_reducible apply x_kLstT); exact rfl)
      | ((with_reducible apply x_repr); exact rfl)
      | ((with_reducible apply x_kAsgL); exact rfl; exact rfl)
      | ((with_reducible apply x_intT); exact rfl; exact rfl)
      | ((with_reducible apply x_addI); exact rfl; exact rfl)
      | ((with_reducible apply x_isN); exact rfl; exact rfl)
      | ((with_reducible apply x_isB); exact rfl; exact rfl)
      | ((with_reducible apply x_kCall0); exact rfl; exact rfl)
      | ((with_reducible apply x_kZipT); exact rfl; exact rfl)
      | ((with_reducible apply x_kZipL); exact rfl; exact rfl)
      | ((with_reducible apply x_kCallO); exact rfl)
      | with_reducible refine x_dput ?_
      | ((with_reducible apply x_kDPutK); exact rfl; exact rfl; exact rfl)
      | ((with_reducible apply x_kDPutT); exact rfl; exact rfl; exact rfl)
      | ((with_reducible apply x_int); exact rfl; exact rfl)
      | ((with_reducible apply x_addT); exact rfl; exact rfl)
      | ((with_reducible apply x_addL); exact rfl; exact rfl)
      | ((with_reducible apply x_addLn); exact rfl; exact rfl)
      | ((with_reducible apply x_mulI); exact rfl; exact rfl)
      | ((with_reducible apply x_mulT); exact rfl; exact rfl)
      | ((with_reducible apply x_ne); exact rfl; exact rfl)
      | ((with_reducible apply x_eq); exact rfl; exact rfl)
      | ((with_reducible apply x_ixL); (first | exact .inl rfl | exact .inr rfl); exact rfl; exact rfl)
      | ((with_reducible apply x_ixD); exact rfl; exact rfl; exact rfl; exact rfl)
      | ((with_reducible apply x_lenS); (first | exact .inl rfl | exact .inr rfl))
      | ((with_reducible apply x_tupleOf); (first | exact .inl rfl | exact .inr rfl))
      | ((with_reducible apply x_listOfF); (first | exact .inl rfl | exact .inr rfl))
      | ((with_reducible apply x_listOfT); (first | exact .inl rfl | exact .inr rfl))
      | ((with_reducible apply x_isi); exact rfl; rotate_left; simp [tyNames]; rotate_right)
      | with_reducible apply x_kRng1
      | with_reducible apply x_kRng2
      | with_reducible apply x_kLr1
      | ((with_reducible apply x_ifT); exact rfl)
      | ((with_reducible apply x_ifF); exact rfl)
      | ((with_reducible apply x_kTst2); exact rfl)))
theorem ok_is_number {ds : List D} {M : Sto} {Ψ : K1} (h : sp_is_number ds M Ψ) : aBody N_is_number as_is_number ds M Ψ := by
  obtain ⟨p, rfl, h⟩ := h
  cases p <;> simp only [aBody, startG, aNext, aSeq, aExpr, aRet, aRetN, aIfS, aBreak, aCont, aName, aGNil, aGCons, aGTup, aAsg, aPar, aFor, aIter, aRng1, aRng2, aVar, aC, aOp, aUn, aTst, aChain, aAnd, aOr, aNot, aAndV, aOrV, aNotV, aIf, aNil, aCons, aCB, aTup, aLst, aStar, aSl, aNoPart, aPart, aRev, aNeg, aAdd, aInt, aMul, aEqX, aNe, aEq, isG, aIx, sq, pv, cv, dats, Res, aLr1, aLr2, aCall, aCallO, resD, aYes, aLc, aIsi, List.map_nil, List.map_cons, List.length_nil, List.length_cons, List.replicate, List.nil_append, List.cons_append, List.append_nil, List.getElem?_cons_zero, List.getElem?_cons_succ, List.set_cons_zero, List.set_cons_succ, List.zip_cons_cons, List.zip_nil_left, List.foldl_nil, List.foldl_cons, Nat.sub_self, Nat.add_sub_cancel, Nat.reduceAdd, Nat.reduceSub, Bool.false_eq_true, if_true, if_false, as_is_number, N_is_number, ty_int, ty_bool, isTy, String.reduceBEq, true_and, Bool.or_true, Bool.true_or, Bool.or_false, Bool.not_true, Bool.not_false] <;> exact h
theorem ok__law_is_int {ds : List D} {M : Sto} {Ψ : K1} (h : sp__law_is_int ds M Ψ) : aBody N__law_is_int as__law_is_int ds M Ψ := by
  obtain ⟨p, rfl, h⟩ := h
  cases p <;> simp only [aBody, startG, aNext, aSeq, aExpr, aRet, aRetN, aIfS, aBreak, aCont, aName, aGNil, aGCons, aGTup, aAsg, aPar, aFor, aIter, aRng1, aRng2, aVar, aC, aOp, aUn, aTst, aChain, aAnd, aOr, aNot, aAndV, aOrV, aNotV, aIf, aNil, aCons, aCB, aTup, aLst, aStar, aSl, aNoPart, aPart, aRev, aNeg, aAdd, aInt, aMul, aEqX, aNe, aEq, isG, aIx, sq, pv, cv, dats, Res, aLr1, aLr2, aCall, aCallO, resD, aYes, aLc, aIsi, List.map_nil, List.map_cons, List.length_nil, List.length_cons, List.replicate, List.nil_append, List.cons_append, List.append_nil, List.getElem?_cons_zero, List.getElem?_cons_succ, List.set_cons_zero, List.set_cons_succ, List.zip_cons_cons, List.zip_nil_left, List.foldl_nil, List.foldl_cons, Nat.sub_self, Nat.add_sub_cancel, Nat.reduceAdd, Nat.reduceSub, Bool.false_eq_true, if_true, if_false, as__law_is_int, N__law_is_int, ty_int, ty_bool, isTy, String.reduceBEq, true_and, Bool.or_true, Bool.true_or, Bool.or_false, Bool.not_true, Bool.not_false] <;> exact h
theorem wh_gcd {K : AEnds} {G : List (Option D)} {M : Sto} (i j : Nat) (hij : i ≠ j) (hi : i < G.length) (hj : j < G.length) : ∀ (n b a : Nat), b < n →
    (∀ g : Nat, g = Nat.gcd a b → K.nx ((G.set i (some (.dat (.int (g : Int))))).set j (some (.dat (.int 0)))) M) →
    aWh (aTst (aOp aGt (aVar j) (aC (.dat (.int 0))))) (aPar [i, j] (aCons (aVar j) (aCons (aOp aMod (aVar i) (aVar j)) aNil))) K n ((G.set i (some (.dat (.int (a : Int))))).set j (some (.dat (.int (b : Int))))) M := by
  intro n
  induction n with
  | zero => intro b a h; omega
  | succ n ih =>
    intro b a hb hK
    have gi : ∀ x y : Nat, ((G.set i (some (.dat (.int (x : Int))))).set j (some (.dat (.int (y : Int)))))[i]? = some (some (.dat (.int (x : Int)))) := fun x y => by
      rw [List.getElem?_set_ne (Ne.symm hij), List.getElem?_set_self hi]
    have gj : ∀ x y : Nat, ((G.set i (some (.dat (.int (x : Int))))).set j (some (.dat (.int (y : Int)))))[j]? = some (some (.dat (.int (y : Int)))) := fun x y => by
      rw [List.getElem?_set_self (by rw [List.length_set]; exact hj)]
    unfold aWh
    simp only [aTst, aOp, aVar, gj, aC, aInt, AM.pv, true_and]
    by_cases hz : b = 0
    · subst hz
      simp only [Int.natCast_zero, Int.lt_irrefl, decide_false, Bool.false_eq_true, if_false]
      exact hK a (by simp)
    · have hp : (0 : Int) < (b : Int) := by omega
      simp only [hp, decide_true, if_true, aPar, aCons, aOp, aVar, gi, gj, aNil, aInt, AM.pv, true_and, List.length_cons, List.length_nil, List.zip_cons_cons, List.zip_nil_left, List.foldl_cons, List.foldl_nil]
      have e : ((a : Int) % (b : Int)) = ((a % b : Nat) : Int) := by omega
      have e2 : ((((G.set i (some (.dat (.int (a : Int))))).set j (some (.dat (.int (b : Int))))).set i (some (.dat (.int (b : Int))))).set j (some (.dat (.int ((a % b : Nat) : Int))))) = (G.set i (some (.dat (.int (b : Int))))).set j (some (.dat (.int ((a % b : Nat) : Int)))) := by
        rw [List.set_comm _ _ (Ne.symm hij), List.set_set, List.set_set]
      rw [e, e2]
      refine ih (a % b) b (by have := Nat.mod_lt a (Nat.pos_of_ne_zero hz); omega) fun g hg => hK g ?_
      rw [hg, Nat.gcd_comm a b, Nat.gcd_rec b a, Nat.gcd_comm]
theorem ok_divisor_of {ds : List D} {M : Sto} {Ψ : K1} (h : sp_divisor_of ds M Ψ) : aBody N_divisor_of as_divisor_of ds M Ψ := by
  obtain ⟨a, b, rfl, h⟩ := h
  refine ⟨b + 1, ?_⟩
  have := wh_gcd (K := { nx := (aRet (aVar 0)) { nx := fun _ M' => Ψ (.dat .none) M', rt := Ψ }, rt := Ψ }) (G := [none, none]) (M := M) 0 1 (by decide) (by decide) (by decide) (b + 1) b a (by omega) (fun g hg => by
    subst hg
    exact h)
  exact this
theorem atI_nat {α : Type} (xs : List α) (a : Nat) : L2.atI xs (a : Int) = xs[a]? := by
  unfold L2.atI L2.ixN
  by_cases h : a < xs.length
  · rw [if_pos (by omega), if_pos (by omega)]
    rfl
  · rw [if_pos (by omega), if_neg (by omega), List.getElem?_eq_none (by omega)]
    rfl
theorem lc_job {G : Gm} {M : Sto} {Ψ : K1} {jobs : List Job} {lot : List Nat} (jv lv av : Nat) (c : Nat) (k : Job → Nat) (hk : ∀ j : Job, L2.atI [PyData.int (j.1 : Int), .int (j.2 : Int)] (c : Int) = some (.int (k j : Int))) (gj : G[jv]? = some (some (.dat (jobsD jobs)))) (gl : G[lv]? = some (some (.dat (lotD lot)))) (hj : jv ≠ av) (ha : av < G.length) (hl : LotOk jobs.length lot)
    (h : Ψ (.dat (.list (lot.map fun a => PyData.int (k (jobs.getD a (0, 0)) : Int)))) M) :
    aLc (aIter (aVar lv)) (aName av) aYes (aOp aIx (aOp aIx (aVar jv) (aVar av)) (aC (.dat (.int (c : Int))))) [av] G M Ψ := by
  unfold aLc aIter aVar lotD iL at *
  rw [gl]
  refine turns_map (fun (a : Nat) => .int (a : Int)) (fun a => (wipeG G [av]).set av (some (.dat (.int (a : Int))))) _ lot M (fun _ => trivial) (fun _ _ => rfl) (fun a h1 N Φ _ hΦ => ?_) (by have := hl.1; omega) h
  have hlt := hl.2 a h1
  have e1 : ((wipeG G [av]).set av (some (.dat (.int (a : Int)))))[jv]? = some (some (.dat (jobsD jobs))) := by
    rw [List.getElem?_set_ne (Ne.symm hj)]
    show (G.set av none)[jv]? = _
    rw [List.getElem?_set_ne (Ne.symm hj), gj]
  have e2 : ((wipeG G [av]).set av (some (.dat (.int (a : Int)))))[av]? = some (some (.dat (.int (a : Int)))) := by
    rw [List.getElem?_set_self (by show av < (G.set av none).length; rw [List.length_set]; exact ha)]
  have e3 : (jobs.map jobD)[a]? = some (jobD (jobs.getD a (0, 0))) := by
    rw [List.getElem?_map, List.getElem?_eq_getElem hlt, List.getD_eq_getElem?_getD, List.getElem?_eq_getElem hlt]
    rfl
  simp only [aOp, aVar, e1, e2, aIx, jobsD, AM.cv, AM.pv, atI_nat, e3, aC, jobD, hk]
  exact hΦ
theorem ints_sum (xs : List Nat) : ((xs.map fun (a : Nat) => (a : Int)).sum) = ((xs.sum : Nat) : Int) := by
  induction xs with
  | nil => rfl
  | cons a l ih => simp [ih]
theorem sum_lc {M : Sto} {Ψ : K1} (f : Nat → Nat) (lot : List Nat) (h : Ψ (.dat (.int ((lot.map f).sum : Nat))) M) : aSum [.dat (.list (lot.map fun a => PyData.int (f a : Int)))] M Ψ := by
  unfold aSum AM.listOf
  simp only [AM.cv, Option.bind_some]
  have e : intsOf (lot.map fun a => PyData.int (f a : Int)) = some (lot.map fun a => (f a : Int)) := ints_map _ _
  rw [e]
  have e2 : (lot.map fun a => (f a : Int)) = (lot.map f).map fun (a : Nat) => (a : Int) := by rw [List.map_map]; rfl
  simp only [e2, ints_sum]
  exact h
theorem div_ok {i : Int} {g : Nat} (h : 0 < g) (h2 : g ≤ 60000000000) : L2.CDiv i (g : Int) ∨ L2.CDivW i (g : Int) := .inr ⟨by omega, by
  have : (g : Int).natAbs = g := rfl
  rw [this]
  have : g < 2 ^ 9000 := Nat.lt_of_le_of_lt h2 (Nat.lt_of_lt_of_le (by decide : 60000000000 < 2 ^ 36) (Nat.pow_le_pow_right (by decide) (by decide)))
  exact (Nat.log2_lt (by omega)).mpr this⟩
theorem sum_pos {f : Nat → Nat} {lot : List Nat} (hne : lot ≠ []) (h : ∀ a ∈ lot, 1 ≤ f a ∧ f a ≤ 1000000000) : 0 < (lot.map f).sum ∧ (lot.map f).sum ≤ lot.length * 1000000000 := by
  have hb : ∀ l : List Nat, (∀ a ∈ l, 1 ≤ f a ∧ f a ≤ 1000000000) → (l.map f).sum ≤ l.length * 1000000000 := by
    intro l
    induction l with
    | nil => simp
    | cons a l ih =>
      intro h
      have h1 := h a List.mem_cons_self
      have h2 := ih fun x hx => h x (List.mem_cons_of_mem _ hx)
      simp only [List.map_cons, List.sum_cons, List.length_cons]
      omega
  refine ⟨?_, hb lot h⟩
  cases lot with
  | nil => exact absurd rfl hne
  | cons a l =>
    have h1 := h a List.mem_cons_self
    simp only [List.map_cons, List.sum_cons]
    omega
theorem job_at {jobs : List Job} (hj : JobsOk jobs) {a : Nat} (h : a < jobs.length) : (1 ≤ (jobs.getD a (0, 0)).1 ∧ (jobs.getD a (0, 0)).1 ≤ 1000000000) ∧ 1 ≤ (jobs.getD a (0, 0)).2 ∧ (jobs.getD a (0, 0)).2 ≤ 1000000000 := by
  rw [List.getD_eq_getElem?_getD, List.getElem?_eq_getElem h]
  exact hj.2 _ (List.getElem_mem h)
theorem sums_ok {jobs : List Job} {lot : List Nat} (hj : JobsOk jobs) (hl : LotOk jobs.length lot) (hne : lot ≠ []) : (0 < wOf jobs lot ∧ wOf jobs lot ≤ 60000000000) ∧ 0 < lOf jobs lot ∧ lOf jobs lot ≤ 60000000000 := by
  have h1 := sum_pos (f := fun a => (jobs.getD a (0, 0)).2) hne fun a ha => (job_at hj (hl.2 a ha)).2
  have h2 := sum_pos (f := fun a => (jobs.getD a (0, 0)).1) hne fun a ha => (job_at hj (hl.2 a ha)).1
  have h3 := hl.1
  unfold wOf lOf
  omega
theorem gcd_ok {a b : Nat} (h : 0 < a) (h2 : a ≤ 60000000000) : 0 < Nat.gcd a b ∧ Nat.gcd a b ≤ 60000000000 := ⟨Nat.gcd_pos_of_pos_left _ h, Nat.le_trans (Nat.gcd_le_left _ h) h2⟩

theorem ok_press_of {ds : List D} {M : Sto} {Ψ : K1} (h : sp_press_of ds M Ψ) : aBody N_press_of as_press_of ds M Ψ := by
  obtain ⟨jobs, lot, rfl, hj, hl, hne, h⟩ := h
  obtain ⟨⟨w0, w1⟩, l0, l1⟩ := sums_ok hj hl hne
  obtain ⟨g0, g1⟩ := gcd_ok (b := lOf jobs lot) w0 w1
  refine x_body ?_
  unfold as_press_of
  with_reducible refine x_seq (x_par (x_cons (x_cb (x_cons ?_))))
  refine lc_job 0 1 5 1 (·.2) (fun _ => rfl) rfl rfl (by decide) (by show 5 < 6; decide) hl ?_
  with_reducible refine x_nil ?_
  refine sum_lc (fun a => (jobs.getD a (0, 0)).2) lot ?_
  with_reducible refine x_cons (x_cb (x_cons ?_))
  refine lc_job 0 1 5 0 (·.1) (fun _ => rfl) rfl rfl (by decide) (by show 5 < 6; decide) hl ?_
  with_reducible refine x_nil ?_
  refine sum_lc (fun a => (jobs.getD a (0, 0)).1) lot ?_
  refine ⟨rfl, ?_⟩
  walk_at "AMX"
  refine ⟨wOf jobs lot, lOf jobs lot, rfl, ?_⟩
  walk_at "AMX"
  · exact h
  · show 2 ≤ sizeLine; decide
  · exact div_ok g0 g1
  · exact div_ok g0 g1
theorem small_mul {a b : Nat} (h : a ≤ 60000000000) : L2.CMul (a : Int) (b : Int) ∨ L2.CMulW (a : Int) (b : Int) := .inl (.inl ⟨by omega, by omega⟩)
theorem ok_is_press_less {ds : List D} {M : Sto} {Ψ : K1} (h : sp_is_press_less ds M Ψ) : aBody N_is_press_less as_is_press_less ds M Ψ := by
  obtain ⟨p, q, rfl, hp, hq, h⟩ := h
  refine x_body ?_
  unfold as_is_press_less
  walk_at "AMX"
  · have e : lessP p q = decide ((p.1 : Int) * (q.2 : Int) < (q.1 : Int) * (p.2 : Int)) := by
      unfold lessP
      apply decide_eq_decide.mpr
      rw [← Int.natCast_mul, ← Int.natCast_mul]
      omega
    rw [← e]
    exact h
  · exact small_mul hq.1
  · exact small_mul hp.1
theorem ok__law_is_less {ds : List D} {M : Sto} {Ψ : K1} (h : sp__law_is_less ds M Ψ) : aBody N__law_is_less as__law_is_less ds M Ψ := ok_is_press_less h
theorem plain_iL : ∀ lot : List Nat, PyData.plainAll (iL lot) = true
  | [] => rfl
  | a :: l => by
    have := plain_iL l
    unfold iL at this ⊢
    simp only [List.map_cons, PyData.plainAll, PyData.plain, this, Bool.and_self]
theorem depth_iL (lot : List Nat) : PyData.depthAll (iL lot) = 0 := by
  have e : iL lot = (lot.map fun (a : Nat) => (a : Int)).map PyData.int := by unfold iL; rw [List.map_map]; rfl
  rw [e]
  exact PySem.W.depth_ints _
theorem plain_lot (lot : List Nat) : (lotD lot).plain = true := by
  unfold lotD
  simp only [PyData.plain, plain_iL]
theorem depth_lot (lot : List Nat) : (lotD lot).depth = 1 := by
  unfold lotD
  simp only [PyData.depth, depth_iL]
theorem eqv_lot_nil (lot : List Nat) : (lotD lot).eqv (.tuple []) = lot.isEmpty := by
  cases lot <;> simp [lotD, iL, PyData.eqv, PyData.eqvAll]
theorem any_iL (lot : List Nat) (a : Nat) : ((iL lot).any fun z => z.eqv (.int (a : Int))) = lot.contains a := by
  unfold iL
  rw [List.any_map]
  induction lot with
  | nil => rfl
  | cons b l ih =>
    simp only [List.any_cons, List.contains_cons, ih, Function.comp, PyData.eqv]
    congr 1
    rw [Bool.eq_iff_iff, beq_iff_eq, beq_iff_eq]
    omega
def ahE (G : Gm) (i j : Nat) (p : Nat × Nat) : Gm := ((wipeG G [i, j]).set i (some (.dat (.int (p.1 : Int))))).set j (some (.dat (.int (p.2 : Int))))
theorem inLot (lot : List Nat) (a : Nat) : ((PyData.int (a : Int)).plain = true ∧ PyData.plainAll (iL lot) = true ∧ ((PyData.int (a : Int)).depth ≤ 90 ∨ PyData.depthAll (iL lot) ≤ 90)) := ⟨rfl, plain_iL lot, .inl (by simp [PyData.depth])⟩
/-- a in lot, as a value and as a test -/
theorem in_lot {G : Gm} {M : Sto} {Ψ : K1} {lot : List Nat} {a : Nat} (i k : Nat) (g1 : G[i]? = some (some (.dat (.int (a : Int))))) (g2 : G[k]? = some (some (.dat (lotD lot)))) (h : Ψ (.dat (.bool (lot.contains a))) M) : aOp aInX (aVar i) (aVar k) G M Ψ := by
  refine x_op (x_var g1 (x_var g2 (x_in (p := .int (a : Int)) (ps := iL lot) rfl (.inl rfl) ?_ (.inl (inLot lot a)))))
  rw [any_iL]
  exact h
theorem notIn_lot {G : Gm} {M : Sto} {Ψ : K1} {lot : List Nat} {a : Nat} (i k : Nat) (g1 : G[i]? = some (some (.dat (.int (a : Int))))) (g2 : G[k]? = some (some (.dat (lotD lot)))) (h : Ψ (.dat (.bool (!lot.contains a))) M) : aOp aNotIn (aVar i) (aVar k) G M Ψ := by
  refine x_op (x_var g1 (x_var g2 (x_notIn (p := .int (a : Int)) (ps := iL lot) rfl (.inl rfl) ?_ (inLot lot a))))
  rw [any_iL]
  exact h
theorem all_first (aheads : List (Nat × Nat)) (lot : List Nat) : (((aheads.filter fun p => lot.contains p.2).map fun p => lot.contains p.1).all id) = aheads.all fun p => !(lot.contains p.2) || lot.contains p.1 := by
  rw [List.all_map, List.all_filter]
  rfl
theorem ok_is_first_lot {ds : List D} {M : Sto} {Ψ : K1} (h : sp_is_first_lot ds M Ψ) : aBody N_is_first_lot as_is_first_lot ds M Ψ := by
  obtain ⟨n, ad, aheads, lot, rfl, had, hah, h⟩ := h
  have core : ∀ chk : Sto → Prop, (∀ N, chk N) → aTurns (aGTup 2 (aGCons (aName 2) (aGCons (aName 3) aGNil))) (aTst (aOp aInX (aVar 3) (aVar 1))) (aOp aInX (aVar 2) (aVar 1)) chk (wipeG (startG N_is_first_lot [.dat ad, .dat (lotD lot)]) [2, 3])
      (fun ps M2 => aAll [.dat (.list ps)] M2 fun d M1 => lot.isEmpty = false → Ψ d M1) ((aheads.map jobD).map D.dat) [] M := by
    intro chk hchk
    refine turns_dat jobD (ahE (startG N_is_first_lot [.dat ad, .dat (lotD lot)]) 2 3) (fun p => lot.contains p.2) (fun p => .bool (lot.contains p.1)) aheads M (fun _ => hchk _) (fun _ _ => rfl) (fun p _ N Φ _ hΦ => ?_) (fun p _ _ N Φ _ hΦ => ?_) (by have := hah.1; omega) ?_
    · exact x_tst (in_lot 3 1 rfl rfl hΦ)
    · exact in_lot 2 1 rfl rfl hΦ
    · refine x_all (bs := (aheads.filter fun p => lot.contains p.2).map fun p => lot.contains p.1) (show boolsOf _ = _ from bools_map (fun p : Nat × Nat => lot.contains p.1) _) fun he => ?_
      rw [all_first]
      unfold firstB at h
      rw [he, Bool.not_false, Bool.true_and] at h
      exact h
  refine x_body ?_
  unfold as_is_first_lot
  walk_at "AMX"
  · rw [eqv_lot_nil]
    refine x_if2 (fun hb => ?_) fun hb => ?_
    · have he : lot.isEmpty = false := by simpa using hb
      walk_at "AMX"
      rcases had with rfl | rfl
      · walk_at "AMX"
        have c := core (fun _ => True) (fun _ => trivial)
        simp only [he, true_implies] at c
        exact c
      · walk_at "AMX"
        have c := core (fun _ => True) (fun _ => trivial)
        simp only [he, true_implies] at c
        exact c
    · have he : lot.isEmpty = true := by simpa using hb
      unfold firstB at h
      rw [he] at h
      exact h
  · exact ⟨plain_lot lot, rfl, by rw [depth_lot]; simp [PyData.depth, PyData.depthAll]⟩
  · decide
theorem no_first (aheads : List (Nat × Nat)) (lot : List Nat) : (aheads.filter fun p => lot.contains p.2 && !lot.contains p.1).isEmpty = aheads.all fun p => !(lot.contains p.2) || lot.contains p.1 := by
  induction aheads with
  | nil => rfl
  | cons p l ih =>
    rw [List.all_cons, ← ih]
    by_cases h : (lot.contains p.2 && !lot.contains p.1) = true
    · rw [List.filter_cons, if_pos h]
      rw [Bool.and_eq_true] at h
      rw [h.1]
      have h2 : lot.contains p.1 = false := by simpa using h.2
      rw [h2]
      rfl
    · rw [List.filter_cons, if_neg h]
      have h' : (lot.contains p.2 && !lot.contains p.1) = false := by simpa using h
      have : (!(lot.contains p.2) || lot.contains p.1) = true := by
        cases e1 : lot.contains p.2 <;> cases e2 : lot.contains p.1 <;> rw [e1, e2] at h' <;> first | rfl | cases h'
      rw [this, Bool.true_and]
theorem plain_all {ps : List PyData} (h : ∀ p ∈ ps, p.plain = true) : PyData.plainAll ps = true := by
  induction ps with
  | nil => rfl
  | cons p ps ih => simp only [PyData.plainAll, h p List.mem_cons_self, ih fun q hq => h q (List.mem_cons_of_mem _ hq), Bool.and_self]
theorem depth_all {ps : List PyData} {n : Nat} (h : ∀ p ∈ ps, p.depth ≤ n) : PyData.depthAll ps ≤ n := by
  induction ps with
  | nil => simp [PyData.depthAll]
  | cons p ps ih =>
    have h1 := h p List.mem_cons_self
    have h2 := ih fun q hq => h q (List.mem_cons_of_mem _ hq)
    simp only [PyData.depthAll]
    omega
theorem eqv_nil (ps : List PyData) : PyData.eqv (.list ps) (.list []) = ps.isEmpty := by cases ps <;> simp [PyData.eqv, PyData.eqvAll]
theorem eqv_nilT (ps : List PyData) : PyData.eqv (.tuple ps) (.tuple []) = ps.isEmpty := by cases ps <;> simp [PyData.eqv, PyData.eqvAll]
theorem map_isEmpty {α β : Type} (f : α → β) (l : List α) : (l.map f).isEmpty = l.isEmpty := by cases l <;> rfl
theorem cmp_ones {α : Type} (l : List α) : Cmp (.list (l.map fun _ => PyData.int 1)) (.list []) := by
  refine ⟨?_, rfl, ?_⟩
  · simp only [PyData.plain]
    exact plain_all fun p hp => by
      obtain ⟨_, _, rfl⟩ := List.mem_map.mp hp
      rfl
  · have : PyData.depthAll (l.map fun _ => PyData.int 1) ≤ 0 := depth_all fun p hp => by
      obtain ⟨_, _, rfl⟩ := List.mem_map.mp hp
      simp [PyData.depth]
    simp only [PyData.depth, PyData.depthAll]
    omega
theorem ok__law_is_first {ds : List D} {M : Sto} {Ψ : K1} (h : sp__law_is_first ds M Ψ) : aBody N__law_is_first as__law_is_first ds M Ψ := by
  obtain ⟨n, ad, aheads, lot, rfl, had, hah, h⟩ := h
  have core : ∀ chk : Sto → Prop, (∀ N, chk N) → ∀ Θ : List PyData → Sto → Prop, Θ ((aheads.filter fun p => lot.contains p.2 && !lot.contains p.1).map fun _ => .int 1) M →
      aTurns (aGTup 2 (aGCons (aName 2) (aGCons (aName 3) aGNil))) (aAnd (aTst (aOp aInX (aVar 3) (aVar 1))) (aTst (aOp aNotIn (aVar 2) (aVar 1)))) (aC (.dat (.int 1))) chk (wipeG (startG N__law_is_first [.dat ad, .dat (lotD lot)]) [2, 3]) Θ ((aheads.map jobD).map D.dat) [] M := by
    intro chk hchk Θ hΘ
    refine turns_dat jobD (ahE (startG N__law_is_first [.dat ad, .dat (lotD lot)]) 2 3) (fun p => lot.contains p.2 && !lot.contains p.1) (fun p => .int 1) aheads M (fun _ => hchk _) (fun _ _ => rfl) (fun p _ N Φ _ hΦ => ?_) (fun p _ _ N Φ _ hΦ => ?_) (by have := hah.1; omega) hΘ
    · refine x_and (x_tst (in_lot 3 1 rfl rfl ?_))
      refine x_kTst (x_if2 (fun hb => x_tst (notIn_lot 2 1 rfl rfl ?_)) fun hb => ?_)
      · rw [hb, Bool.true_and] at hΦ
        exact hΦ
      · rw [hb, Bool.false_and] at hΦ
        exact hΦ
    · exact hΦ
  refine x_body ?_
  unfold as__law_is_first
  walk_at "AMX"
  · rw [eqv_lot_nil]
    refine x_if2 (fun hb => ?_) fun hb => ?_
    · have he : lot.isEmpty = false := by simpa using hb
      unfold firstB at h
      rw [he, Bool.not_false, Bool.true_and, ← no_first] at h
      have fin : ∀ M, Ψ (D.dat (PyData.bool (PyData.eqv (.list ((aheads.filter fun p => lot.contains p.2 && !lot.contains p.1).map fun _ => .int 1)) (.list [])))) M = Ψ (.dat (.bool (aheads.filter fun p => lot.contains p.2 && !lot.contains p.1).isEmpty)) M := fun M => by rw [eqv_nil, map_isEmpty]
      walk_at "AMX"
      rcases had with rfl | rfl
      · walk_at "AMX"
        refine core (fun _ => True) (fun _ => trivial) _ ?_
        walk_at "AMX"
        · rw [fin]; exact h
        · exact .inl (cmp_ones _)
        · decide
      · walk_at "AMX"
        refine core (fun _ => True) (fun _ => trivial) _ ?_
        walk_at "AMX"
        · rw [fin]; exact h
        · exact .inl (cmp_ones _)
        · decide
    · have he : lot.isEmpty = true := by simpa using hb
      unfold firstB at h
      rw [he] at h
      exact h
  · exact ⟨plain_lot lot, rfl, by rw [depth_lot]; simp [PyData.depth, PyData.depthAll]⟩
  · decide
end K17
end

section
set_option Elab.async false
set_option linter.all false
set_option maxRecDepth 100000
set_option maxHeartbeats 0
namespace K17
open PySem AM
local macro_rules | `(tactic| walk_at "AMX") => `(tactic| (repeat first
      | with_reducible refine x_body ?_
      | with_reducible refine x_next ?_
      | with_reducible refine x_seq ?_
      | with_reducible refine x_expr ?_
      | with_reducible refine x_ret ?_
      | with_reducible refine x_retN ?_
      | with_reducible refine x_ifS ?_
      | with_reducible refine x_asgN ?_
      | with_reducible refine x_asgT ?_
      | with_reducible refine x_asgL ?_
      | with_reducible refine x_par ?_
      | with_reducible refine x_for ?_
      | with_reducible refine x_c ?_
      | with_reducible refine x_op ?_
      | with_reducible refine x_un ?_
      | with_reducible refine x_tst ?_
      | with_reducible refine x_kTst ?_
      | with_reducible refine x_and ?_
      | with_reducible refine x_or ?_
      | with_reducible refine x_not ?_
      | with_reducible refine x_andV ?_
      | with_reducible refine x_orV ?_
      | with_reducible refine x_notV ?_
      | with_reducible refine x_kAndV ?_
      | with_reducible refine x_kOrV ?_
      | with_reducible refine x_kNotV ?_
      | with_reducible refine x_if ?_
      | with_reducible refine x_yes ?_
      | with_reducible refine x_chain ?_
      | with_reducible refine x_kCh ?_
      | with_reducible refine x_nil ?_
      | with_reducible refine x_cons ?_
      | with_reducible refine x_star ?_
      | with_reducible refine x_cb ?_
      | with_reducible refine x_tup ?_
      | with_reducible refine x_lst ?_
      | with_reducible refine x_lc ?_
      | with_reducible refine x_iter ?_
      | with_reducible refine x_zip ?_
      | with_reducible refine x_rg1 ?_
      | with_reducible refine x_rg2 ?_
      | with_reducible refine x_sl ?_
      | with_reducible refine x_kSl ?_
      | with_reducible refine x_noPart ?_
      | with_reducible refine x_part ?_
      | with_reducible refine x_rev ?_
      | with_reducible refine x_lr1 ?_
      | with_reducible refine x_call ?_
      | with_reducible refine x_callO ?_
      | with_reducible refine x_bm0 ?_
      | with_reducible refine x_bm ?_
      | with_reducible refine x_nx ?_
      | with_reducible refine x_rt ?_
      | with_reducible refine x_bk ?_
      | with_reducible refine x_ct ?_
      | with_reducible refine x_kRes0 ?_
      | with_reducible refine x_break ?_
      | with_reducible refine x_cont ?_
      | ((with_reducible apply x_var); exact rfl)
      | ((with_reducible apply x_kIterT); exact rfl)
      | ((with_reducible apply x_kIterL); exact rfl)
      | ((with_reducible apply x_kAsg); exact rfl)
      | ((with_reducible apply x_kStar); exact rfl)
      | ((with_reducible apply x_kIterO); exact rfl)
      | ((with_reducible apply x_abs); exact rfl)
      | ((with_reducible apply x_int1); exact rfl)
      | ((with_reducible apply x_neg); exact rfl)
      | ((with_reducible apply x_kPart); exact rfl)
      | ((with_reducible apply x_slT); exact rfl)
      | ((with_reducible apply x_slL); exact rfl)
      | ((with_reducible apply x_revT); exact rfl)
      | ((with_reducible apply x_revL); exact rfl)
      | ((with_reducible apply x_revLn); exact rfl)
      | ((with_reducible apply x_sum); exact rfl)
      | ((with_reducible apply x_all); exact rfl)
      | ((with_reducible apply x_kTup); exact rfl)
      | ((with_reducible apply x_kLstF); exact rfl)
      | ((with_reducible apply x_kLstT); exact rfl)
      | ((with_reducible apply x_repr); exact rfl)
      | ((with_reducible apply x_kAsgL); exact rfl; exact rfl)
      | ((with_reducible apply x_intT); exact rfl; exact rfl)
      | ((with_reducible apply x_addI); exact rfl; exact rfl)
      | ((with_reducible apply x_isN); exact rfl; exact rfl)
      | ((with_reducible apply x_isB); exact rfl; exact rfl)
      | ((with_reducible apply x_kCall0); exact rfl; exact rfl)
      | ((with_reducible apply x_kZipT); exact rfl; exact rfl)
      | ((with_reducible apply x_kZipL); exact rfl; exact rfl)
      | ((with_reducible apply x_kCallO); exact rfl)
      | with_reducible refine x_dput ?_
      | ((with_reducible apply x_kDPutK); exact rfl; exact rfl; exact rfl)
      | ((with_reducible apply x_kDPutT); exact rfl; exact rfl; exact rfl)
      | ((with_reducible apply x_int); exact rfl; exact rfl)
      | ((with_reducible apply x_addT); exact rfl; exact rfl)
      | ((with_reducible apply x_addL); exact rfl; exact rfl)
      | ((with_reducible apply x_addLn); exact rfl; exact rfl)
      | ((with_reducible apply x_mulI); exact rfl; exact rfl)
      | ((with_reducible apply x_mulT); exact rfl; exact rfl)
      | ((with_reducible apply x_ne); exact rfl; exact rfl)
      | ((with_reducible apply x_eq); exact rfl; exact rfl)
      | ((with_reducible apply x_ixL); (first | exact .inl rfl | exact .inr rfl); exact rfl; exact rfl)
      | ((with_reducible apply x_ixD); exact rfl; exact rfl; exact rfl; exact rfl)
      | ((with_reducible apply x_lenS); (first | exact .inl rfl | exact .inr rfl))
      | ((with_reducible apply x_tupleOf); (first | exact .inl rfl | exact .inr rfl))
      | ((with_reducible apply x_listOfF); (first | exact .inl rfl | exact .inr rfl))
      | ((with_reducible apply x_listOfT); (first | exact .inl rfl | exact .inr rfl))
      | ((with_reducible apply x_isi); exact rfl; rotate_left; simp [tyNames]; rotate_right)
      | with_reducible apply x_kRng1
      | with_reducible apply x_kRng2
      | with_reducible apply x_kLr1
      | ((with_reducible apply x_ifT); exact rfl)
      | ((with_reducible apply x_ifF); exact rfl)
      | ((with_reducible apply x_kTst2); exact rfl)))
/-! ### the lots -/
theorem lotD_snoc (lot : List Nat) (a : Nat) : lotD (lot ++ [a]) = .tuple (iL lot ++ [.int (a : Int)]) := by
  unfold lotD iL
  rw [List.map_append]
  rfl
theorem sz_of {n : Nat} (h : n ≤ 16777216) : n ≤ sizeLine := Nat.le_trans h (by decide)
theorem iL_len (l : List Nat) : (iL l).length = l.length := by unfold iL; rw [List.length_map]
theorem loop_lots {K : AEnds} : ∀ (rest : List Nat) (found : List (List Nat)) (G : Gm), G[1]? = some (some (.own 0)) → G.length = 4 → found.length * 2 ^ rest.length ≤ 1024 → (∀ l ∈ found, l.length + rest.length ≤ 60) →
    (∀ G' : Gm, G'[1]? = some (some (.own 0)) → K.nx G' [some (.lst ((lotsOf rest found).map lotD))]) →
    aLoop (aName 2) (aExpr (aBM aExtend (aVar 1) (aCons (aLc (aIter (aVar 1)) (aName 3) aYes (aTup (aStar (aVar 3) (aCons (aVar 2) (aNil)))) [3]) (aNil)))) (fun _ => True) K ((iL rest).map D.dat) G [some (.lst (found.map lotD))]
  | [], found, G, hG, _, _, _, h => ⟨trivial, h G hG⟩
  | a :: rest, found, G, hG, hl, hb, hs, h => by
    refine ⟨trivial, ?_⟩
    have hG1 : (G.set 2 (some (.dat (.int (a : Int)))))[1]? = some (some (.own 0)) := by rw [List.getElem?_set_ne (by decide)]; exact hG
    have hpow : found.length * 2 ^ (rest.length + 1) ≤ 1024 := hb
    have hpos : 1 ≤ 2 ^ rest.length := Nat.one_le_two_pow
    have hfl : found.length * 2 ≤ 1024 := Nat.le_trans (Nat.mul_le_mul_left _ (by rw [Nat.pow_succ]; omega)) hpow
    show (aExpr _) _ (G.set 2 (some (.dat (.int (a : Int))))) _
    refine x_expr (x_bm (x_var hG1 ⟨x_isLst rfl, x_cons (x_lc (x_iter (x_var hG1 (x_kIterO (ps := found.map lotD) rfl ?_))))⟩))
    refine turns_map lotD (fun lot => (wipeG (G.set 2 (some (.dat (.int (a : Int))))) [3]).set 3 (some (.dat (lotD lot)))) (fun lot => lotD (lot ++ [a])) found _ (fun _ => by exact rfl) (fun _ _ => by exact rfl) (fun lot hlot N Φ _ hΦ => ?_) (by omega) ?_
    · have e3 : ((wipeG (G.set 2 (some (.dat (.int (a : Int))))) [3]).set 3 (some (.dat (lotD lot))))[3]? = some (some (.dat (lotD lot))) := by
        rw [List.getElem?_set_self (by show 3 < ((G.set 2 _).set 3 none).length; rw [List.length_set, List.length_set, hl]; decide)]
      have e2 : ((wipeG (G.set 2 (some (.dat (.int (a : Int))))) [3]).set 3 (some (.dat (lotD lot))))[2]? = some (some (.dat (.int (a : Int)))) := by
        rw [List.getElem?_set_ne (by decide)]
        show ((G.set 2 _).set 3 none)[2]? = _
        rw [List.getElem?_set_ne (by decide), List.getElem?_set_self (by rw [hl]; decide)]
      refine x_tup (x_star (x_var e3 (x_kStar (ps := iL lot) rfl (x_cons (x_var e2 (x_nil (x_kTup (dats_append (dats_map _) rfl) ?_ ?_)))))))
      · rw [← lotD_snoc]
        exact hΦ
      · have := hs lot hlot
        simp only [List.length_append, iL_len, List.length_cons, List.length_nil]
        exact sz_of (by omega)
    · refine x_nil (x_extend (ps := found.map lotD) (qs := found.map fun lot => lotD (lot ++ [a])) rfl rfl ?_ ?_)
      · have e : (found.map lotD ++ found.map fun lot => lotD (lot ++ [a])) = (found ++ found.map fun lot => lot ++ [a]).map lotD := by rw [List.map_append, List.map_map]; rfl
        rw [e]
        refine loop_lots rest (found ++ found.map fun lot => lot ++ [a]) _ hG1 (by rw [List.length_set]; exact hl) ?_ ?_ h
        · rw [List.length_append, List.length_map]
          have : (found.length + found.length) * 2 ^ rest.length = found.length * 2 ^ (rest.length + 1) := by rw [Nat.pow_succ, ← Nat.two_mul, Nat.mul_comm 2, Nat.mul_assoc, Nat.mul_comm 2]
          omega
        · intro l hl2
          rcases List.mem_append.mp hl2 with h2 | h2
          · have := hs l h2
            simp only [List.length_cons] at this
            omega
          · obtain ⟨l', h3, rfl⟩ := List.mem_map.mp h2
            have := hs l' h3
            simp only [List.length_cons] at this
            simp only [List.length_append, List.length_cons, List.length_nil]
            omega
      · rw [List.length_map, List.length_map]
        exact sz_of (by omega)
theorem ok_lots_among {ds : List D} {M : Sto} {Ψ : K1} (h : sp_lots_among ds M Ψ) : aBody N_lots_among as_lots_among ds M Ψ := by
  obtain ⟨n, rfl, hn, rfl, h⟩ := h
  refine x_body ?_
  unfold as_lots_among
  walk_at "AMX"
  · refine loop_lots (List.range n) [[]] _ rfl rfl ?_ ?_ ?_
    · rw [List.length_range]
      have : 2 ^ n ≤ 2 ^ 9 := Nat.pow_le_pow_right (by decide) hn
      simp only [List.length_cons, List.length_nil]
      omega
    · intro l hl
      rw [List.length_range]
      simp only [List.mem_cons, List.not_mem_nil, or_false] at hl
      subst hl
      simp
      omega
    · intro G' hG'
      exact x_nx (x_ret (x_var hG' h))
  all_goals decide

theorem lots_ok (n : Nat) : ∀ (rest : List Nat) (found : List (List Nat)), (∀ a ∈ rest, a < n) → (∀ l ∈ found, (∀ a ∈ l, a < n) ∧ l.length + rest.length ≤ 60) → ∀ l ∈ lotsOf rest found, LotOk n l
  | [], found, _, h2, l, hl => ⟨by have := (h2 l hl).2; simpa using this, (h2 l hl).1⟩
  | a :: rest, found, h1, h2, l, hl => by
    refine lots_ok n rest _ (fun b hb => h1 b (List.mem_cons_of_mem _ hb)) (fun l' hl' => ?_) l hl
    rcases List.mem_append.mp hl' with h | h
    · have := h2 l' h
      exact ⟨this.1, by have := this.2; simp only [List.length_cons] at this; omega⟩
    · obtain ⟨l2, h3, rfl⟩ := List.mem_map.mp h
      have := h2 l2 h3
      refine ⟨fun b hb => ?_, by have := this.2; simp only [List.length_cons] at this; simp only [List.length_append, List.length_cons, List.length_nil]; omega⟩
      rcases List.mem_append.mp hb with h | h
      · exact this.1 b h
      · simp at h; subst h; exact h1 _ List.mem_cons_self
theorem lots_range {n : Nat} (hn : n ≤ 9) : ∀ l ∈ lotsOf (List.range n) [[]], LotOk n l := by
  refine lots_ok n _ _ (fun a ha => List.mem_range.mp ha) fun l hl => ?_
  simp at hl
  subst hl
  simp
  omega
theorem press_sm {jobs : List Job} {lot : List Nat} (hj : JobsOk jobs) (hl : LotOk jobs.length lot) (hne : lot ≠ []) : Sm (pressN jobs lot) := by
  obtain ⟨⟨w0, w1⟩, l0, l1⟩ := sums_ok hj hl hne
  exact ⟨Nat.le_trans (Nat.div_le_self _ _) w1, Nat.le_trans (Nat.div_le_self _ _) l1⟩
theorem plain_job (p : Nat × Nat) : (jobD p).plain = true := rfl
theorem depth_job (p : Nat × Nat) : (jobD p).depth = 1 := by simp [jobD, PyData.depth, PyData.depthAll]
theorem eqv_job (p q : Nat × Nat) : (jobD p).eqv (jobD q) = decide (p = q) := by
  obtain ⟨a, b⟩ := p
  obtain ⟨c, d⟩ := q
  simp only [jobD, PyData.eqv, PyData.eqvAll, Bool.and_true]
  rw [Bool.eq_iff_iff]
  simp only [Bool.and_eq_true, beq_iff_eq, decide_eq_true_eq, Prod.mk.injEq]
  omega
theorem cmp_job (p q : Nat × Nat) : Cmp (jobD p) (jobD q) := ⟨rfl, rfl, by rw [depth_job, depth_job]; decide⟩
theorem cmp_lot_nil (lot : List Nat) : Cmp (lotD lot) (.tuple []) := ⟨plain_lot lot, rfl, by rw [depth_lot]; simp [PyData.depth, PyData.depthAll]⟩
theorem not_empty {lot : List Nat} (h : lot.isEmpty = false) : lot ≠ [] := fun z => by rw [z] at h; cases h
/-- here: every pair -/
theorem here_lc {G : Gm} {M : Sto} {Ψ : K1} {n : Nat} {aheads : List (Nat × Nat)} (hah : AhOk n aheads) (g2 : G[2]? = some (some (.dat (.tuple (aheads.map jobD))))) (g1 : G[1]? = some (some (.dat (.list (iL (List.range n)))))) (hl : G.length = 7) (h : Ψ (.dat (.list (aheads.map jobD))) M) :
    aLc (aIter (aVar 2)) (aName 6) (aAnd (aTst (aOp aInX (aOp aIx (aVar 6) (aC (.dat (.int 0)))) (aVar 1))) (aTst (aOp aInX (aOp aIx (aVar 6) (aC (.dat (.int 1)))) (aVar 1)))) (aVar 6) [6] G M Ψ := by
  refine x_lc (x_iter (x_var g2 (x_kIterT rfl ?_)))
  have e6 : ∀ p : Nat × Nat, ((wipeG G [6]).set 6 (some (.dat (jobD p))))[6]? = some (some (.dat (jobD p))) := fun p => by
    rw [List.getElem?_set_self (by show 6 < (G.set 6 none).length; rw [List.length_set, hl]; decide)]
  have e1 : ∀ p : Nat × Nat, ((wipeG G [6]).set 6 (some (.dat (jobD p))))[1]? = some (some (.dat (.list (iL (List.range n))))) := fun p => by
    rw [List.getElem?_set_ne (by decide)]
    show (G.set 6 none)[1]? = _
    rw [List.getElem?_set_ne (by decide), g1]
  have inR : ∀ (a : Nat) (N : Sto) (Φ : K1), a < n → Φ (.dat (.bool true)) N → aInX (.dat (.int (a : Int))) (.dat (.list (iL (List.range n)))) N Φ := fun a N Φ ha hΦ => by
    refine x_in (p := .int (a : Int)) (ps := iL (List.range n)) rfl (.inr rfl) ?_ (.inl (inLot _ a))
    rw [any_iL, List.contains_iff_mem.mpr (List.mem_range.mpr ha)]
    exact hΦ
  refine turns_dat jobD (fun p => (wipeG G [6]).set 6 (some (.dat (jobD p)))) (fun _ => true) jobD aheads M (fun _ => trivial) (fun _ _ => by exact rfl) (fun p hp N Φ _ hΦ => ?_) (fun p _ _ N Φ _ hΦ => ?_) (by have := hah.1; omega) ?_
  · have hlt := hah.2 p hp
    refine x_and (x_tst (x_op (x_op (x_var (e6 p) (x_c (x_ixL (ps := [.int (p.1 : Int), .int (p.2 : Int)]) (.inr rfl) rfl rfl ?_))))))
    refine x_var (e1 p) (inR p.1 N _ hlt.1 (x_kTst (x_ifT rfl ?_)))
    refine x_tst (x_op (x_op (x_var (e6 p) (x_c (x_ixL (ps := [.int (p.1 : Int), .int (p.2 : Int)]) (.inr rfl) rfl rfl ?_)))))
    exact x_var (e1 p) (inR p.2 N _ hlt.2 (x_kTst hΦ))
  · exact x_var (e6 p) hΦ
  · have e : aheads.filter (fun _ => true) = aheads := List.filter_eq_self.mpr fun _ _ => rfl
    rw [e]
    exact h
theorem loop_best {K : AEnds} {jobs : List Job} {aheads : List (Nat × Nat)} (hj : JobsOk jobs) (hah : AhOk jobs.length aheads) : ∀ (lots : List (List Nat)) (best : List Nat) (G : Gm) (M : Sto), (∀ l ∈ lots, LotOk jobs.length l) → LotOk jobs.length best →
    G.length = 7 → G[0]? = some (some (.dat (jobsD jobs))) → G[3]? = some (some (.dat (.list (aheads.map jobD)))) → G[4]? = some (some (.dat (lotD best))) →
    (∀ G' : Gm, G'[4]? = some (some (.dat (lotD (lots.foldl (stepG jobs aheads) best)))) → K.nx G' M) →
    aLoop (aName 5) as_greatest_among_b24 (fun _ => True) K ((lots.map lotD).map D.dat) G M
  | [], best, G, M, _, _, _, _, _, g4, h => ⟨trivial, h G g4⟩
  | lot :: lots, best, G, M, hls, hb, hl, g0, g3, g4, h => by
    refine ⟨trivial, ?_⟩
    show as_greatest_among_b24 _ (G.set 5 (some (.dat (lotD lot)))) M
    have hlot := hls lot List.mem_cons_self
    have g5 : (G.set 5 (some (.dat (lotD lot))))[5]? = some (some (.dat (lotD lot))) := by rw [List.getElem?_set_self (by rw [hl]; decide)]
    have k0 : (G.set 5 (some (.dat (lotD lot))))[0]? = some (some (.dat (jobsD jobs))) := by rw [List.getElem?_set_ne (by decide)]; exact g0
    have k3 : (G.set 5 (some (.dat (lotD lot))))[3]? = some (some (.dat (.list (aheads.map jobD)))) := by rw [List.getElem?_set_ne (by decide)]; exact g3
    have k4 : (G.set 5 (some (.dat (lotD lot))))[4]? = some (some (.dat (lotD best))) := by rw [List.getElem?_set_ne (by decide)]; exact g4
    -- the two ways on
    have same : stepG jobs aheads best lot = best → aLoop (aName 5) as_greatest_among_b24 (fun _ => True) K ((lots.map lotD).map D.dat) (G.set 5 (some (.dat (lotD lot)))) M := fun e =>
      loop_best hj hah lots best _ M (fun l hm => hls l (List.mem_cons_of_mem _ hm)) hb (by rw [List.length_set]; exact hl) k0 k3 k4 (by rw [List.foldl_cons, e] at h; exact h)
    have new : stepG jobs aheads best lot = lot → aLoop (aName 5) as_greatest_among_b24 (fun _ => True) K ((lots.map lotD).map D.dat) ((G.set 5 (some (.dat (lotD lot)))).set 4 (some (.dat (lotD lot)))) M := fun e =>
      loop_best hj hah lots lot _ M (fun l hm => hls l (List.mem_cons_of_mem _ hm)) hlot (by rw [List.length_set, List.length_set]; exact hl) (by rw [List.getElem?_set_ne (by decide)]; exact k0) (by rw [List.getElem?_set_ne (by decide)]; exact k3)
        (by rw [List.getElem?_set_self (by rw [List.length_set, hl]; decide)]) (by rw [List.foldl_cons, e] at h; exact h)
    unfold as_greatest_among_b24
    refine x_ifS (x_tst (x_call (x_cons (x_var k3 (x_cons (x_var g5 (x_nil (x_kCall0 rfl rfl ⟨jobs.length, _, aheads, lot, rfl, .inr rfl, hah, x_kRes0 (x_kTst ?_)⟩))))))))
    refine x_if2 (fun hf => ?_) fun hf => x_next (same (by unfold stepG; rw [hf]; rfl))
    have hne : lot ≠ [] := fun z => by rw [z] at hf; cases hf
    refine x_ifS (x_or (x_tst (x_op (x_var k4 (x_tup (x_nil (x_kTup rfl (x_eq (p := lotD best) (q := .tuple []) rfl rfl (x_kTst ?_) (.inl (cmp_lot_nil best))) (by decide))))))))
    rw [eqv_lot_nil]
    refine x_if2 (fun he => ?_) fun he => ?_
    · refine x_ifT rfl (x_asgN (x_var g5 (new ?_)))
      unfold stepG
      rw [hf, he]
      rfl
    · have hbn := not_empty he
      have sb := press_sm hj hb hbn
      have sl := press_sm hj hlot hne
      have pr : ∀ {Ψ : K1} (i : Nat) (l : List Nat), (G.set 5 (some (.dat (lotD lot))))[i]? = some (some (.dat (lotD l))) → LotOk jobs.length l → l ≠ [] → Ψ (.dat (jobD (pressN jobs l))) M → aCall 2 0 sp_press_of (aCons (aVar 0) (aCons (aVar i) aNil)) (G.set 5 (some (.dat (lotD lot)))) M Ψ := fun i l e hl' hn' hΨ =>
        x_call (x_cons (x_var k0 (x_cons (x_var e (x_nil (x_kCall0 rfl rfl ⟨jobs, l, rfl, hj, hl', hn', x_kRes0 hΨ⟩))))))
      refine x_tst (x_call (x_cons (pr 4 best k4 hb hbn (x_cons (pr 5 lot g5 hlot hne (x_nil (x_kCall0 rfl rfl ⟨_, _, rfl, sb, sl, x_kRes0 (x_kTst ?_)⟩)))))))
      refine x_if2 (fun hls' => ?_) fun hls' => ?_
      · refine x_asgN (x_var g5 (new ?_))
        unfold stepG
        rw [hf, he, hls']
        rfl
      · refine x_ifS (x_and (x_tst (x_op (pr 4 best k4 hb hbn (pr 5 lot g5 hlot hne (x_eq (p := jobD _) (q := jobD _) rfl rfl (x_kTst ?_) (.inl (cmp_job _ _))))))))
        rw [eqv_job]
        refine x_if2 (fun hq => ?_) fun hq => ?_
        · refine x_tst (x_op (x_cb (x_cons (x_var g5 (x_nil (x_lenS (ps := iL lot) (.inr rfl) (x_cb (x_cons (x_var k4 (x_nil (x_lenS (ps := iL best) (.inr rfl) ?_)))))))))))
          refine x_intT rfl rfl ?_
          refine x_kTst ?_
          rw [iL_len, iL_len]
          have ed : decide ((best.length : Int) < (lot.length : Int)) = decide (best.length < lot.length) := by apply decide_eq_decide.mpr; omega
          rw [ed]
          refine x_if2 (fun hz => x_asgN (x_var g5 (new ?_))) fun hz => x_next (same ?_)
          · unfold stepG
            rw [hf, he, hls', hq, hz]
            rfl
          · unfold stepG
            rw [hf, he, hls', hq, hz]
            rfl
        · refine x_ifF rfl (x_next (same ?_))
          unfold stepG
          rw [hf, he, hls', hq]
          rfl
theorem ok_greatest_among {ds : List D} {M : Sto} {Ψ : K1} (h : sp_greatest_among ds M Ψ) : aBody N_greatest_among as_greatest_among ds M Ψ := by
  obtain ⟨jobs, aheads, rfl, hj, hn, h1, hah, rfl, h⟩ := h
  refine x_body ?_
  unfold as_greatest_among
  refine x_seq (x_par (x_cons (here_lc hah rfl rfl rfl ?_)))
  walk_at "AMX"
  · refine ⟨rfl, ?_⟩
    walk_at "AMX"
    refine ⟨jobs.length, rfl, hn, rfl, x_kRes0o rfl ?_⟩
    walk_at "AMX"
    refine loop_best hj hah _ [] _ [] (lots_range hn) ⟨by decide, fun a ha => by cases ha⟩ rfl rfl rfl rfl fun G' hG' => x_nx (x_ret (x_var hG' h))
  all_goals decide
theorem range_iL (n : Nat) : rngP 0 ((n : Int)).toNat = iL (List.range n) := by
  unfold rngP iL
  rw [Int.toNat_natCast]
  apply List.map_congr_left
  intro i _
  rw [Int.zero_add]
theorem ok_greatest_first_lot {ds : List D} {M : Sto} {Ψ : K1} (h : sp_greatest_first_lot ds M Ψ) : aBody N_greatest_first_lot as_greatest_first_lot ds M Ψ := by
  obtain ⟨jobs, aheads, rfl, hh, rfl, h⟩ := h
  refine x_body ?_
  unfold as_greatest_first_lot
  walk_at "AMX"
  · rw [List.length_map, range_iL]
    walk_at "AMX"
    exact ⟨jobs, aheads, rfl, hh.1, hh.2.1, hh.2.2.1, hh.2.2.2, rfl, x_kRes0 (x_rt h)⟩
  · have := hh.2.1
    rw [List.length_map]
    omega
end K17
end

section
set_option Elab.async false
set_option linter.all false
set_option maxRecDepth 100000
set_option maxHeartbeats 0
namespace K17
open PySem AM
local macro_rules | `(tactic| walk_at "AMX") => `(tactic| (repeat first
      | with_reducible refine x_body ?_
      | with_reducible refine x_next ?_
      | with_reducible refine x_seq ?_
      | with_reducible refine x_expr ?_
      | with_reducible refine x_ret ?_
      | with_reducible refine x_retN ?_
      | with_reducible refine x_ifS ?_
      | with_reducible refine x_asgN ?_
      | with_reducible refine x_asgT ?_
      | with_reducible refine x_asgL ?_
      | with_reducible refine x_par ?_
      | with_reducible refine x_for ?_
      | with_reducible refine x_c ?_
      | with_reducible refine x_op ?_
      | with_reducible refine x_un ?_
      | with_reducible refine x_tst ?_
      | with_reducible refine x_kTst ?_
      | with_reducible refine x_and ?_
      | with_reducible refine x_or ?_
      | with_reducible refine x_not ?_
      | with_reducible refine x_andV ?_
      | with_reducible refine x_orV ?_
      | with_reducible refine x_notV ?_
      | with_reducible refine x_kAndV ?_
      | with_reducible refine x_kOrV ?_
      | with_reducible refine x_kNotV ?_
      | with_reducible refine x_if ?_
      | with_reducible refine x_yes ?_
      | with_reducible refine x_chain ?_
      | with_reducible refine x_kCh ?_
      | with_reducible refine x_nil ?_
      | with_reducible refine x_cons ?_
      | with_reducible refine x_star ?_
      | with_reducible refine x_cb ?_
      | with_reducible refine x_tup ?_
      | with_reducible refine x_lst ?_
      | with_reducible refine x_lc ?_
      | with_reducible refine x_iter ?_
      | with_reducible refine x_zip ?_
      | with_reducible refine x_rg1 ?_
      | with_reducible refine x_rg2 ?_
      | with_reducible refine x_sl ?_
      | with_reducible refine x_kSl ?_
      | with_reducible refine x_noPart ?_
      | with_reducible refine x_part ?_
      | with_reducible refine x_rev ?_
      | with_reducible refine x_lr1 ?_
      | with_reducible refine x_call ?_
      | with_reducible refine x_callO ?_
      | with_reducible refine x_bm0 ?_
      | with_reducible refine x_bm ?_
      | with_reducible refine x_nx ?_
      | with_reducible refine x_rt ?_
      | with_reducible refine x_bk ?_
      | with_reducible refine x_ct ?_
      | with_reducible refine x_kRes0 ?_
      | with_reducible refine x_break ?_
      | with_reducible refine x_cont ?_
      | ((with_reducible apply x_var); exact rfl)
      | ((with_reducible apply x_kIterT); exact rfl)
      | ((with_reducible apply x_kIterL); exact rfl)
      | ((with_reducible apply x_kAsg); exact rfl)
      | ((with_reducible apply x_kStar); exact rfl)
      | ((with_reducible apply x_kIterO); exact rfl)
      | ((with_reducible apply x_abs); exact rfl)
      | ((with_reducible apply x_int1); exact rfl)
      | ((with_reducible apply x_neg); exact rfl)
      | ((with_reducible apply x_kPart); exact rfl)
      | ((with_reducible apply x_slT); exact rfl)
      | ((with_reducible apply x_slL); exact rfl)
      | ((with_reducible apply x_revT); exact rfl)
      | ((with_reducible apply x_revL); exact rfl)
      | ((with_reducible apply x_revLn); exact rfl)
      | ((with_reducible apply x_sum); exact rfl)
      | ((with_reducible apply x_all); exact rfl)
      | ((with_reducible apply x_kTup); exact rfl)
      | ((with_reducible apply x_kLstF); exact rfl)
      | ((with_reducible apply x_kLstT); exact rfl)
      | ((with_reducible apply x_repr); exact rfl)
      | ((with_reducible apply x_kAsgL); exact rfl; exact rfl)
      | ((with_reducible apply x_intT); exact rfl; exact rfl)
      | ((with_reducible apply x_addI); exact rfl; exact rfl)
      | ((with_reducible apply x_isN); exact rfl; exact rfl)
      | ((with_reducible apply x_isB); exact rfl; exact rfl)
      | ((with_reducible apply x_kCall0); exact rfl; exact rfl)
      | ((with_reducible apply x_kZipT); exact rfl; exact rfl)
      | ((with_reducible apply x_kZipL); exact rfl; exact rfl)
      | ((with_reducible apply x_kCallO); exact rfl)
      | with_reducible refine x_dput ?_
      | ((with_reducible apply x_kDPutK); exact rfl; exact rfl; exact rfl)
      | ((with_reducible apply x_kDPutT); exact rfl; exact rfl; exact rfl)
      | ((with_reducible apply x_int); exact rfl; exact rfl)
      | ((with_reducible apply x_addT); exact rfl; exact rfl)
      | ((with_reducible apply x_addL); exact rfl; exact rfl)
      | ((with_reducible apply x_addLn); exact rfl; exact rfl)
      | ((with_reducible apply x_mulI); exact rfl; exact rfl)
      | ((with_reducible apply x_mulT); exact rfl; exact rfl)
      | ((with_reducible apply x_ne); exact rfl; exact rfl)
      | ((with_reducible apply x_eq); exact rfl; exact rfl)
      | ((with_reducible apply x_ixL); (first | exact .inl rfl | exact .inr rfl); exact rfl; exact rfl)
      | ((with_reducible apply x_ixD); exact rfl; exact rfl; exact rfl; exact rfl)
      | ((with_reducible apply x_lenS); (first | exact .inl rfl | exact .inr rfl))
      | ((with_reducible apply x_tupleOf); (first | exact .inl rfl | exact .inr rfl))
      | ((with_reducible apply x_listOfF); (first | exact .inl rfl | exact .inr rfl))
      | ((with_reducible apply x_listOfT); (first | exact .inl rfl | exact .inr rfl))
      | ((with_reducible apply x_isi); exact rfl; rotate_left; simp [tyNames]; rotate_right)
      | with_reducible apply x_kRng1
      | with_reducible apply x_kRng2
      | with_reducible apply x_kLr1
      | ((with_reducible apply x_ifT); exact rfl)
      | ((with_reducible apply x_ifF); exact rfl)
      | ((with_reducible apply x_kTst2); exact rfl)))
/-! ### the law's own press, its own greatest lot -/
theorem wh_gcd2 {K : AEnds} {G : List (Option D)} {M : Sto} (i j : Nat) (hij : i ≠ j) (hi : i < G.length) (hj : j < G.length) : ∀ (n b a : Nat), b < n →
    (∀ g : Nat, g = Nat.gcd a b → K.nx ((G.set i (some (.dat (.int (g : Int))))).set j (some (.dat (.int 0)))) M) →
    aWh (aTst (aOp aGt (aVar j) (aC (.dat (.int 0))))) (aPar [i, j] (aCons (aVar j) (aCons (aOp aMod (aCB aInt1 (aCons (aVar i) aNil)) (aVar j)) aNil))) K n ((G.set i (some (.dat (.int (a : Int))))).set j (some (.dat (.int (b : Int))))) M := by
  intro n
  induction n with
  | zero => intro b a h; omega
  | succ n ih =>
    intro b a hb hK
    have gi : ∀ x y : Nat, ((G.set i (some (.dat (.int (x : Int))))).set j (some (.dat (.int (y : Int)))))[i]? = some (some (.dat (.int (x : Int)))) := fun x y => by
      rw [List.getElem?_set_ne (Ne.symm hij), List.getElem?_set_self hi]
    have gj : ∀ x y : Nat, ((G.set i (some (.dat (.int (x : Int))))).set j (some (.dat (.int (y : Int)))))[j]? = some (some (.dat (.int (y : Int)))) := fun x y => by
      rw [List.getElem?_set_self (by rw [List.length_set]; exact hj)]
    unfold aWh
    refine x_tst (x_op (x_var (gj a b) (x_c ?_)))
    refine x_intT rfl rfl ?_
    refine x_kTst ?_
    refine x_if2 (fun hp => ?_) fun hz => ?_
    · have hp' : 0 < b := by simpa using hp
      refine x_par (x_cons (x_var (gj a b) (x_cons (x_op (x_cb (x_cons (x_var (gi a b) (x_nil (x_int1 rfl (x_var (gj a b) ?_))))))))))
      refine x_int rfl rfl ?_ (by omega)
      refine x_nil ⟨rfl, ?_⟩
      have e : ((a : Int) % (b : Int)) = ((a % b : Nat) : Int) := by omega
      have e2 : ((((G.set i (some (.dat (.int (a : Int))))).set j (some (.dat (.int (b : Int))))).set i (some (.dat (.int (b : Int))))).set j (some (.dat (.int ((a % b : Nat) : Int))))) = (G.set i (some (.dat (.int (b : Int))))).set j (some (.dat (.int ((a % b : Nat) : Int)))) := by
        rw [List.set_comm _ _ (Ne.symm hij), List.set_set, List.set_set]
      rw [e]
      show aWh _ _ K n ((((G.set i (some (.dat (.int (a : Int))))).set j (some (.dat (.int (b : Int))))).set i (some (.dat (.int (b : Int))))).set j (some (.dat (.int ((a % b : Nat) : Int))))) M
      rw [e2]
      refine ih (a % b) b (by have := Nat.mod_lt a hp'; omega) fun g hg => hK g ?_
      rw [hg, Nat.gcd_comm a b, Nat.gcd_rec b a, Nat.gcd_comm]
    · have hz' : b = 0 := by simp at hz; omega
      subst hz'
      exact hK a (by simp)
theorem ok__law_press {ds : List D} {M : Sto} {Ψ : K1} (h : sp__law_press ds M Ψ) : aBody N__law_press as__law_press ds M Ψ := by
  obtain ⟨jobs, lot, rfl, hj, hl, hne, h⟩ := h
  obtain ⟨⟨w0, w1⟩, l0, l1⟩ := sums_ok hj hl hne
  obtain ⟨g0, g1⟩ := gcd_ok (b := lOf jobs lot) w0 w1
  refine x_body ?_
  unfold as__law_press
  with_reducible refine x_seq (x_par (x_cons (x_cb (x_cons ?_))))
  refine lc_job 0 1 4 1 (·.2) (fun _ => rfl) rfl rfl (by decide) (by show 4 < 6; decide) hl ?_
  with_reducible refine x_nil ?_
  refine sum_lc (fun a => (jobs.getD a (0, 0)).2) lot ?_
  with_reducible refine x_cons (x_cb (x_cons ?_))
  refine lc_job 0 1 4 0 (·.1) (fun _ => rfl) rfl rfl (by decide) (by show 4 < 6; decide) hl ?_
  with_reducible refine x_nil ?_
  refine sum_lc (fun a => (jobs.getD a (0, 0)).1) lot ?_
  refine ⟨rfl, ?_⟩
  refine x_nx ?_
  unfold as__law_press_s101
  walk_at "AMX"
  refine ⟨rfl, ?_⟩
  refine x_nx ?_
  unfold as__law_press_s102
  refine x_seq (x_while (lOf jobs lot + 1) ?_)
  refine wh_gcd2 (G := [some (.dat (jobsD jobs)), some (.dat (lotD lot)), some (.dat (.int ((wOf jobs lot : Nat) : Int))), some (.dat (.int ((lOf jobs lot : Nat) : Int))), none, none]) 4 5 (by decide) (by show 4 < 6; decide) (by show 5 < 6; decide) (lOf jobs lot + 1) (lOf jobs lot) (wOf jobs lot) (by omega) fun g hg => ?_
  subst hg
  unfold as__law_press_s104
  walk_at "AMX"
  · exact h
  · show 2 ≤ sizeLine
    decide
  · exact div_ok g0 g1
  · exact div_ok g0 g1
theorem rng_iL (n : Nat) : rng 0 ((n : Nat) : Int).toNat = (iL (List.range n)).map D.dat := by
  unfold rng iL
  rw [Int.toNat_natCast, List.map_map]
  apply List.map_congr_left
  intro i _
  rw [Int.zero_add]
  rfl
theorem loop_lots2 {K : AEnds} {M : Sto} : ∀ (rest : List Nat) (found : List (List Nat)) (G : Gm), G[2]? = some (some (.dat (.list (found.map lotD)))) → G.length = 8 → found.length * 2 ^ rest.length ≤ 1024 → (∀ l ∈ found, l.length + rest.length ≤ 60) →
    (∀ G' : Gm, G'.length = 8 → G'[0]? = G[0]? → G'[1]? = G[1]? → G'[3]? = G[3]? → G'[2]? = some (some (.dat (.list ((lotsOf rest found).map lotD)))) → K.nx G' M) →
    aLoop (aName 4) as__law_greatest_b111 (fun _ => True) K ((iL rest).map D.dat) G M
  | [], found, G, hG, hl, _, _, h => ⟨trivial, h G hl rfl rfl rfl hG⟩
  | a :: rest, found, G, hG, hl, hb, hs, h => by
    refine ⟨trivial, ?_⟩
    have hG2 : (G.set 4 (some (.dat (.int (a : Int)))))[2]? = some (some (.dat (.list (found.map lotD)))) := by rw [List.getElem?_set_ne (by decide)]; exact hG
    have hpow : found.length * 2 ^ (rest.length + 1) ≤ 1024 := hb
    have hpos : 1 ≤ 2 ^ rest.length := Nat.one_le_two_pow
    have hfl : found.length * 2 ≤ 1024 := Nat.le_trans (Nat.mul_le_mul_left _ (by rw [Nat.pow_succ]; omega)) hpow
    show as__law_greatest_b111 _ (G.set 4 (some (.dat (.int (a : Int))))) M
    refine x_asgN (x_op (x_var hG2 (x_lc (x_iter (x_var hG2 (x_kIterL rfl ?_))))))
    refine turns_map lotD (fun lot => (wipeG (G.set 4 (some (.dat (.int (a : Int))))) [5]).set 5 (some (.dat (lotD lot)))) (fun lot => lotD (lot ++ [a])) found _ (fun _ => trivial) (fun _ _ => by exact rfl) (fun lot hlot N Φ _ hΦ => ?_) (by omega) ?_
    · have e5 : ((wipeG (G.set 4 (some (.dat (.int (a : Int))))) [5]).set 5 (some (.dat (lotD lot))))[5]? = some (some (.dat (lotD lot))) := by
        rw [List.getElem?_set_self (by show 5 < ((G.set 4 _).set 5 none).length; rw [List.length_set, List.length_set, hl]; decide)]
      have e4 : ((wipeG (G.set 4 (some (.dat (.int (a : Int))))) [5]).set 5 (some (.dat (lotD lot))))[4]? = some (some (.dat (.int (a : Int)))) := by
        rw [List.getElem?_set_ne (by decide)]
        show ((G.set 4 _).set 5 none)[4]? = _
        rw [List.getElem?_set_ne (by decide), List.getElem?_set_self (by rw [hl]; decide)]
      refine x_op (x_var e5 (x_tup (x_cons (x_var e4 (x_nil (x_kTup (ps := [.int (a : Int)]) rfl (x_addT (ps := iL lot) (qs := [.int (a : Int)]) rfl rfl ?_ ?_) (by show 1 ≤ sizeLine; decide)))))))
      · rw [← lotD_snoc]
        exact hΦ
      · have := hs lot hlot
        rw [iL_len]
        simp only [List.length_cons, List.length_nil] at this ⊢
        exact sz_of (by omega)
    · refine x_addL (ps := found.map lotD) (qs := found.map fun lot => lotD (lot ++ [a])) rfl rfl ?_ ?_
      · have e : (found.map lotD ++ found.map fun lot => lotD (lot ++ [a])) = (found ++ found.map fun lot => lot ++ [a]).map lotD := by rw [List.map_append, List.map_map]; rfl
        rw [e]
        refine loop_lots2 rest (found ++ found.map fun lot => lot ++ [a]) _ (by rw [List.getElem?_set_self (by rw [List.length_set, hl]; decide)]) (by rw [List.length_set, List.length_set]; exact hl) ?_ ?_ fun G' l' h0 h1 h3 h2 => ?_
        · rw [List.length_append, List.length_map]
          have : (found.length + found.length) * 2 ^ rest.length = found.length * 2 ^ (rest.length + 1) := by rw [Nat.pow_succ, ← Nat.two_mul, Nat.mul_comm 2, Nat.mul_assoc, Nat.mul_comm 2]
          omega
        · intro l hl2
          rcases List.mem_append.mp hl2 with h2 | h2
          · have := hs l h2
            simp only [List.length_cons] at this
            omega
          · obtain ⟨l', h3, rfl⟩ := List.mem_map.mp h2
            have := hs l' h3
            simp only [List.length_cons] at this
            simp only [List.length_append, List.length_cons, List.length_nil]
            omega
        · exact h G' l' (by rw [h0, List.getElem?_set_ne (by decide), List.getElem?_set_ne (by decide)]) (by rw [h1, List.getElem?_set_ne (by decide), List.getElem?_set_ne (by decide)]) (by rw [h3, List.getElem?_set_ne (by decide), List.getElem?_set_ne (by decide)]) h2
      · rw [List.length_map, List.length_map]
        exact sz_of (by omega)
def bestD (jobs : List Job) (best : List Nat) : PyData := if best.isEmpty = true then .none else .tuple [jobD (pressN jobs best), lotD best]
theorem bestD_nil {jobs : List Job} {best : List Nat} (h : best.isEmpty = true) : bestD jobs best = .none := if_pos h
theorem bestD_ne {jobs : List Job} {best : List Nat} (h : best.isEmpty = false) : bestD jobs best = .tuple [jobD (pressN jobs best), lotD best] := if_neg (by rw [h]; decide)
theorem loop_best2 {K : AEnds} {M : Sto} {jobs : List Job} {aheads : List (Nat × Nat)} (hj : JobsOk jobs) (hah : AhOk jobs.length aheads) : ∀ (lots : List (List Nat)) (best : List Nat) (G : Gm), (∀ l ∈ lots, LotOk jobs.length l) → LotOk jobs.length best →
    G.length = 8 → G[0]? = some (some (.dat (jobsD jobs))) → G[1]? = some (some (.dat (.tuple (aheads.map jobD)))) → G[3]? = some (some (.dat (bestD jobs best))) →
    (∀ G' : Gm, G'[3]? = some (some (.dat (bestD jobs (lots.foldl (stepG jobs aheads) best)))) → K.nx G' M) →
    aLoop (aName 5) as__law_greatest_b113 (fun _ => True) K ((lots.map lotD).map D.dat) G M
  | [], best, G, _, _, _, _, _, g3, h => ⟨trivial, h G g3⟩
  | lot :: lots, best, G, hls, hb, hl, g0, g1, g3, h => by
    refine ⟨trivial, ?_⟩
    show as__law_greatest_b113 _ (G.set 5 (some (.dat (lotD lot)))) M
    have hlot := hls lot List.mem_cons_self
    have k5 : (G.set 5 (some (.dat (lotD lot))))[5]? = some (some (.dat (lotD lot))) := by rw [List.getElem?_set_self (by rw [hl]; decide)]
    have k0 : (G.set 5 (some (.dat (lotD lot))))[0]? = some (some (.dat (jobsD jobs))) := by rw [List.getElem?_set_ne (by decide)]; exact g0
    have k1 : (G.set 5 (some (.dat (lotD lot))))[1]? = some (some (.dat (.tuple (aheads.map jobD)))) := by rw [List.getElem?_set_ne (by decide)]; exact g1
    have k3 : (G.set 5 (some (.dat (lotD lot))))[3]? = some (some (.dat (bestD jobs best))) := by rw [List.getElem?_set_ne (by decide)]; exact g3
    have kl : (G.set 5 (some (.dat (lotD lot)))).length = 8 := by rw [List.length_set]; exact hl
    generalize G.set 5 (some (.dat (lotD lot))) = G1 at k0 k1 k3 k5 kl
    have ih : ∀ (b2 : List Nat) (G2 : Gm), stepG jobs aheads best lot = b2 → LotOk jobs.length b2 → G2.length = 8 → G2[0]? = some (some (.dat (jobsD jobs))) → G2[1]? = some (some (.dat (.tuple (aheads.map jobD)))) → G2[3]? = some (some (.dat (bestD jobs b2))) →
        aLoop (aName 5) as__law_greatest_b113 (fun _ => True) K ((lots.map lotD).map D.dat) G2 M := fun b2 G2 e hb2 l2 z0 z1 z3 =>
      loop_best2 hj hah lots b2 G2 (fun l hm => hls l (List.mem_cons_of_mem _ hm)) hb2 l2 z0 z1 z3 (by rw [List.foldl_cons, e] at h; exact h)
    unfold as__law_greatest_b113
    refine x_ifS (x_tst (x_call (x_cons (x_var k1 (x_cons (x_var k5 (x_nil (x_kCall0 rfl rfl ⟨jobs.length, _, aheads, lot, rfl, .inl rfl, hah, x_kRes0 (x_kTst ?_)⟩))))))))
    refine x_if2 (fun hf => ?_) fun hf => x_next (ih best G1 (by unfold stepG; rw [hf]; rfl) hb kl k0 k1 k3)
    have hne : lot ≠ [] := fun z => by rw [z] at hf; cases hf
    have sl := press_sm hj hlot hne
    refine x_seq (x_asgN (x_call (x_cons (x_var k0 (x_cons (x_var k5 (x_nil (x_kCall0 rfl rfl ⟨jobs, lot, rfl, hj, hlot, hne, x_kRes0 (x_nx ?_)⟩))))))))
    -- the press stands at 6
    have j6 : (G1.set 6 (some (.dat (jobD (pressN jobs lot)))))[6]? = some (some (.dat (jobD (pressN jobs lot)))) := by rw [List.getElem?_set_self (by rw [kl]; decide)]
    have j0 : (G1.set 6 (some (.dat (jobD (pressN jobs lot)))))[0]? = some (some (.dat (jobsD jobs))) := by rw [List.getElem?_set_ne (by decide)]; exact k0
    have j1 : (G1.set 6 (some (.dat (jobD (pressN jobs lot)))))[1]? = some (some (.dat (.tuple (aheads.map jobD)))) := by rw [List.getElem?_set_ne (by decide)]; exact k1
    have j3 : (G1.set 6 (some (.dat (jobD (pressN jobs lot)))))[3]? = some (some (.dat (bestD jobs best))) := by rw [List.getElem?_set_ne (by decide)]; exact k3
    have j5 : (G1.set 6 (some (.dat (jobD (pressN jobs lot)))))[5]? = some (some (.dat (lotD lot))) := by rw [List.getElem?_set_ne (by decide)]; exact k5
    have jl : (G1.set 6 (some (.dat (jobD (pressN jobs lot))))).length = 8 := by rw [List.length_set]; exact kl
    generalize G1.set 6 (some (.dat (jobD (pressN jobs lot)))) = G2 at j0 j1 j3 j5 j6 jl
    -- what the last statement does, by the flag
    have last : ∀ (G3 : Gm) (more : Bool), G3[7]? = some (some (.dat (.bool more))) → G3.length = 8 → G3[0]? = some (some (.dat (jobsD jobs))) → G3[1]? = some (some (.dat (.tuple (aheads.map jobD)))) → G3[3]? = some (some (.dat (bestD jobs best))) → G3[5]? = some (some (.dat (lotD lot))) → G3[6]? = some (some (.dat (jobD (pressN jobs lot)))) →
        more = (best.isEmpty || lessP (pressN jobs best) (pressN jobs lot)) →
        aIfS (aOr (aTst (aVar 7)) (aAnd (aTst (aOp aEqX (aVar 6) (aOp aIx (aVar 3) (aC (.dat (.int 0)))))) (aTst (aOp aGt (aCB aLen (aCons (aVar 5) (aNil))) (aCB aLen (aCons (aOp aIx (aVar 3) (aC (.dat (.int 1)))) (aNil))))))) (aAsg (aTup (aCons (aVar 6) (aCons (aVar 5) (aNil)))) (aName 3)) (aNext)
          { nx := aLoop (aName 5) as__law_greatest_b113 (fun _ => True) K ((lots.map lotD).map D.dat), rt := K.rt, bk := K.nx, ct := aLoop (aName 5) as__law_greatest_b113 (fun _ => True) K ((lots.map lotD).map D.dat) } G3 M := by
      intro G3 more i7 il i0 i1 i3 i5 i6 hm
      have take : stepG jobs aheads best lot = lot → aAsg (aTup (aCons (aVar 6) (aCons (aVar 5) (aNil)))) (aName 3) { nx := aLoop (aName 5) as__law_greatest_b113 (fun _ => True) K ((lots.map lotD).map D.dat), rt := K.rt, bk := K.nx, ct := aLoop (aName 5) as__law_greatest_b113 (fun _ => True) K ((lots.map lotD).map D.dat) } G3 M := fun e => by
        refine x_asgN (x_tup (x_cons (x_var i6 (x_cons (x_var i5 (x_nil (x_kTup rfl ?_ (by show 2 ≤ sizeLine; decide))))))))
        have hle : lot.isEmpty = false := by cases lot with | nil => exact absurd rfl hne | cons _ _ => rfl
        refine ih lot _ e hlot (by rw [List.length_set]; exact il) (by rw [List.getElem?_set_ne (by decide)]; exact i0) (by rw [List.getElem?_set_ne (by decide)]; exact i1) ?_
        rw [List.getElem?_set_self (by rw [il]; decide), bestD_ne hle]
      have stay : stepG jobs aheads best lot = best → aNext { nx := aLoop (aName 5) as__law_greatest_b113 (fun _ => True) K ((lots.map lotD).map D.dat), rt := K.rt, bk := K.nx, ct := aLoop (aName 5) as__law_greatest_b113 (fun _ => True) K ((lots.map lotD).map D.dat) } G3 M := fun e => x_next (ih best G3 e hb il i0 i1 i3)
      refine x_ifS (x_or (x_tst (x_var i7 (x_kTst ?_))))
      refine x_if2 (fun hq => ?_) fun hq => ?_
      · refine x_ifT rfl (take ?_)
        rw [hm] at hq
        unfold stepG
        rw [hf, hq]
        rfl
      · rw [hm] at hq
        have hq1 : best.isEmpty = false := by cases e : best.isEmpty <;> rw [e] at hq <;> first | rfl | cases hq
        have hq2 : lessP (pressN jobs best) (pressN jobs lot) = false := by rw [hq1] at hq; exact hq
        have i3' := i3
        rw [bestD_ne hq1] at i3'
        refine x_and (x_tst (x_op (x_var i6 (x_op (x_var i3' (x_c (x_ixL (ps := [jobD (pressN jobs best), lotD best]) (.inr rfl) rfl rfl ?_)))))))
        refine x_eq (p := jobD (pressN jobs lot)) (q := jobD (pressN jobs best)) rfl rfl ?_ (.inl (cmp_job _ _))
        refine x_kTst ?_
        rw [eqv_job]
        have sym : decide (pressN jobs lot = pressN jobs best) = decide (pressN jobs best = pressN jobs lot) := by apply decide_eq_decide.mpr; exact eq_comm
        rw [sym]
        refine x_if2 (fun he => ?_) fun he => ?_
        · refine x_tst (x_op (x_cb (x_cons (x_var i5 (x_nil (x_lenS (ps := iL lot) (.inr rfl) (x_cb (x_cons (x_op (x_var i3' (x_c (x_ixL (ps := [jobD (pressN jobs best), lotD best]) (.inr rfl) rfl rfl (x_nil (x_lenS (ps := iL best) (.inr rfl) ?_))))))))))))))
          refine x_intT rfl rfl ?_
          refine x_kTst ?_
          rw [iL_len, iL_len]
          have ed : decide ((best.length : Int) < (lot.length : Int)) = decide (best.length < lot.length) := by apply decide_eq_decide.mpr; omega
          rw [ed]
          refine x_if2 (fun hz => take ?_) fun hz => stay ?_
          · unfold stepG
            rw [hf, hq1, hq2, he, hz]
            rfl
          · unfold stepG
            rw [hf, hq1, hq2, he, hz]
            rfl
        · refine x_ifF rfl (stay ?_)
          unfold stepG
          rw [hf, hq1, hq2, he]
          rfl
    have set7 : ∀ (more : Bool), more = (best.isEmpty || lessP (pressN jobs best) (pressN jobs lot)) → aIfS (aOr (aTst (aVar 7)) (aAnd (aTst (aOp aEqX (aVar 6) (aOp aIx (aVar 3) (aC (.dat (.int 0)))))) (aTst (aOp aGt (aCB aLen (aCons (aVar 5) (aNil))) (aCB aLen (aCons (aOp aIx (aVar 3) (aC (.dat (.int 1)))) (aNil))))))) (aAsg (aTup (aCons (aVar 6) (aCons (aVar 5) (aNil)))) (aName 3)) (aNext)
          { nx := aLoop (aName 5) as__law_greatest_b113 (fun _ => True) K ((lots.map lotD).map D.dat), rt := K.rt, bk := K.nx, ct := aLoop (aName 5) as__law_greatest_b113 (fun _ => True) K ((lots.map lotD).map D.dat) } (G2.set 7 (some (.dat (.bool more)))) M := fun more hm =>
      last _ more (by rw [List.getElem?_set_self (by rw [jl]; decide)]) (by rw [List.length_set]; exact jl) (by rw [List.getElem?_set_ne (by decide)]; exact j0) (by rw [List.getElem?_set_ne (by decide)]; exact j1) (by rw [List.getElem?_set_ne (by decide)]; exact j3) (by rw [List.getElem?_set_ne (by decide)]; exact j5) (by rw [List.getElem?_set_ne (by decide)]; exact j6) hm
    refine x_seq (x_asgN (x_orV (x_op (x_var j3 (x_c ?_)))))
    refine x_isN (p := bestD jobs best) rfl rfl ?_
    refine x_kOrV ?_
    cases he : best.isEmpty with
    | true =>
      rw [bestD_nil he]
      refine x_ifT rfl (x_nx ?_)
      exact set7 true (by rw [he]; rfl)
    | false =>
      have j3' := j3
      rw [bestD_ne he] at j3' ⊢
      refine x_ifF rfl ?_
      have sb := press_sm hj hb (not_empty he)
      refine x_call (x_cons (x_op (x_var j3' (x_c (x_ixL (ps := [jobD (pressN jobs best), lotD best]) (.inr rfl) rfl rfl (x_cons (x_var j6 (x_nil (x_kCall0 rfl rfl ⟨_, _, rfl, sb, sl, x_kRes0 (x_nx ?_)⟩)))))))))
      exact set7 _ (by rw [he]; rfl)
theorem cut_tail {n : Nat} (hn : n ≤ 9) : cutP ((lotsOf (List.range n) [[]]).map lotD) (some 1) none = ((lotsOf (List.range n) [[]]).tail).map lotD := by
  have h0 : ∀ (rest : List Nat) (found : List (List Nat)), 1 ≤ found.length → 1 ≤ (lotsOf rest found).length := by
    intro rest
    induction rest with
    | nil => intro f h; exact h
    | cons a r ih => intro f h; exact ih _ (by rw [List.length_append]; omega)
  have h1 := h0 (List.range n) [[]] (Nat.le_refl 1)
  unfold cutP
  rw [List.length_map]
  have e1 : HT.sIx (lotsOf (List.range n) [[]]).length 0 (some 1) = 1 := by
    have := HT.sIx_nat (lotsOf (List.range n) [[]]).length 0 1
    rw [show ((1 : Nat) : Int) = 1 from rfl] at this
    rw [this]
    omega
  have e2 : HT.sIx (lotsOf (List.range n) [[]]).length (lotsOf (List.range n) [[]]).length none = (lotsOf (List.range n) [[]]).length := rfl
  rw [e1, e2, ← List.map_drop, List.take_of_length_le (by rw [List.length_map, List.length_drop]; omega), List.drop_one]
theorem lots_head : ∀ (rest : List Nat) (found : List (List Nat)) (x : List Nat) (r : List (List Nat)), found = x :: r → ∃ r', lotsOf rest found = x :: r'
  | [], _, x, r, e => ⟨r, e⟩
  | a :: rest, found, x, r, e => by
    subst e
    exact lots_head rest _ x _ rfl
theorem greatest_tail (jobs : List Job) (aheads : List (Nat × Nat)) : ((lotsOf (List.range jobs.length) [[]]).tail).foldl (stepG jobs aheads) [] = greatest jobs aheads := by
  unfold greatest
  obtain ⟨r, e⟩ := lots_head (List.range jobs.length) [[]] [] [] rfl
  rw [e]
  rfl
theorem lot_mem : ∀ (rest : List Nat) (found : List (List Nat)) (l : List Nat), l ∈ found → l ++ rest ∈ lotsOf rest found
  | [], found, l, h => by simpa [lotsOf] using h
  | a :: rest, found, l, h => by
    have := lot_mem rest (found ++ found.map fun lot => lot ++ [a]) (l ++ [a]) (List.mem_append_right _ (List.mem_map.mpr ⟨l, h, rfl⟩))
    simpa [lotsOf] using this
theorem step_ne {jobs : List Job} {aheads : List (Nat × Nat)} {best lot : List Nat} (h : best ≠ [] ∨ firstB aheads lot = true) : stepG jobs aheads best lot ≠ [] := by
  unfold stepG
  by_cases hf : firstB aheads lot = true
  · rw [if_pos hf]
    have hne : lot ≠ [] := fun z => by rw [z] at hf; cases hf
    split
    · exact hne
    · rename_i hq
      intro z
      rw [z] at hq
      exact hq rfl
  · rw [if_neg hf]
    exact h.resolve_right hf
theorem fold_ne {jobs : List Job} {aheads : List (Nat × Nat)} : ∀ (lots : List (List Nat)) (best : List Nat), (best ≠ [] ∨ ∃ l ∈ lots, firstB aheads l = true) → lots.foldl (stepG jobs aheads) best ≠ []
  | [], best, h => by
    rcases h with h | ⟨l, h, _⟩
    · exact h
    · cases h
  | lot :: lots, best, h => by
    refine fold_ne lots _ ?_
    rcases h with h | ⟨l, hm, hf⟩
    · exact .inl (step_ne (.inl h))
    · rcases List.mem_cons.mp hm with e | hm
      · subst e
        exact .inl (step_ne (.inr hf))
      · exact .inr ⟨l, hm, hf⟩
theorem fold_mem {jobs : List Job} {aheads : List (Nat × Nat)} : ∀ (lots : List (List Nat)) (best : List Nat), lots.foldl (stepG jobs aheads) best = best ∨ lots.foldl (stepG jobs aheads) best ∈ lots
  | [], best => .inl rfl
  | lot :: lots, best => by
    rw [List.foldl_cons]
    have h1 : stepG jobs aheads best lot = best ∨ stepG jobs aheads best lot = lot := by
      unfold stepG
      split
      · split
        · exact .inr rfl
        · exact .inl rfl
      · exact .inl rfl
    rcases fold_mem lots (stepG jobs aheads best lot) with h | h
    · rw [h]
      rcases h1 with h1 | h1
      · exact .inl h1
      · rw [h1]
        exact .inr List.mem_cons_self
    · exact .inr (List.mem_cons_of_mem _ h)
theorem greatest_ok {jobs : List Job} {aheads : List (Nat × Nat)} (hn : jobs.length ≤ 9) (h1 : 1 ≤ jobs.length) (hah : AhOk jobs.length aheads) : greatest jobs aheads ≠ [] ∧ LotOk jobs.length (greatest jobs aheads) := by
  have ne : greatest jobs aheads ≠ [] := by
    refine fold_ne _ _ (.inr ⟨List.range jobs.length, by have := lot_mem (List.range jobs.length) [[]] [] (by simp); simpa using this, ?_⟩)
    unfold firstB
    rw [Bool.and_eq_true]
    refine ⟨?_, List.all_eq_true.mpr fun p hp => ?_⟩
    · cases e : List.range jobs.length with
      | nil =>
        have := congrArg List.length e
        rw [List.length_range] at this
        simp at this
        rw [this] at h1
        simp at h1
      | cons _ _ => rfl
    · rw [List.contains_iff_mem.mpr (List.mem_range.mpr (hah.2 p hp).1), Bool.or_true]
  refine ⟨ne, ?_⟩
  rcases fold_mem (jobs := jobs) (aheads := aheads) (lotsOf (List.range jobs.length) [[]]) [] with h | h
  · exact absurd h ne
  · exact lots_range hn _ h
theorem ok__law_greatest {ds : List D} {M : Sto} {Ψ : K1} (h : sp__law_greatest ds M Ψ) : aBody N__law_greatest as__law_greatest ds M Ψ := by
  obtain ⟨jobs, aheads, rfl, hh, rfl, h⟩ := h
  obtain ⟨hj, hn, h1, hah⟩ := hh
  obtain ⟨gne, gok⟩ := greatest_ok hn h1 hah
  refine x_body ?_
  unfold as__law_greatest
  walk_at "AMX"
  · refine ⟨rfl, ?_⟩
    refine x_nx ?_
    unfold as__law_greatest_s111
    walk_at "AMX"
    · rw [List.length_map, rng_iL]
      refine loop_lots2 (List.range jobs.length) [[]] _ rfl rfl ?_ ?_ fun G' l' e0 e1 e3 e2 => ?_
      · rw [List.length_range]
        have : 2 ^ jobs.length ≤ 2 ^ 9 := Nat.pow_le_pow_right (by decide) hn
        simp only [List.length_cons, List.length_nil]
        omega
      · intro l hl
        rw [List.length_range]
        simp only [List.mem_cons, List.not_mem_nil, or_false] at hl
        subst hl
        simp
        omega
      · refine x_nx ?_
        unfold as__law_greatest_s113
        refine x_seq (x_for (x_iter (x_sl (x_var e2 (x_kSl (x_part (x_c (x_kPart rfl (x_noPart (x_slL rfl ?_))))))))))
        rw [cut_tail hn]
        refine x_kIterL rfl ?_
        refine loop_best2 hj hah _ [] G' (fun l hl => lots_range hn l (List.mem_of_mem_tail hl)) ⟨by decide, fun a ha => by cases ha⟩ l' (by rw [e0]; rfl) (by rw [e1]; rfl) (by rw [e3]; rfl) fun G2 g3 => ?_
        rw [greatest_tail] at g3
        have he : (greatest jobs aheads).isEmpty = false := by
          cases e : greatest jobs aheads with
          | nil => exact absurd e gne
          | cons _ _ => rfl
        rw [bestD_ne he] at g3
        refine x_nx ?_
        unfold as__law_greatest_s119
        exact x_ret (x_op (x_var g3 (x_c (x_ixL (ps := [jobD (pressN jobs (greatest jobs aheads)), lotD (greatest jobs aheads)]) (.inr rfl) rfl rfl h))))
    · rw [List.length_map]
      omega
  all_goals decide
theorem ok_press_paper {ds : List D} {M : Sto} {Ψ : K1} (h : sp_press_paper ds M Ψ) : aBody N_press_paper as_press_paper ds M Ψ := by
  obtain ⟨jobs, aheads, lot, rfl, hh, hl, hne, rfl, h⟩ := h
  obtain ⟨gne, gok⟩ := greatest_ok hh.2.1 hh.2.2.1 hh.2.2.2
  have s1 := press_sm hh.1 hl hne
  have s2 := press_sm hh.1 gok gne
  refine x_body ?_
  unfold as_press_paper
  walk_at "AMX"
  refine ⟨jobs, aheads, rfl, hh, rfl, ?_⟩
  walk_at "AMX"
  refine ⟨jobs, lot, rfl, hh.1, hl, hne, ?_⟩
  walk_at "AMX"
  refine ⟨jobs, _, rfl, hh.1, gok, gne, ?_⟩
  walk_at "AMX"
  refine ⟨_, _, rfl, s1, s2, ?_⟩
  walk_at "AMX"
  unfold dueD at h
  refine x_if2 (fun hq => ?_) fun hq => ?_
  · rw [if_pos hq] at h
    walk_at "AMX"
    · exact h
    · show 2 ≤ sizeLine
      decide
  · rw [if_neg (by rw [hq]; decide)] at h
    walk_at "AMX"
    · exact h
    · show 1 ≤ sizeLine
      decide
end K17
end

section
set_option Elab.async false
set_option linter.all false
set_option maxRecDepth 100000
set_option maxHeartbeats 0
namespace K17
open PySem AM
local macro_rules | `(tactic| walk_at "AMX") => `(tactic| (repeat first
      | with_reducible refine x_body ?_
      | with_reducible refine x_next ?_
      | with_reducible refine x_seq ?_
      | with_reducible refine x_expr ?_
      | with_reducible refine x_ret ?_
      | with_reducible refine x_retN ?_
      | with_reducible refine x_ifS ?_
      | with_reducible refine x_asgN ?_
      | with_reducible refine x_asgT ?_
      | with_reducible refine x_asgL ?_
      | with_reducible refine x_par ?_
      | with_reducible refine x_for ?_
      | with_reducible refine x_c ?_
      | with_reducible refine x_op ?_
      | with_reducible refine x_un ?_
      | with_reducible refine x_tst ?_
      | with_reducible refine x_kTst ?_
      | with_reducible refine x_and ?_
      | with_reducible refine x_or ?_
      | with_reducible refine x_not ?_
      | with_reducible refine x_andV ?_
      | with_reducible refine x_orV ?_
      | with_reducible refine x_notV ?_
      | with_reducible refine x_kAndV ?_
      | with_reducible refine x_kOrV ?_
      | with_reducible refine x_kNotV ?_
      | with_reducible refine x_if ?_
      | with_reducible refine x_yes ?_
      | with_reducible refine x_chain ?_
      | with_reducible refine x_kCh ?_
      | with_reducible refine x_nil ?_
      | with_reducible refine x_cons ?_
      | with_reducible refine x_star ?_
      | with_reducible refine x_cb ?_
      | with_reducible refine x_tup ?_
      | with_reducible refine x_lst ?_
      | with_reducible refine x_lc ?_
      | with_reducible refine x_iter ?_
      | with_reducible refine x_zip ?_
      | with_reducible refine x_rg1 ?_
      | with_reducible refine x_rg2 ?_
      | with_reducible refine x_sl ?_
      | with_reducible refine x_kSl ?_
      | with_reducible refine x_noPart ?_
      | with_reducible refine x_part ?_
      | with_reducible refine x_rev ?_
      | with_reducible refine x_lr1 ?_
      | with_reducible refine x_call ?_
      | with_reducible refine x_callO ?_
      | with_reducible refine x_bm0 ?_
      | with_reducible refine x_bm ?_
      | with_reducible refine x_nx ?_
      | with_reducible refine x_rt ?_
      | with_reducible refine x_bk ?_
      | with_reducible refine x_ct ?_
      | with_reducible refine x_kRes0 ?_
      | with_reducible refine x_break ?_
      | with_reducible refine x_cont ?_
      | ((with_reducible apply x_var); exact rfl)
      | ((with_reducible apply x_kIterT); exact rfl)
      | ((with_reducible apply x_kIterL); exact rfl)
      | ((with_reducible apply x_kAsg); exact rfl)
      | ((with_reducible apply x_kStar); exact rfl)
      | ((with_reducible apply x_kIterO); exact rfl)
      | ((with_reducible apply x_abs); exact rfl)
      | ((with_reducible apply x_int1); exact rfl)
      | ((with_reducible apply x_neg); exact rfl)
      | ((with_reducible apply x_kPart); exact rfl)
      | ((with_reducible apply x_slT); exact rfl)
      | ((with_reducible apply x_slL); exact rfl)
      | ((with_reducible apply x_revT); exact rfl)
      | ((with_reducible apply x_revL); exact rfl)
      | ((with_reducible apply x_revLn); exact rfl)
      | ((with_reducible apply x_sum); exact rfl)
      | ((with_reducible apply x_all); exact rfl)
      | ((with_reducible apply x_kTup); exact rfl)
      | ((with_reducible apply x_kLstF); exact rfl)
      | ((with_reducible apply x_kLstT); exact rfl)
      | ((with_reducible apply x_repr); exact rfl)
      | ((with_reducible apply x_kAsgL); exact rfl; exact rfl)
      | ((with_reducible apply x_intT); exact rfl; exact rfl)
      | ((with_reducible apply x_addI); exact rfl; exact rfl)
      | ((with_reducible apply x_isN); exact rfl; exact rfl)
      | ((with_reducible apply x_isB); exact rfl; exact rfl)
      | ((with_reducible apply x_kCall0); exact rfl; exact rfl)
      | ((with_reducible apply x_kZipT); exact rfl; exact rfl)
      | ((with_reducible apply x_kZipL); exact rfl; exact rfl)
      | ((with_reducible apply x_kCallO); exact rfl)
      | with_reducible refine x_dput ?_
      | ((with_reducible apply x_kDPutK); exact rfl; exact rfl; exact rfl)
      | ((with_reducible apply x_kDPutT); exact rfl; exact rfl; exact rfl)
      | ((with_reducible apply x_int); exact rfl; exact rfl)
      | ((with_reducible apply x_addT); exact rfl; exact rfl)
      | ((with_reducible apply x_addL); exact rfl; exact rfl)
      | ((with_reducible apply x_addLn); exact rfl; exact rfl)
      | ((with_reducible apply x_mulI); exact rfl; exact rfl)
      | ((with_reducible apply x_mulT); exact rfl; exact rfl)
      | ((with_reducible apply x_ne); exact rfl; exact rfl)
      | ((with_reducible apply x_eq); exact rfl; exact rfl)
      | ((with_reducible apply x_ixL); (first | exact .inl rfl | exact .inr rfl); exact rfl; exact rfl)
      | ((with_reducible apply x_ixD); exact rfl; exact rfl; exact rfl; exact rfl)
      | ((with_reducible apply x_lenS); (first | exact .inl rfl | exact .inr rfl))
      | ((with_reducible apply x_tupleOf); (first | exact .inl rfl | exact .inr rfl))
      | ((with_reducible apply x_listOfF); (first | exact .inl rfl | exact .inr rfl))
      | ((with_reducible apply x_listOfT); (first | exact .inl rfl | exact .inr rfl))
      | ((with_reducible apply x_isi); exact rfl; rotate_left; simp [tyNames]; rotate_right)
      | with_reducible apply x_kRng1
      | with_reducible apply x_kRng2
      | with_reducible apply x_kLr1
      | ((with_reducible apply x_ifT); exact rfl)
      | ((with_reducible apply x_ifF); exact rfl)
      | ((with_reducible apply x_kTst2); exact rfl)))
/-! ### told -/
theorem cut_one (xs : List PyData) : cutP xs (some 1) none = xs.tail := by
  unfold cutP
  have e1 : HT.sIx xs.length 0 (some 1) = min 1 xs.length := HT.sIx_nat xs.length 0 1
  have e2 : HT.sIx xs.length xs.length none = xs.length := rfl
  rw [e1, e2]
  cases xs with
  | nil => rfl
  | cons x xs =>
    have e3 : min 1 (x :: xs).length = 1 := by simp
    rw [e3, List.drop_one, List.take_of_length_le (by simp)]
theorem zipD_zip : ∀ ps qs : List PyData, zipD ps qs = ((ps.zip qs).map fun p => PyData.tuple [p.1, p.2]).map D.dat
  | p :: ps, q :: qs => by simp only [zipD, zipD_zip ps qs, List.zip_cons_cons, List.map_cons]
  | [], _ => by simp [zipD]
  | _ :: _, [] => by simp [zipD]
theorem told_tup (n : Nat) (xs : List PyData) : told n (.tuple xs) = ((!xs.isEmpty && xs.all (fun x => isNum x && ltI x (.int (n : Int)))) && (xs.zip xs.tail).all fun p => ltI p.1 p.2) := rfl
theorem numLt {x : PyData} {n : Nat} {G : Gm} {N : Sto} {Φ : K1} (i j : Nat) (gi : G[i]? = some (some (.dat x))) (gj : G[j]? = some (some (.dat (.int (n : Int))))) (h : Φ (.dat (.bool (isNum x && ltI x (.int (n : Int))))) N) :
    aAndV (aCall 1 0 sp_is_number (aCons (aVar i) (aNil))) (aOp aLt (aVar i) (aVar j)) G N Φ := by
  refine x_andV (x_call (x_cons (x_var gi (x_nil (x_kCall0 rfl rfl ⟨x, rfl, x_kRes0 (x_kAndV ?_)⟩)))))
  cases hb : isNum x with
  | true =>
    rw [hb, Bool.true_and] at h
    cases x with
    | int k => exact x_ifT rfl (x_op (x_var gi (x_var gj (x_intT rfl rfl h))))
    | _ => cases hb
  | false =>
    rw [hb, Bool.false_and] at h
    exact x_ifF rfl h
theorem ok_is_lot_told {ds : List D} {M : Sto} {Ψ : K1} (h : sp_is_lot_told ds M Ψ) : aBody N_is_lot_told as_is_lot_told ds M Ψ := by
  obtain ⟨n, v, rfl, ⟨hp, hd, hlen⟩, h⟩ := h
  refine x_body ?_
  unfold as_is_lot_told
  walk_at "AMX"
  by_cases ht : isTy v "tuple" = true
  · obtain ⟨xs, rfl⟩ : ∃ xs, v = .tuple xs := by cases v <;> simp [isTy] at ht; exact ⟨_, rfl⟩
    have hlen := hlen xs rfl
    rw [ht]
    walk_at "AMX"
    · rw [eqv_nilT]
      cases he : xs.isEmpty with
      | true =>
        walk_at "AMX"
        have : told n (.tuple xs) = false := by rw [told_tup, he]; rfl
        rw [this] at h
        exact h
      | false =>
        walk_at "AMX"
        refine turns_mapD (f := fun x => .bool (isNum x && ltI x (.int (n : Int)))) (fun x => (wipeG (startG N_is_lot_told [.dat (.int (n : Int)), .dat (.tuple xs)]) [2]).set 2 (some (.dat x))) xs M (fun _ => trivial) (fun _ _ => by exact rfl) (fun x _ N Φ _ hΦ => numLt 2 0 rfl rfl hΦ) (by omega) ?_
        refine x_nil (x_all (bs := xs.map fun x => isNum x && ltI x (.int (n : Int))) (show boolsOf _ = _ from bools_map (fun x => isNum x && ltI x (.int (n : Int))) xs) ?_)
        walk_at "AMX"
        rw [List.all_map]
        have ec : xs.all (id ∘ fun x => isNum x && ltI x (.int (n : Int))) = xs.all fun x => isNum x && ltI x (.int (n : Int)) := rfl
        rw [ec]
        cases hall : xs.all fun x => isNum x && ltI x (.int (n : Int)) with
        | false =>
          walk_at "AMX"
          have : told n (.tuple xs) = false := by rw [told_tup, he, hall]; rfl
          rw [this] at h
          exact h
        | true =>
          walk_at "AMX"
          have nums : ∀ x ∈ xs, ∃ k, x = .int k := fun x hx => by
            have := List.all_eq_true.mp hall x hx
            cases x with
            | int k => exact ⟨k, rfl⟩
            | _ => simp [isNum] at this
          rw [cut_one, zipD_zip]
          refine turns_map (f := fun p => .bool (ltI p.1 p.2)) (fun p : PyData × PyData => PyData.tuple [p.1, p.2]) (fun p => ((wipeG (startG N_is_lot_told [.dat (.int (n : Int)), .dat (.tuple xs)]) [2, 3]).set 2 (some (.dat p.1))).set 3 (some (.dat p.2))) (xs.zip xs.tail) M (fun _ => trivial) (fun _ _ => by exact rfl) (fun p hpm N Φ _ hΦ => ?_) ?_ ?_
          · obtain ⟨x, y⟩ := p
            obtain ⟨h1, h2⟩ := List.of_mem_zip hpm
            obtain ⟨k1, rfl⟩ := nums x h1
            obtain ⟨k2, rfl⟩ := nums y (List.mem_of_mem_tail h2)
            exact x_op (x_var rfl (x_var rfl (x_intT rfl rfl hΦ)))
          · rw [List.length_zip]
            omega
          · refine x_nil (x_all (bs := (xs.zip xs.tail).map fun p => ltI p.1 p.2) (show boolsOf _ = _ from bools_map (fun p : PyData × PyData => ltI p.1 p.2) _) ?_)
            rw [List.all_map]
            have : told n (.tuple xs) = (xs.zip xs.tail).all (id ∘ fun p => ltI p.1 p.2) := by rw [told_tup, he, hall]; rfl
            rw [this] at h
            exact x_rt h
    · exact .inl ⟨hp, rfl, by simp [PyData.depth, PyData.depthAll] at hd ⊢; omega⟩
    · decide
  · have ht' : isTy v "tuple" = false := by simpa using ht
    rw [ht']
    walk_at "AMX"
    have : told n v = false := by cases v <;> first | rfl | (simp [isTy] at ht')
    rw [this] at h
    exact h
end K17
end

section
set_option Elab.async false
set_option linter.all false
set_option maxRecDepth 100000
set_option maxHeartbeats 0
namespace K17
open PySem AM
local macro_rules | `(tactic| walk_at "AMX") => `(tactic| (repeat first
      | with_reducible refine x_body ?_
      | with_reducible refine x_next ?_
      | with_reducible refine x_seq ?_
      | with_reducible refine x_expr ?_
      | with_reducible refine x_ret ?_
      | with_reducible refine x_retN ?_
      | with_reducible refine x_ifS ?_
      | with_reducible refine x_asgN ?_
      | with_reducible refine x_asgT ?_
      | with_reducible refine x_asgL ?_
      | with_reducible refine x_par ?_
      | with_reducible refine x_for ?_
      | with_reducible refine x_c ?_
      | with_reducible refine x_op ?_
      | with_reducible refine x_un ?_
      | with_reducible refine x_tst ?_
      | with_reducible refine x_kTst ?_
      | with_reducible refine x_and ?_
      | with_reducible refine x_or ?_
      | with_reducible refine x_not ?_
      | with_reducible refine x_andV ?_
      | with_reducible refine x_orV ?_
      | with_reducible refine x_notV ?_
      | with_reducible refine x_kAndV ?_
      | with_reducible refine x_kOrV ?_
      | with_reducible refine x_kNotV ?_
      | with_reducible refine x_if ?_
      | with_reducible refine x_yes ?_
      | with_reducible refine x_chain ?_
      | with_reducible refine x_kCh ?_
      | with_reducible refine x_nil ?_
      | with_reducible refine x_cons ?_
      | with_reducible refine x_star ?_
      | with_reducible refine x_cb ?_
      | with_reducible refine x_tup ?_
      | with_reducible refine x_lst ?_
      | with_reducible refine x_lc ?_
      | with_reducible refine x_iter ?_
      | with_reducible refine x_zip ?_
      | with_reducible refine x_rg1 ?_
      | with_reducible refine x_rg2 ?_
      | with_reducible refine x_sl ?_
      | with_reducible refine x_kSl ?_
      | with_reducible refine x_noPart ?_
      | with_reducible refine x_part ?_
      | with_reducible refine x_rev ?_
      | with_reducible refine x_lr1 ?_
      | with_reducible refine x_call ?_
      | with_reducible refine x_callO ?_
      | with_reducible refine x_bm0 ?_
      | with_reducible refine x_bm ?_
      | with_reducible refine x_nx ?_
      | with_reducible refine x_rt ?_
      | with_reducible refine x_bk ?_
      | with_reducible refine x_ct ?_
      | with_reducible refine x_kRes0 ?_
      | with_reducible refine x_break ?_
      | with_reducible refine x_cont ?_
      | ((with_reducible apply x_var); exact rfl)
      | ((with_reducible apply x_kIterT); exact rfl)
      | ((with_reducible apply x_kIterL); exact rfl)
      | ((with_reducible apply x_kAsg); exact rfl)
      | ((with_reducible apply x_kStar); exact rfl)
      | ((with_reducible apply x_kIterO); exact rfl)
      | ((with_reducible apply x_abs); exact rfl)
      | ((with_reducible apply x_int1); exact rfl)
      | ((with_reducible apply x_neg); exact rfl)
      | ((with_reducible apply x_kPart); exact rfl)
      | ((with_reducible apply x_slT); exact rfl)
      | ((with_reducible apply x_slL); exact rfl)
      | ((with_reducible apply x_revT); exact rfl)
      | ((with_reducible apply x_revL); exact rfl)
      | ((with_reducible apply x_revLn); exact rfl)
      | ((with_reducible apply x_sum); exact rfl)
      | ((with_reducible apply x_all); exact rfl)
      | ((with_reducible apply x_kTup); exact rfl)
      | ((with_reducible apply x_kLstF); exact rfl)
      | ((with_reducible apply x_kLstT); exact rfl)
      | ((with_reducible apply x_repr); exact rfl)
      | ((with_reducible apply x_kAsgL); exact rfl; exact rfl)
      | ((with_reducible apply x_intT); exact rfl; exact rfl)
      | ((with_reducible apply x_addI); exact rfl; exact rfl)
      | ((with_reducible apply x_isN); exact rfl; exact rfl)
      | ((with_reducible apply x_isB); exact rfl; exact rfl)
      | ((with_reducible apply x_kCall0); exact rfl; exact rfl)
      | ((with_reducible apply x_kZipT); exact rfl; exact rfl)
      | ((with_reducible apply x_kZipL); exact rfl; exact rfl)
      | ((with_reducible apply x_kCallO); exact rfl)
      | with_reducible refine x_dput ?_
      | ((with_reducible apply x_kDPutK); exact rfl; exact rfl; exact rfl)
      | ((with_reducible apply x_kDPutT); exact rfl; exact rfl; exact rfl)
      | ((with_reducible apply x_int); exact rfl; exact rfl)
      | ((with_reducible apply x_addT); exact rfl; exact rfl)
      | ((with_reducible apply x_addL); exact rfl; exact rfl)
      | ((with_reducible apply x_addLn); exact rfl; exact rfl)
      | ((with_reducible apply x_mulI); exact rfl; exact rfl)
      | ((with_reducible apply x_mulT); exact rfl; exact rfl)
      | ((with_reducible apply x_ne); exact rfl; exact rfl)
      | ((with_reducible apply x_eq); exact rfl; exact rfl)
      | ((with_reducible apply x_ixL); (first | exact .inl rfl | exact .inr rfl); exact rfl; exact rfl)
      | ((with_reducible apply x_ixD); exact rfl; exact rfl; exact rfl; exact rfl)
      | ((with_reducible apply x_lenS); (first | exact .inl rfl | exact .inr rfl))
      | ((with_reducible apply x_tupleOf); (first | exact .inl rfl | exact .inr rfl))
      | ((with_reducible apply x_listOfF); (first | exact .inl rfl | exact .inr rfl))
      | ((with_reducible apply x_listOfT); (first | exact .inl rfl | exact .inr rfl))
      | ((with_reducible apply x_isi); exact rfl; rotate_left; simp [tyNames]; rotate_right)
      | with_reducible apply x_kRng1
      | with_reducible apply x_kRng2
      | with_reducible apply x_kLr1
      | ((with_reducible apply x_ifT); exact rfl)
      | ((with_reducible apply x_ifF); exact rfl)
      | ((with_reducible apply x_kTst2); exact rfl)))
/-! ### the judge -/
theorem atI_zero {α : Type} (y : α) (ys : List α) : L2.atI (y :: ys) 0 = some y := by
  have := atI_nat (y :: ys) 0
  exact this
theorem str_beq (x y : Str) : (x == y) = decide (x = y) := by
  by_cases h : x = y
  · subst h
    simp
  · simp [h]
theorem len_inc {n : Nat} : ∀ (r : List Nat) (a : Nat), (∀ b ∈ a :: r, b < n) → (((iL (a :: r)).zip (iL r)).all fun p => ltI p.1 p.2) = true → (a :: r).length ≤ n - a
  | [], a, h, _ => by
    have := h a List.mem_cons_self
    simp only [List.length_cons, List.length_nil]
    omega
  | b :: r, a, h, hz => by
    have hz' : (decide ((a : Int) < (b : Int)) && ((iL (b :: r)).zip (iL r)).all fun p => ltI p.1 p.2) = true := hz
    simp only [Bool.and_eq_true, decide_eq_true_eq] at hz'
    have ih := len_inc r b (fun c hc => h c (List.mem_cons_of_mem _ hc)) hz'.2
    have hb := h b (by simp)
    have hab := hz'.1
    simp only [List.length_cons] at ih ⊢
    omega
theorem iL_nat (l : List Nat) : (iL l).map natOf = l := by
  unfold iL
  rw [List.map_map]
  have : (natOf ∘ fun (a : Nat) => PyData.int (a : Int)) = id := by
    funext a
    simp [natOf]
  rw [this, List.map_id]
theorem told_lot {n : Nat} {v : PyData} (hn : n ≤ 60) (h : told n v = true) : ∃ lot2 : List Nat, v = lotD lot2 ∧ LotOk n lot2 ∧ lot2 ≠ [] := by
  cases v with
  | tuple xs =>
    rw [told_tup] at h
    simp only [Bool.and_eq_true] at h
    obtain ⟨⟨h1, h2⟩, h3⟩ := h
    have each : ∀ x ∈ xs, x = .int ((natOf x : Nat) : Int) ∧ natOf x < n := fun x hx => by
      have := List.all_eq_true.mp h2 x hx
      cases x with
      | int k =>
        simp only [isNum, ltI, Bool.and_eq_true, decide_eq_true_eq] at this
        refine ⟨?_, ?_⟩
        · show PyData.int k = .int ((k.toNat : Nat) : Int)
          congr 1
          omega
        · show k.toNat < n
          omega
      | _ => simp [isNum] at this
    have e1 : iL (xs.map natOf) = xs := by
      unfold iL
      rw [List.map_map]
      conv => rhs; rw [← List.map_id xs]
      apply List.map_congr_left
      intro x hx
      exact (each x hx).1.symm
    have hlt : ∀ a ∈ xs.map natOf, a < n := fun a ha => by
      obtain ⟨x, hx, rfl⟩ := List.mem_map.mp ha
      exact (each x hx).2
    refine ⟨xs.map natOf, by unfold lotD; rw [e1], ⟨?_, hlt⟩, ?_⟩
    · rw [← e1] at h3
      cases e : xs.map natOf with
      | nil => simp
      | cons a r =>
        rw [e] at h3 hlt
        have := len_inc r a hlt h3
        omega
    · intro z
      cases xs with
      | nil => simp at h1
      | cons _ _ => simp at z
  | _ => cases h
def judge2 (jobs : List Job) (aheads : List (Nat × Nat)) (lot lot2 : List Nat) : PyData := match aheads.filter fun p => lot2.contains p.2 && !lot2.contains p.1 with
  | p :: _ => .tuple [.str "ahead", .int (p.1 : Int), .int (p.2 : Int)]
  | [] => if lessP (pressN jobs lot) (pressN jobs lot2) = true then .none else .tuple [.str "press", jobD (pressN jobs lot2)]
theorem judge_told {jobs : List Job} {aheads : List (Nat × Nat)} {lot lot2 : List Nat} (h : told jobs.length (lotD lot2) = true) : judge jobs aheads lot (.tuple [.str "more", lotD lot2]) = judge2 jobs aheads lot lot2 := by
  unfold judge
  dsimp only
  rw [if_pos ⟨rfl, h⟩]
  unfold lotD
  dsimp only
  rw [iL_nat]
  rfl
theorem form_of {jobs : List Job} {aheads : List (Nat × Nat)} {lot : List Nat} {x : Str} {w : PyData} (h : ¬ (x = "more" ∧ told jobs.length w = true)) : judge jobs aheads lot (.tuple [.str x, w]) = .tuple [.str "form"] := by
  unfold judge
  dsimp only
  rw [if_neg h]
theorem aheads_lc {G : Gm} {M : Sto} {Ψ : K1} {n : Nat} {aheads : List (Nat × Nat)} {lot2 : List Nat} (hah : AhOk n aheads) (i j : Nat) (v : AE) (hij : i ≠ j) (hi : i < G.length) (hj : j < G.length) (g1 : G[1]? = some (some (.dat (.tuple (aheads.map jobD)))))
    (gv : ∀ (p : Nat × Nat) (N : Sto) (Φ : K1), Φ (.dat (lotD lot2)) N → v (ahE G i j p) N Φ) (h : Ψ (.dat (.list ((aheads.filter fun p => lot2.contains p.2 && !lot2.contains p.1).map jobD))) M) :
    aLc (aIter (aVar 1)) (aGTup 2 (aGCons (aName i) (aGCons (aName j) (aGNil)))) (aAnd (aTst (aOp aInX (aVar j) v)) (aTst (aOp aNotIn (aVar i) v))) (aTup (aCons (aVar i) (aCons (aVar j) (aNil)))) [i, j] G M Ψ := by
  have li : ∀ p, (ahE G i j p)[i]? = some (some (.dat (.int (p.1 : Int)))) := fun p => by
    unfold ahE
    rw [List.getElem?_set_ne (Ne.symm hij), List.getElem?_set_self (by show i < ((G.set j none).set i none).length; rw [List.length_set, List.length_set]; exact hi)]
  have lj : ∀ p, (ahE G i j p)[j]? = some (some (.dat (.int (p.2 : Int)))) := fun p => by
    unfold ahE
    rw [List.getElem?_set_self (by rw [List.length_set]; show j < ((G.set j none).set i none).length; rw [List.length_set, List.length_set]; exact hj)]
  refine x_lc (x_iter (x_var g1 (x_kIterT rfl ?_)))
  refine turns_dat jobD (ahE G i j) (fun p => lot2.contains p.2 && !lot2.contains p.1) jobD aheads M (fun _ => trivial) (fun _ _ => by exact rfl) (fun p _ N Φ _ hΦ => ?_) (fun p _ _ N Φ _ hΦ => ?_) (by have := hah.1; omega) h
  · refine x_and (x_tst (x_op (x_var (lj p) (gv p N _ (x_in (p := .int (p.2 : Int)) (ps := iL lot2) rfl (.inl rfl) ?_ (.inl (inLot lot2 p.2)))))))
    rw [any_iL]
    refine x_kTst (x_if2 (fun hb => x_tst (x_op (x_var (li p) (gv p N _ (x_notIn (p := .int (p.1 : Int)) (ps := iL lot2) rfl (.inl rfl) ?_ (inLot lot2 p.1)))))) fun hb => ?_)
    · rw [any_iL]
      rw [hb, Bool.true_and] at hΦ
      exact x_kTst hΦ
    · rw [hb, Bool.false_and] at hΦ
      exact hΦ
  · exact x_tup (x_cons (x_var (li p) (x_cons (x_var (lj p) (x_nil (x_kTup rfl hΦ (by show 2 ≤ sizeLine; decide)))))))
theorem cmp_pairs (l : List (Nat × Nat)) : Cmp (.list (l.map jobD)) (.list []) := by
  refine ⟨?_, rfl, ?_⟩
  · simp only [PyData.plain]
    exact plain_all fun p hp => by
      obtain ⟨q, _, rfl⟩ := List.mem_map.mp hp
      rfl
  · have : PyData.depthAll (l.map jobD) ≤ 1 := depth_all fun p hp => by
      obtain ⟨q, _, rfl⟩ := List.mem_map.mp hp
      rw [depth_job]
      exact Nat.le_refl 1
    simp only [PyData.depth, PyData.depthAll]
    omega
theorem judge_s49 {jobs : List Job} {aheads : List (Nat × Nat)} {lot lot2 : List Nat} {Ψ : K1} {nx : Gm → Sto → Prop} (hj : JobsOk jobs) (hah : AhOk jobs.length aheads) (hl : LotOk jobs.length lot) (hne : lot ≠ []) (hl2 : LotOk jobs.length lot2) (hne2 : lot2 ≠ [])
    (h : Ψ (.dat (judge2 jobs aheads lot lot2)) []) : as_judge_press_s49 { nx := nx, rt := Ψ } (startG N_judge_press [.dat (jobsD jobs), .dat (.tuple (aheads.map jobD)), .dat (lotD lot), .dat (.tuple [.str "more", lotD lot2])]) [] := by
  have s1 := press_sm hj hl hne
  have s2 := press_sm hj hl2 hne2
  unfold as_judge_press_s49
  refine x_seq (x_asgN (aheads_lc (lot2 := lot2) hah 7 8 _ (by decide) (by show 7 < 9; decide) (by show 8 < 9; decide) rfl (fun p N Φ hΦ => ?_) ?_))
  · exact x_op (x_var rfl (x_c (x_ixL (ps := [.str "more", lotD lot2]) (.inr rfl) rfl rfl hΦ)))
  · refine x_nx ?_
    unfold as_judge_press_s50
    unfold judge2 at h
    cases e : aheads.filter fun p => lot2.contains p.2 && !lot2.contains p.1 with
    | nil =>
      rw [e] at h
      walk_at "AMX"
      · unfold as_judge_press_s52
        walk_at "AMX"
        refine ⟨jobs, lot2, rfl, hj, hl2, hne2, ?_⟩
        walk_at "AMX"
        unfold as_judge_press_s53
        walk_at "AMX"
        refine ⟨jobs, lot, rfl, hj, hl, hne, ?_⟩
        walk_at "AMX"
        refine ⟨_, _, rfl, s1, s2, ?_⟩
        walk_at "AMX"
        refine x_if2 (fun hq => ?_) fun hq => ?_
        · dsimp only at h
          rw [if_pos hq] at h
          walk_at "AMX"
          exact h
        · dsimp only at h
          rw [if_neg (by rw [hq]; decide)] at h
          walk_at "AMX"
          · exact h
          · show 2 ≤ sizeLine
            decide
      · exact cmp_pairs []
      · decide
    | cons p l =>
      rw [e] at h
      walk_at "AMX"
      · refine x_ixL (ps := (p :: l).map jobD) (.inl rfl) rfl (atI_zero (jobD p) (l.map jobD)) ?_
        walk_at "AMX"
        · exact h
        · show 3 ≤ sizeLine
          decide
      · exact cmp_pairs (p :: l)
      · decide
theorem cmp_of {v q : PyData} (h : v.plain = true) (hd : v.depth ≤ 41) (hq : q.plain = true) (hqd : q.depth ≤ 40) : Cmp v q := ⟨h, hq, by omega⟩
theorem plain_item {y : PyData} {ys : List PyData} (h : (PyData.tuple ys).plain = true) (hy : y ∈ ys) : y.plain = true := by
  have h' : PyData.plainAll ys = true := by simpa [PyData.plain] using h
  clear h
  induction ys with
  | nil => cases hy
  | cons z zs ih =>
    simp only [PyData.plainAll, Bool.and_eq_true] at h'
    rcases List.mem_cons.mp hy with e | hy
    · subst e; exact h'.1
    · exact ih hy h'.2
theorem depth_item {y : PyData} {ys : List PyData} (hy : y ∈ ys) : y.depth + 1 ≤ (PyData.tuple ys).depth := by
  have : y.depth ≤ PyData.depthAll ys := by
    induction ys with
    | nil => cases hy
    | cons z zs ih =>
      simp only [PyData.depthAll]
      rcases List.mem_cons.mp hy with e | hy
      · subst e; omega
      · have := ih hy; omega
  simp only [PyData.depth]
  omega
theorem due_cmp {jobs : List Job} {aheads : List (Nat × Nat)} {lot : List Nat} : (dueD jobs aheads lot).plain = true ∧ (dueD jobs aheads lot).depth ≤ 3 := by
  unfold dueD
  split
  · refine ⟨?_, ?_⟩
    · simp only [PyData.plain, PyData.plainAll, plain_lot, Bool.and_self]
    · simp only [PyData.depth, PyData.depthAll, depth_lot]
      decide
  · exact ⟨rfl, by simp [PyData.depth, PyData.depthAll]⟩
theorem ok_judge_press {ds : List D} {M : Sto} {Ψ : K1} (h : sp_judge_press ds M Ψ) : aBody N_judge_press as_judge_press ds M Ψ := by
  obtain ⟨jobs, aheads, lot, value, rfl, hh, hl, hne, ⟨hv, hlen⟩, rfl, h⟩ := h
  refine x_body ?_
  unfold as_judge_press
  cases value with
  | tuple ys =>
    obtain ⟨hp, hd⟩ : (PyData.tuple ys).plain = true ∧ (PyData.tuple ys).depth ≤ 40 := by
      rcases hv with hv | hv
      · exact hv
      · cases hv
    cases ys with
    | nil =>
      walk_at "AMX"
      · exact h
      · decide
      · exact .inl (cmp_of hp (by omega) rfl (by simp [PyData.depth, PyData.depthAll]))
      · decide
    | cons y ys =>
      have hy : y.plain = true := plain_item hp (by simp)
      walk_at "AMX"
      · refine x_ixL (ps := y :: ys) (.inr rfl) rfl (atI_zero y ys) ?_
        walk_at "AMX"
        by_cases hs : isTy y "str" = true
        · obtain ⟨x, rfl⟩ : ∃ x, y = .str x := by cases y <;> simp [isTy] at hs; exact ⟨_, rfl⟩
          walk_at "AMX"
          unfold as_judge_press_s44
          walk_at "AMX"
          · have em : PyData.eqv (.tuple (.str x :: ys)) (.tuple [.str "most"]) = (decide (x = "most") && ys.isEmpty) := by
              cases ys <;> simp [PyData.eqv, PyData.eqvAll, str_beq]
            rw [em]
            refine x_if2 (fun hm => ?_) fun hm => ?_
            · -- most
              obtain ⟨h1, h2⟩ := Bool.and_eq_true_iff.mp hm
              have hx : x = "most" := by simpa using h1
              have hy0 : ys = [] := by simpa using h2
              subst hx hy0
              have e : judge jobs aheads lot (.tuple [.str "most"]) = if (dueD jobs aheads lot).eqv (.tuple [.str "most"]) = true then .none else dueD jobs aheads lot := by
                unfold judge
                dsimp only
                rw [if_pos rfl]
              rw [e] at h
              walk_at "AMX"
              refine ⟨jobs, aheads, lot, rfl, hh, hl, hne, rfl, ?_⟩
              walk_at "AMX"
              · refine x_if2 (fun hq => ?_) fun hq => ?_
                · rw [if_pos hq] at h
                  walk_at "AMX"
                  exact h
                · rw [if_neg (by rw [hq]; decide)] at h
                  walk_at "AMX"
                  exact h
              · exact .inl ⟨due_cmp.1, rfl, by have := due_cmp (jobs := jobs) (aheads := aheads) (lot := lot).2; simp [PyData.depth, PyData.depthAll]; omega⟩
            · refine x_next (x_nx ?_)
              unfold as_judge_press_s47
              walk_at "AMX"
              refine x_ixL (ps := .str x :: ys) (.inr rfl) rfl (atI_zero _ ys) ?_
              walk_at "AMX"
              · have em2 : PyData.eqv (.str x) (.str "more") = decide (x = "more") := by simp [PyData.eqv, str_beq]
                rw [em2]
                by_cases hx : x = "more"
                · subst hx
                  walk_at "AMX"
                  · rcases ys with _ | ⟨w, _ | ⟨z, r⟩⟩
                    · walk_at "AMX"
                      exact h
                      all_goals decide
                    · have ew : PyData.eqv (.int (([PyData.str "more", w].length : Nat) : Int)) (.int 2) = true := rfl
                      rw [ew]
                      walk_at "AMX"
                      refine ⟨jobs.length, w, by rw [List.length_map], ⟨plain_item hp (by simp), by have := depth_item (y := w) (ys := [.str "more", w]) (by simp); omega, fun xs e => ?_⟩, ?_⟩
                      · subst e
                        exact hlen _ xs rfl
                      walk_at "AMX"
                      by_cases ht : told jobs.length w = true
                      · obtain ⟨lot2, rfl, hl2, hne2⟩ := told_lot (by have := hh.2.1; omega) ht
                        rw [judge_told ht] at h
                        rw [ht]
                        walk_at "AMX"
                        exact judge_s49 hh.1 hh.2.2.2 hl hne hl2 hne2 h
                      · have ht' : told jobs.length w = false := by simpa using ht
                        rw [form_of fun z => ht z.2] at h
                        rw [ht']
                        walk_at "AMX"
                        exact h
                        all_goals decide
                    · have ew : PyData.eqv (.int (((PyData.str "more" :: w :: z :: r).length : Nat) : Int)) (.int 2) = false := by
                        simp only [PyData.eqv, List.length_cons, beq_eq_false_iff_ne]
                        omega
                      rw [ew]
                      walk_at "AMX"
                      exact h
                      all_goals decide
                  · exact ⟨rfl, rfl, by simp [PyData.depth]⟩
                · have ed : decide (x = "more") = false := by simpa using hx
                  rw [ed]
                  walk_at "AMX"
                  · have e : judge jobs aheads lot (.tuple (.str x :: ys)) = .tuple [.str "form"] := by
                      rcases ys with _ | ⟨w, _ | ⟨z, r⟩⟩
                      · have hm' : ¬ x = "most" := by simpa using hm
                        unfold judge
                        dsimp only
                        rw [if_neg hm']
                      · exact form_of fun z => hx z.1
                      · rfl
                    rw [e] at h
                    exact h
                  all_goals decide
              · exact ⟨rfl, rfl, by simp [PyData.depth]⟩
          · exact .inl (cmp_of hp (by omega) rfl (by simp [PyData.depth, PyData.depthAll]))
          · decide
        · have hs' : isTy y "str" = false := by simpa using hs
          rw [hs']
          walk_at "AMX"
          · have e : judge jobs aheads lot (.tuple (y :: ys)) = .tuple [.str "form"] := by
              cases y with
              | str x => simp [isTy] at hs'
              | _ => rfl
            rw [e] at h
            exact h
          · decide
      · exact .inl (cmp_of hp (by omega) rfl (by simp [PyData.depth, PyData.depthAll]))
      · decide
  | _ =>
    walk_at "AMX"
    · exact h
    · decide
end K17
end

section
set_option Elab.async false
set_option linter.all false
set_option maxRecDepth 100000
set_option maxHeartbeats 0
namespace K17
open PySem AM
local macro_rules | `(tactic| walk_at "AMX") => `(tactic| (repeat first
      | with_reducible refine x_body ?_
      | with_reducible refine x_next ?_
      | with_reducible refine x_seq ?_
      | with_reducible refine x_expr ?_
      | with_reducible refine x_ret ?_
      | with_reducible refine x_retN ?_
      | with_reducible refine x_ifS ?_
      | with_reducible refine x_asgN ?_
      | with_reducible refine x_asgT ?_
      | with_reducible refine x_asgL ?_
      | with_reducible refine x_par ?_
      | with_reducible refine x_for ?_
      | with_reducible refine x_c ?_
      | with_reducible refine x_op ?_
      | with_reducible refine x_un ?_
      | with_reducible refine x_tst ?_
      | with_reducible refine x_kTst ?_
      | with_reducible refine x_and ?_
      | with_reducible refine x_or ?_
      | with_reducible refine x_not ?_
      | with_reducible refine x_andV ?_
      | with_reducible refine x_orV ?_
      | with_reducible refine x_notV ?_
      | with_reducible refine x_kAndV ?_
      | with_reducible refine x_kOrV ?_
      | with_reducible refine x_kNotV ?_
      | with_reducible refine x_if ?_
      | with_reducible refine x_yes ?_
      | with_reducible refine x_chain ?_
      | with_reducible refine x_kCh ?_
      | with_reducible refine x_nil ?_
      | with_reducible refine x_cons ?_
      | with_reducible refine x_star ?_
      | with_reducible refine x_cb ?_
      | with_reducible refine x_tup ?_
      | with_reducible refine x_lst ?_
      | with_reducible refine x_lc ?_
      | with_reducible refine x_iter ?_
      | with_reducible refine x_zip ?_
      | with_reducible refine x_rg1 ?_
      | with_reducible refine x_rg2 ?_
      | with_reducible refine x_sl ?_
      | with_reducible refine x_kSl ?_
      | with_reducible refine x_noPart ?_
      | with_reducible refine x_part ?_
      | with_reducible refine x_rev ?_
      | with_reducible refine x_lr1 ?_
      | with_reducible refine x_call ?_
      | with_reducible refine x_callO ?_
      | with_reducible refine x_bm0 ?_
      | with_reducible refine x_bm ?_
      | with_reducible refine x_nx ?_
      | with_reducible refine x_rt ?_
      | with_reducible refine x_bk ?_
      | with_reducible refine x_ct ?_
      | with_reducible refine x_kRes0 ?_
      | with_reducible refine x_break ?_
      | with_reducible refine x_cont ?_
      | ((with_reducible apply x_var); exact rfl)
      | ((with_reducible apply x_kIterT); exact rfl)
      | ((with_reducible apply x_kIterL); exact rfl)
      | ((with_reducible apply x_kAsg); exact rfl)
      | ((with_reducible apply x_kStar); exact rfl)
      | ((with_reducible apply x_kIterO); exact rfl)
      | ((with_reducible apply x_abs); exact rfl)
      | ((with_reducible apply x_int1); exact rfl)
      | ((with_reducible apply x_neg); exact rfl)
      | ((with_reducible apply x_kPart); exact rfl)
      | ((with_reducible apply x_slT); exact rfl)
      | ((with_reducible apply x_slL); exact rfl)
      | ((with_reducible apply x_revT); exact rfl)
      | ((with_reducible apply x_revL); exact rfl)
      | ((with_reducible apply x_revLn); exact rfl)
      | ((with_reducible apply x_sum); exact rfl)
      | ((with_reducible apply x_all); exact rfl)
      | ((with_reducible apply x_kTup); exact rfl)
      | ((with_reducible apply x_kLstF); exact rfl)
      | ((with_reducible apply x_kLstT); exact rfl)
      | ((with_reducible apply x_repr); exact rfl)
      | ((with_reducible apply x_kAsgL); exact rfl; exact rfl)
      | ((with_reducible apply x_intT); exact rfl; exact rfl)
      | ((with_reducible apply x_addI); exact rfl; exact rfl)
      | ((with_reducible apply x_isN); exact rfl; exact rfl)
      | ((with_reducible apply x_isB); exact rfl; exact rfl)
      | ((with_reducible apply x_kCall0); exact rfl; exact rfl)
      | ((with_reducible apply x_kZipT); exact rfl; exact rfl)
      | ((with_reducible apply x_kZipL); exact rfl; exact rfl)
      | ((with_reducible apply x_kCallO); exact rfl)
      | with_reducible refine x_dput ?_
      | ((with_reducible apply x_kDPutK); exact rfl; exact rfl; exact rfl)
      | ((with_reducible apply x_kDPutT); exact rfl; exact rfl; exact rfl)
      | ((with_reducible apply x_int); exact rfl; exact rfl)
      | ((with_reducible apply x_addT); exact rfl; exact rfl)
      | ((with_reducible apply x_addL); exact rfl; exact rfl)
      | ((with_reducible apply x_addLn); exact rfl; exact rfl)
      | ((with_reducible apply x_mulI); exact rfl; exact rfl)
      | ((with_reducible apply x_mulT); exact rfl; exact rfl)
      | ((with_reducible apply x_ne); exact rfl; exact rfl)
      | ((with_reducible apply x_eq); exact rfl; exact rfl)
      | ((with_reducible apply x_ixL); (first | exact .inl rfl | exact .inr rfl); exact rfl; exact rfl)
      | ((with_reducible apply x_ixD); exact rfl; exact rfl; exact rfl; exact rfl)
      | ((with_reducible apply x_lenS); (first | exact .inl rfl | exact .inr rfl))
      | ((with_reducible apply x_tupleOf); (first | exact .inl rfl | exact .inr rfl))
      | ((with_reducible apply x_listOfF); (first | exact .inl rfl | exact .inr rfl))
      | ((with_reducible apply x_listOfT); (first | exact .inl rfl | exact .inr rfl))
      | ((with_reducible apply x_isi); exact rfl; rotate_left; simp [tyNames]; rotate_right)
      | with_reducible apply x_kRng1
      | with_reducible apply x_kRng2
      | with_reducible apply x_kLr1
      | ((with_reducible apply x_ifT); exact rfl)
      | ((with_reducible apply x_ifF); exact rfl)
      | ((with_reducible apply x_kTst2); exact rfl)))
/-! ### the law's own judge -/
theorem dataLe_job (p q : Nat × Nat) : PySem.W.dataLe false id (jobD p) (jobD q) = true ↔ leP p q := by
  rw [PySem.W.dataLe_eq]
  show (!PySem.W.dataLt (jobD q) (jobD p)) = true ↔ _
  unfold jobD
  rw [PySem.W.dataLt_ii]
  simp only [Bool.not_eq_true', decide_eq_false_iff_not]
  unfold leP
  omega
theorem sort_pairs {l : List (Nat × Nat)} (h : l.Pairwise leP) : (l.map jobD).mergeSort (PySem.W.dataLe false id) = l.map jobD := by
  refine List.mergeSort_of_pairwise (List.pairwise_map.mpr (h.imp fun {a b} q => ?_))
  exact (dataLe_job a b).mpr q
theorem alike_pairs (l : List (Nat × Nat)) : PySem.W.AllAlike (l.map jobD) := PySem.W.AllAlike.of fun _ _ => rfl
theorem sortable_pairs (l : List (Nat × Nat)) : PySem.W.Sortable (l.map jobD) := PySem.W.Sortable.tuples fun b => ⟨_, _, rfl⟩
theorem x_sortedL {M : Sto} {Ψ : K1} {xs : List PyData} (h : Ψ (.dat (.list (xs.mergeSort (PySem.W.dataLe false id)))) M) (c1 : PyData.plainAll xs = true) (c2 : xs.length ≤ sizeLine) (c3 : PySem.W.AllAlike xs) (c4 : PySem.W.Sortable xs) (c5 : ∀ x ∈ xs, x.depth ≤ 60) :
    aSortedX false [.dat (.list xs)] M Ψ := ⟨c1, c2, c3, c4, c5, h⟩
theorem filter_none {α : Type} (q : α → Bool) (l : List α) : (l.filter fun x => !q x).isEmpty = l.all q := by
  induction l with
  | nil => rfl
  | cons x l ih =>
    rw [List.all_cons, List.filter_cons]
    cases h : q x with
    | true => rw [Bool.not_true, if_neg (by decide), ih, Bool.true_and]
    | false => rw [Bool.not_false, if_pos rfl]; rfl
theorem cmp_list {l : List PyData} (h : ∀ x ∈ l, x.plain = true) (hd : ∀ x ∈ l, x.depth ≤ 40) : Cmp (.list l) (.list []) := by
  refine ⟨?_, rfl, ?_⟩
  · simp only [PyData.plain]
    exact plain_all h
  · have := depth_all hd
    simp only [PyData.depth, PyData.depthAll]
    omega
def faultG (jobs : List Job) (aheads : List (Nat × Nat)) (lot : List Nat) (w : PyData) : Gm := (startG N__law_fault [.dat (jobsD jobs), .dat (.tuple (aheads.map jobD)), .dat (lotD lot), .dat (dueD jobs aheads lot), .dat (.tuple [.str "more", w])]).set 5 (some (.dat w))
theorem fault_s130 {jobs : List Job} {aheads : List (Nat × Nat)} {lot lot2 : List Nat} {Ψ : K1} {nx : Gm → Sto → Prop} (hj : JobsOk jobs) (hah : AhOk jobs.length aheads) (hso : aheads.Pairwise leP) (hl : LotOk jobs.length lot) (hne : lot ≠ []) (hl2 : LotOk jobs.length lot2) (hne2 : lot2 ≠ [])
    (h : Ψ (.dat (judge2 jobs aheads lot lot2)) []) : as__law_fault_s130 { nx := nx, rt := Ψ } (faultG jobs aheads lot (lotD lot2)) [] := by
  have s1 := press_sm hj hl hne
  have s2 := press_sm hj hl2 hne2
  unfold as__law_fault_s130
  refine x_seq (x_asgN (x_cb (x_cons (aheads_lc (lot2 := lot2) hah 9 10 _ (by decide) (by show 9 < 11; decide) (by show 10 < 11; decide) rfl (fun p N Φ hΦ => x_var rfl hΦ) (x_nil (x_sortedL ?_ ?_ ?_ (alike_pairs _) (sortable_pairs _) ?_))))))
  · rw [sort_pairs (hso.filter _)]
    refine x_nx ?_
    unfold as__law_fault_s131
    unfold judge2 at h
    cases e : aheads.filter fun p => lot2.contains p.2 && !lot2.contains p.1 with
    | nil =>
      rw [e] at h
      walk_at "AMX"
      · unfold as__law_fault_s133
        walk_at "AMX"
        refine ⟨jobs, lot2, rfl, hj, hl2, hne2, ?_⟩
        walk_at "AMX"
        unfold as__law_fault_s134
        walk_at "AMX"
        refine ⟨jobs, lot, rfl, hj, hl, hne, ?_⟩
        walk_at "AMX"
        refine ⟨_, _, rfl, s1, s2, ?_⟩
        walk_at "AMX"
        cases hq : lessP (pressN jobs lot) (pressN jobs lot2) with
        | true =>
          dsimp only at h
          rw [if_pos hq] at h
          walk_at "AMX"
          exact h
        | false =>
          dsimp only at h
          rw [if_neg (by rw [hq]; decide)] at h
          walk_at "AMX"
          · exact h
          · show 2 ≤ sizeLine
            decide
      · exact cmp_pairs []
      · decide
    | cons p l =>
      rw [e] at h
      walk_at "AMX"
      · refine x_ixL (ps := (p :: l).map jobD) (.inl rfl) rfl (atI_zero (jobD p) (l.map jobD)) ?_
        walk_at "AMX"
        · exact h
        · show 3 ≤ sizeLine
          decide
      all_goals first | exact cmp_pairs (p :: l) | (show 1 ≤ sizeLine; decide) | decide
  · exact plain_all fun q hq => by
      obtain ⟨p, _, rfl⟩ := List.mem_map.mp hq
      rfl
  · rw [List.length_map]
    have := hah.1
    have := List.length_filter_le (fun p => lot2.contains p.2 && !lot2.contains p.1) aheads
    exact sz_of (by omega)
  · intro q hq
    obtain ⟨p, _, rfl⟩ := List.mem_map.mp hq
    rw [depth_job]
    decide
def geI : PyData → PyData → Bool
  | .int i, .int j => decide (j ≤ i)
  | _, _ => false
def inR (n : Nat) (x : PyData) : Bool := isNum x && ltI x (.int (n : Int))
theorem told_form {jobs : List Job} {aheads : List (Nat × Nat)} {lot : List Nat} {w : PyData} (h : told jobs.length w = false) : judge jobs aheads lot (.tuple [.str "more", w]) = .tuple [.str "form"] := form_of fun z => by
  rw [h] at z
  exact Bool.false_ne_true z.2
theorem notTup {v : PyData} (h : isTy v "tuple" = false) {n : Nat} : told n v = false := by cases v <;> first | rfl | (simp [isTy] at h)
theorem fault_s126 {jobs : List Job} {aheads : List (Nat × Nat)} {lot : List Nat} {w : PyData} {Ψ : K1} {nx : Gm → Sto → Prop} (hn : jobs.length ≤ 9) (hj : JobsOk jobs) (hah : AhOk jobs.length aheads) (hso : aheads.Pairwise leP) (hl : LotOk jobs.length lot) (hne : lot ≠ []) (hw : OkT w)
    (h : Ψ (.dat (judge jobs aheads lot (.tuple [.str "more", w]))) []) : as__law_fault_s126 { nx := nx, rt := Ψ } (faultG jobs aheads lot w) [] := by
  obtain ⟨hp, hd, hlen⟩ := hw
  unfold as__law_fault_s126
  walk_at "AMX"
  by_cases ht : isTy w "tuple" = true
  · obtain ⟨xs, rfl⟩ : ∃ xs, w = .tuple xs := by cases w <;> simp [isTy] at ht; exact ⟨_, rfl⟩
    have hlen := hlen xs rfl
    have pl : ∀ x ∈ xs, x.plain = true := fun x hx => plain_item hp hx
    have dl : ∀ x ∈ xs, x.depth ≤ 40 := fun x hx => by have := depth_item (y := x) hx; omega
    rw [ht]
    walk_at "AMX"
    · rw [eqv_nilT]
      cases he : xs.isEmpty with
      | true =>
        walk_at "AMX"
        · have : told jobs.length (.tuple xs) = false := by rw [told_tup, he]; rfl
          rw [told_form this] at h
          exact h
        · decide
      | false =>
        walk_at "AMX"
        refine turns_datD (fun x => (wipeG (faultG jobs aheads lot (.tuple xs)) [8]).set 8 (some (.dat x))) (fun x => !isInt x) id xs [] (fun _ => trivial) (fun _ _ => by exact rfl) (fun x _ N Φ _ hΦ => ?_) (fun x _ _ N Φ _ hΦ => ?_) (by omega) ?_
        · exact x_not (x_tst (x_call (x_cons (x_var rfl (x_nil (x_kCall0 rfl rfl ⟨x, rfl, x_kRes0 (x_kTst hΦ)⟩))))))
        · exact x_var rfl hΦ
        · rw [List.map_id]
          walk_at "AMX"
          · rw [eqv_nil, filter_none]
            cases h1 : xs.all isInt with
            | false =>
              walk_at "AMX"
              · have : told jobs.length (.tuple xs) = false := by
                  rw [told_tup]
                  have : xs.all (fun x => isNum x && ltI x (.int ((jobs.length : Nat) : Int))) = false := by
                    rw [List.all_eq_false] at h1 ⊢
                    obtain ⟨x, hx, hi⟩ := h1
                    refine ⟨x, hx, fun z => hi ?_⟩
                    cases x <;> simp [isNum] at z
                    rfl
                  rw [this, Bool.and_false, Bool.false_and]
                rw [told_form this] at h
                exact h
              · decide
            | true =>
              walk_at "AMX"
              have allI : ∀ x ∈ xs, ∃ k, x = .int k := fun x hx => by
                have := List.all_eq_true.mp h1 x hx
                cases x with
                | int k => exact ⟨k, rfl⟩
                | _ => cases this
              unfold as__law_fault_s128
              walk_at "AMX"
              refine turns_datD (fun x => (wipeG (faultG jobs aheads lot (.tuple xs)) [8]).set 8 (some (.dat x))) (fun x => !inR jobs.length x) id xs [] (fun _ => trivial) (fun _ _ => by exact rfl) (fun x hx N Φ _ hΦ => ?_) (fun x _ _ N Φ _ hΦ => ?_) (by omega) ?_
              · obtain ⟨k, rfl⟩ := allI x hx
                walk_at "AMX"
                have e1 : inR jobs.length (.int k) = (decide (0 ≤ k) && decide (k < (jobs.length : Int))) := rfl
                rw [e1] at hΦ
                cases h0 : decide (0 ≤ k) with
                | true =>
                  rw [h0, Bool.true_and] at hΦ
                  walk_at "AMX"
                  rw [List.length_map]
                  exact hΦ
                | false =>
                  rw [h0, Bool.false_and] at hΦ
                  walk_at "AMX"
                  exact hΦ
              · exact x_var rfl hΦ
              · rw [List.map_id]
                walk_at "AMX"
                · rw [eqv_nil, filter_none]
                  cases h2 : xs.all (inR jobs.length) with
                  | false =>
                    walk_at "AMX"
                    · have : told jobs.length (.tuple xs) = false := by
                        rw [told_tup]
                        have h2' : xs.all (fun x => isNum x && ltI x (.int ((jobs.length : Nat) : Int))) = false := h2
                        rw [h2', Bool.and_false, Bool.false_and]
                      rw [told_form this] at h
                      exact h
                    · decide
                  | true =>
                    walk_at "AMX"
                    rw [cut_one, zipD_zip]
                    refine turns_dat (fun p : PyData × PyData => PyData.tuple [p.1, p.2]) (fun p => ((wipeG (faultG jobs aheads lot (.tuple xs)) [9, 10]).set 9 (some (.dat p.1))).set 10 (some (.dat p.2))) (fun p => !ltI p.1 p.2) (fun _ => .int 1) (xs.zip xs.tail) [] (fun _ => trivial) (fun _ _ => by exact rfl) (fun p hpm N Φ _ hΦ => ?_) (fun p _ _ N Φ _ hΦ => ?_) ?_ ?_
                    · obtain ⟨x, y⟩ := p
                      obtain ⟨z1, z2⟩ := List.of_mem_zip hpm
                      obtain ⟨k1, rfl⟩ := allI x z1
                      obtain ⟨k2, rfl⟩ := allI y (List.mem_of_mem_tail z2)
                      have e1 : (!ltI (.int k1) (.int k2)) = decide (k2 ≤ k1) := by
                        show (!decide (k1 < k2)) = _
                        rw [← decide_not]
                        apply decide_eq_decide.mpr
                        omega
                      rw [e1] at hΦ
                      exact x_tst (x_op (x_var rfl (x_var rfl (x_intT rfl rfl (x_kTst hΦ)))))
                    · exact hΦ
                    · rw [List.length_zip]
                      omega
                    · walk_at "AMX"
                      · rw [eqv_nil, map_isEmpty, filter_none]
                        cases h3 : (xs.zip xs.tail).all fun p => ltI p.1 p.2 with
                        | false =>
                          walk_at "AMX"
                          · have : told jobs.length (.tuple xs) = false := by rw [told_tup, h3, Bool.and_false]
                            rw [told_form this] at h
                            exact h
                          · decide
                        | true =>
                          walk_at "AMX"
                          have h2' : xs.all (fun x => isNum x && ltI x (.int ((jobs.length : Nat) : Int))) = true := h2
                          have hto : told jobs.length (.tuple xs) = true := by rw [told_tup, he, h2', h3]; rfl
                          obtain ⟨lot2, ew, hl2, hne2⟩ := told_lot (by omega) hto
                          rw [ew] at h ⊢
                          rw [ew] at hto
                          rw [judge_told hto] at h
                          exact fault_s130 hj hah hso hl hne hl2 hne2 h
                      · exact cmp_ones _
                      · decide
                · exact cmp_list (fun x hx => pl x (List.mem_filter.mp hx).1) fun x hx => dl x (List.mem_filter.mp hx).1
                · decide
          · exact cmp_list (fun x hx => pl x (List.mem_filter.mp hx).1) fun x hx => dl x (List.mem_filter.mp hx).1
          · decide
    · exact .inl (cmp_of hp (by omega) rfl (by simp [PyData.depth, PyData.depthAll]))
    · decide
  · have ht' : isTy w "tuple" = false := by simpa using ht
    rw [ht']
    walk_at "AMX"
    · rw [told_form (notTup ht')] at h
      exact h
    · decide
theorem ok__law_fault {ds : List D} {M : Sto} {Ψ : K1} (h : sp__law_fault ds M Ψ) : aBody N__law_fault as__law_fault ds M Ψ := by
  obtain ⟨jobs, aheads, lot, value, rfl, hh, hl, hne, ⟨hv, hlen⟩, hso, rfl, h⟩ := h
  refine x_body ?_
  unfold as__law_fault
  have dc := due_cmp (jobs := jobs) (aheads := aheads) (lot := lot)
  have dcmp : Cmp (dueD jobs aheads lot) (.tuple [.str "most"]) := ⟨dc.1, rfl, by have := dc.2; simp [PyData.depth, PyData.depthAll]; omega⟩
  have cv : Cmp value (.tuple [.str "most"]) ∨ ((∃ kvs, value = .dict kvs) ∧ ∃ ts, PyData.tuple [.str "most"] = .tuple ts) := by
    rcases hv with hv | hv
    · exact .inl (cmp_of hv.1 (by omega) rfl (by simp [PyData.depth, PyData.depthAll]))
    · exact .inr ⟨⟨_, hv⟩, _, rfl⟩
  cases value with
  | tuple ys =>
    obtain ⟨hp, hd⟩ : (PyData.tuple ys).plain = true ∧ (PyData.tuple ys).depth ≤ 40 := by
      rcases hv with hv | hv
      · exact hv
      · cases hv
    walk_at "AMX"
    · cases hm : PyData.eqv (.tuple ys) (.tuple [.str "most"]) with
      | true =>
        obtain rfl : ys = [.str "most"] := by
          rcases ys with _ | ⟨y, _ | ⟨z, r⟩⟩
          · simp [PyData.eqv, PyData.eqvAll] at hm
          · cases y <;> simp [PyData.eqv, PyData.eqvAll, str_beq] at hm
            rw [hm]
          · simp [PyData.eqv, PyData.eqvAll] at hm
        have e : judge jobs aheads lot (.tuple [.str "most"]) = if (dueD jobs aheads lot).eqv (.tuple [.str "most"]) = true then .none else dueD jobs aheads lot := by
          unfold judge
          dsimp only
          rw [if_pos rfl]
        rw [e] at h
        walk_at "AMX"
        · cases hq : (dueD jobs aheads lot).eqv (.tuple [.str "most"]) with
          | true =>
            rw [if_pos hq] at h
            walk_at "AMX"
            exact h
          | false =>
            rw [if_neg (by rw [hq]; decide)] at h
            walk_at "AMX"
            exact h
        · exact .inl dcmp
        · decide
      | false =>
        walk_at "AMX"
        unfold as__law_fault_s123
        walk_at "AMX"
        · rcases ys with _ | ⟨y, _ | ⟨w, _ | ⟨z, r⟩⟩⟩
          · have e : judge jobs aheads lot (.tuple []) = .tuple [.str "form"] := rfl
            rw [e] at h
            walk_at "AMX"
            exact h
            all_goals decide
          · have e : judge jobs aheads lot (.tuple [y]) = .tuple [.str "form"] := by
              cases y with
              | str x =>
                have hx : ¬ x = "most" := fun z => by
                  rw [z] at hm
                  simp [PyData.eqv, PyData.eqvAll] at hm
                unfold judge
                dsimp only
                rw [if_neg hx]
              | _ => rfl
            rw [e] at h
            have ew : PyData.eqv (.int (([y].length : Nat) : Int)) (.int 2) = false := rfl
            rw [ew]
            walk_at "AMX"
            exact h
            all_goals decide
          · have ew : PyData.eqv (.int (([y, w].length : Nat) : Int)) (.int 2) = true := rfl
            rw [ew]
            walk_at "AMX"
            · cases hx : PyData.eqv y (.str "more") with
              | false =>
                have e : judge jobs aheads lot (.tuple [y, w]) = .tuple [.str "form"] := by
                  cases y with
                  | str x =>
                    have hx' : ¬ x = "more" := fun z => by
                      rw [z] at hx
                      simp [PyData.eqv] at hx
                    exact form_of fun z => hx' z.1
                  | _ => rfl
                rw [e] at h
                walk_at "AMX"
                exact h
                all_goals decide
              | true =>
                obtain rfl : y = .str "more" := by
                  cases y <;> simp [PyData.eqv, str_beq] at hx
                  rw [hx]
                walk_at "AMX"
                unfold as__law_fault_s125
                walk_at "AMX"
                exact fault_s126 hh.2.1 hh.1 hh.2.2.2 hso hl hne ⟨plain_item hp (by simp), by have := depth_item (y := w) (ys := [.str "more", w]) (by simp); omega, fun xs e => by subst e; exact hlen _ xs rfl⟩ h
            · exact cmp_of (plain_item hp (by simp)) (by have := depth_item (y := y) (ys := [y, w]) (by simp); omega) rfl (by simp [PyData.depth])
          · have ew : PyData.eqv (.int (((y :: w :: z :: r).length : Nat) : Int)) (.int 2) = false := by
              simp only [PyData.eqv, List.length_cons, beq_eq_false_iff_ne]
              omega
            have e : judge jobs aheads lot (.tuple (y :: w :: z :: r)) = .tuple [.str "form"] := by cases y <;> rfl
            rw [e] at h
            rw [ew]
            walk_at "AMX"
            exact h
            all_goals decide
        · exact ⟨rfl, rfl, by simp [PyData.depth]⟩
    · exact cv
    · decide
  | _ =>
    walk_at "AMX"
    · unfold as__law_fault_s123
      walk_at "AMX"
      · exact h
      · decide
    · exact cv
    · decide
end K17
end

section
set_option Elab.async false
set_option linter.all false
set_option maxRecDepth 100000
set_option maxHeartbeats 0
namespace K17
open PySem AM
local macro_rules | `(tactic| walk_at "AMX") => `(tactic| (repeat first
      | with_reducible refine x_body ?_
      | with_reducible refine x_next ?_
      | with_reducible refine x_seq ?_
      | with_reducible refine x_expr ?_
      | with_reducible refine x_ret ?_
      | with_reducible refine x_retN ?_
      | with_reducible refine x_ifS ?_
      | with_reducible refine x_asgN ?_
      | with_reducible refine x_asgT ?_
      | with_reducible refine x_asgL ?_
      | with_reducible refine x_par ?_
      | with_reducible refine x_for ?_
      | with_reducible refine x_c ?_
      | with_reducible refine x_op ?_
      | with_reducible refine x_un ?_
      | with_reducible refine x_tst ?_
      | with_reducible refine x_kTst ?_
      | with_reducible refine x_and ?_
      | with_reducible refine x_or ?_
      | with_reducible refine x_not ?_
      | with_reducible refine x_andV ?_
      | with_reducible refine x_orV ?_
      | with_reducible refine x_notV ?_
      | with_reducible refine x_kAndV ?_
      | with_reducible refine x_kOrV ?_
      | with_reducible refine x_kNotV ?_
      | with_reducible refine x_if ?_
      | with_reducible refine x_yes ?_
      | with_reducible refine x_chain ?_
      | with_reducible refine x_kCh ?_
      | with_reducible refine x_nil ?_
      | with_reducible refine x_cons ?_
      | with_reducible refine x_star ?_
      | with_reducible refine x_cb ?_
      | with_reducible refine x_tup ?_
      | with_reducible refine x_lst ?_
      | with_reducible refine x_lc ?_
      | with_reducible refine x_iter ?_
      | with_reducible refine x_zip ?_
      | with_reducible refine x_rg1 ?_
      | with_reducible refine x_rg2 ?_
      | with_reducible refine x_sl ?_
      | with_reducible refine x_kSl ?_
      | with_reducible refine x_noPart ?_
      | with_reducible refine x_part ?_
      | with_reducible refine x_rev ?_
      | with_reducible refine x_lr1 ?_
      | with_reducible refine x_call ?_
      | with_reducible refine x_callO ?_
      | with_reducible refine x_bm0 ?_
      | with_reducible refine x_bm ?_
      | with_reducible refine x_nx ?_
      | with_reducible refine x_rt ?_
      | with_reducible refine x_bk ?_
      | with_reducible refine x_ct ?_
      | with_reducible refine x_kRes0 ?_
      | with_reducible refine x_break ?_
      | with_reducible refine x_cont ?_
      | ((with_reducible apply x_var); exact rfl)
      | ((with_reducible apply x_kIterT); exact rfl)
      | ((with_reducible apply x_kIterL); exact rfl)
      | ((with_reducible apply x_kAsg); exact rfl)
      | ((with_reducible apply x_kStar); exact rfl)
      | ((with_reducible apply x_kIterO); exact rfl)
      | ((with_reducible apply x_abs); exact rfl)
      | ((with_reducible apply x_int1); exact rfl)
      | ((with_reducible apply x_neg); exact rfl)
      | ((with_reducible apply x_kPart); exact rfl)
      | ((with_reducible apply x_slT); exact rfl)
      | ((with_reducible apply x_slL); exact rfl)
      | ((with_reducible apply x_revT); exact rfl)
      | ((with_reducible apply x_revL); exact rfl)
      | ((with_reducible apply x_revLn); exact rfl)
      | ((with_reducible apply x_sum); exact rfl)
      | ((with_reducible apply x_all); exact rfl)
      | ((with_reducible apply x_kTup); exact rfl)
      | ((with_reducible apply x_kLstF); exact rfl)
      | ((with_reducible apply x_kLstT); exact rfl)
      | ((with_reducible apply x_repr); exact rfl)
      | ((with_reducible apply x_kAsgL); exact rfl; exact rfl)
      | ((with_reducible apply x_intT); exact rfl; exact rfl)
      | ((with_reducible apply x_addI); exact rfl; exact rfl)
      | ((with_reducible apply x_isN); exact rfl; exact rfl)
      | ((with_reducible apply x_isB); exact rfl; exact rfl)
      | ((with_reducible apply x_kCall0); exact rfl; exact rfl)
      | ((with_reducible apply x_kZipT); exact rfl; exact rfl)
      | ((with_reducible apply x_kZipL); exact rfl; exact rfl)
      | ((with_reducible apply x_kCallO); exact rfl)
      | with_reducible refine x_dput ?_
      | ((with_reducible apply x_kDPutK); exact rfl; exact rfl; exact rfl)
      | ((with_reducible apply x_kDPutT); exact rfl; exact rfl; exact rfl)
      | ((with_reducible apply x_int); exact rfl; exact rfl)
      | ((with_reducible apply x_addT); exact rfl; exact rfl)
      | ((with_reducible apply x_addL); exact rfl; exact rfl)
      | ((with_reducible apply x_addLn); exact rfl; exact rfl)
      | ((with_reducible apply x_mulI); exact rfl; exact rfl)
      | ((with_reducible apply x_mulT); exact rfl; exact rfl)
      | ((with_reducible apply x_ne); exact rfl; exact rfl)
      | ((with_reducible apply x_eq); exact rfl; exact rfl)
      | ((with_reducible apply x_ixL); (first | exact .inl rfl | exact .inr rfl); exact rfl; exact rfl)
      | ((with_reducible apply x_ixD); exact rfl; exact rfl; exact rfl; exact rfl)
      | ((with_reducible apply x_lenS); (first | exact .inl rfl | exact .inr rfl))
      | ((with_reducible apply x_tupleOf); (first | exact .inl rfl | exact .inr rfl))
      | ((with_reducible apply x_listOfF); (first | exact .inl rfl | exact .inr rfl))
      | ((with_reducible apply x_listOfT); (first | exact .inl rfl | exact .inr rfl))
      | ((with_reducible apply x_isi); exact rfl; rotate_left; simp [tyNames]; rotate_right)
      | with_reducible apply x_kRng1
      | with_reducible apply x_kRng2
      | with_reducible apply x_kLr1
      | ((with_reducible apply x_ifT); exact rfl)
      | ((with_reducible apply x_ifF); exact rfl)
      | ((with_reducible apply x_kTst2); exact rfl)))
/-! ### shapes -/
theorem plain_ints (l : List Int) : PyData.plainAll (l.map PyData.int) = true := plain_all fun p hp => by
  obtain ⟨i, _, rfl⟩ := List.mem_map.mp hp
  rfl
theorem depth_ints' (l : List Int) : ∀ x ∈ l.map PyData.int, x.depth ≤ 0 := fun x hx => by
  obtain ⟨i, _, rfl⟩ := List.mem_map.mp hx
  simp [PyData.depth]
theorem alike_intsL (l : List Int) : PySem.W.AllAlike (l.map PyData.int) := PySem.W.AllAlike.of fun _ _ => rfl
theorem sortable_ints (l : List Int) : PySem.W.Sortable (l.map PyData.int) := PySem.W.Sortable.others fun b => ⟨fun z => (by cases z), fun xs z => (by cases z)⟩
/-- what the last row asks -/
def lastQ (n : Nat) (many : Int) (jobs : List Int) : Bool := decide (many = 1) && PyData.eqv (.list ((jobs.map PyData.int).mergeSort (PySem.W.dataLe false id))) (.list (rngP 0 (n : Int).toNat))
theorem sort_mem {l : List Int} {x : PyData} : x ∈ (l.map PyData.int).mergeSort (PySem.W.dataLe false id) ↔ x ∈ l.map PyData.int := (List.mergeSort_perm _ _).mem_iff
theorem cmp_sorted (n : Nat) (jobs : List Int) : Cmp (.list ((jobs.map PyData.int).mergeSort (PySem.W.dataLe false id))) (.list (rngP 0 (n : Int).toNat)) := by
  refine ⟨?_, ?_, ?_⟩
  · simp only [PyData.plain]
    exact plain_all fun x hx => by
      obtain ⟨i, _, rfl⟩ := List.mem_map.mp (sort_mem.mp hx)
      rfl
  · simp only [PyData.plain]
    exact plain_all fun x hx => by
      unfold rngP at hx
      obtain ⟨i, _, rfl⟩ := List.mem_map.mp hx
      rfl
  · have h1 : PyData.depthAll ((jobs.map PyData.int).mergeSort (PySem.W.dataLe false id)) ≤ 0 := depth_all fun x hx => depth_ints' jobs x (sort_mem.mp hx)
    have h2 : PyData.depthAll (rngP 0 (n : Int).toNat) ≤ 0 := depth_all fun x hx => by
      unfold rngP at hx
      obtain ⟨i, _, rfl⟩ := List.mem_map.mp hx
      simp [PyData.depth]
    simp only [PyData.depth]
    omega
theorem x_sortedX {M : Sto} {Ψ : K1} {d : D} {xs : List PyData} (e : AM.listOf d M = some xs) (nd : ∀ j kvs, d = .own j → M[j]? ≠ some (some (.dit kvs))) (h : Ψ (.dat (.list (xs.mergeSort (PySem.W.dataLe false id)))) M) (c1 : PyData.plainAll xs = true) (c2 : xs.length ≤ sizeLine) (c3 : PySem.W.AllAlike xs) (c4 : PySem.W.Sortable xs) (c5 : ∀ x ∈ xs, x.depth ≤ 60) :
    aSortedX false [d] M Ψ := by
  have key : aSorted false [d] M Ψ := by
    unfold aSorted
    dsimp only
    rw [e]
    exact ⟨c1, c2, c3, c4, c5, h⟩
  unfold aSortedX
  split
  · rename_i j e1
    cases e1
    split
    · rename_i kvs hm
      exact absurd hm (nd j kvs rfl)
    · exact key
  · exact key
theorem last_ok {G : Gm} {M : Sto} {Ψ : K1} {n : Nat} {many : Int} {jobs : List Int} {d : D} (hn : n ≤ 1000) (hlj : jobs.length ≤ 200000) (g0 : G[0]? = some (some (.dat (.int (n : Int))))) (g2 : G[2]? = some (some (.dat (.int many)))) (g3 : G[3]? = some (some d)) (e : AM.listOf d M = some (jobs.map PyData.int)) (nd : ∀ j kvs, d = .own j → M[j]? ≠ some (some (.dit kvs)))
    (h : Ψ (.dat (.bool (lastQ n many jobs))) M) : aAndV (aOp aEqX (aVar 2) (aC (.dat (.int 1)))) (aOp aEqX (aCB (aSortedX false) (aCons (aVar 3) (aNil))) (aLr1 false (aVar 0))) G M Ψ := by
  refine x_andV (x_op (x_var g2 (x_c (x_eq (p := .int many) (q := .int 1) rfl rfl ?_ (.inl ⟨rfl, rfl, by simp [PyData.depth]⟩)))))
  refine x_kAndV ?_
  have em : PyData.eqv (.int many) (.int 1) = decide (many = 1) := by
    simp only [PyData.eqv]
    rw [Bool.eq_iff_iff]
    simp
  rw [em]
  unfold lastQ at h
  cases hm : decide (many = 1) with
  | false =>
    rw [hm, Bool.false_and] at h
    exact x_ifF rfl h
  | true =>
    rw [hm, Bool.true_and] at h
    refine x_ifT rfl (x_op (x_cb (x_cons (x_var g3 (x_nil (x_sortedX e nd (x_lr1 (x_var g0 (x_kLr1 ?_ ⟨by omega, by omega⟩))) (plain_ints jobs) ?_ (alike_intsL jobs) (sortable_ints jobs) ?_))))))
    · exact x_eq rfl rfl h (.inl (cmp_sorted n jobs))
    · rw [List.length_map]
      exact sz_of (by omega)
    · intro x hx
      have := depth_ints' jobs x hx
      omega
def rsB : PyData → Bool
  | .str x => decide (x = "row") || decide (x = "sides")
  | _ => false
theorem in_rs (p : PyData) : ([PyData.str "row", .str "sides"].any fun z => z.eqv p) = rsB p := by
  cases p with
  | str x =>
    simp only [rsB, List.any_cons, List.any_nil, Bool.or_false, PyData.eqv, str_beq]
    congr 1 <;> (apply decide_eq_decide.mpr; exact eq_comm)
  | _ => rfl
theorem in_rsC {p : PyData} (h : OkV p) : ((p.plain = true ∧ PyData.plainAll [PyData.str "row", .str "sides"] = true ∧ (p.depth ≤ 90 ∨ PyData.depthAll [PyData.str "row", .str "sides"] ≤ 90)) ∨ ((∃ kvs, p = .dict kvs) ∧ [PyData.str "row", .str "sides"].all isStrP = true ∧ AM.pv (.dat (.tuple [PyData.str "row", .str "sides"])) [] = some (.tuple [PyData.str "row", .str "sides"]))) := by
  rcases h with h | h
  · exact .inl ⟨h.1, rfl, .inl (by have := h.2; omega)⟩
  · exact .inr ⟨⟨_, h⟩, rfl, rfl⟩
theorem shape_loop {Ψ : K1} {nx : Gm → Sto → Prop} {n : Nat} (hn : n ≤ 1000) : ∀ (ps : List PyData) (many : Int) (jobs : List Int) (G : Gm), (∀ p ∈ ps, OkV p) → jobs.length + ps.length ≤ 200000 → G.length = 5 → G[0]? = some (some (.dat (.int (n : Int)))) → G[2]? = some (some (.dat (.int many))) → G[3]? = some (some (.own 0)) →
    (∀ M', Ψ (.dat (.bool (shapeR n ps many jobs))) M') →
    aLoop (aName 4) as_is_shape_b59 (fun _ => True) { nx := as_is_shape_s67 { nx := nx, rt := Ψ }, rt := Ψ } (ps.map D.dat) G [some (.lst (jobs.map PyData.int))]
  | [], many, jobs, G, _, hlen, hl, g0, g2, g3, h => by
    refine ⟨trivial, x_nx ?_⟩
    unfold as_is_shape_s67
    exact x_ret (last_ok hn (by simp at hlen; omega) g0 g2 g3 rfl (fun j kvs e => by cases e; intro z; cases z) (h _))
  | p :: ps, many, jobs, G, hp, hlen, hl, g0, g2, g3, h => by
    refine ⟨trivial, ?_⟩
    simp only [List.length_cons] at hlen
    have hp1 := hp p List.mem_cons_self
    have hps : ∀ q ∈ ps, OkV q := fun q hq => hp q (List.mem_cons_of_mem _ hq)
    show as_is_shape_b59 _ (G.set 4 (some (.dat p))) _
    have k4 : (G.set 4 (some (.dat p)))[4]? = some (some (.dat p)) := by rw [List.getElem?_set_self (by rw [hl]; decide)]
    have k0 : (G.set 4 (some (.dat p)))[0]? = some (some (.dat (.int (n : Int)))) := by rw [List.getElem?_set_ne (by decide)]; exact g0
    have k2 : (G.set 4 (some (.dat p)))[2]? = some (some (.dat (.int many))) := by rw [List.getElem?_set_ne (by decide)]; exact g2
    have k3 : (G.set 4 (some (.dat p)))[3]? = some (some (.own 0)) := by rw [List.getElem?_set_ne (by decide)]; exact g3
    have kl : (G.set 4 (some (.dat p))).length = 5 := by rw [List.length_set]; exact hl
    generalize G.set 4 (some (.dat p)) = G1 at k0 k2 k3 k4 kl
    have neg : shapeR n (p :: ps) many jobs = false → aRet (aC (.dat (.bool false))) { nx := aLoop (aName 4) as_is_shape_b59 (fun _ => True) { nx := as_is_shape_s67 { nx := nx, rt := Ψ }, rt := Ψ } (ps.map D.dat), rt := Ψ, bk := as_is_shape_s67 { nx := nx, rt := Ψ }, ct := aLoop (aName 4) as_is_shape_b59 (fun _ => True) { nx := as_is_shape_s67 { nx := nx, rt := Ψ }, rt := Ψ } (ps.map D.dat) } G1 [some (.lst (jobs.map PyData.int))] := fun e => by
      rw [e] at h
      exact x_ret (x_c (h _))
    unfold as_is_shape_b59
    refine x_ifS (x_tst (x_call (x_cons (x_var k4 (x_nil (x_kCall0 rfl rfl ⟨p, rfl, x_kRes0 (x_kTst ?_)⟩))))))
    cases hb : isNum p with
    | true =>
      cases p with
      | int i =>
        have hi : 0 ≤ i := by simpa [isNum] using hb
        refine x_ifT rfl (x_seq (x_asgN (x_op (x_var k2 (x_c (x_addI rfl rfl (x_nx ?_)))))))
        have j3 : (G1.set 2 (some (.dat (.int (many + 1)))))[3]? = some (some (.own 0)) := by rw [List.getElem?_set_ne (by decide)]; exact k3
        have j4 : (G1.set 2 (some (.dat (.int (many + 1)))))[4]? = some (some (.dat (.int i))) := by rw [List.getElem?_set_ne (by decide)]; exact k4
        refine x_expr (x_bm (x_var j3 ⟨x_isLst rfl, x_cons (x_var j4 (x_nil (x_append rfl (x_nx ?_) ?_)))⟩))
        · have e : (jobs.map PyData.int ++ [.int i]) = (jobs ++ [i]).map PyData.int := by rw [List.map_append]; rfl
          show aLoop _ _ _ _ _ _ [some (.lst (jobs.map PyData.int ++ [.int i]))]
          rw [e]
          refine shape_loop hn ps (many + 1) (jobs ++ [i]) _ hps (by rw [List.length_append]; simp only [List.length_cons, List.length_nil]; omega) (by rw [List.length_set]; exact kl) (by rw [List.getElem?_set_ne (by decide)]; exact k0) (by rw [List.getElem?_set_self (by rw [kl]; decide)]) j3 fun M' => ?_
          have e2 : shapeR n (.int i :: ps) many jobs = shapeR n ps (many + 1) (jobs ++ [i]) := by
            show (decide (0 ≤ i) && _) = _
            rw [decide_eq_true hi, Bool.true_and]
          rw [← e2]
          exact h M'
        · rw [List.length_map]
          exact Nat.lt_of_lt_of_le (by omega : jobs.length < 16777216) (by decide)
      | _ => cases hb
    | false =>
      refine x_ifF rfl (x_ifS (x_and (x_tst (x_cb (x_cons (x_var k4 (x_cons (x_c (x_nil (x_isi rfl (x_kTst ?_) (by simp [tyNames])))))))))))
      cases p with
      | str x =>
        refine x_ifT rfl (x_and (x_tst (x_op (x_var k4 (x_tup (x_cons (x_c (x_cons (x_c (x_nil (x_kTup rfl ?_ (by show 2 ≤ sizeLine; decide))))))))))))
        refine x_in (p := .str x) (ps := [PyData.str "row", .str "sides"]) rfl (.inl rfl) ?_ (.inl ⟨rfl, rfl, .inl (by simp [PyData.depth])⟩)
        rw [in_rs]
        unfold rsB
        dsimp only
        refine x_kTst ?_
        cases hq : (decide (x = "row") || decide (x = "sides")) with
        | false =>
          refine x_ifF rfl (x_ifF rfl (neg ?_))
          show ((decide (x = "row") || decide (x = "sides")) && decide (1 < many) && _) = false
          rw [hq]
          rfl
        | true =>
          refine x_ifT rfl (x_tst (x_op (x_var k2 (x_c ?_))))
          refine x_intT rfl rfl ?_
          refine x_kTst ?_
          cases hm : decide (1 < many) with
          | false =>
            refine x_ifF rfl (neg ?_)
            show ((decide (x = "row") || decide (x = "sides")) && decide (1 < many) && _) = false
            rw [hq, hm]
            rfl
          | true =>
            refine x_ifT rfl (x_asgN (x_op (x_var k2 (x_c ?_))))
            refine x_intT rfl rfl (x_nx ?_)
            refine shape_loop hn ps (many - 1) jobs _ hps (by omega) (by rw [List.length_set]; exact kl) (by rw [List.getElem?_set_ne (by decide)]; exact k0) (by rw [List.getElem?_set_self (by rw [kl]; decide)]) (by rw [List.getElem?_set_ne (by decide)]; exact k3) fun M' => ?_
            have e2 : shapeR n (.str x :: ps) many jobs = shapeR n ps (many - 1) jobs := by
              show ((decide (x = "row") || decide (x = "sides")) && decide (1 < many) && _) = _
              rw [hq, hm]
              rfl
            rw [← e2]
            exact h M'
      | int i =>
        refine x_ifF rfl (x_ifF rfl (neg ?_))
        have hi : decide (0 ≤ i) = false := hb
        show (decide (0 ≤ i) && _) = false
        rw [hi]
        rfl
      | _ => exact x_ifF rfl (x_ifF rfl (neg rfl))
theorem ok_is_shape {ds : List D} {M : Sto} {Ψ : K1} (h : sp_is_shape ds M Ψ) : aBody N_is_shape as_is_shape ds M Ψ := by
  obtain ⟨n, v, rfl, hn, hv, rfl, h⟩ := h
  refine x_body ?_
  unfold as_is_shape
  cases v with
  | tuple xs =>
    walk_at "AMX"
    unfold as_is_shape_s58
    walk_at "AMX"
    · refine ⟨rfl, ?_⟩
      refine x_nx ?_
      unfold as_is_shape_s59
      walk_at "AMX"
      exact shape_loop hn xs 0 [] _ hv.2 (by have := hv.1; simp; omega) rfl rfl rfl rfl h
    · decide
  | _ =>
    walk_at "AMX"
    exact h _
theorem eqvAll_mem : ∀ {xs ys : List PyData} {x : PyData}, PyData.eqvAll xs ys = true → x ∈ xs → ∃ y ∈ ys, PyData.eqv x y = true
  | a :: xs, b :: ys, x, h, hx => by
    simp only [PyData.eqvAll, Bool.and_eq_true] at h
    rcases List.mem_cons.mp hx with e | hx
    · subst e
      exact ⟨b, List.mem_cons_self, h.1⟩
    · obtain ⟨y, h1, h2⟩ := eqvAll_mem h.2 hx
      exact ⟨y, List.mem_cons_of_mem _ h1, h2⟩
  | [], _, x, _, hx => by cases hx
  | _ :: _, [], x, h, _ => by simp [PyData.eqvAll] at h
theorem last_neg {n : Nat} {many : Int} {jobs : List Int} (h : jobs.all (fun i => decide (0 ≤ i)) = false) : lastQ n many jobs = false := by
  rw [List.all_eq_false] at h
  obtain ⟨i, hi, hn⟩ := h
  have hn' : ¬ 0 ≤ i := by simpa using hn
  cases e : lastQ n many jobs with
  | false => rfl
  | true =>
    unfold lastQ at e
    rw [Bool.and_eq_true] at e
    have e2 : PyData.eqvAll ((jobs.map PyData.int).mergeSort (PySem.W.dataLe false id)) (rngP 0 (n : Int).toNat) = true := by
      have := e.2
      simpa only [PyData.eqv] using this
    obtain ⟨y, hy, hq⟩ := eqvAll_mem e2 (sort_mem.mpr (List.mem_map.mpr ⟨i, hi, rfl⟩))
    unfold rngP at hy
    obtain ⟨k, _, rfl⟩ := List.mem_map.mp hy
    simp only [PyData.eqv, beq_iff_eq] at hq
    omega
def lawB (n : Nat) (ps : List PyData) (many : Int) (jobs : List Int) : Bool := jobs.all (fun i => decide (0 ≤ i)) && shapeR n ps many jobs
theorem shape_loop2 {Ψ : K1} {nx : Gm → Sto → Prop} {n : Nat} (hn : n ≤ 1000) : ∀ (ps : List PyData) (many : Int) (jobs : List Int) (G : Gm), (∀ p ∈ ps, OkV p) → jobs.length + ps.length ≤ 200000 → G.length = 5 → G[0]? = some (some (.dat (.int (n : Int)))) → G[2]? = some (some (.dat (.int many))) → G[3]? = some (some (.dat (.list (jobs.map PyData.int)))) →
    (∀ M', Ψ (.dat (.bool (lawB n ps many jobs))) M') →
    aLoop (aName 4) as__law_is_shape_b139 (fun _ => True) { nx := as__law_is_shape_s146 { nx := nx, rt := Ψ }, rt := Ψ } (ps.map D.dat) G []
  | [], many, jobs, G, _, hlen, hl, g0, g2, g3, h => by
    refine ⟨trivial, x_nx ?_⟩
    unfold as__law_is_shape_s146
    refine x_ret (last_ok hn (by simp at hlen; omega) g0 g2 g3 rfl (fun j kvs e => by cases e) ?_)
    have e : lawB n [] many jobs = lastQ n many jobs := by
      show (jobs.all _ && lastQ n many jobs) = _
      cases ha : jobs.all (fun i => decide (0 ≤ i)) with
      | true => rw [Bool.true_and]
      | false => rw [Bool.false_and, last_neg ha]
    rw [← e]
    exact h _
  | p :: ps, many, jobs, G, hp, hlen, hl, g0, g2, g3, h => by
    refine ⟨trivial, ?_⟩
    simp only [List.length_cons] at hlen
    have hp1 := hp p List.mem_cons_self
    have hps : ∀ q ∈ ps, OkV q := fun q hq => hp q (List.mem_cons_of_mem _ hq)
    show as__law_is_shape_b139 _ (G.set 4 (some (.dat p))) _
    have k4 : (G.set 4 (some (.dat p)))[4]? = some (some (.dat p)) := by rw [List.getElem?_set_self (by rw [hl]; decide)]
    have k0 : (G.set 4 (some (.dat p)))[0]? = some (some (.dat (.int (n : Int)))) := by rw [List.getElem?_set_ne (by decide)]; exact g0
    have k2 : (G.set 4 (some (.dat p)))[2]? = some (some (.dat (.int many))) := by rw [List.getElem?_set_ne (by decide)]; exact g2
    have k3 : (G.set 4 (some (.dat p)))[3]? = some (some (.dat (.list (jobs.map PyData.int)))) := by rw [List.getElem?_set_ne (by decide)]; exact g3
    have kl : (G.set 4 (some (.dat p))).length = 5 := by rw [List.length_set]; exact hl
    generalize G.set 4 (some (.dat p)) = G1 at k0 k2 k3 k4 kl
    have neg : shapeR n (p :: ps) many jobs = false → aRet (aC (.dat (.bool false))) { nx := aLoop (aName 4) as__law_is_shape_b139 (fun _ => True) { nx := as__law_is_shape_s146 { nx := nx, rt := Ψ }, rt := Ψ } (ps.map D.dat), rt := Ψ, bk := as__law_is_shape_s146 { nx := nx, rt := Ψ }, ct := aLoop (aName 4) as__law_is_shape_b139 (fun _ => True) { nx := as__law_is_shape_s146 { nx := nx, rt := Ψ }, rt := Ψ } (ps.map D.dat) } G1 [] := fun e => by
      unfold lawB at h
      rw [e, Bool.and_false] at h
      exact x_ret (x_c (h _))
    unfold as__law_is_shape_b139
    refine x_ifS (x_tst (x_call (x_cons (x_var k4 (x_nil (x_kCall0 rfl rfl ⟨p, rfl, x_kRes0 (x_kTst ?_)⟩))))))
    cases hb : isInt p with
    | true =>
      cases p with
      | int i =>
        refine x_ifT rfl (x_par (x_cons (x_op (x_var k2 (x_c (x_addI rfl rfl (x_cons (x_op (x_var k3 (x_lst (x_cons (x_var k4 (x_nil (x_kLstF rfl (x_addL rfl rfl (x_nil ?_) ?_) (by show 1 ≤ sizeLine; decide)))))))))))))))
        · refine ⟨rfl, x_nx ?_⟩
          have e : (jobs.map PyData.int ++ [.int i]) = (jobs ++ [i]).map PyData.int := by rw [List.map_append]; rfl
          show aLoop _ _ _ _ _ ((G1.set 2 (some (.dat (.int (many + 1))))).set 3 (some (.dat (.list (jobs.map PyData.int ++ [.int i]))))) []
          rw [e]
          refine shape_loop2 hn ps (many + 1) (jobs ++ [i]) _ hps (by rw [List.length_append]; simp only [List.length_cons, List.length_nil]; omega) (by rw [List.length_set, List.length_set]; exact kl) (by rw [List.getElem?_set_ne (by decide), List.getElem?_set_ne (by decide)]; exact k0) (by rw [List.getElem?_set_ne (by decide), List.getElem?_set_self (by rw [kl]; decide)]) (by rw [List.getElem?_set_self (by rw [List.length_set, kl]; decide)]) fun M' => ?_
          have e2 : lawB n (.int i :: ps) many jobs = lawB n ps (many + 1) (jobs ++ [i]) := by
            unfold lawB
            rw [List.all_append]
            show (_ && (decide (0 ≤ i) && _)) = _
            simp only [List.all_cons, List.all_nil, Bool.and_true, Bool.and_assoc]
          rw [← e2]
          exact h M'
        · rw [List.length_map]
          simp only [List.length_cons, List.length_nil]
          exact sz_of (by omega)
      | _ => cases hb
    | false =>
      have hin : ∀ {Φ : Bool → Sto → Prop}, Φ (rsB p) [] → aTst (aOp aInX (aVar 4) (aTup (aCons (aC (.dat (.str "row"))) (aCons (aC (.dat (.str "sides"))) (aNil))))) G1 [] Φ := fun {Φ} hΦ => by
        refine x_tst (x_op (x_var k4 (x_tup (x_cons (x_c (x_cons (x_c (x_nil (x_kTup rfl ?_ (by show 2 ≤ sizeLine; decide))))))))))
        refine x_in (p := p) (ps := [PyData.str "row", .str "sides"]) rfl (.inl rfl) ?_ (in_rsC hp1)
        rw [in_rs]
        exact x_kTst hΦ
      refine x_ifF rfl (x_ifS (x_and (hin ?_)))
      cases p with
      | str x =>
        show if (decide (x = "row") || decide (x = "sides")) = true then _ else _
        cases hq : (decide (x = "row") || decide (x = "sides")) with
        | false =>
          refine x_ifF rfl (x_ifF rfl (neg ?_))
          show ((decide (x = "row") || decide (x = "sides")) && decide (1 < many) && _) = false
          rw [hq]
          rfl
        | true =>
          refine x_ifT rfl (x_tst (x_op (x_var k2 (x_c ?_))))
          refine x_intT rfl rfl ?_
          refine x_kTst ?_
          cases hm : decide (1 < many) with
          | false =>
            refine x_ifF rfl (neg ?_)
            show ((decide (x = "row") || decide (x = "sides")) && decide (1 < many) && _) = false
            rw [hq, hm]
            rfl
          | true =>
            refine x_ifT rfl (x_asgN (x_op (x_var k2 (x_c ?_))))
            refine x_intT rfl rfl (x_nx ?_)
            refine shape_loop2 hn ps (many - 1) jobs _ hps (by omega) (by rw [List.length_set]; exact kl) (by rw [List.getElem?_set_ne (by decide)]; exact k0) (by rw [List.getElem?_set_self (by rw [kl]; decide)]) (by rw [List.getElem?_set_ne (by decide)]; exact k3) fun M' => ?_
            have e2 : lawB n (.str x :: ps) many jobs = lawB n ps (many - 1) jobs := by
              unfold lawB
              show (_ && ((decide (x = "row") || decide (x = "sides")) && decide (1 < many) && _)) = _
              rw [hq, hm]
              rfl
            rw [← e2]
            exact h M'
      | int i => cases hb
      | _ => exact x_ifF rfl (x_ifF rfl (neg rfl))
theorem ok__law_is_shape {ds : List D} {M : Sto} {Ψ : K1} (h : sp__law_is_shape ds M Ψ) : aBody N__law_is_shape as__law_is_shape ds M Ψ := by
  obtain ⟨n, v, rfl, hn, hv, rfl, h⟩ := h
  refine x_body ?_
  unfold as__law_is_shape
  cases v with
  | tuple xs =>
    walk_at "AMX"
    unfold as__law_is_shape_s138
    walk_at "AMX"
    · refine ⟨rfl, ?_⟩
      refine x_nx ?_
      unfold as__law_is_shape_s139
      walk_at "AMX"
      exact shape_loop2 hn xs 0 [] _ hv.2 (by have := hv.1; simp; omega) rfl rfl rfl rfl h
    · decide
  | _ =>
    walk_at "AMX"
    exact h _
end K17
end

section
set_option Elab.async false
set_option linter.all false
set_option maxRecDepth 100000
set_option maxHeartbeats 0
namespace K17
open PySem AM
/-! ### the source of draws -/
theorem k01 : ¬ ((.inr "cells" : L2.Key) = .inr "left") := by decide
theorem k02 : ¬ ((.inr "cells" : L2.Key) = .inr "mixed") := by decide
theorem k03 : ¬ ((.inr "cells" : L2.Key) = .inr "turn") := by decide
theorem k12 : ¬ ((.inr "left" : L2.Key) = .inr "mixed") := by decide
theorem k13 : ¬ ((.inr "left" : L2.Key) = .inr "turn") := by decide
theorem k23 : ¬ ((.inr "mixed" : L2.Key) = .inr "turn") := by decide
theorem k10 : ¬ ((.inr "left" : L2.Key) = .inr "cells") := by decide
theorem k20 : ¬ ((.inr "mixed" : L2.Key) = .inr "cells") := by decide
theorem k30 : ¬ ((.inr "turn" : L2.Key) = .inr "cells") := by decide
theorem k21 : ¬ ((.inr "mixed" : L2.Key) = .inr "left") := by decide
theorem k31 : ¬ ((.inr "turn" : L2.Key) = .inr "left") := by decide
theorem k32 : ¬ ((.inr "turn" : L2.Key) = .inr "mixed") := by decide
variable {l m t d : D}
theorem lk0 : look (srcK l m t) (.inr "cells") = some (.own 1) := by simp only [look, srcK, List.find?_cons, decide_true, Option.map_some]
theorem lk1 : look (srcK l m t) (.inr "left") = some l := by simp only [look, srcK, List.find?_cons, k01, decide_false, decide_true, Option.map_some]
theorem lk2 : look (srcK l m t) (.inr "mixed") = some m := by simp only [look, srcK, List.find?_cons, k02, k12, decide_false, decide_true, Option.map_some]
theorem lk3 : look (srcK l m t) (.inr "turn") = some t := by simp only [look, srcK, List.find?_cons, k03, k13, k23, decide_false, decide_true, Option.map_some]
theorem pt1 : put (srcK l m t) (.inr "left") d = srcK d m t := by
  simp only [put, srcK, List.any_cons, List.any_nil, k01, k21, k31, decide_false, decide_true, Bool.false_or, Bool.true_or, Bool.or_false, if_true, List.map_cons, List.map_nil, if_false]
theorem pt3 : put (srcK l m t) (.inr "turn") d = srcK l m d := by
  simp only [put, srcK, List.any_cons, List.any_nil, k03, k13, k23, decide_false, decide_true, Bool.false_or, Bool.true_or, Bool.or_false, if_true, List.map_cons, List.map_nil, if_false]
/-- source[x] -/
theorem src_ix {G : Gm} {M : Sto} {Ψ : K1} {x : Str} {r : D} (i : Nat) (g : G[i]? = some (some (.own 0))) (hM : M[0]? = some (some (.dic (srcK l m t)))) (e : look (srcK l m t) (.inr x) = some r) (h : Ψ r M) : aOp aIx (aVar i) (aC (.dat (.str x))) G M Ψ := by
  refine x_op (x_var g (x_c (x_ixD (p := .str x) (kk := .inr x) (kvs := srcK l m t) ?_ rfl rfl e h)))
  unfold AM.cv
  dsimp only
  rw [hM]
theorem pop_loop {K : AEnds} {G : Gm} {mx tn : Int} (g0 : G[0]? = some (some (.own 0))) (g2 : G[2]? = some (some (.own 1))) (h : ∀ (cells : List Int) (left : Int), K.nx G (srcM cells left mx tn)) : ∀ (n : Nat) (cells : List Int) (left : Int), cells.length < n →
    aWh (aAnd (aTst (aOp aLt (aOp aIx (aVar 0) (aC (.dat (.str "left")))) (aC (.dat (.int 2))))) (aTst (aOp aGt (aCB aLen (aCons (aVar 2) (aNil))) (aC (.dat (.int 0)))))) as__law_pick_b79 K n G (srcM cells left mx tn)
  | 0, cells, left, hn => absurd hn (Nat.not_lt_zero _)
  | n + 1, cells, left, hn => by
    unfold aWh
    refine x_and (x_tst (x_op (src_ix 0 g0 rfl lk1 (x_c ?_))))
    refine x_intT rfl rfl ?_
    refine x_kTst ?_
    refine x_if2 (fun h1 => ?_) fun h1 => x_ifF rfl (h cells left)
    refine x_tst (x_op (x_cb (x_cons (x_var g2 (x_nil (x_lenS (ps := cells.map PyData.int) (.inl rfl) (x_c ?_)))))))
    refine x_intT rfl rfl ?_
    refine x_kTst ?_
    rw [List.length_map]
    refine x_if2 (fun h2 => ?_) fun h2 => h cells left
    rcases List.eq_nil_or_concat cells with e | ⟨init, x, e⟩
    · subst e
      simp at h2
    · rw [List.concat_eq_append] at e
      subst e
      unfold as__law_pick_b79
      refine x_dput (x_bm0 (x_var g2 ⟨x_isLst rfl, x_pop0 (ps := (init ++ [x]).map PyData.int) (p := .int x) rfl ?_ (x_var g0 (x_c (x_kDPutK (kvs := srcK _ _ _) rfl rfl rfl ?_ (by show 4 < sizeLine; decide))))⟩))
      · rw [List.map_append, List.length_append, List.length_map]
        simp
      · rw [pt1]
        have e : (((init ++ [x]).map PyData.int).dropLast) = init.map PyData.int := by rw [List.map_append]; simp
        have := pop_loop g0 g2 h n init x (by simp at hn; omega)
        show aWh _ _ K n G [some (.dic (srcK (.dat (.int x)) (.dat (.int mx)) (.dat (.int tn)))), some (.lst (((init ++ [x]).map PyData.int).dropLast))]
        rw [e]
        exact this
theorem mod_nat {Ψ : K1} {M : Sto} {x : Int} {most : Nat} (hm : 0 < most) (h : ∀ r : Nat, (r < most ∨ r = 0) → Ψ (.dat (.int (r : Int))) M) : Ψ (.dat (.int (x % (most : Int)))) M := by
  have h1 := Int.emod_nonneg x (show ((most : Nat) : Int) ≠ 0 by omega)
  have h2 := Int.emod_lt_of_pos x (show (0 : Int) < ((most : Nat) : Int) by omega)
  have := h (x % (most : Int)).toNat (.inl (by omega))
  rwa [Int.toNat_of_nonneg h1] at this
theorem mulC {a : Int} {b : Int} (h : -(2 ^ 64) < b ∧ b < 2 ^ 64) : L2.CMul a b ∨ L2.CMulW a b := .inl (.inr h)
theorem ok__law_pick {ds : List D} {M : Sto} {Ψ : K1} (h : sp__law_pick ds M Ψ) : aBody N__law_pick as__law_pick ds M Ψ := by
  obtain ⟨most, rfl, hm, ⟨cells, left, mx, tn, rfl⟩, h⟩ := h
  have hs : ∀ cells left mx tn, Src (srcM cells left mx tn) := fun a b c d => ⟨a, b, c, d, rfl⟩
  refine x_body ?_
  unfold as__law_pick
  refine x_seq (x_ifS (x_tst (x_op (x_var rfl (x_c ?_)))))
  refine x_intT rfl rfl ?_
  refine x_kTst ?_
  refine x_if2 (fun h1 => x_ret (x_c ?_)) fun h1 => x_next (x_nx ?_)
  · exact h 0 _ (.inr rfl) (hs cells left mx tn)
  · have h2 : 2 ≤ most := by simp at h1; omega
    unfold as__law_pick_s78
    refine x_seq (x_asgN (src_ix 0 rfl rfl lk0 (x_nx ?_)))
    unfold as__law_pick_s79
    refine x_seq (x_while (cells.length + 1) (pop_loop rfl rfl (fun cells left => x_nx ?_) (cells.length + 1) cells left (Nat.lt_succ_self _)))
    unfold as__law_pick_s81
    refine x_seq (x_asgN (src_ix 0 rfl rfl lk1 (x_nx ?_)))
    unfold as__law_pick_s82
    refine x_seq (x_ifS (x_tst (x_op (x_var rfl (x_c ?_)))))
    refine x_intT rfl rfl ?_
    refine x_kTst ?_
    refine x_if2 (fun h3 => ?_) fun h3 => x_next (x_nx ?_)
    · refine x_seq (x_dput (x_op (x_var rfl (x_var rfl ?_))))
      refine x_int rfl rfl ?_ (.inl ⟨by omega, by omega⟩)
      refine x_var rfl (x_c (x_kDPutK (kvs := srcK _ _ _) rfl rfl rfl ?_ (by show 4 < sizeLine; decide)))
      rw [pt1]
      refine x_nx (x_ret (x_op (x_cb (x_cons (x_var rfl (x_nil (x_int1 rfl (x_var rfl ?_))))))))
      refine x_int rfl rfl ?_ (by omega)
      exact mod_nat (by omega) fun r hr => h r _ hr (hs cells (left / (most : Int)) mx tn)
    · unfold as__law_pick_s85
      refine x_seq (x_dput (x_op (src_ix 0 rfl rfl lk3 (x_c (x_addI rfl rfl (x_var rfl (x_c (x_kDPutK (kvs := srcK _ _ _) rfl rfl rfl ?_ (by show 4 < sizeLine; decide)))))))))
      rw [pt3]
      refine x_nx ?_
      unfold as__law_pick_s86
      refine x_seq (x_asgN (src_ix (l := .dat (.int left)) (m := .dat (.int mx)) (t := .dat (.int (tn + 1))) 0 rfl rfl lk3 (x_nx ?_)))
      unfold as__law_pick_s87
      refine x_seq (x_asgN (x_op (x_cb (x_cons (x_op (src_ix (l := .dat (.int left)) (m := .dat (.int mx)) (t := .dat (.int (tn + 1))) 0 rfl rfl lk2 (x_op (x_var rfl (x_c ?_)))))))))
      refine x_mulI rfl rfl ?_ (mulC (by decide))
      refine x_addI rfl rfl (x_nil (x_int1 rfl (x_c ?_)))
      refine x_int rfl rfl ?_ (by decide)
      refine x_nx ?_
      unfold as__law_pick_s88
      refine x_seq (x_asgN (x_op (x_cb (x_cons (x_op (x_op (x_var rfl (x_var rfl ?_))))))))
      have hb1 := Int.emod_nonneg (mx + (tn + 1) * 104729) (show (998244353 : Int) ≠ 0 by decide)
      have hb2 := Int.emod_lt_of_pos (mx + (tn + 1) * 104729) (show (0 : Int) < 998244353 by decide)
      refine x_mulI rfl rfl (x_op (x_var rfl (x_c ?_))) (mulC ⟨by omega, by omega⟩)
      refine x_mulI rfl rfl ?_ (mulC (by decide))
      refine x_addI rfl rfl (x_nil (x_int1 rfl (x_c ?_)))
      refine x_int rfl rfl ?_ (by decide)
      refine x_nx ?_
      unfold as__law_pick_s89
      refine x_ret (x_op (x_cb (x_cons (x_op (x_var rfl (x_c ?_))))))
      refine x_int rfl rfl ?_ (.inl ⟨by decide, by decide⟩)
      refine x_nil (x_int1 rfl (x_var rfl ?_))
      refine x_int rfl rfl ?_ (by omega)
      exact mod_nat (by omega) fun r hr => h r _ hr (hs cells left mx (tn + 1))
end K17
end

section
set_option Elab.async false
set_option linter.all false
set_option maxRecDepth 100000
set_option maxHeartbeats 0
namespace K17
open PySem AM
/-! ### draws -/
theorem src_len {M : Sto} (h : Src M) : M.length = 2 := by
  obtain ⟨a, b, c, d, rfl⟩ := h
  rfl
theorem srcK_cl {l m t : Int} {n : Nat} (hn : 2 ≤ n) : (Mo.dic (srcK (.dat (.int l)) (.dat (.int m)) (.dat (.int t)))).cl n := by
  intro x hx
  unfold srcK at hx
  simp only [List.mem_cons, List.not_mem_nil, or_false] at hx
  rcases hx with rfl | rfl | rfl | rfl
  · show 1 < n
    omega
  · trivial
  · trivial
  · trivial
theorem src_cl {M : Sto} (h : Src M) : ClN 2 M := by
  obtain ⟨a, b, c, d, rfl⟩ := h
  intro j m hj e
  match j, hj with
  | 0, _ =>
    cases e
    exact srcK_cl (Nat.le_refl 2)
  | 1, _ =>
    cases e
    trivial
theorem take_cl {M : Sto} (h : Src (M.take 2)) : ClN 2 M := fun j m hj e => src_cl h j m hj (by rw [List.getElem?_take, if_pos hj]; exact e)
theorem call_pick {G : Gm} {M : Sto} {Ψ : K1} {most : Nat} (i : Nat) (a : AE) (g : G[i]? = some (some (.own 0))) (ha : ∀ Φ : K1, Φ (.dat (.int (most : Int))) M → a G M Φ) (hm : most < 1000000000) (hs : Src (M.take 2)) (h2 : 2 ≤ M.length)
    (h : ∀ (r : Nat) (M' : Sto), (r < most ∨ r = 0) → Src M' → Ψ (.dat (.int (r : Int))) (M' ++ M.drop 2)) : aCall 2 2 sp__law_pick (aCons (aVar i) (aCons a aNil)) G M Ψ := by
  refine x_call (x_cons (x_var g (x_cons (ha _ (x_nil (x_kCallN rfl ?_ (take_cl hs) h2 ⟨most, rfl, hm, hs, fun r M' hr hs' => x_kResN (src_cl hs') ?_⟩))))))
  · intro d hd
    simp only [List.mem_cons, List.not_mem_nil, or_false] at hd
    rcases hd with rfl | rfl
    · show 0 < 2
      decide
    · trivial
  · have := h r M' hr hs'
    rw [List.take_of_length_le (by rw [src_len hs']; exact Nat.le_refl 2)]
    exact this
theorem ok__law_of {ds : List D} {M : Sto} {Ψ : K1} (h : sp__law_of ds M Ψ) : aBody N__law_of as__law_of ds M Ψ := by
  obtain ⟨xs, rfl, hne, hl, hs, h⟩ := h
  have h2 := src_len hs
  refine x_body ?_
  unfold as__law_of
  refine x_ret (x_op (x_var rfl (call_pick 0 _ rfl (fun Φ hΦ => x_cb (x_cons (x_var rfl (x_nil (x_lenS (ps := xs) (.inl rfl) hΦ))))) (by omega) (by rw [List.take_of_length_le (by omega)]; exact hs) (by omega) fun r M' hr hs' => ?_)))
  have hpos : 0 < xs.length := by cases xs with | nil => exact absurd rfl hne | cons _ _ => simp
  have hr' : r < xs.length := by omega
  rw [List.drop_eq_nil_of_le (by omega), List.append_nil]
  refine x_ixL (ps := xs) (p := xs[r]) (.inl rfl) rfl ?_ (h _ _ (List.getElem_mem hr') hs')
  rw [atI_nat, List.getElem?_eq_getElem hr']
theorem cl_all {M M2 : Sto} (hl : M2.length = M.length) (h : ∀ (j : Nat) (m : Mo), M2[j]? = some (some m) → m.cl M.length) : ClRel M M2 := ⟨hl, fun j m e => .inr (h j m e)⟩
theorem src_clN {M : Sto} (h : Src M) {n : Nat} (hn : 2 ≤ n) : ∀ (j : Nat) (m : Mo), M[j]? = some (some m) → m.cl n := by
  obtain ⟨a, b, c, d, rfl⟩ := h
  intro j m e
  match j with
  | 0 =>
    cases e
    exact srcK_cl hn
  | 1 =>
    cases e
    trivial
  | j + 2 =>
    have := (List.getElem?_eq_some_iff.mp e).1
    have h2 : j + 2 < 2 := this
    omega
theorem perm_erase {α : Type} : ∀ {l : List α} {i : Nat} (h : i < l.length), (l[i] :: l.eraseIdx i).Perm l
  | a :: l, 0, _ => List.Perm.refl _
  | a :: l, i + 1, h => by
    have h' : i < l.length := by simpa using h
    exact (List.Perm.swap a l[i] (l.eraseIdx i)).trans (List.Perm.cons a (perm_erase h'))
theorem mixed_turns {G : Gm} {Ψ : List PyData → Sto → Prop} (g0 : G[0]? = some (some (.own 0))) (g2 : G[2]? = some (some (.own 2))) : ∀ (items : List D) (pool ps : List PyData) (Ms : Sto), items.length = pool.length → pool.length < 1000 → ps.length + pool.length < 1000 → Src Ms →
    (∀ (ys : List PyData) (M' : Sto) (x : Option Mo), ys.Perm pool → Src M' → Ψ (ps ++ ys) (M' ++ [x])) →
    aTurns (aName 3) aYes (aBM aPop (aVar 2) (aCons (aCall 2 2 sp__law_pick (aCons (aVar 0) (aCons (aCB aLen (aCons (aVar 2) (aNil))) (aNil)))) (aNil))) (fun _ => True) G Ψ items ps (Ms ++ [some (.lst pool)])
  | [], pool, ps, Ms, hl, _, _, hs, h => by
    have e : pool = [] := by cases pool with | nil => rfl | cons _ _ => cases hl
    subst e
    have := h [] Ms (some (.lst [])) (List.Perm.refl _) hs
    rw [List.append_nil] at this
    exact ⟨fun _ => trivial, this⟩
  | d :: ds, pool, ps, Ms, hl, hp, hpl, hs, h => by
    refine ⟨fun _ => trivial, ?_⟩
    show ∀ o, aYes (G.set 3 (some d)) ((Ms ++ [some (.lst pool)]) ++ [some (.raw o)]) _
    intro o
    refine ⟨_, rfl, .refl, x_ifT rfl ?_⟩
    have k0 : (G.set 3 (some d))[0]? = some (some (.own 0)) := by rw [List.getElem?_set_ne (by decide)]; exact g0
    have k2 : (G.set 3 (some d))[2]? = some (some (.own 2)) := by rw [List.getElem?_set_ne (by decide)]; exact g2
    obtain ⟨a1, a2, a3, a4, rfl⟩ := hs
    have hpos : 0 < pool.length := by rw [← hl]; simp
    refine x_bm (x_var k2 ⟨x_isLst (ps := pool) rfl, x_cons (call_pick (most := pool.length) 0 _ k0 (fun Φ hΦ => x_cb (x_cons (x_var k2 (x_nil (x_lenS (ps := pool) (.inl rfl) hΦ))))) (by omega) ⟨a1, a2, a3, a4, rfl⟩ (by show 2 ≤ 4; decide) fun r M' hr hs' => ?_)⟩)
    have hr' : r < pool.length := by omega
    obtain ⟨b1, b2, b3, b4, rfl⟩ := hs'
    refine x_nil (x_pop (k := (r : Int)) (ps := pool) (p := pool[r]) rfl (by rw [Int.toNat_natCast, List.getElem?_eq_getElem hr']) ?_ ⟨by omega, by omega⟩)
    rw [Int.toNat_natCast]
    refine ⟨_, srcM b1 b2 b3 b4 ++ [some (.lst (pool.eraseIdx r))], rfl, rfl, cl_all rfl fun j m e => ?_, by omega, ?_⟩
    · by_cases hj : j < 2
      · rw [List.getElem?_append_left hj] at e
        exact src_clN ⟨b1, b2, b3, b4, rfl⟩ (by show 2 ≤ 3; decide) j m e
      · have hj2 := (List.getElem?_eq_some_iff.mp e).1
        have : j = 2 := by simp [srcM] at hj2; omega
        subst this
        cases e
        trivial
    · have hel : (pool.eraseIdx r).length = pool.length - 1 := List.length_eraseIdx_of_lt hr'
      refine mixed_turns g0 g2 ds (pool.eraseIdx r) (ps ++ [pool[r]]) _ (by simp only [List.length_cons] at hl; omega) (by omega) (by rw [List.length_append]; simp only [List.length_cons, List.length_nil]; omega) ⟨b1, b2, b3, b4, rfl⟩ fun ys M' x hy hs' => ?_
      have := h (pool[r] :: ys) M' x ((List.Perm.cons _ hy).trans (perm_erase hr')) hs'
      simpa using this
theorem rng_len (n : Nat) : (rng 0 ((n : Nat) : Int).toNat).length = n := by
  unfold rng
  rw [List.length_map, List.length_range, Int.toNat_natCast]
theorem ok__law_mixed {ds : List D} {M : Sto} {Ψ : K1} (h : sp__law_mixed ds M Ψ) : aBody N__law_mixed as__law_mixed ds M Ψ := by
  obtain ⟨xs, rfl, hl, ⟨a1, a2, a3, a4, rfl⟩, h⟩ := h
  refine x_body ?_
  unfold as__law_mixed
  refine x_seq (x_asgN (x_cb (x_cons (x_var rfl (x_nil (x_listOfT (ps := xs) (.inl rfl) (x_nx ?_)))))))
  refine x_ret (x_lc (x_rg1 (x_cons (x_cb (x_cons (x_var rfl (x_nil (x_lenS (ps := xs) (.inl rfl) (x_nil ?_)))))))))
  refine x_kRng1 ?_ ⟨by omega, by omega⟩
  exact mixed_turns rfl rfl _ xs [] _ (rng_len _) hl (by simpa using hl) ⟨a1, a2, a3, a4, rfl⟩ fun ys M' x hy hs' => x_rt (h ys M' x hy hs')
theorem weighted_turns {G : Gm} {Ψ : List PyData → Sto → Prop} {most : Nat} (hm : 1 ≤ most) (hm2 : most ≤ 100000000) (g0 : G[0]? = some (some (.own 0))) (g2 : G[2]? = some (some (.dat (.int (most : Int))))) : ∀ (items : List D) (ps : List PyData) (Ms : Sto), ps.length + items.length ≤ 100 → Src Ms →
    (∀ (jobs : List Job) (M' : Sto), jobs.length = items.length → (∀ j ∈ jobs, (1 ≤ j.1 ∧ j.1 ≤ most) ∧ 1 ≤ j.2 ∧ j.2 ≤ most) → Src M' → Ψ (ps ++ jobs.map jobD) M') →
    aTurns (aName 3) aYes (aTup (aCons (aOp (aAdd false) (aC (.dat (.int 1))) (aCall 2 2 sp__law_pick (aCons (aVar 0) (aCons (aVar 2) (aNil))))) (aCons (aOp (aAdd false) (aC (.dat (.int 1))) (aCall 2 2 sp__law_pick (aCons (aVar 0) (aCons (aVar 2) (aNil))))) (aNil)))) (fun _ => True) G Ψ items ps Ms
  | [], ps, Ms, hl, hs, h => by
    have := h [] Ms rfl (fun _ hj => nomatch hj) hs
    rw [List.map_nil, List.append_nil] at this
    exact ⟨fun _ => trivial, this⟩
  | d :: ds, ps, Ms, hl, hs, h => by
    simp only [List.length_cons] at hl
    refine ⟨fun _ => trivial, ?_⟩
    show ∀ o, aYes (G.set 3 (some d)) (Ms ++ [some (.raw o)]) _
    intro o
    refine ⟨_, rfl, .refl, x_ifT rfl ?_⟩
    have k0 : (G.set 3 (some d))[0]? = some (some (.own 0)) := by rw [List.getElem?_set_ne (by decide)]; exact g0
    have k2 : (G.set 3 (some d))[2]? = some (some (.dat (.int (most : Int)))) := by rw [List.getElem?_set_ne (by decide)]; exact g2
    obtain ⟨a1, a2, a3, a4, rfl⟩ := hs
    refine x_tup (x_cons (x_op (x_c (call_pick (most := most) 0 _ k0 (fun Φ hΦ => x_var k2 hΦ) (by omega) ⟨a1, a2, a3, a4, rfl⟩ (by show 2 ≤ 3; decide) fun r M' hr hs' => ?_))))
    obtain ⟨b1, b2, b3, b4, rfl⟩ := hs'
    refine x_addI rfl rfl (x_cons (x_op (x_c (call_pick (most := most) 0 _ k0 (fun Φ hΦ => x_var k2 hΦ) (by omega) ⟨b1, b2, b3, b4, rfl⟩ (by show 2 ≤ 3; decide) fun r2 M2 hr2 hs2 => ?_))))
    obtain ⟨c1, c2, c3, c4, rfl⟩ := hs2
    refine x_addI rfl rfl (x_nil (x_kTup rfl ?_ (by show 2 ≤ sizeLine; decide)))
    refine ⟨_, srcM c1 c2 c3 c4, rfl, rfl, cl_all rfl (src_clN ⟨c1, c2, c3, c4, rfl⟩ (by show 2 ≤ 2; decide)), by omega, ?_⟩
    refine weighted_turns hm hm2 g0 g2 ds _ _ (by rw [List.length_append]; simp only [List.length_cons, List.length_nil]; omega) ⟨c1, c2, c3, c4, rfl⟩ fun jobs M' hlj hj hs' => ?_
    have := h ((1 + r, 1 + r2) :: jobs) M' (by simp [hlj]) (fun j hm' => by
      rcases List.mem_cons.mp hm' with rfl | hm'
      · exact ⟨⟨by show 1 ≤ 1 + r; omega, by show 1 + r ≤ most; omega⟩, by show 1 ≤ 1 + r2; omega, by show 1 + r2 ≤ most; omega⟩
      · exact hj j hm') hs'
    have e : jobD (1 + r, 1 + r2) = .tuple [.int (1 + (r : Int)), .int (1 + (r2 : Int))] := by
      show PyData.tuple [.int ((1 + r : Nat) : Int), .int ((1 + r2 : Nat) : Int)] = _
      rw [Int.natCast_add, Int.natCast_add]
      rfl
    rw [List.map_cons, e] at this
    simpa using this
theorem ok__law_weighted {ds : List D} {M : Sto} {Ψ : K1} (h : sp__law_weighted ds M Ψ) : aBody N__law_weighted as__law_weighted ds M Ψ := by
  obtain ⟨n, most, rfl, hn, hm, hm2, ⟨a1, a2, a3, a4, rfl⟩, h⟩ := h
  refine x_body ?_
  unfold as__law_weighted
  refine x_ret (x_cb (x_cons (x_lc (x_rg1 (x_cons (x_var rfl (x_nil ?_)))))))
  refine x_kRng1 ?_ ⟨by omega, by omega⟩
  refine weighted_turns hm hm2 rfl rfl _ [] _ (by rw [rng_len]; simp; omega) ⟨a1, a2, a3, a4, rfl⟩ fun jobs M' hlj hj hs' => ?_
  rw [rng_len] at hlj
  exact x_nil (x_tupleOf (ps := jobs.map jobD) (.inl rfl) (x_rt (h jobs M' hlj hj hs')))
theorem cells_loop {K : AEnds} {G0 : Gm} {M : Sto} : ∀ (ns : List Int) (G : Gm) (st : Int), G.length = 4 → G[1]? = some (some (.dat (.int st))) → G[0]? = G0[0]? → (∀ (G' : Gm) (st' : Int), G'.length = 4 → G'[1]? = some (some (.dat (.int st'))) → G'[0]? = G0[0]? → K.nx G' M) →
    aLoop (aName 2) as__law_open_cells_b71 (fun _ => True) K (ns.map fun i => D.dat (.int i)) G M
  | [], G, st, hl, g1, g0, h => ⟨trivial, h G st hl g1 g0⟩
  | i :: ns, G, st, hl, g1, g0, h => by
    refine ⟨trivial, ?_⟩
    show as__law_open_cells_b71 _ (G.set 2 (some (.dat (.int i)))) M
    have k1 : (G.set 2 (some (.dat (.int i))))[1]? = some (some (.dat (.int st))) := by rw [List.getElem?_set_ne (by decide)]; exact g1
    have k2 : (G.set 2 (some (.dat (.int i))))[2]? = some (some (.dat (.int i))) := by rw [List.getElem?_set_self (by rw [hl]; decide)]
    unfold as__law_open_cells_b71
    refine x_asgN (x_op (x_cb (x_cons (x_op (x_op (x_op (x_var k1 (x_c ?_))))))))
    refine x_mulI rfl rfl (x_op (x_var k2 (x_c ?_))) (mulC (by decide))
    refine x_mulI rfl rfl ?_ (mulC (by decide))
    refine x_addI rfl rfl (x_c (x_addI rfl rfl (x_nil (x_int1 rfl (x_c ?_)))))
    refine x_int rfl rfl ?_ (by decide)
    refine cells_loop ns _ ((st * 69069 + i * 31 + 5) % 2147483629) (by rw [List.length_set, List.length_set]; exact hl) (by rw [List.getElem?_set_self (by rw [List.length_set, hl]; decide)]) (by rw [List.getElem?_set_ne (by decide), List.getElem?_set_ne (by decide)]; exact g0) h
theorem cells_map (ns : List Int) : (ns.map fun i => D.dat (.int i)) = ((ns.map PyData.int).map D.dat) := by rw [List.map_map]; rfl
theorem merge4 {a b c d : D} : mergeD [] [((.inr "cells" : L2.Key), a), (.inr "left", b), (.inr "mixed", c), (.inr "turn", d)] = [(.inr "cells", a), (.inr "left", b), (.inr "mixed", c), (.inr "turn", d)] := by
  simp only [mergeD, put, List.foldl_cons, List.foldl_nil, List.any_cons, List.any_nil, List.nil_append, List.cons_append, k01, k02, k03, k12, k13, k23, decide_false, Bool.or_false, Bool.false_eq_true, if_false]
theorem ok__law_open_cells {K : PySem.W.Frag} {ds : List D} {M : Sto} {Ψ : K1} (h : sp__law_open_cells K ds M Ψ) : aBody N__law_open_cells (as__law_open_cells K) ds M Ψ := by
  obtain ⟨ns, rfl, hl, rfl, h⟩ := h
  refine x_body ?_
  unfold as__law_open_cells
  refine x_seq (x_asgN (x_c (x_nx ?_)))
  unfold as__law_open_cells_s71
  refine x_seq (x_for ?_)
  unfold aScr
  refine x_var rfl ⟨ns, rfl, ?_⟩
  refine cells_loop (G0 := startG N__law_open_cells [.scr K ns]) ns _ 11 rfl rfl rfl fun G st hG g1 g0 => ?_
  have g0' : G[0]? = some (some (.scr K ns)) := g0
  refine x_nx ?_
  unfold as__law_open_cells_s73
  refine x_seq (x_asgN (x_lc ?_))
  unfold aScr
  refine x_var g0' ⟨ns, rfl, ?_⟩
  rw [cells_map]
  refine turns_map PyData.int (fun i => (wipeG G [2]).set 2 (some (.dat (.int i)))) (fun i => .int (i.natAbs : Int)) ns [] (fun _ => trivial) (fun _ _ => by exact rfl) (fun i _ N Φ _ hΦ => ?_) (by omega) ?_
  · refine x_cb (x_cons (x_var (d := .dat (.int i)) ?_ (x_nil (x_abs (k := i) rfl hΦ))))
    rw [List.getElem?_set_self (by show 2 < (G.set 2 none).length; rw [List.length_set, hG]; decide)]
  · refine x_nx ?_
    have e3 : (G.set 3 (some (.dat (.list (ns.map fun i => PyData.int (i.natAbs : Int))))))[3]? = some (some (.dat (.list (ns.map fun i => PyData.int (i.natAbs : Int))))) := by rw [List.getElem?_set_self (by rw [hG]; decide)]
    have e1 : (G.set 3 (some (.dat (.list (ns.map fun i => PyData.int (i.natAbs : Int))))))[1]? = some (some (.dat (.int st))) := by rw [List.getElem?_set_ne (by decide)]; exact g1
    unfold as__law_open_cells_s74
    refine x_ret (x_disp (x_prs (x_c (x_rev (x_var e3 (x_revLn rfl (x_prs (x_c (x_c (x_prs (x_c (x_var e1 (x_prs (x_c (x_c (x_prs0 ?_))))))))))))))))
    refine ⟨rfl, ?_⟩
    refine ⟨by show 4 ≤ 15; decide, x_rt (h _ ?_)⟩
    refine ⟨(ns.map fun i => (i.natAbs : Int)).reverse, 1, st, 0, ?_⟩
    have e2 : (ns.map fun i => PyData.int (i.natAbs : Int)).reverse = ((ns.map fun i => (i.natAbs : Int)).reverse).map PyData.int := by rw [← List.map_reverse, ← List.map_reverse, List.map_map]; rfl
    have e4 := merge4 (a := .own 1) (b := .dat (.int 1)) (c := .dat (.int st)) (d := .dat (.int 0))
    show [some (Mo.dic (mergeD [] [(.inr "cells", .own 1), (.inr "left", .dat (.int 1)), (.inr "mixed", .dat (.int st)), (.inr "turn", .dat (.int 0))])), some (Mo.lst ((ns.map fun i => PyData.int (i.natAbs : Int)).reverse))] = _
    rw [e2, e4]
    rfl
end K17
end

section
set_option Elab.async false
set_option linter.all false
set_option maxRecDepth 100000
set_option maxHeartbeats 0
namespace K17
open PySem AM
/-! ### facts for the law: sorting -/
def leB (p q : Nat × Nat) : Bool := decide (p.1 < q.1) || (decide (p.1 = q.1) && decide (p.2 ≤ q.2))
theorem leB_iff (p q : Nat × Nat) : leB p q = true ↔ leP p q := by
  unfold leB leP
  simp only [Bool.or_eq_true, Bool.and_eq_true, decide_eq_true_eq]
theorem sort_jobs (l : List (Nat × Nat)) : (l.map jobD).mergeSort (PySem.W.dataLe false id) = (l.mergeSort leB).map jobD := by
  refine (List.map_mergeSort fun a _ b _ => ?_).symm
  rw [Bool.eq_iff_iff, leB_iff, dataLe_job]
theorem sorted_pairs (l : List (Nat × Nat)) : (l.mergeSort leB).Pairwise leP := by
  have := List.pairwise_mergeSort (le := leB) (fun a b c h1 h2 => by
    rw [leB_iff] at h1 h2 ⊢
    unfold leP at *
    omega) (fun a b => by
    have : leB a b = true ∨ leB b a = true := by
      rw [leB_iff, leB_iff]
      unfold leP
      omega
    simpa using this) l
  exact this.imp fun {a b} h => (leB_iff a b).mp h
theorem sort_iL (l : List Nat) : (iL l).mergeSort (PySem.W.dataLe false id) = iL (l.mergeSort fun a b => decide (a ≤ b)) := by
  unfold iL
  refine (List.map_mergeSort fun a _ b _ => ?_).symm
  have := congrFun (congrFun (PySem.W.dataLe_int (fun x : Int => x)) (a : Int)) (b : Int)
  have e : PySem.W.dataLe false id (PyData.int (a : Int)) (PyData.int (b : Int)) = decide ((a : Int) ≤ (b : Int)) := this
  rw [e]
  apply decide_eq_decide.mpr
  omega
theorem sortN_perm (l : List Nat) : (l.mergeSort fun a b => decide (a ≤ b)).Perm l := List.mergeSort_perm l _
theorem alike_iL (l : List Nat) : PySem.W.AllAlike (iL l) := PySem.W.AllAlike.of fun _ _ => rfl
theorem sortable_iL (l : List Nat) : PySem.W.Sortable (iL l) := PySem.W.Sortable.others fun b => ⟨fun z => (by cases z), fun xs z => (by cases z)⟩
theorem depth_mem_iL {l : List Nat} {x : PyData} (h : x ∈ iL l) : x.depth ≤ 60 := by
  obtain ⟨a, _, rfl⟩ := List.mem_map.mp h
  simp [PyData.depth]
/-- sorted(..) of a list of numbers -/
theorem x_sortN {M : Sto} {Ψ : K1} {l : List Nat} (h : Ψ (.dat (.list (iL (l.mergeSort fun a b => decide (a ≤ b))))) M) (hl : l.length ≤ 1000) : aSortedX false [.dat (.list (iL l))] M Ψ :=
  x_sortedL (by rw [sort_iL]; exact h) (plain_iL l) (by rw [iL_len]; exact sz_of (by omega)) (alike_iL l) (sortable_iL l) fun x hx => depth_mem_iL hx
theorem perm_iL {ys : List PyData} {l : List Nat} (h : ys.Perm (iL l)) : ∃ nm : List Nat, ys = iL nm ∧ nm.Perm l := by
  refine ⟨ys.map natOf, ?_, ?_⟩
  · unfold iL
    rw [List.map_map]
    conv => lhs; rw [← List.map_id ys]
    apply List.map_congr_left
    intro x hx
    obtain ⟨a, _, rfl⟩ := List.mem_map.mp (h.mem_iff.mp hx)
    simp [natOf]
  · have := h.map natOf
    rwa [iL_nat] at this
theorem cut_iL (l : List Nat) (k : Nat) : cutP (iL l) none (some (k : Int)) = iL (l.take k) := by
  unfold cutP
  have e1 : HT.sIx (iL l).length 0 none = 0 := rfl
  rw [e1, HT.sIx_nat, List.drop_zero, Nat.sub_zero]
  unfold iL
  rw [← List.map_take, List.length_map]
  by_cases h : k ≤ l.length
  · rw [Nat.min_eq_left h]
  · rw [Nat.min_eq_right (by omega), List.take_of_length_le (Nat.le_refl _), List.take_of_length_le (by omega)]
/-! ### facts for the law: the greatest lot, the due paper -/
theorem lots_inc : ∀ (rest : List Nat) (found : List (List Nat)), rest.Pairwise (· < ·) → (∀ l ∈ found, l.Pairwise (· < ·) ∧ ∀ a ∈ l, ∀ b ∈ rest, a < b) → ∀ l ∈ lotsOf rest found, l.Pairwise (· < ·)
  | [], found, _, h, l, hl => (h l hl).1
  | a :: rest, found, hr, h, l, hl => by
    obtain ⟨h1, h2⟩ := List.pairwise_cons.mp hr
    refine lots_inc rest _ h2 (fun l' hl' => ?_) l hl
    rcases List.mem_append.mp hl' with q | q
    · have := h l' q
      exact ⟨this.1, fun x hx b hb => this.2 x hx b (List.mem_cons_of_mem _ hb)⟩
    · obtain ⟨l2, h3, rfl⟩ := List.mem_map.mp q
      have := h l2 h3
      refine ⟨List.pairwise_append.mpr ⟨this.1, List.pairwise_singleton _ _, fun x hx y hy => ?_⟩, fun x hx b hb => ?_⟩
      · simp at hy
        subst hy
        exact this.2 x hx _ List.mem_cons_self
      · rcases List.mem_append.mp hx with z | z
        · exact this.2 x z b (List.mem_cons_of_mem _ hb)
        · simp at z
          subst z
          exact h1 b hb
theorem zip_inc : ∀ l : List Nat, l.Pairwise (· < ·) → ((iL l).zip (iL l).tail).all (fun p => ltI p.1 p.2) = true
  | [], _ => rfl
  | [a], _ => rfl
  | a :: b :: l, h => by
    obtain ⟨h1, h2⟩ := List.pairwise_cons.mp h
    have ih := zip_inc (b :: l) h2
    have hab := h1 b List.mem_cons_self
    show (decide ((a : Int) < (b : Int)) && ((iL (b :: l)).zip (iL (b :: l)).tail).all fun p => ltI p.1 p.2) = true
    rw [ih, Bool.and_true]
    simpa using hab
theorem told_inc {n : Nat} {l : List Nat} (h : l.Pairwise (· < ·)) (hn : ∀ a ∈ l, a < n) (hne : l ≠ []) : told n (lotD l) = true := by
  unfold lotD
  rw [told_tup, zip_inc l h, Bool.and_true, Bool.and_eq_true]
  refine ⟨?_, List.all_eq_true.mpr fun x hx => ?_⟩
  · cases l with
    | nil => exact absurd rfl hne
    | cons _ _ => rfl
  · obtain ⟨a, ha, rfl⟩ := List.mem_map.mp hx
    have := hn a ha
    simp [isNum, ltI]
    exact this
theorem fold_first {jobs : List Job} {aheads : List (Nat × Nat)} : ∀ (lots : List (List Nat)) (best : List Nat), (best = [] ∨ firstB aheads best = true) → (lots.foldl (stepG jobs aheads) best = [] ∨ firstB aheads (lots.foldl (stepG jobs aheads) best) = true)
  | [], best, h => h
  | lot :: lots, best, h => by
    rw [List.foldl_cons]
    refine fold_first lots _ ?_
    unfold stepG
    by_cases hf : firstB aheads lot = true
    · rw [if_pos hf]
      split
      · exact .inr hf
      · exact h
    · rw [if_neg hf]
      exact h
theorem greatest_more {jobs : List Job} {aheads : List (Nat × Nat)} (hn : jobs.length ≤ 9) (h1 : 1 ≤ jobs.length) (hah : AhOk jobs.length aheads) : firstB aheads (greatest jobs aheads) = true ∧ told jobs.length (lotD (greatest jobs aheads)) = true := by
  obtain ⟨ne, ok⟩ := greatest_ok hn h1 hah
  refine ⟨(fold_first _ _ (.inl rfl)).resolve_left ne, told_inc ?_ ok.2 ne⟩
  rcases fold_mem (jobs := jobs) (aheads := aheads) (lotsOf (List.range jobs.length) [[]]) [] with h | h
  · exact absurd h ne
  · exact lots_inc _ _ List.pairwise_lt_range (fun l hl => by
      simp at hl
      subst hl
      exact ⟨List.Pairwise.nil, fun a ha => nomatch ha⟩) _ h
theorem judge_due {jobs : List Job} {aheads : List (Nat × Nat)} {lot : List Nat} (hn : jobs.length ≤ 9) (h1 : 1 ≤ jobs.length) (hah : AhOk jobs.length aheads) : judge jobs aheads lot (dueD jobs aheads lot) = .none := by
  obtain ⟨hf, ht⟩ := greatest_more hn h1 hah
  have e0 : dueD jobs aheads lot = if lessP (pressN jobs lot) (pressN jobs (greatest jobs aheads)) = true then .tuple [.str "more", lotD (greatest jobs aheads)] else .tuple [.str "most"] := rfl
  by_cases hq : lessP (pressN jobs lot) (pressN jobs (greatest jobs aheads)) = true
  · rw [if_pos hq] at e0
    rw [e0, judge_told ht]
    unfold judge2
    have e : (aheads.filter fun p => (greatest jobs aheads).contains p.2 && !(greatest jobs aheads).contains p.1) = [] := by
      have := no_first aheads (greatest jobs aheads)
      unfold firstB at hf
      rw [Bool.and_eq_true] at hf
      rw [hf.2] at this
      simpa using this
    rw [e]
    dsimp only
    rw [if_pos hq]
  · rw [if_neg hq] at e0
    have e1 : judge jobs aheads lot (.tuple [.str "most"]) = if (dueD jobs aheads lot).eqv (.tuple [.str "most"]) = true then .none else dueD jobs aheads lot := by
      unfold judge
      dsimp only
      rw [if_pos rfl]
    rw [e0, e1, e0]
    exact if_pos (by simp [PyData.eqv, PyData.eqvAll])
end K17
end

section
set_option Elab.async false
set_option linter.all false
set_option maxRecDepth 100000
set_option maxHeartbeats 0
namespace K17
open PySem AM
/-! ### facts for the law: the values that are asked -/
/-- what repr shows -/
def Rep (p : PyData) : Prop := (p.plain = true ∨ p = .dict []) ∧ p.showable = true ∧ p.depth ≤ 60 ∧ p.shown.length ≤ sizeLine
def Vok (p : PyData) : Prop := OkJ p ∧ Rep p ∧ ∀ xs, p = .tuple xs → xs.length ≤ 100000
structure Atom (x : PyData) : Prop where
  pl : x.plain = true
  sh : x.showable = true
  dp : x.depth = 0
  wd : wd x ≤ 1921
theorem atom_int {i : Int} (h : i.natAbs < 2 ^ 1900) : Atom (.int i) := ⟨rfl, by
  simp only [PyData.showable, decide_eq_true_eq]
  by_cases hz : i.natAbs = 0
  · rw [hz]
    decide
  · have := (Nat.log2_lt hz).mpr h
    omega, by simp [PyData.depth], by simp [wd]⟩
theorem pow1900 {a : Nat} (h : a < 2 ^ 64) : a < 2 ^ 1900 := Nat.lt_of_lt_of_le h (Nat.pow_le_pow_right (by decide) (by decide))
theorem atom_nat {a : Nat} (h : a < 2 ^ 64) : Atom (.int (a : Int)) := atom_int (by rw [Int.natAbs_natCast]; exact pow1900 h)
theorem atom_bool (b : Bool) : Atom (.bool b) := ⟨rfl, rfl, by simp [PyData.depth], by simp [wd]⟩
theorem atom_none : Atom .none := ⟨rfl, rfl, by simp [PyData.depth], by simp [wd]⟩
theorem show_str (x : Str) : (PyData.str x).shown = reprText x := by simp only [PyData.shown]
theorem atom_most : Atom (.str "most") := ⟨rfl, rfl, by simp [PyData.depth], by rw [wd, show_str]; decide +kernel⟩
theorem atom_more : Atom (.str "more") := ⟨rfl, rfl, by simp [PyData.depth], by rw [wd, show_str]; decide +kernel⟩
theorem atom_row : Atom (.str "row") := ⟨rfl, rfl, by simp [PyData.depth], by rw [wd, show_str]; decide +kernel⟩
theorem atom_sides : Atom (.str "sides") := ⟨rfl, rfl, by simp [PyData.depth], by rw [wd, show_str]; decide +kernel⟩
theorem atom_form : Atom (.str "form") := ⟨rfl, rfl, by simp [PyData.depth], by rw [wd, show_str]; decide +kernel⟩
theorem atom_ahead : Atom (.str "ahead") := ⟨rfl, rfl, by simp [PyData.depth], by rw [wd, show_str]; decide +kernel⟩
theorem atom_press : Atom (.str "press") := ⟨rfl, rfl, by simp [PyData.depth], by rw [wd, show_str]; decide +kernel⟩
theorem atom_Most : Atom (.str "Most") := ⟨rfl, rfl, by simp [PyData.depth], by rw [wd, show_str]; decide +kernel⟩
/-- data of depth d, not too wide -/
structure Wid (d k : Nat) (p : PyData) : Prop where
  pl : p.plain = true
  sh : p.showable = true
  dp : p.depth ≤ d
  wd : wd p ≤ k
theorem Atom.wid {x : PyData} (h : Atom x) {d k : Nat} (hk : 1921 ≤ k) : Wid d k x := ⟨h.pl, h.sh, by rw [h.dp]; exact Nat.zero_le _, Nat.le_trans h.wd hk⟩
theorem Wid.mono {d k d' k' : Nat} {p : PyData} (h : Wid d k p) (h1 : d ≤ d') (h2 : k ≤ k') : Wid d' k' p := ⟨h.pl, h.sh, Nat.le_trans h.dp h1, Nat.le_trans h.wd h2⟩
theorem show_all {xs : List PyData} (h : ∀ x ∈ xs, x.showable = true) : PyData.showableAll xs = true := by
  induction xs with
  | nil => rfl
  | cons x xs ih => simp only [PyData.showableAll, h x List.mem_cons_self, ih fun q hq => h q (List.mem_cons_of_mem _ hq), Bool.and_self]
theorem wd_all {xs : List PyData} {k : Nat} (h : ∀ x ∈ xs, wd x ≤ k) : wdAll xs ≤ xs.length * (k + 2) := by
  induction xs with
  | nil => simp [wdAll]
  | cons x xs ih =>
    have h1 := h x List.mem_cons_self
    have h2 := ih fun q hq => h q (List.mem_cons_of_mem _ hq)
    simp only [wdAll, List.length_cons, Nat.add_mul, Nat.one_mul]
    omega
theorem wid_tuple {xs : List PyData} {d k : Nat} (h : ∀ x ∈ xs, Wid d k x) : Wid (d + 1) (3 + xs.length * (k + 2)) (.tuple xs) := by
  refine ⟨?_, ?_, ?_, ?_⟩
  · simp only [PyData.plain]
    exact plain_all fun x hx => (h x hx).pl
  · simp only [PyData.showable]
    exact show_all fun x hx => (h x hx).sh
  · have := depth_all (n := d) fun x hx => (h x hx).dp
    simp only [PyData.depth]
    omega
  · have := wd_all (k := k) fun x hx => (h x hx).wd
    simp only [wd]
    omega
theorem wid_list {xs : List PyData} {d k : Nat} (h : ∀ x ∈ xs, Wid d k x) : Wid (d + 1) (3 + xs.length * (k + 2)) (.list xs) := by
  refine ⟨?_, ?_, ?_, ?_⟩
  · simp only [PyData.plain]
    exact plain_all fun x hx => (h x hx).pl
  · simp only [PyData.showable]
    exact show_all fun x hx => (h x hx).sh
  · have := depth_all (n := d) fun x hx => (h x hx).dp
    simp only [PyData.depth]
    omega
  · have := wd_all (k := k) fun x hx => (h x hx).wd
    simp only [wd]
    omega
theorem Wid.rep {d k : Nat} {p : PyData} (h : Wid d k p) (hd : d ≤ 60) (hk : k ≤ 16000000) : Rep p := ⟨.inl h.pl, h.sh, Nat.le_trans h.dp hd, Nat.le_trans (shown_le p h.pl h.sh) (Nat.le_trans h.wd (Nat.le_trans hk (by decide)))⟩
theorem Wid.vok {d k : Nat} {p : PyData} (h : Wid d k p) (hd : d ≤ 40) (hk : k ≤ 16000000) (h1 : ∀ xs, p = .tuple xs → xs.length ≤ 100000) (h2 : ∀ x vs, p = .tuple [x, .tuple vs] → vs.length ≤ 100000) : Vok p :=
  ⟨⟨.inl ⟨h.pl, Nat.le_trans h.dp hd⟩, h2⟩, h.rep (by omega) hk, h1⟩
theorem rep_dict : Rep (.dict []) := ⟨.inr rfl, rfl, by simp [PyData.depth, PyData.depthKv], by decide⟩
theorem vok_dict : Vok (.dict []) := ⟨⟨.inr rfl, fun x vs e => by cases e⟩, rep_dict, fun xs e => by cases e⟩
theorem vok_atom {x : PyData} (h : Atom x) : Vok x := (h.wid (d := 0) (Nat.le_refl _)).vok (by decide) (by decide) (fun xs e => by
  have := h.dp
  rw [e] at this
  simp [PyData.depth] at this) fun y vs e => by
  have := h.dp
  rw [e] at this
  simp [PyData.depth] at this
/-- a short tuple or list of atoms -/
def Sml (p : PyData) : Prop := ∃ xs : List PyData, (p = .tuple xs ∨ p = .list xs) ∧ xs.length ≤ 100 ∧ ∀ x ∈ xs, Atom x
theorem Sml.wid {p : PyData} (h : Sml p) : Wid 1 200000 p := by
  obtain ⟨xs, h1, h2, h3⟩ := h
  have hw : ∀ x ∈ xs, Wid 0 1921 x := fun x hx => (h3 x hx).wid (Nat.le_refl _)
  have hm : xs.length * (1921 + 2) ≤ 100 * 1923 := Nat.mul_le_mul_right _ h2
  rcases h1 with rfl | rfl
  · exact (wid_tuple hw).mono (Nat.le_refl _) (by omega)
  · exact (wid_list hw).mono (Nat.le_refl _) (by omega)
theorem Sml.len {p : PyData} (h : Sml p) : ∀ xs, p = .tuple xs → xs.length ≤ 100 := fun xs e => by
  obtain ⟨ys, h1, h2, _⟩ := h
  rcases h1 with q | q
  · rw [q] at e
    cases e
    exact h2
  · rw [q] at e
    cases e
theorem Sml.vok {p : PyData} (h : Sml p) : Vok p := h.wid.vok (by decide) (by decide) (fun xs e => by have := h.len xs e; omega) fun x vs e => by
  obtain ⟨ys, h1, h2, h3⟩ := h
  rcases h1 with q | q
  · rw [q] at e
    cases e
    have := (h3 (.tuple vs) (by simp)).dp
    simp [PyData.depth] at this
  · rw [q] at e
    cases e
theorem more_vok {p : PyData} (h : Sml p) : Vok (.tuple [.str "more", p]) := by
  have hw : ∀ x ∈ [PyData.str "more", p], Wid 1 200000 x := fun x hx => by
    simp only [List.mem_cons, List.not_mem_nil, or_false] at hx
    rcases hx with rfl | rfl
    · exact atom_more.wid (by decide)
    · exact h.wid
  refine (wid_tuple hw).vok (by decide) (by simp) (fun xs e => by cases e; simp) fun x vs e => ?_
  cases e
  have := h.len vs rfl
  omega
theorem sml_lot {n : Nat} {lot : List Nat} (h : LotOk n lot) (hn : n ≤ 1000) : Sml (lotD lot) := ⟨iL lot, .inl rfl, by rw [iL_len]; have := h.1; omega, fun x hx => by
  obtain ⟨a, ha, rfl⟩ := List.mem_map.mp hx
  have := h.2 a ha
  exact atom_nat (by omega)⟩
theorem rep_bools (bs : List Bool) (h : bs.length ≤ 100) : Rep (.list (bs.map PyData.bool)) := (Sml.wid ⟨_, .inr rfl, by rw [List.length_map]; exact h, fun x hx => by
  obtain ⟨b, _, rfl⟩ := List.mem_map.mp hx
  exact atom_bool b⟩).rep (by decide) (by decide)
theorem rep_job {p : Nat × Nat} (h : Sm p) : Rep (jobD p) := (Sml.wid ⟨[.int (p.1 : Int), .int (p.2 : Int)], .inl rfl, by simp, fun x hx => by
  simp only [List.mem_cons, List.not_mem_nil, or_false] at hx
  have h1 := h.1
  have h2 := h.2
  rcases hx with rfl | rfl
  · exact atom_nat (by omega)
  · exact atom_nat (by omega)⟩).rep (by decide) (by decide)
theorem rep_form : Rep (.tuple [.str "form"]) := (Sml.wid ⟨_, .inl rfl, by simp, fun x hx => by
  simp only [List.mem_cons, List.not_mem_nil, or_false] at hx
  subst hx
  exact atom_form⟩).rep (by decide) (by decide)
theorem rep_due {jobs : List Job} {aheads : List (Nat × Nat)} {lot : List Nat} (hn : jobs.length ≤ 9) (h1 : 1 ≤ jobs.length) (hah : AhOk jobs.length aheads) : Vok (dueD jobs aheads lot) := by
  obtain ⟨_, ok⟩ := greatest_ok hn h1 hah
  unfold dueD
  split
  · exact more_vok (sml_lot ok (by omega))
  · exact Sml.vok ⟨_, .inl rfl, by simp, fun x hx => by
      simp only [List.mem_cons, List.not_mem_nil, or_false] at hx
      subst hx
      exact atom_most⟩
theorem rep_judge {jobs : List Job} {aheads : List (Nat × Nat)} {lot : List Nat} {value : PyData} (hj : JobsOk jobs) (hn : jobs.length ≤ 9) (h1 : 1 ≤ jobs.length) (hah : AhOk jobs.length aheads) : Rep (judge jobs aheads lot value) := by
  have none_ok : Rep .none := (atom_none.wid (d := 0) (Nat.le_refl _)).rep (by decide) (by decide)
  unfold judge
  split
  · split
    · split
      · exact none_ok
      · exact (rep_due hn h1 hah).2.1
    · exact rep_form
  · rename_i x v
    split
    · rename_i hq
      obtain ⟨lot2, rfl, hl2, hne2⟩ := told_lot (by omega) hq.2
      have e : (lotD lot2) = .tuple (iL lot2) := rfl
      rw [e]
      dsimp only
      rw [iL_nat]
      split
      · rename_i p l e2
        have hp : p ∈ aheads := (List.mem_filter.mp (by rw [e2]; exact List.mem_cons_self)).1
        have := hah.2 p hp
        exact (Sml.wid ⟨_, .inl rfl, by simp, fun x hx => by
          simp only [List.mem_cons, List.not_mem_nil, or_false] at hx
          rcases hx with rfl | rfl | rfl
          · exact atom_ahead
          · exact atom_nat (by omega)
          · exact atom_nat (by omega)⟩).rep (by decide) (by decide)
      · split
        · exact none_ok
        · have sm := press_sm hj hl2 hne2
          have hw : ∀ x ∈ [PyData.str "press", jobD (pressN jobs lot2)], Wid 1 200000 x := fun x hx => by
            simp only [List.mem_cons, List.not_mem_nil, or_false] at hx
            rcases hx with rfl | rfl
            · exact atom_press.wid (by decide)
            · exact Sml.wid ⟨_, .inl rfl, by simp, fun x hx => by
                simp only [List.mem_cons, List.not_mem_nil, or_false] at hx
                have h1 := sm.1
                have h2 := sm.2
                rcases hx with rfl | rfl
                · exact atom_nat (by omega)
                · exact atom_nat (by omega)⟩
          exact (wid_tuple hw).rep (by decide) (by simp)
    · exact rep_form
  · exact rep_form
end K17
end

section
set_option Elab.async false
set_option linter.all false
set_option maxRecDepth 100000
set_option maxHeartbeats 0
namespace K17
open PySem AM
/-! ### the law, from its last rows up -/
theorem Vok.okS {v : PyData} (h : Vok v) : OkS v := by
  cases v with
  | tuple xs =>
    refine ⟨h.2.2 xs rfl, fun x hx => ?_⟩
    rcases h.1.1 with q | q
    · refine .inl ⟨plain_item q.1 hx, ?_⟩
      have := depth_item (y := x) hx
      have := q.2
      omega
    · cases q
  | _ => trivial
theorem cmp_str (a b : Str) : Cmp (.str a) (.str b) := ⟨rfl, rfl, by simp [PyData.depth]⟩
theorem str_same (a : Str) : (!(PyData.str a).eqv (.str a)) = false := by simp [PyData.eqv]
theorem rep_bool (b : Bool) : Rep (.bool b) := ((atom_bool b).wid (d := 0) (Nat.le_refl _)).rep (by decide) (by decide)
theorem b197_ok {K : AEnds} {G : Gm} {M : Sto} {m : Nat} {v : PyData} (hm : m ≤ 1000) (hv : OkS v) (g29 : G[29]? = some (some (.dat (.int (m : Int))))) (g21 : G[21]? = some (some (.dat v))) (h : K.nx G M) : as_law_b197 K G M := by
  unfold as_law_b197
  refine x_ifS (x_tst (x_op (x_cb (x_cons (x_call (x_cons (x_var g29 (x_cons (x_var g21 (x_nil (x_kCall0 rfl rfl ⟨m, v, rfl, hm, hv, rfl, fun M' => x_kRes0 ?_⟩)))))))))))
  refine x_nil (x_repr rfl ?_ (rep_bool _))
  refine x_cb (x_cons (x_call (x_cons (x_var g29 (x_cons (x_var g21 (x_nil (x_kCall0 rfl rfl ⟨m, v, rfl, hm, hv, rfl, fun M' => x_kRes0 ?_⟩))))))))
  refine x_nil (x_repr rfl ?_ (rep_bool _))
  refine x_ne rfl rfl ?_ (cmp_str _ _)
  rw [str_same]
  exact x_kTst (x_ifF rfl (x_next h))
theorem loop196 {K : AEnds} {M : Sto} {n : Nat} (hn : n ≤ 100) : ∀ (items : List PyData) (x0 x1 x2 x3 x4 x5 x7 x8 x9 x10 x11 x12 x13 x14 x15 x16 x17 x18 x19 x20 x21 x22 x23 x24 x25 x26 x27 x28 x29 x30 x31 : Option D), (∀ v ∈ items, OkS v) → (∀ x21 x29 : Option D, K.nx ([x0, x1, x2, x3, x4, x5, some (.dat (.int (n : Int))), x7, x8, x9, x10, x11, x12, x13, x14, x15, x16, x17, x18, x19, x20, x21, x22, x23, x24, x25, x26, x27, x28, x29, x30, x31] : Gm) M) →
    aLoop (aName 21) as_law_b196 (fun _ => True) K (items.map D.dat) ([x0, x1, x2, x3, x4, x5, some (.dat (.int (n : Int))), x7, x8, x9, x10, x11, x12, x13, x14, x15, x16, x17, x18, x19, x20, x21, x22, x23, x24, x25, x26, x27, x28, x29, x30, x31] : Gm) M
  | [], _, _, _, _, _, _, _, _, _, _, _, _, _, _, _, _, _, _, _, _, _, _, _, _, _, _, _, _, _, _, _, _, h => ⟨trivial, h _ _⟩
  | v :: items, x0, x1, x2, x3, x4, x5, x7, x8, x9, x10, x11, x12, x13, x14, x15, x16, x17, x18, x19, x20, x21, x22, x23, x24, x25, x26, x27, x28, x29, x30, x31, hv, h => by
    have hv1 := hv v List.mem_cons_self
    refine ⟨trivial, ?_⟩
    show as_law_b196 _ ([x0, x1, x2, x3, x4, x5, some (.dat (.int (n : Int))), x7, x8, x9, x10, x11, x12, x13, x14, x15, x16, x17, x18, x19, x20, some (.dat v), x22, x23, x24, x25, x26, x27, x28, x29, x30, x31] : Gm) M
    unfold as_law_b196
    refine x_for (x_iter (x_tup (x_cons (x_var rfl (x_cons (x_op (x_var rfl (x_c (x_addI rfl rfl (x_nil (x_kTup rfl ?_ ?_)))))))))))
    rotate_left
    · show 2 ≤ sizeLine; decide
    refine x_kIterT rfl ?_
    refine ⟨trivial, ?_⟩
    show as_law_b197 _ ([x0, x1, x2, x3, x4, x5, some (.dat (.int (n : Int))), x7, x8, x9, x10, x11, x12, x13, x14, x15, x16, x17, x18, x19, x20, some (.dat v), x22, x23, x24, x25, x26, x27, x28, some (.dat (.int (n : Int))), x30, x31] : Gm) M
    refine b197_ok (m := n) (by omega) hv1 rfl rfl ⟨trivial, ?_⟩
    show as_law_b197 _ ([x0, x1, x2, x3, x4, x5, some (.dat (.int (n : Int))), x7, x8, x9, x10, x11, x12, x13, x14, x15, x16, x17, x18, x19, x20, some (.dat v), x22, x23, x24, x25, x26, x27, x28, some (.dat (.int ((n : Int) + 1))), x30, x31] : Gm) M
    refine b197_ok (m := n + 1) (by omega) hv1 rfl rfl ⟨trivial, ?_⟩
    exact loop196 hn items x0 x1 x2 x3 x4 x5 x7 x8 x9 x10 x11 x12 x13 x14 x15 x16 x17 x18 x19 x20 (some (.dat v)) x22 x23 x24 x25 x26 x27 x28 (some (.dat (.int ((n : Int) + 1)))) x30 x31 (fun w hw => hv w (List.mem_cons_of_mem _ hw)) h
end K17
end

section
set_option Elab.async false
set_option linter.all false
set_option maxRecDepth 100000
set_option maxHeartbeats 0
namespace K17
open PySem AM
/-! ### the law: draws ahead of own objects, the bent shapes -/
theorem take_app {S R : Sto} (hs : Src S) : (S ++ R).take 2 = S := by
  have := src_len hs
  rw [← this, List.take_left]
theorem drop_app {S R : Sto} (hs : Src S) : (S ++ R).drop 2 = R := by
  have := src_len hs
  rw [← this, List.drop_left]
theorem len_app {S R : Sto} (hs : Src S) : (S ++ R).length = 2 + R.length := by
  rw [List.length_append, src_len hs]
theorem get_app {S R : Sto} (hs : Src S) (k : Nat) : (S ++ R)[2 + k]? = R[k]? := by
  have := src_len hs
  rw [List.getElem?_append_right (by omega), this, Nat.add_sub_cancel_left]
theorem set_app {S R : Sto} (hs : Src S) (k : Nat) (x : Option Mo) : (S ++ R).set (2 + k) x = S ++ R.set k x := by
  have := src_len hs
  rw [List.set_append_right _ _ (by omega), this, Nat.add_sub_cancel_left]
theorem cl_app {S R : Sto} (hs : Src S) : ClN 2 (S ++ R) := take_cl (by rw [take_app hs]; exact hs)
theorem kc_pick {S R : Sto} {Ψ : K1} {most : Nat} {z : Int} (hz : z = (most : Int)) (hs : Src S) (hm : most < 1000000000) (h : ∀ (r : Nat) (S' : Sto), (r < most ∨ r = 0) → Src S' → Ψ (.dat (.int (r : Int))) (S' ++ R)) : kCall 2 2 sp__law_pick Ψ [.own 0, .dat (.int z)] (S ++ R) := by
  subst hz
  refine x_kCallN rfl ?_ (cl_app hs) (by rw [len_app hs]; omega) ⟨most, rfl, hm, by rw [take_app hs]; exact hs, fun r M' hr hs' => x_kResN (src_cl hs') ?_⟩
  · intro d hd
    simp only [List.mem_cons, List.not_mem_nil, or_false] at hd
    rcases hd with rfl | rfl
    · show 0 < 2
      decide
    · trivial
  · rw [drop_app hs, List.take_of_length_le (by rw [src_len hs']; exact Nat.le_refl 2)]
    exact h r M' hr hs'
theorem kc_of {S R : Sto} {Ψ : K1} {xs : List PyData} (hs : Src S) (hne : xs ≠ []) (hm : xs.length < 1000) (h : ∀ (x : PyData) (S' : Sto), x ∈ xs → Src S' → Ψ (.dat x) (S' ++ R)) : kCall 2 2 sp__law_of Ψ [.own 0, .dat (.list xs)] (S ++ R) := by
  refine x_kCallN rfl ?_ (cl_app hs) (by rw [len_app hs]; omega) ⟨xs, rfl, hne, hm, by rw [take_app hs]; exact hs, fun r M' hr hs' => x_kResN (src_cl hs') ?_⟩
  · intro d hd
    simp only [List.mem_cons, List.not_mem_nil, or_false] at hd
    rcases hd with rfl | rfl
    · show 0 < 2
      decide
    · trivial
  · rw [drop_app hs, List.take_of_length_le (by rw [src_len hs']; exact Nat.le_refl 2)]
    exact h r M' hr hs'
theorem kc_mixed {S R : Sto} {Ψ : K1} {xs : List PyData} (hs : Src S) (hm : xs.length < 1000) (h : ∀ (ys : List PyData) (S' : Sto), ys.Perm xs → Src S' → Ψ (.dat (.list ys)) (S' ++ R)) : kCall 2 2 sp__law_mixed Ψ [.own 0, .dat (.list xs)] (S ++ R) := by
  refine x_kCallN rfl ?_ (cl_app hs) (by rw [len_app hs]; omega) ⟨xs, rfl, hm, by rw [take_app hs]; exact hs, fun ys M' x hr hs' => x_kResN (cl_app hs') ?_⟩
  · intro d hd
    simp only [List.mem_cons, List.not_mem_nil, or_false] at hd
    rcases hd with rfl | rfl
    · show 0 < 2
      decide
    · trivial
  · rw [drop_app hs, take_app hs']
    exact h ys M' hr hs'
theorem kc_weighted {S R : Sto} {Ψ : K1} {n most : Nat} (hs : Src S) (hn : n ≤ 60) (h1 : 1 ≤ most) (hm : most ≤ 100000000) (h : ∀ (jobs : List Job) (S' : Sto), jobs.length = n → (∀ j ∈ jobs, (1 ≤ j.1 ∧ j.1 ≤ most) ∧ 1 ≤ j.2 ∧ j.2 ≤ most) → Src S' → Ψ (.dat (jobsD jobs)) (S' ++ R)) : kCall 3 2 sp__law_weighted Ψ [.own 0, .dat (.int (n : Int)), .dat (.int (most : Int))] (S ++ R) := by
  refine x_kCallN rfl ?_ (cl_app hs) (by rw [len_app hs]; omega) ⟨n, most, rfl, hn, h1, hm, by rw [take_app hs]; exact hs, fun jobs M' hl hj hs' => x_kResN (src_cl hs') ?_⟩
  · intro d hd
    simp only [List.mem_cons, List.not_mem_nil, or_false] at hd
    rcases hd with rfl | rfl | rfl
    · show 0 < 2
      decide
    · trivial
    · trivial
  · rw [drop_app hs, List.take_of_length_le (by rw [src_len hs']; exact Nat.le_refl 2)]
    exact h jobs M' hl hj hs'
/-- a list: data, or an object of the store that is no part of the source -/
def Hv (d : D) (R : Sto) (vs : List PyData) : Prop := d = .dat (.list vs) ∨ ∃ k, d = .own (2 + k) ∧ R[k]? = some (some (.lst vs))
theorem Hv.pv {d : D} {S R : Sto} {vs : List PyData} (h : Hv d R vs) (hs : Src S) : pv d (S ++ R) = some (.list vs) := by
  rcases h with rfl | ⟨k, rfl, h⟩
  · rfl
  · unfold AM.pv
    dsimp only
    rw [get_app hs, h]
theorem hv_end {S R : Sto} {vs : List PyData} (hs : Src S) : Hv (.own (S ++ R).length) (R ++ [some (.lst vs)]) vs := .inr ⟨R.length, by rw [len_app hs], by simp⟩
theorem okv_items {xs : List PyData} (h : ∀ x ∈ xs, OkV x) (hl : xs.length ≤ 100000) : OkS (.tuple xs) := ⟨hl, h⟩
theorem s196_ok {K : AEnds} {M : Sto} {n : Nat} {d : D} {vs odd : List PyData} {x0 x1 x3 x4 x5 x7 x8 x9 x10 x11 x12 x13 x14 x15 x16 x17 x18 x19 x21 x22 x23 x24 x25 x26 x27 x28 x29 x30 x31 : Option D} (hn : n ≤ 100) (hd : pv d M = some (.list vs)) (hl : vs.length + odd.length ≤ 10000) (hv : ∀ v ∈ vs, OkS v) (ho : ∀ v ∈ odd, OkS v)
    (h : ∀ x21 x29 : Option D, K.nx ([x0, x1, some (.dat (.list odd)), x3, x4, x5, some (.dat (.int (n : Int))), x7, x8, x9, x10, x11, x12, x13, x14, x15, x16, x17, x18, x19, some d, x21, x22, x23, x24, x25, x26, x27, x28, x29, x30, x31] : Gm) M) : as_law_s196 K ([x0, x1, some (.dat (.list odd)), x3, x4, x5, some (.dat (.int (n : Int))), x7, x8, x9, x10, x11, x12, x13, x14, x15, x16, x17, x18, x19, some d, x21, x22, x23, x24, x25, x26, x27, x28, x29, x30, x31] : Gm) M := by
  unfold as_law_s196
  refine x_for (x_iter (x_op (x_var rfl (x_var rfl (x_addL hd rfl ?_ (sz_of (by omega)))))))
  refine x_kIterL rfl ?_
  refine loop196 hn (vs ++ odd) _ _ _ _ _ _ _ _ _ _ _ _ _ _ _ _ _ _ _ _ _ _ _ _ _ _ _ _ _ _ _ (fun v hm => ?_) h
  rcases List.mem_append.mp hm with q | q
  · exact hv v q
  · exact ho v q
theorem cut_lo (xs : List PyData) (k : Nat) : cutP xs (some (k : Int)) none = xs.drop k := by
  unfold cutP
  have e1 : HT.sIx xs.length xs.length none = xs.length := rfl
  rw [e1, HT.sIx_nat]
  by_cases h : k ≤ xs.length
  · rw [Nat.min_eq_left h, List.take_of_length_le (by simp)]
  · rw [Nat.min_eq_right (by omega), List.drop_eq_nil_of_le (Nat.le_refl _), List.drop_eq_nil_of_le (by omega)]
    simp
theorem cut_hi (xs : List PyData) (k : Nat) : cutP xs none (some (k : Int)) = xs.take k := by
  unfold cutP
  have e1 : HT.sIx xs.length 0 none = 0 := rfl
  rw [e1, HT.sIx_nat, List.drop_zero, Nat.sub_zero]
  by_cases h : k ≤ xs.length
  · rw [Nat.min_eq_left h]
  · rw [Nat.min_eq_right (by omega), List.take_of_length_le (Nat.le_refl _), List.take_of_length_le (by omega)]
theorem loop192 {K : AEnds} {odd sh : List PyData} {x6 : Option D} (hs0 : sh ≠ []) (hsl : sh.length ≤ 100) (hsh : ∀ x ∈ sh, OkV x) (ho : ∀ x ∈ odd, OkV x) (hol : odd.length ≤ 900) (hon : odd ≠ []) : ∀ (items : List D) (vs : List PyData) (d : D) (S R : Sto) (x0 x3 x4 x5 x7 x8 x9 x10 x11 x12 x13 x14 x15 x16 x17 x18 x19 x21 x22 x23 x24 x25 x27 x28 x29 x30 x31 : Option D), Src S → Hv d R vs → (∀ v ∈ vs, OkS v) → vs.length + 3 * items.length ≤ 1000 →
    (∀ (vs : List PyData) (d : D) (S R : Sto) (x4 x27 x28 : Option D), Src S → Hv d R vs → (∀ v ∈ vs, OkS v) → vs.length ≤ 1000 → K.nx ([x0, some (.own 0), some (.dat (.list odd)), x3, x4, x5, x6, x7, x8, x9, x10, x11, x12, x13, x14, x15, x16, x17, x18, x19, some d, x21, x22, x23, x24, x25, some (.dat (.tuple sh)), x27, x28, x29, x30, x31] : Gm) (S ++ R)) →
    aLoop (aName 4) as_law_b192 (fun _ => True) K items ([x0, some (.own 0), some (.dat (.list odd)), x3, x4, x5, x6, x7, x8, x9, x10, x11, x12, x13, x14, x15, x16, x17, x18, x19, some d, x21, x22, x23, x24, x25, some (.dat (.tuple sh)), x27, x28, x29, x30, x31] : Gm) (S ++ R)
  | [], vs, d, S, R, _, _, _, _, _, _, _, _, _, _, _, _, _, _, _, _, _, _, _, _, _, _, _, _, _, _, _, hs, hd, hv, hl, h => ⟨trivial, h vs d S R _ _ _ hs hd hv (by simpa using hl)⟩
  | it :: items, vs, d, S, R, x0, x3, x4, x5, x7, x8, x9, x10, x11, x12, x13, x14, x15, x16, x17, x18, x19, x21, x22, x23, x24, x25, x27, x28, x29, x30, x31, hs, hd, hv, hl, h => by
    refine ⟨trivial, ?_⟩
    show as_law_b192 _ ([x0, some (.own 0), some (.dat (.list odd)), x3, some it, x5, x6, x7, x8, x9, x10, x11, x12, x13, x14, x15, x16, x17, x18, x19, some d, x21, x22, x23, x24, x25, some (.dat (.tuple sh)), x27, x28, x29, x30, x31] : Gm) (S ++ R)
    unfold as_law_b192
    simp only [List.length_cons] at hl
    refine x_seq (x_par (x_cons (x_call (x_cons (x_var rfl (x_cons (x_cb (x_cons (x_var rfl (x_nil (x_lenS (ps := sh) (.inr rfl) (x_nil (kc_pick rfl hs (by omega) fun r S1 hr hs1 => ?_)))))))))))))
    refine x_cons (x_call (x_cons (x_var rfl (x_cons (x_var rfl (x_nil (kc_of hs1 hon (by omega) fun thing S2 ht hs2 => x_nil ⟨rfl, ?_⟩)))))))
    have hot := ho thing ht
    have tk : ∀ k, ∀ x ∈ sh.take k, OkV x := fun k x hx => hsh x (List.mem_of_mem_take hx)
    have dk : ∀ k, ∀ x ∈ sh.drop k, OkV x := fun k x hx => hsh x (List.mem_of_mem_drop hx)
    have c1 : ((r : Int) + 1) = ((r + 1 : Nat) : Int) := by omega
    refine x_nx ?_
    show aSeq _ _ _ ([x0, some (.own 0), some (.dat (.list odd)), x3, some it, x5, x6, x7, x8, x9, x10, x11, x12, x13, x14, x15, x16, x17, x18, x19, some d, x21, x22, x23, x24, x25, some (.dat (.tuple sh)), some (.dat (.int (r : Int))), some (.dat thing), x29, x30, x31] : Gm) (S2 ++ R)
    refine x_seq (x_asgN (x_op (x_var rfl (x_lst ?_))))
    refine x_cons (x_op (x_op (x_sl (x_var rfl (x_kSl (x_noPart (x_part (x_var rfl (x_kPart rfl (x_slT rfl ?_))))))))))
    rw [cut_hi]
    refine x_tup (x_cons (x_var rfl (x_nil (x_kTup rfl (x_addT rfl rfl ?_ (sz_of (by simp; omega))) (sz_of (by simp))))))
    refine x_sl (x_var rfl (x_kSl (x_part (x_op (x_var rfl (x_c (x_addI rfl rfl (x_kPart rfl (x_noPart (x_slT rfl ?_))))))))))
    rw [c1, cut_lo]
    refine x_addT rfl rfl ?_ (sz_of (by simp; omega))
    refine x_cons (x_op (x_op (x_sl (x_var rfl (x_kSl (x_noPart (x_part (x_var rfl (x_kPart rfl (x_slT rfl ?_))))))))))
    rw [cut_hi]
    refine x_tup (x_cons (x_var rfl (x_nil (x_kTup rfl (x_addT rfl rfl ?_ (sz_of (by simp; omega))) (sz_of (by simp))))))
    refine x_sl (x_var rfl (x_kSl (x_part (x_var rfl (x_kPart rfl (x_noPart (x_slT rfl ?_)))))))
    rw [cut_lo]
    refine x_addT rfl rfl ?_ (sz_of (by simp; omega))
    refine x_nil (x_kLstF rfl (x_addLn (hd.pv hs2) rfl ?_ (sz_of (by simp; omega))) (sz_of (by simp)))
    refine x_nx ?_
    have hd2 := hv_end (S := S2) (R := R) (vs := vs ++ [PyData.tuple (sh.take r ++ [thing] ++ sh.drop (r + 1)), .tuple (sh.take r ++ [thing] ++ sh.drop r)]) hs2
    rw [List.append_assoc]
    rw [len_app hs2]
    show aExpr _ _ ([x0, some (.own 0), some (.dat (.list odd)), x3, some it, x5, x6, x7, x8, x9, x10, x11, x12, x13, x14, x15, x16, x17, x18, x19, some (.own (2 + R.length)), x21, x22, x23, x24, x25, some (.dat (.tuple sh)), some (.dat (.int (r : Int))), some (.dat thing), x29, x30, x31] : Gm) (S2 ++ (R ++ [some (.lst (vs ++ [PyData.tuple (sh.take r ++ [thing] ++ sh.drop (r + 1)), .tuple (sh.take r ++ [thing] ++ sh.drop r)]))]))
    have g0 : (S2 ++ (R ++ [some (.lst (vs ++ [PyData.tuple (sh.take r ++ [thing] ++ sh.drop (r + 1)), .tuple (sh.take r ++ [thing] ++ sh.drop r)]))]))[2 + R.length]? = some (some (.lst (vs ++ [PyData.tuple (sh.take r ++ [thing] ++ sh.drop (r + 1)), .tuple (sh.take r ++ [thing] ++ sh.drop r)]))) := by
      rw [get_app hs2]
      simp
    refine x_expr (x_bm (x_var rfl ⟨x_isLst g0, ?_⟩))
    refine x_cons (x_op (x_sl (x_var rfl (x_kSl (x_noPart (x_part (x_var rfl (x_kPart rfl (x_slT rfl ?_)))))))))
    rw [cut_hi]
    refine x_sl (x_var rfl (x_kSl (x_part (x_op (x_var rfl (x_c (x_addI rfl rfl (x_kPart rfl (x_noPart (x_slT rfl ?_))))))))))
    rw [c1, cut_lo]
    refine x_addT rfl rfl (x_nil (x_append g0 ?_ (show _ + 1 ≤ sizeLine from sz_of (by simp; omega)))) (sz_of (by simp; omega))
    rw [set_app hs2]
    have hd3 : Hv (.own (2 + R.length)) ((R ++ [some (Mo.lst (vs ++ [PyData.tuple (sh.take r ++ [thing] ++ sh.drop (r + 1)), .tuple (sh.take r ++ [thing] ++ sh.drop r)]))]).set R.length (some (.lst (vs ++ [PyData.tuple (sh.take r ++ [thing] ++ sh.drop (r + 1)), .tuple (sh.take r ++ [thing] ++ sh.drop r)] ++ [.tuple (sh.take r ++ sh.drop (r + 1))])))) (vs ++ [PyData.tuple (sh.take r ++ [thing] ++ sh.drop (r + 1)), .tuple (sh.take r ++ [thing] ++ sh.drop r)] ++ [.tuple (sh.take r ++ sh.drop (r + 1))]) := .inr ⟨R.length, rfl, by simp⟩
    refine loop192 hs0 hsl hsh ho hol hon items _ _ S2 _ _ _ _ _ _ _ _ _ _ _ _ _ _ _ _ _ _ _ _ _ _ _ _ _ _ _ _ hs2 hd3 (fun v hm => ?_) (by simp; omega) h
    simp only [List.mem_append, List.mem_cons, List.not_mem_nil, or_false] at hm
    have three : ∀ a b c : List PyData, (∀ x ∈ a, OkV x) → (∀ x ∈ b, OkV x) → (∀ x ∈ c, OkV x) → a.length + b.length + c.length ≤ 100000 → OkS (.tuple (a ++ b ++ c)) := fun a b c h1 h2 h3 h4 => okv_items (fun x hx => by
      simp only [List.mem_append] at hx
      rcases hx with (q | q) | q
      · exact h1 x q
      · exact h2 x q
      · exact h3 x q) (by simp; omega)
    have one : ∀ x ∈ [thing], OkV x := fun x hx => by
      simp only [List.mem_cons, List.not_mem_nil, or_false] at hx
      subst hx
      exact hot
    rcases hm with (q | q | q) | q
    · exact hv v q
    · subst q
      exact three _ _ _ (tk r) one (dk _) (by simp; omega)
    · subst q
      exact three _ _ _ (tk r) one (dk _) (by simp; omega)
    · subst q
      have := three _ [] _ (tk r) (fun x hx => nomatch hx) (dk (r + 1)) (by simp; omega)
      rwa [List.append_nil] at this
end K17
end

section
set_option Elab.async false
set_option linter.all false
set_option maxRecDepth 100000
set_option maxHeartbeats 0
namespace K17
open PySem AM
/-! ### the law: shapes -/
def ShT (xs : List PyData) : Prop := xs ≠ [] ∧ ∀ x ∈ xs, Atom x
def lens (xss : List (List PyData)) : Nat := (xss.map List.length).sum
theorem lens_append (a b : List (List PyData)) : lens (a ++ b) = lens a + lens b := by
  unfold lens
  rw [List.map_append, List.sum_append]
theorem atom_okv {x : PyData} (h : Atom x) : OkV x := .inl ⟨h.pl, by rw [h.dp]; omega⟩
def whC : AT := aTst (aOp aGt (aCB aLen (aCons (aVar 24) (aNil))) (aC (.dat (.int 1))))
theorem split_two {xss : List (List PyData)} {i : Nat} (h : i + 1 < xss.length) : xss = xss.take i ++ ([xss[i]'(by omega), xss[i + 1]] ++ xss.drop (i + 2)) := by
  have e1 : xss.drop i = xss[i]'(by omega) :: xss.drop (i + 1) := List.drop_eq_getElem_cons (by omega)
  have e2 : xss.drop (i + 1) = xss[i + 1] :: xss.drop (i + 2) := List.drop_eq_getElem_cons h
  conv => lhs; rw [← List.take_append_drop i xss, e1, e2]
  rfl
theorem loop185 {K : AEnds} {R : Sto} {x0 x2 x3 x4 x5 x6 x7 x8 x9 x11 x12 x13 x14 x15 x16 x17 x18 x19 x20 x21 x22 x23 x26 x27 x28 x29 x30 x31 : Option D} : ∀ (k : Nat) (xss : List (List PyData)) (S : Sto) (x10 x25 : Option D), Src S → xss ≠ [] → xss.length ≤ k → (∀ xs ∈ xss, ShT xs) → lens xss + xss.length ≤ 18 →
    (∀ (xs : List PyData) (S : Sto) (x10 x25 : Option D), Src S → ShT xs → xs.length ≤ 17 → K.nx ([x0, some (.own 0), x2, x3, x4, x5, x6, x7, x8, x9, x10, x11, x12, x13, x14, x15, x16, x17, x18, x19, x20, x21, x22, x23, some (.dat (.list [.tuple xs])), x25, x26, x27, x28, x29, x30, x31] : Gm) (S ++ R)) →
    aWh whC as_law_b185 K k ([x0, some (.own 0), x2, x3, x4, x5, x6, x7, x8, x9, x10, x11, x12, x13, x14, x15, x16, x17, x18, x19, x20, x21, x22, x23, some (.dat (.list (xss.map PyData.tuple))), x25, x26, x27, x28, x29, x30, x31] : Gm) (S ++ R)
  | 0, xss, S, x10, x25, hs, hne, hl, hx, hb, h => by
    cases xss with
    | nil => exact absurd rfl hne
    | cons _ _ => simp at hl
  | k + 1, xss, S, x10, x25, hs, hne, hl, hx, hb, h => by
    show whC _ _ _
    unfold whC
    refine x_tst (x_op (x_cb (x_cons (x_var rfl (x_nil (x_lenS (ps := xss.map PyData.tuple) (.inl rfl) (x_c (x_intT rfl rfl (x_kTst ?_)))))))))
    rw [List.length_map]
    refine x_if2 (fun q => ?_) fun q => ?_
    · have q1 : (1 : Int) < (xss.length : Int) := of_decide_eq_true q
      unfold as_law_b185
      refine x_seq (x_asgN (x_call (x_cons (x_var rfl (x_cons (x_op (x_cb (x_cons (x_var rfl (x_nil (x_lenS (ps := xss.map PyData.tuple) (.inl rfl) (x_c (x_intT rfl rfl ?_)))))))))))))
      rw [List.length_map]
      refine x_nil (kc_pick (most := xss.length - 1) (by omega) hs (by omega) fun i S1 hi hs1 => ?_)
      have hi2 : i + 1 < xss.length := by omega
      have m1 : xss[i]'(by omega) ∈ xss := List.getElem_mem _
      have m2 : xss[i + 1] ∈ xss := List.getElem_mem _
      refine x_nx ?_
      show aSeq _ _ _ ([x0, some (.own 0), x2, x3, x4, x5, x6, x7, x8, x9, some (.dat (.int (i : Int))), x11, x12, x13, x14, x15, x16, x17, x18, x19, x20, x21, x22, x23, some (.dat (.list (xss.map PyData.tuple))), x25, x26, x27, x28, x29, x30, x31] : Gm) (S1 ++ R)
      have sp := split_two hi2
      have hlen : lens (xss.take i) + (((xss[i]'(by omega)).length + xss[i + 1].length) + lens (xss.drop (i + 2))) = lens xss := by
        conv => rhs; rw [sp, lens_append, lens_append]
        simp [lens]
      refine x_seq (x_asgN (x_op (x_op (x_op (x_var rfl (x_var rfl (x_ixL (ps := xss.map PyData.tuple) (p := .tuple (xss[i]'(by omega))) (.inl rfl) rfl ?_ ?_)))))))
      · rw [atI_nat, List.getElem?_map, List.getElem?_eq_getElem (by omega)]
        rfl
      refine x_op (x_var rfl (x_op (x_var rfl (x_c (x_addI rfl rfl (x_ixL (ps := xss.map PyData.tuple) (p := .tuple xss[i + 1]) (.inl rfl) rfl ?_ ?_))))))
      · rw [show (i : Int) + 1 = ((i + 1 : Nat) : Int) by omega, atI_nat, List.getElem?_map, List.getElem?_eq_getElem (by omega)]
        rfl
      refine x_addT rfl rfl ?_ (sz_of (by omega))
      refine x_tup (x_cons (x_call (x_cons (x_var rfl (x_cons (x_lst (x_cons (x_c (x_cons (x_c (x_nil (x_kLstF rfl ?_ (sz_of (by simp))))))))))))))
      refine x_nil (kc_of hs1 (by simp) (by simp) fun z S2 hz hs2 => ?_)
      have az : Atom z := by
        simp only [List.mem_cons, List.not_mem_nil, or_false] at hz
        rcases hz with rfl | rfl
        · exact atom_row
        · exact atom_sides
      refine x_nil (x_kTup rfl (x_addT rfl rfl ?_ (sz_of (by simp; omega))) (sz_of (by simp)))
      refine x_nx ?_
      show aAsg _ _ _ ([x0, some (.own 0), x2, x3, x4, x5, x6, x7, x8, x9, some (.dat (.int (i : Int))), x11, x12, x13, x14, x15, x16, x17, x18, x19, x20, x21, x22, x23, some (.dat (.list (xss.map PyData.tuple))), some (.dat (.tuple (xss[i]'(by omega) ++ xss[i + 1] ++ [z]))), x26, x27, x28, x29, x30, x31] : Gm) (S2 ++ R)
      refine x_asgN (x_op (x_op (x_sl (x_var rfl (x_kSl (x_noPart (x_part (x_var rfl (x_kPart rfl (x_slL rfl ?_))))))))))
      rw [cut_hi]
      refine x_lst (x_cons (x_var rfl (x_nil (x_kLstF rfl (x_addL rfl rfl ?_ (sz_of (by simp; omega))) (sz_of (by simp))))))
      refine x_sl (x_var rfl (x_kSl (x_part (x_op (x_var rfl (x_c (x_addI rfl rfl (x_kPart rfl (x_noPart (x_slL rfl ?_))))))))))
      rw [show (i : Int) + 2 = ((i + 2 : Nat) : Int) by omega, cut_lo]
      refine x_addL rfl rfl ?_ (sz_of (by simp; omega))
      refine x_nx ?_
      have e : (xss.map PyData.tuple).take i ++ [.tuple (xss[i]'(by omega) ++ xss[i + 1] ++ [z])] ++ (xss.map PyData.tuple).drop (i + 2) = (xss.take i ++ [xss[i]'(by omega) ++ xss[i + 1] ++ [z]] ++ xss.drop (i + 2)).map PyData.tuple := by simp
      rw [e]
      show aWh whC as_law_b185 K k ([x0, some (.own 0), x2, x3, x4, x5, x6, x7, x8, x9, some (.dat (.int (i : Int))), x11, x12, x13, x14, x15, x16, x17, x18, x19, x20, x21, x22, x23, some (.dat (.list ((xss.take i ++ [xss[i]'(by omega) ++ xss[i + 1] ++ [z]] ++ xss.drop (i + 2)).map PyData.tuple))), some (.dat (.tuple (xss[i]'(by omega) ++ xss[i + 1] ++ [z]))), x26, x27, x28, x29, x30, x31] : Gm) (S2 ++ R)
      refine loop185 k _ S2 _ _ hs2 (by simp) (by simp; omega) (fun xs hm => ?_) ?_ h
      · simp only [List.mem_append, List.mem_cons, List.not_mem_nil, or_false] at hm
        rcases hm with (w | w) | w
        · exact hx xs (List.mem_of_mem_take w)
        · subst w
          refine ⟨by simp, fun x hm => ?_⟩
          simp only [List.mem_append, List.mem_cons, List.not_mem_nil, or_false] at hm
          rcases hm with (v | v) | v
          · exact (hx _ m1).2 x v
          · exact (hx _ m2).2 x v
          · subst v
            exact az
        · exact hx xs (List.mem_of_mem_drop w)
      · rw [lens_append, lens_append]
        have : lens [xss[i]'(by omega) ++ xss[i + 1] ++ [z]] = (xss[i]'(by omega)).length + xss[i + 1].length + 1 := by
          simp [lens]
          omega
        rw [this]
        simp
        omega
    · have q1 : ¬ (1 : Int) < (xss.length : Int) := of_decide_eq_false q
      have hl1 : xss.length = 1 := by
        have : xss.length ≠ 0 := fun z => hne (List.eq_nil_of_length_eq_zero z)
        omega
      obtain ⟨xs, rfl⟩ := List.length_eq_one_iff.mp hl1
      exact h xs S _ _ hs (hx xs List.mem_cons_self) (by simp [lens] at hb; omega)
end K17
end

section
set_option Elab.async false
set_option linter.all false
set_option maxRecDepth 100000
set_option maxHeartbeats 0
namespace K17
open PySem AM
/-! ### the law: from the shapes to the end of a lap -/
def LapG (odd : List PyData) (G : Gm) : Prop := G.length = 32 ∧ G[1]? = some (some (.own 0)) ∧ G[2]? = some (some (.dat (.list odd)))
def OddOk (odd : List PyData) : Prop := (∀ v ∈ odd, Vok v) ∧ odd.length ≤ 100 ∧ odd ≠ []
theorem s192_ok {K : AEnds} {S R : Sto} {n : Nat} {vs odd sh : List PyData} {x0 x3 x4 x5 x7 x8 x9 x10 x11 x12 x13 x14 x15 x16 x17 x18 x19 x21 x22 x23 x24 x25 x27 x28 x29 x30 x31 : Option D} (hn : n ≤ 9) (hs : Src S) (ho : OddOk odd) (hv : ∀ v ∈ vs, OkS v) (hvl : vs.length ≤ 100) (hsh : ShT sh) (hsl : sh.length ≤ 17)
    (h : ∀ (G : Gm) (S R : Sto), LapG odd G → Src S → K.nx G (S ++ R)) : as_law_s192 K ([x0, some (.own 0), some (.dat (.list odd)), x3, x4, x5, some (.dat (.int (n : Int))), x7, x8, x9, x10, x11, x12, x13, x14, x15, x16, x17, x18, x19, some (.dat (.list vs)), x21, x22, x23, x24, x25, some (.dat (.tuple sh)), x27, x28, x29, x30, x31] : Gm) (S ++ R) := by
  unfold as_law_s192
  refine x_seq (x_for (x_rg1 (x_cons (x_c (x_nil (x_kRng1 ?_ (by decide)))))))
  have e6 : (rng 0 (6 : Int).toNat).length = 6 := by decide
  refine loop192 hsh.1 (by omega) (fun x hx => atom_okv (hsh.2 x hx)) (fun x hx => (ho.1 x hx).1.1) (by have := ho.2.1; omega) ho.2.2 _ vs _ S R _ _ _ _ _ _ _ _ _ _ _ _ _ _ _ _ _ _ _ _ _ _ _ _ _ _ _ hs (.inl rfl) hv (by rw [e6]; omega) ?_
  intro vs d S R x4 x27 x28 hs hd hv hl
  refine x_nx ?_
  exact s196_ok (by omega) (hd.pv hs) (by have := ho.2.1; omega) hv (fun v hm => (ho.1 v hm).okS) fun x21 x29 => h _ _ _ ⟨rfl, rfl, rfl⟩ hs
theorem cut_mem {xs : List PyData} {lo hi : Option Int} {x : PyData} (h : x ∈ cutP xs lo hi) : x ∈ xs := by
  unfold cutP at h
  exact List.mem_of_mem_drop (List.mem_of_mem_take h)
theorem cut_len (xs : List PyData) (lo hi : Option Int) : (cutP xs lo hi).length ≤ xs.length := by
  unfold cutP
  rw [List.length_take, List.length_drop]
  omega
theorem okS_of {ys : List PyData} (h : ∀ x ∈ ys, Atom x) (hl : ys.length ≤ 1000) : OkS (.tuple ys) := okv_items (fun x hx => atom_okv (h x hx)) (by omega)
theorem s189_ok {K : AEnds} {S R : Sto} {n : Nat} {odd sh : List PyData} {x0 x3 x4 x5 x7 x8 x9 x10 x11 x12 x13 x14 x15 x16 x17 x18 x19 x20 x21 x22 x23 x25 x26 x27 x28 x29 x30 x31 : Option D} (hn : n ≤ 9) (hs : Src S) (ho : OddOk odd) (hsh : ShT sh) (hsl : sh.length ≤ 17)
    (h : ∀ (G : Gm) (S R : Sto), LapG odd G → Src S → K.nx G (S ++ R)) : as_law_s189 K ([x0, some (.own 0), some (.dat (.list odd)), x3, x4, x5, some (.dat (.int (n : Int))), x7, x8, x9, x10, x11, x12, x13, x14, x15, x16, x17, x18, x19, x20, x21, x22, x23, some (.dat (.list [.tuple sh])), x25, x26, x27, x28, x29, x30, x31] : Gm) (S ++ R) := by
  unfold as_law_s189
  refine x_seq (x_asgN (x_op (x_var rfl (x_c (x_ixL (ps := [.tuple sh]) (p := .tuple sh) (.inl rfl) rfl rfl ?_)))))
  refine x_nx ?_
  show as_law_s190 _ ([x0, some (.own 0), some (.dat (.list odd)), x3, x4, x5, some (.dat (.int (n : Int))), x7, x8, x9, x10, x11, x12, x13, x14, x15, x16, x17, x18, x19, x20, x21, x22, x23, some (.dat (.list [.tuple sh])), x25, some (.dat (.tuple sh)), x27, x28, x29, x30, x31] : Gm) (S ++ R)
  unfold as_law_s190
  refine x_seq (x_asgN (x_lst (x_cons (x_var rfl (x_cons (x_cb (x_cons (x_var rfl (x_nil (x_listOfF (ps := sh) (.inr rfl) ?_))))))))))
  refine x_cons (x_sl (x_var rfl (x_kSl (x_noPart (x_part (x_un (x_c (x_neg rfl (x_kPart rfl (x_slT rfl ?_))))))))))
  refine x_cons (x_sl (x_var rfl (x_kSl (x_part (x_c (x_kPart rfl (x_noPart (x_slT rfl ?_))))))))
  refine x_cons (x_op (x_var rfl (x_tup (x_cons (x_c (x_nil (x_kTup rfl (x_addT rfl rfl ?_ (sz_of (by simp; omega))) (sz_of (by simp)))))))))
  refine x_cons (x_op (x_var rfl (x_tup (x_cons (x_var rfl (x_nil (x_kTup rfl (x_addT rfl rfl ?_ (sz_of (by simp; omega))) (sz_of (by simp)))))))))
  refine x_cons (x_op (x_var rfl (x_tup (x_cons (x_var rfl (x_cons (x_c (x_nil (x_kTup rfl (x_addT rfl rfl ?_ (sz_of (by simp; omega))) (sz_of (by simp)))))))))))
  refine x_nil (x_kLstF rfl ?_ (sz_of (by simp)))
  refine x_nx ?_
  have am : ∀ {y : PyData}, Atom y → ∀ x ∈ sh ++ [y], Atom x := fun hy x hx => by
    simp only [List.mem_append, List.mem_cons, List.not_mem_nil, or_false] at hx
    rcases hx with q | q
    · exact hsh.2 x q
    · subst q
      exact hy
  have an : Atom (.int (n : Int)) := atom_nat (by omega)
  unfold as_law_s191
  refine x_seq (x_asgN (x_op (x_var rfl (x_lst (x_cons (x_rev (x_var rfl (x_revT rfl ?_))))))))
  refine x_cons (x_tup (x_cons (x_c (x_nil (x_kTup rfl ?_ (sz_of (by simp)))))))
  refine x_nil (x_kLstF rfl (x_addL rfl rfl ?_ (sz_of (by simp))) (sz_of (by simp)))
  refine x_nx ?_
  refine s192_ok hn hs ho (fun v hm => ?_) (by simp) hsh hsl h
  simp only [List.mem_append, List.mem_cons, List.not_mem_nil, or_false] at hm
  have c1 := cut_len sh none (some (-1))
  have c2 := cut_len sh (some 1) none
  rcases hm with (q | q | q | q | q | q | q) | q | q <;> subst q
  · exact okS_of hsh.2 (by omega)
  · trivial
  · exact okS_of (fun x hx => hsh.2 x (cut_mem hx)) (by omega)
  · exact okS_of (fun x hx => hsh.2 x (cut_mem hx)) (by omega)
  · exact okS_of (am atom_row) (by simp; omega)
  · exact okS_of (am an) (by simp; omega)
  · refine okS_of (fun x hx => ?_) (by simp; omega)
    simp only [List.mem_append, List.mem_cons, List.not_mem_nil, or_false] at hx
    rcases hx with q | q | q
    · exact hsh.2 x q
    · subst q
      exact an
    · subst q
      exact atom_sides
  · exact okS_of (fun x hx => hsh.2 x (List.mem_reverse.mp hx)) (by rw [List.length_reverse]; omega)
  · exact okS_of (fun x hx => by
      simp only [List.mem_cons, List.not_mem_nil, or_false] at hx
      subst hx
      exact atom_row) (by simp)
theorem s184_ok {K : AEnds} {S R : Sto} {n : Nat} {nm : List Nat} {odd : List PyData} {x0 x3 x4 x5 x7 x9 x10 x11 x12 x13 x14 x15 x16 x17 x18 x19 x20 x21 x22 x23 x24 x25 x26 x27 x28 x29 x30 x31 : Option D} (hn : n ≤ 9) (h1 : 1 ≤ n) (hs : Src S) (ho : OddOk odd) (hnm : nm.Perm (List.range n))
    (h : ∀ (G : Gm) (S R : Sto), LapG odd G → Src S → K.nx G (S ++ R)) : as_law_s184 K ([x0, some (.own 0), some (.dat (.list odd)), x3, x4, x5, some (.dat (.int (n : Int))), x7, some (.dat (.list (iL nm))), x9, x10, x11, x12, x13, x14, x15, x16, x17, x18, x19, x20, x21, x22, x23, x24, x25, x26, x27, x28, x29, x30, x31] : Gm) (S ++ R) := by
  have hnl : nm.length = n := by rw [hnm.length_eq, List.length_range]
  unfold as_law_s184
  refine x_seq (x_asgN (x_lc (x_iter (x_var rfl (x_kIterL rfl ?_)))))
  refine turns_mapD (f := fun x => .tuple [x]) (fun x => (wipeG ([x0, some (.own 0), some (.dat (.list odd)), x3, x4, x5, some (.dat (.int (n : Int))), x7, some (.dat (.list (iL nm))), x9, x10, x11, x12, x13, x14, x15, x16, x17, x18, x19, x20, x21, x22, x23, x24, x25, x26, x27, x28, x29, x30, x31] : Gm) [30]).set 30 (some (.dat x))) (iL nm) (S ++ R) (fun _ => trivial) (fun _ _ => by exact rfl) (fun x _ N Φ _ hΦ => ?_) (by rw [iL_len]; omega) ?_
  · exact x_tup (x_cons (x_var rfl (x_nil (x_kTup rfl hΦ (sz_of (by simp))))))
  refine x_nx ?_
  have e : (iL nm).map (fun x => PyData.tuple [x]) = ((iL nm).map fun x => [x]).map PyData.tuple := by rw [List.map_map]; rfl
  rw [e]
  have e2 : lens ((iL nm).map fun x => [x]) = nm.length := by
    unfold lens iL
    rw [List.map_map, List.map_map]
    have : (nm.map ((List.length ∘ fun x => [x]) ∘ fun a : Nat => PyData.int (a : Int))) = nm.map fun _ => 1 := List.map_congr_left fun _ _ => rfl
    rw [this, List.map_const', List.sum_replicate_nat]
    omega
  show as_law_s185 _ ([x0, some (.own 0), some (.dat (.list odd)), x3, x4, x5, some (.dat (.int (n : Int))), x7, some (.dat (.list (iL nm))), x9, x10, x11, x12, x13, x14, x15, x16, x17, x18, x19, x20, x21, x22, x23, some (.dat (.list (((iL nm).map fun x => [x]).map PyData.tuple))), x25, x26, x27, x28, x29, x30, x31] : Gm) (S ++ R)
  unfold as_law_s185
  refine x_seq (x_while n (loop185 n ((iL nm).map fun x => [x]) S _ _ hs ?_ ?_ ?_ ?_ ?_))
  · intro z
    have := congrArg List.length z
    rw [List.length_map, iL_len] at this
    simp at this
    rw [this] at hnl
    simp at hnl
    omega
  · rw [List.length_map, iL_len, hnl]
    exact Nat.le_refl n
  · intro xs hx
    obtain ⟨x, hm, rfl⟩ := List.mem_map.mp hx
    obtain ⟨a, ha, rfl⟩ := List.mem_map.mp hm
    have := hnm.mem_iff.mp ha
    rw [List.mem_range] at this
    refine ⟨by simp, fun y hy => ?_⟩
    simp only [List.mem_cons, List.not_mem_nil, or_false] at hy
    subst hy
    exact atom_nat (by omega)
  · rw [e2, List.length_map, iL_len]
    omega
  · intro xs S x10 x25 hs hsh hsl
    refine x_nx ?_
    exact s189_ok hn hs ho hsh hsl h
end K17
end

section
set_option Elab.async false
set_option linter.all false
set_option maxRecDepth 100000
set_option maxHeartbeats 0
namespace K17
open PySem AM
/-! ### the law: the values that are judged -/
structure LapOk (n : Nat) (jobs : List Job) (aheads : List (Nat × Nat)) (lot : List Nat) : Prop where
  hl : jobs.length = n
  hn : n ≤ 9
  h1 : 1 ≤ n
  hj : JobsOk jobs
  ha : AhOk jobs.length aheads
  hp : aheads.Pairwise leP
  ho : LotOk jobs.length lot
  hne : lot ≠ []
theorem LapOk.js {n : Nat} {jobs : List Job} {aheads : List (Nat × Nat)} {lot : List Nat} (L : LapOk n jobs aheads lot) : JobsOk jobs ∧ jobs.length ≤ 9 ∧ 1 ≤ jobs.length ∧ AhOk jobs.length aheads := ⟨L.hj, by rw [L.hl]; exact L.hn, by rw [L.hl]; exact L.h1, L.ha⟩
theorem loop179 {K : AEnds} {M : Sto} {n : Nat} {jobs : List Job} {aheads : List (Nat × Nat)} {lot : List Nat} {x0 x1 x2 x3 x4 x5 x6 x8 x9 x10 x11 x13 x15 x16 x17 x19 x20 x24 x25 x26 x27 x28 x29 x30 x31 : Option D} (L : LapOk n jobs aheads lot) : ∀ (items : List PyData) (x21 x22 x23 : Option D), (∀ v ∈ items, Vok v) →
    (∀ x21 x22 x23 : Option D, K.nx ([x0, x1, x2, x3, x4, x5, x6, some (.dat (jobsD jobs)), x8, x9, x10, x11, some (.dat (.tuple (aheads.map jobD))), x13, some (.dat (lotD lot)), x15, x16, x17, some (.dat (dueD jobs aheads lot)), x19, x20, x21, x22, x23, x24, x25, x26, x27, x28, x29, x30, x31] : Gm) M) →
    aLoop (aName 21) as_law_b179 (fun _ => True) K (items.map D.dat) ([x0, x1, x2, x3, x4, x5, x6, some (.dat (jobsD jobs)), x8, x9, x10, x11, some (.dat (.tuple (aheads.map jobD))), x13, some (.dat (lotD lot)), x15, x16, x17, some (.dat (dueD jobs aheads lot)), x19, x20, x21, x22, x23, x24, x25, x26, x27, x28, x29, x30, x31] : Gm) M
  | [], _, _, _, _, h => ⟨trivial, h _ _ _⟩
  | v :: items, x21, x22, x23, hv, h => by
    have hv1 := hv v List.mem_cons_self
    obtain ⟨js1, js2, js3, js4⟩ := L.js
    have hr : Rep (judge jobs aheads lot v) := rep_judge js1 js2 js3 js4
    refine ⟨trivial, ?_⟩
    show as_law_b179 _ ([x0, x1, x2, x3, x4, x5, x6, some (.dat (jobsD jobs)), x8, x9, x10, x11, some (.dat (.tuple (aheads.map jobD))), x13, some (.dat (lotD lot)), x15, x16, x17, some (.dat (dueD jobs aheads lot)), x19, x20, some (.dat v), x22, x23, x24, x25, x26, x27, x28, x29, x30, x31] : Gm) M
    unfold as_law_b179
    refine x_seq (x_asgN (x_cb (x_cons (x_var rfl (x_nil (x_repr rfl ?_ hv1.2.1))))))
    refine x_nx ?_
    show aSeq _ _ _ ([x0, x1, x2, x3, x4, x5, x6, some (.dat (jobsD jobs)), x8, x9, x10, x11, some (.dat (.tuple (aheads.map jobD))), x13, some (.dat (lotD lot)), x15, x16, x17, some (.dat (dueD jobs aheads lot)), x19, x20, some (.dat v), some (.dat (.str v.shown)), x23, x24, x25, x26, x27, x28, x29, x30, x31] : Gm) M
    refine x_seq (x_asgN (x_call (x_cons (x_var rfl (x_cons (x_var rfl (x_cons (x_var rfl (x_cons (x_var rfl (x_cons (x_var rfl ?_))))))))))))
    refine x_nil (x_kCall0 rfl rfl ⟨jobs, aheads, lot, v, rfl, L.js, L.ho, L.hne, hv1.1, L.hp, rfl, x_kRes0 ?_⟩)
    refine x_nx ?_
    show aIfS _ _ _ _ ([x0, x1, x2, x3, x4, x5, x6, some (.dat (jobsD jobs)), x8, x9, x10, x11, some (.dat (.tuple (aheads.map jobD))), x13, some (.dat (lotD lot)), x15, x16, x17, some (.dat (dueD jobs aheads lot)), x19, x20, some (.dat v), some (.dat (.str v.shown)), some (.dat (judge jobs aheads lot v)), x24, x25, x26, x27, x28, x29, x30, x31] : Gm) M
    refine x_ifS (x_or (x_tst (x_op (x_cb (x_cons (x_call (x_cons (x_var rfl (x_cons (x_var rfl (x_cons (x_var rfl (x_cons (x_var rfl ?_))))))))))))))
    refine x_nil (x_kCall0 rfl rfl ⟨jobs, aheads, lot, v, rfl, L.js, L.ho, L.hne, hv1.1, rfl, x_kRes0 ?_⟩)
    refine x_nil (x_repr rfl ?_ hr)
    refine x_cb (x_cons (x_var rfl (x_nil (x_repr rfl ?_ hr))))
    refine x_ne rfl rfl ?_ (cmp_str _ _)
    rw [str_same]
    refine x_kTst (x_ifF rfl ?_)
    refine x_tst (x_op (x_cb (x_cons (x_var rfl (x_nil (x_repr rfl ?_ hv1.2.1))))))
    refine x_var rfl (x_ne rfl rfl ?_ (cmp_str _ _))
    rw [str_same]
    refine x_kTst (x_ifF rfl (x_next ?_))
    exact loop179 L items _ _ _ (fun w hw => hv w (List.mem_cons_of_mem _ hw)) h
theorem s179_ok {K : AEnds} {S R : Sto} {n : Nat} {jobs : List Job} {aheads : List (Nat × Nat)} {lot nm : List Nat} {odd vs : List PyData} {x0 x3 x4 x5 x9 x10 x11 x13 x15 x16 x17 x19 x21 x22 x23 x24 x25 x26 x27 x28 x29 x30 x31 : Option D} (L : LapOk n jobs aheads lot) (hs : Src S) (ho : OddOk odd) (hnm : nm.Perm (List.range n)) (hv : ∀ v ∈ vs, Vok v) (hvl : vs.length ≤ 1000)
    (h : ∀ (G : Gm) (S R : Sto), LapG odd G → Src S → K.nx G (S ++ R)) : as_law_s179 K ([x0, some (.own 0), some (.dat (.list odd)), x3, x4, x5, some (.dat (.int (n : Int))), some (.dat (jobsD jobs)), some (.dat (.list (iL nm))), x9, x10, x11, some (.dat (.tuple (aheads.map jobD))), x13, some (.dat (lotD lot)), x15, x16, x17, some (.dat (dueD jobs aheads lot)), x19, some (.dat (.list vs)), x21, x22, x23, x24, x25, x26, x27, x28, x29, x30, x31] : Gm) (S ++ R) := by
  unfold as_law_s179
  refine x_seq (x_for (x_iter (x_op (x_var rfl (x_var rfl (x_addL rfl rfl (x_kIterL rfl ?_) (sz_of (by have := ho.2.1; omega))))))))
  refine loop179 L (vs ++ odd) _ _ _ (fun v hm => ?_) fun x21 x22 x23 => ?_
  · rcases List.mem_append.mp hm with q | q
    · exact hv v q
    · exact ho.1 v q
  · exact s184_ok L.hn L.h1 hs ho hnm h
/-! the values -/
theorem vok_due {jobs : List Job} {aheads : List (Nat × Nat)} {lot : List Nat} (hn : jobs.length ≤ 9) (h1 : 1 ≤ jobs.length) (hah : AhOk jobs.length aheads) : ∃ ds : List PyData, dueD jobs aheads lot = .tuple ds ∧ ds.length ≤ 2 ∧ Vok (.list ds) ∧ Vok (.tuple (ds ++ [.int 0])) := by
  obtain ⟨_, ok⟩ := greatest_ok hn h1 hah
  have hb : Sml (lotD (greatest jobs aheads)) := sml_lot ok (by omega)
  have a0 : Atom (.int 0) := atom_nat (a := 0) (by decide)
  unfold dueD
  split
  · refine ⟨_, rfl, by simp, ?_, ?_⟩
    · have hw : ∀ x ∈ [PyData.str "more", lotD (greatest jobs aheads)], Wid 1 200000 x := fun x hx => by
        simp only [List.mem_cons, List.not_mem_nil, or_false] at hx
        rcases hx with rfl | rfl
        · exact atom_more.wid (by decide)
        · exact hb.wid
      exact (wid_list hw).vok (by decide) (by simp) (fun xs e => by cases e) fun x vs e => by cases e
    · have hw : ∀ x ∈ [PyData.str "more", lotD (greatest jobs aheads), .int 0], Wid 1 200000 x := fun x hx => by
        simp only [List.mem_cons, List.not_mem_nil, or_false] at hx
        rcases hx with rfl | rfl | rfl
        · exact atom_more.wid (by decide)
        · exact hb.wid
        · exact a0.wid (by decide)
      exact (wid_tuple hw).vok (by decide) (by simp) (fun xs e => by cases e; simp) fun x vs e => by cases e
  · refine ⟨_, rfl, by simp, ?_, ?_⟩
    · exact Sml.vok ⟨_, .inr rfl, by simp, fun x hx => by
        simp only [List.mem_cons, List.not_mem_nil, or_false] at hx
        subst hx
        exact atom_most⟩
    · exact Sml.vok ⟨_, .inl rfl, by simp, fun x hx => by
        simp only [List.cons_append, List.nil_append, List.mem_cons, List.not_mem_nil, or_false] at hx
        rcases hx with rfl | rfl
        · exact atom_most
        · exact a0⟩
theorem s178_ok {K : AEnds} {S R : Sto} {n : Nat} {jobs : List Job} {aheads : List (Nat × Nat)} {lot nm : List Nat} {odd lots : List PyData} {x0 x3 x4 x5 x9 x10 x11 x13 x15 x16 x17 x20 x21 x22 x23 x24 x25 x26 x27 x28 x29 x30 x31 : Option D} (L : LapOk n jobs aheads lot) (hs : Src S) (ho : OddOk odd) (hnm : nm.Perm (List.range n)) (hv : ∀ v ∈ lots, Sml v) (hvl : lots.length ≤ 100)
    (h : ∀ (G : Gm) (S R : Sto), LapG odd G → Src S → K.nx G (S ++ R)) : as_law_s178 K ([x0, some (.own 0), some (.dat (.list odd)), x3, x4, x5, some (.dat (.int (n : Int))), some (.dat (jobsD jobs)), some (.dat (.list (iL nm))), x9, x10, x11, some (.dat (.tuple (aheads.map jobD))), x13, some (.dat (lotD lot)), x15, x16, x17, some (.dat (dueD jobs aheads lot)), some (.dat (.list lots)), x20, x21, x22, x23, x24, x25, x26, x27, x28, x29, x30, x31] : Gm) (S ++ R) := by
  obtain ⟨js1, js2, js3, js4⟩ := L.js
  obtain ⟨ds, e, dl, v1, v2⟩ := vok_due (lot := lot) js2 js3 js4
  have v0 : Vok (dueD jobs aheads lot) := rep_due js2 js3 js4
  unfold as_law_s178
  refine x_seq (x_asgN (x_op (x_lst (x_cons (x_var rfl (x_cons (x_tup (x_cons (x_c (x_nil (x_kTup rfl ?_ (sz_of (by simp)))))))))))))
  refine x_cons (x_cb (x_cons (x_var rfl (x_nil (x_listOfF (ps := ds) (.inr (by rw [e]; rfl)) ?_)))))
  refine x_cons (x_op (x_var rfl (x_tup (x_cons (x_c (x_nil (x_kTup rfl (x_addT (ps := ds) (by rw [e]; rfl) rfl ?_ (sz_of (by simp; omega))) (sz_of (by simp)))))))))
  refine x_nil (x_kLstF rfl ?_ (sz_of (by simp)))
  refine x_lc (x_iter (x_var rfl (x_kIterL rfl ?_)))
  refine turns_mapD (f := fun x => .tuple [.str "more", x]) (fun x => (wipeG ([x0, some (.own 0), some (.dat (.list odd)), x3, x4, x5, some (.dat (.int (n : Int))), some (.dat (jobsD jobs)), some (.dat (.list (iL nm))), x9, x10, x11, some (.dat (.tuple (aheads.map jobD))), x13, some (.dat (lotD lot)), x15, x16, x17, some (.dat (dueD jobs aheads lot)), some (.dat (.list lots)), x20, x21, x22, x23, x24, x25, x26, x27, x28, x29, x30, x31] : Gm) [31]).set 31 (some (.dat x))) lots (S ++ R) (fun _ => trivial) (fun _ _ => by exact rfl) (fun x _ N Φ _ hΦ => ?_) (by omega) ?_
  · exact x_tup (x_cons (x_c (x_cons (x_var rfl (x_nil (x_kTup rfl hΦ (sz_of (by simp))))))))
  refine x_addL rfl rfl ?_ (sz_of (by simp; omega))
  refine x_nx ?_
  refine s179_ok L hs ho hnm (fun v hm => ?_) (by simp; omega) h
  simp only [List.mem_append, List.mem_cons, List.not_mem_nil, or_false, List.mem_map] at hm
  rcases hm with (q | q | q | q) | ⟨w, hw, q⟩
  · subst q
    exact v0
  · subst q
    exact Sml.vok ⟨_, .inl rfl, by simp, fun x hx => by
      simp only [List.mem_cons, List.not_mem_nil, or_false] at hx
      subst hx
      exact atom_most⟩
  · subst q
    exact v1
  · subst q
    exact v2
  · subst q
    exact more_vok (hv w hw)
end K17
end

section
set_option Elab.async false
set_option linter.all false
set_option maxRecDepth 100000
set_option maxHeartbeats 0
namespace K17
open PySem AM
/-! ### the law: the lots that are judged -/
theorem sml_of {ys : List PyData} (h : ∀ x ∈ ys, Atom x) (hl : ys.length ≤ 100) : Sml (.tuple ys) := ⟨ys, .inl rfl, hl, h⟩
theorem atoms_iL {n : Nat} {l : List Nat} (h : ∀ a ∈ l, a < n) (hn : n ≤ 1000) : ∀ x ∈ iL l, Atom x := fun x hx => by
  obtain ⟨a, ha, rfl⟩ := List.mem_map.mp hx
  have := h a ha
  exact atom_nat (by omega)
theorem atoms_app {xs ys : List PyData} (h1 : ∀ x ∈ xs, Atom x) (h2 : ∀ x ∈ ys, Atom x) : ∀ x ∈ xs ++ ys, Atom x := fun x hx => by
  rcases List.mem_append.mp hx with q | q
  · exact h1 x q
  · exact h2 x q
theorem atoms_one {y : PyData} (h : Atom y) : ∀ x ∈ [y], Atom x := fun x hx => by
  rcases List.mem_singleton.mp hx with rfl
  exact h
theorem s175_ok {K : AEnds} {S R : Sto} {n : Nat} {jobs : List Job} {aheads : List (Nat × Nat)} {lot nm some' : List Nat} {odd : List PyData} {x0 x3 x4 x5 x9 x10 x11 x16 x17 x19 x20 x21 x22 x23 x24 x25 x26 x27 x28 x29 x30 x31 : Option D} (L : LapOk n jobs aheads lot) (hs : Src S) (ho : OddOk odd) (hnm : nm.Perm (List.range n)) (hso : LotOk jobs.length some') (hsl : some'.length ≤ 9)
    (h : ∀ (G : Gm) (S R : Sto), LapG odd G → Src S → K.nx G (S ++ R)) : as_law_s175 K ([x0, some (.own 0), some (.dat (.list odd)), x3, x4, x5, some (.dat (.int (n : Int))), some (.dat (jobsD jobs)), some (.dat (.list (iL nm))), x9, x10, x11, some (.dat (.tuple (aheads.map jobD))), some (.dat (lotD (greatest jobs aheads))), some (.dat (lotD lot)), some (.dat (lotD some')), x16, x17, some (.dat (dueD jobs aheads lot)), x19, x20, x21, x22, x23, x24, x25, x26, x27, x28, x29, x30, x31] : Gm) (S ++ R) := by
  obtain ⟨js1, js2, js3, js4⟩ := L.js
  have jl := L.hl
  obtain ⟨_, bok⟩ := greatest_ok js2 js3 js4
  generalize greatest jobs aheads = best at bok
  have hn := L.hn
  have hnl : nm.length = n := by rw [hnm.length_eq, List.length_range]
  have hnb : ∀ a ∈ nm, a < n := fun a ha => List.mem_range.mp (hnm.mem_iff.mp ha)
  have ab := atoms_iL bok.2 (by omega)
  have asm := atoms_iL hso.2 (by omega)
  have alo := atoms_iL L.ho.2 (by omega)
  have bl := bok.1
  have sl := hso.1
  have ll := L.ho.1
  have an : Atom (.int (n : Int)) := atom_nat (by omega)
  unfold as_law_s175
  refine x_seq (x_asgN (x_lst (x_cons (x_var rfl (x_cons (x_var rfl (x_cons (x_var rfl (x_cons (x_rev (x_var rfl (x_revT (ps := iL best) rfl ?_))))))))))))
  refine x_cons (x_cb (x_cons (x_var rfl (x_nil (x_listOfF (ps := iL best) (.inr rfl) ?_)))))
  refine x_cons (x_op (x_var rfl (x_tup (x_cons (x_var rfl (x_nil (x_kTup rfl (x_addT (ps := iL some') rfl rfl ?_ (sz_of (by simp [iL_len]; omega))) (sz_of (by simp)))))))))
  refine x_cons (x_op (x_sl (x_var rfl (x_kSl (x_noPart (x_part (x_un (x_c (x_neg rfl (x_kPart rfl (x_slT (ps := iL some') rfl ?_)))))))))))
  have c1 := cut_len (iL some') none (some (-1))
  have c2 := cut_len (iL some') (some (-1)) none
  rw [iL_len] at c1 c2
  refine x_tup (x_cons (x_c (x_nil (x_kTup rfl (x_addT rfl rfl ?_ (sz_of (by simp; omega))) (sz_of (by simp))))))
  refine x_cons (x_op (x_tup (x_cons (x_un (x_c (x_neg rfl (x_nil (x_kTup rfl (x_var rfl (x_addT (qs := iL some') rfl rfl ?_ (sz_of (by simp [iL_len]; omega)))) (sz_of (by simp))))))))))
  refine x_nil (x_kLstT rfl ?_ (sz_of (by simp)))
  refine x_nx ?_
  rw [List.append_assoc, len_app hs]
  generalize hlots : [lotD best, lotD some', lotD lot, .tuple (iL best).reverse, .list (iL best), .tuple (iL some' ++ [.int (n : Int)]), .tuple (cutP (iL some') none (some (-1)) ++ [.bool true]), .tuple ([.int (-1)] ++ iL some')] = lots
  have hlots1 : ∀ v ∈ lots, Sml v := by
    subst hlots
    intro v hv
    simp only [List.mem_cons, List.not_mem_nil, or_false] at hv
    rcases hv with q | q | q | q | q | q | q | q <;> subst q
    · exact sml_lot bok (by omega)
    · exact sml_lot hso (by omega)
    · exact sml_lot L.ho (by omega)
    · exact sml_of (fun x hx => ab x (List.mem_reverse.mp hx)) (by rw [List.length_reverse, iL_len]; omega)
    · exact ⟨_, .inr rfl, by rw [iL_len]; omega, ab⟩
    · exact sml_of (atoms_app asm (atoms_one an)) (by simp [iL_len]; omega)
    · exact sml_of (atoms_app (fun x hx => asm x (cut_mem hx)) (atoms_one (atom_bool true))) (by simp; omega)
    · exact sml_of (atoms_app (atoms_one (atom_int (i := -1) (pow1900 (by decide)))) asm) (by simp [iL_len]; omega)
  have hlots2 : lots.length = 8 := by
    subst hlots
    rfl
  show as_law_s176 _ ([x0, some (.own 0), some (.dat (.list odd)), x3, x4, x5, some (.dat (.int (n : Int))), some (.dat (jobsD jobs)), some (.dat (.list (iL nm))), x9, x10, x11, some (.dat (.tuple (aheads.map jobD))), some (.dat (lotD best)), some (.dat (lotD lot)), some (.dat (lotD some')), x16, x17, some (.dat (dueD jobs aheads lot)), some (.own (2 + R.length)), x20, x21, x22, x23, x24, x25, x26, x27, x28, x29, x30, x31] : Gm) (S ++ (R ++ [some (.lst lots)]))
  unfold as_law_s176
  have g0 : (S ++ (R ++ [some (Mo.lst lots)]))[2 + R.length]? = some (some (.lst lots)) := by
    rw [get_app hs]
    simp
  refine x_seq (x_expr (x_bm (x_var rfl ⟨x_isLst g0, ?_⟩)))
  refine x_cons (x_op (x_var rfl (x_sl (x_var rfl (x_kSl (x_part (x_un (x_c (x_neg rfl (x_kPart rfl (x_noPart (x_slT (ps := iL some') rfl ?_))))))))))))
  refine x_addT (ps := iL some') rfl rfl (x_nil (x_append g0 ?_ (show _ + 1 ≤ sizeLine from sz_of (by omega)))) (sz_of (by rw [iL_len]; omega))
  rw [set_app hs]
  refine x_nx ?_
  have e3 : (R ++ [some (Mo.lst lots)]).set R.length (some (.lst (lots ++ [.tuple (iL some' ++ cutP (iL some') (some (-1)) none)]))) = R ++ [some (.lst (lots ++ [.tuple (iL some' ++ cutP (iL some') (some (-1)) none)]))] := by simp
  have hl3 : ∀ v ∈ lots ++ [.tuple (iL some' ++ cutP (iL some') (some (-1)) none)], Sml v := fun v hv => by
    rcases List.mem_append.mp hv with q | q
    · exact hlots1 v q
    · rcases List.mem_singleton.mp q with rfl
      exact sml_of (atoms_app asm fun x hx => asm x (cut_mem hx)) (by simp [iL_len]; omega)
  have hl4 : (lots ++ [PyData.tuple (iL some' ++ cutP (iL some') (some (-1)) none)]).length = 9 := by simp [hlots2]
  rw [e3]
  generalize lots ++ [PyData.tuple (iL some' ++ cutP (iL some') (some (-1)) none)] = lots2 at hl3 hl4
  have g1 : pv (.own (2 + R.length)) (S ++ (R ++ [some (Mo.lst lots2)])) = some (.list lots2) := Hv.pv (.inr ⟨R.length, rfl, by simp⟩) hs
  show as_law_s177 _ ([x0, some (.own 0), some (.dat (.list odd)), x3, x4, x5, some (.dat (.int (n : Int))), some (.dat (jobsD jobs)), some (.dat (.list (iL nm))), x9, x10, x11, some (.dat (.tuple (aheads.map jobD))), some (.dat (lotD best)), some (.dat (lotD lot)), some (.dat (lotD some')), x16, x17, some (.dat (dueD jobs aheads lot)), some (.own (2 + R.length)), x20, x21, x22, x23, x24, x25, x26, x27, x28, x29, x30, x31] : Gm) (S ++ (R ++ [some (.lst lots2)]))
  unfold as_law_s177
  have er : rng 1 ((n : Int) + 1 - 1).toNat = ((List.range n).map fun i : Nat => PyData.int (1 + (i : Int))).map D.dat := by
    have : ((n : Int) + 1 - 1).toNat = n := by omega
    rw [this]
    simp [rng]
  have er2 : rng 0 (n : Int).toNat = ((List.range n).map fun i : Nat => PyData.int (i : Int)).map D.dat := by
    simp [rng]
  refine x_seq (x_asgN (x_op (x_op (x_var rfl (x_lc (x_rg2 (x_cons (x_c (x_cons (x_op (x_var rfl (x_c (x_addI rfl rfl (x_nil (x_kRng2 ?_ ⟨by omega, by omega, by omega, by omega⟩)))))))))))))))
  rw [er]
  refine turns_map (fun i : Nat => PyData.int (1 + (i : Int))) (fun i => (wipeG _ [27]).set 27 (some (.dat (.int (1 + (i : Int)))))) (fun i => lotD ((nm.take (1 + i)).mergeSort fun a b => decide (a ≤ b))) (List.range n) _ (fun _ => trivial) (fun _ _ => by exact rfl) (fun i hi N Φ _ hΦ => ?_) (by rw [List.length_range]; omega) ?_
  · refine x_cb (x_cons (x_cb (x_cons (x_sl (x_var rfl (x_kSl (x_noPart (x_part (x_var rfl (x_kPart rfl (x_slL rfl ?_)))))))))))
    rw [show (1 + (i : Int)) = ((1 + i : Nat) : Int) by omega, cut_iL]
    refine x_nil (x_sortN (x_nil (x_tupleOf (.inl rfl) hΦ)) (by rw [List.length_take]; omega))
  refine x_addL g1 rfl ?_ (sz_of (by simp; omega))
  refine x_lc (x_rg1 (x_cons (x_var rfl (x_nil (x_kRng1 ?_ ⟨by omega, by omega⟩)))))
  rw [er2]
  refine turns_map (fun i : Nat => PyData.int (i : Int)) (fun i => (wipeG _ [30]).set 30 (some (.dat (.int (i : Int))))) (fun i => .tuple [.int (i : Int)]) (List.range n) _ (fun _ => trivial) (fun _ _ => by exact rfl) (fun i hi N Φ _ hΦ => ?_) (by rw [List.length_range]; omega) ?_
  · exact x_tup (x_cons (x_var rfl (x_nil (x_kTup rfl hΦ (sz_of (by simp))))))
  refine x_addL rfl rfl ?_ (sz_of (by simp; omega))
  refine x_nx ?_
  refine s178_ok L hs ho hnm (fun v hm => ?_) (by simp; omega) h
  simp only [List.mem_append, List.mem_map] at hm
  rcases hm with (q | ⟨i, hi, q⟩) | ⟨i, hi, q⟩
  · exact hl3 v q
  · subst q
    refine sml_of (atoms_iL (n := n) (fun a ha => ?_) (by omega)) ?_
    · exact hnb a (List.mem_of_mem_take ((sortN_perm _).mem_iff.mp ha))
    · rw [iL_len, (sortN_perm _).length_eq, List.length_take]
      omega
  · subst q
    have := List.mem_range.mp hi
    exact sml_of (atoms_one (atom_nat (by omega))) (by simp)
end K17
end

section
set_option Elab.async false
set_option linter.all false
set_option maxRecDepth 100000
set_option maxHeartbeats 0
namespace K17
open PySem AM
/-! ### the law: the lots that are asked first -/
theorem s169_ok {K : AEnds} {S R : Sto} {n : Nat} {jobs : List Job} {aheads : List (Nat × Nat)} {lot nm some' : List Nat} {odd : List PyData} {x0 x3 x4 x5 x9 x10 x11 x16 x17 x18 x19 x20 x21 x22 x23 x24 x25 x26 x27 x28 x29 x30 x31 : Option D} (L : LapOk n jobs aheads lot) (hs : Src S) (ho : OddOk odd) (hnm : nm.Perm (List.range n)) (hso : LotOk jobs.length some') (hsl : some'.length ≤ 9) (hsn : some' ≠ [])
    (h : ∀ (G : Gm) (S R : Sto), LapG odd G → Src S → K.nx G (S ++ R)) : as_law_s169 K ([x0, some (.own 0), some (.dat (.list odd)), x3, x4, x5, some (.dat (.int (n : Int))), some (.dat (jobsD jobs)), some (.dat (.list (iL nm))), x9, x10, x11, some (.dat (.tuple (aheads.map jobD))), some (.dat (lotD (greatest jobs aheads))), some (.dat (lotD lot)), some (.dat (lotD some')), x16, x17, x18, x19, x20, x21, x22, x23, x24, x25, x26, x27, x28, x29, x30, x31] : Gm) (S ++ R) := by
  obtain ⟨js1, js2, js3, js4⟩ := L.js
  obtain ⟨bne, bok⟩ := greatest_ok js2 js3 js4
  have rs : Rep (jobD (pressN jobs some')) := rep_job (press_sm js1 hso hsn)
  unfold as_law_s169
  refine x_seq (x_ifS (x_or (x_tst (x_op (x_call (x_cons (x_var rfl (x_cons (x_tup (x_nil (x_kTup rfl ?_ (sz_of (by simp)))))))))))))
  refine x_nil (x_kCall0 rfl rfl ⟨jobs.length, _, aheads, [], rfl, .inl rfl, js4, x_kRes0 ?_⟩)
  refine x_c (x_isB rfl rfl (x_kTst2 (b := false) rfl (x_ifF rfl ?_)))
  refine x_tst (x_op (x_cb (x_cons (x_call (x_cons (x_var rfl (x_cons (x_var rfl ?_))))))))
  refine x_nil (x_kCall0 rfl rfl ⟨jobs, some', rfl, js1, hso, hsn, x_kRes0 ?_⟩)
  refine x_nil (x_repr rfl ?_ rs)
  refine x_cb (x_cons (x_call (x_cons (x_var rfl (x_cons (x_var rfl ?_))))))
  refine x_nil (x_kCall0 rfl rfl ⟨jobs, some', rfl, js1, hso, hsn, x_kRes0 ?_⟩)
  refine x_nil (x_repr rfl ?_ rs)
  refine x_ne rfl rfl ?_ (cmp_str _ _)
  rw [str_same]
  refine x_kTst (x_ifF rfl (x_next (x_nx ?_)))
  unfold as_law_s171
  refine x_seq (x_asgN (x_call (x_cons (x_call (x_cons (x_var rfl (x_cons (x_var rfl ?_))))))))
  refine x_nil (x_kCall0 rfl rfl ⟨jobs, lot, rfl, js1, L.ho, L.hne, x_kRes0 ?_⟩)
  refine x_cons (x_call (x_cons (x_var rfl (x_cons (x_var rfl ?_)))))
  refine x_nil (x_kCall0 rfl rfl ⟨jobs, greatest jobs aheads, rfl, js1, bok, bne, x_kRes0 ?_⟩)
  refine x_nil (x_kCall0 rfl rfl ⟨_, _, rfl, press_sm js1 L.ho L.hne, press_sm js1 bok bne, x_kRes0 ?_⟩)
  refine x_nx ?_
  show as_law_s172 _ ([x0, some (.own 0), some (.dat (.list odd)), x3, x4, x5, some (.dat (.int (n : Int))), some (.dat (jobsD jobs)), some (.dat (.list (iL nm))), x9, x10, x11, some (.dat (.tuple (aheads.map jobD))), some (.dat (lotD (greatest jobs aheads))), some (.dat (lotD lot)), some (.dat (lotD some')), x16, some (.dat (.bool (lessP (pressN jobs lot) (pressN jobs (greatest jobs aheads))))), x18, x19, x20, x21, x22, x23, x24, x25, x26, x27, x28, x29, x30, x31] : Gm) (S ++ R)
  unfold as_law_s172
  have key : ∀ (x17 : Option D), as_law_s173 K ([x0, some (.own 0), some (.dat (.list odd)), x3, x4, x5, some (.dat (.int (n : Int))), some (.dat (jobsD jobs)), some (.dat (.list (iL nm))), x9, x10, x11, some (.dat (.tuple (aheads.map jobD))), some (.dat (lotD (greatest jobs aheads))), some (.dat (lotD lot)), some (.dat (lotD some')), x16, x17, some (.dat (dueD jobs aheads lot)), x19, x20, x21, x22, x23, x24, x25, x26, x27, x28, x29, x30, x31] : Gm) (S ++ R) := by
    intro x17
    have rd : Vok (dueD jobs aheads lot) := rep_due js2 js3 js4
    unfold as_law_s173
    refine x_seq (x_ifS (x_or (x_tst (x_op (x_cb (x_cons (x_call (x_cons (x_var rfl (x_cons (x_var rfl (x_cons (x_var rfl ?_)))))))))))))
    refine x_nil (x_kCall0 rfl rfl ⟨jobs, aheads, lot, rfl, L.js, L.ho, L.hne, rfl, x_kRes0 ?_⟩)
    refine x_nil (x_repr rfl ?_ rd.2.1)
    refine x_cb (x_cons (x_var rfl (x_nil (x_repr rfl ?_ rd.2.1))))
    refine x_ne rfl rfl ?_ (cmp_str _ _)
    rw [str_same]
    refine x_kTst (x_ifF rfl ?_)
    refine x_tst (x_op (x_call (x_cons (x_var rfl (x_cons (x_var rfl (x_cons (x_var rfl (x_cons (x_var rfl ?_))))))))))
    refine x_nil (x_kCall0 rfl rfl ⟨jobs, aheads, lot, _, rfl, L.js, L.ho, L.hne, rd.1, rfl, x_kRes0 ?_⟩)
    rw [judge_due js2 js3 js4]
    refine x_c (x_isN rfl rfl (x_kTst2 (b := false) rfl (x_ifF rfl (x_next (x_nx ?_)))))
    exact s175_ok L hs ho hnm hso hsl h
  refine x_seq (x_asgN (x_if (x_tst (x_var rfl (x_kTst ?_)))))
  have dd : dueD jobs aheads lot = if lessP (pressN jobs lot) (pressN jobs (greatest jobs aheads)) = true then .tuple [.str "more", lotD (greatest jobs aheads)] else .tuple [.str "most"] := rfl
  refine x_if2 (fun q => ?_) fun q => ?_
  · rw [if_pos q] at dd
    refine x_tup (x_cons (x_c (x_cons (x_var rfl (x_nil (x_kTup rfl ?_ (sz_of (by simp))))))))
    refine x_nx ?_
    have := key (some (.dat (.bool (lessP (pressN jobs lot) (pressN jobs (greatest jobs aheads))))))
    rw [dd] at this
    exact this
  · rw [if_neg (by rw [q]; decide)] at dd
    refine x_tup (x_cons (x_c (x_nil (x_kTup rfl ?_ (sz_of (by simp))))))
    refine x_nx ?_
    have := key (some (.dat (.bool (lessP (pressN jobs lot) (pressN jobs (greatest jobs aheads))))))
    rw [dd] at this
    exact this
theorem s165_ok {K : AEnds} {S R : Sto} {n : Nat} {jobs : List Job} {aheads : List (Nat × Nat)} {lot nm some' : List Nat} {odd : List PyData} {x0 x3 x4 x5 x9 x10 x11 x16 x17 x18 x19 x20 x21 x22 x23 x24 x25 x26 x27 x28 x29 x30 x31 : Option D} (L : LapOk n jobs aheads lot) (hs : Src S) (ho : OddOk odd) (hnm : nm.Perm (List.range n)) (hso : LotOk jobs.length some') (hsl : some'.length ≤ 9) (hsn : some' ≠ [])
    (h : ∀ (G : Gm) (S R : Sto), LapG odd G → Src S → K.nx G (S ++ R)) : as_law_s165 K ([x0, some (.own 0), some (.dat (.list odd)), x3, x4, x5, some (.dat (.int (n : Int))), some (.dat (jobsD jobs)), some (.dat (.list (iL nm))), x9, x10, x11, some (.dat (.tuple (aheads.map jobD))), some (.dat (lotD (greatest jobs aheads))), some (.dat (lotD lot)), some (.dat (lotD some')), x16, x17, x18, x19, x20, x21, x22, x23, x24, x25, x26, x27, x28, x29, x30, x31] : Gm) (S ++ R) := by
  obtain ⟨js1, js2, js3, js4⟩ := L.js
  obtain ⟨bne, bok⟩ := greatest_ok js2 js3 js4
  have rb : Rep (.list [.bool (firstB aheads lot), .bool (firstB aheads some')]) := rep_bools [firstB aheads lot, firstB aheads some'] (by simp)
  unfold as_law_s165
  refine x_seq (x_asgN (x_lst (x_cons (x_call (x_cons (x_var rfl (x_cons (x_var rfl ?_))))))))
  refine x_nil (x_kCall0 rfl rfl ⟨jobs.length, _, aheads, lot, rfl, .inl rfl, js4, x_kRes0 ?_⟩)
  refine x_cons (x_call (x_cons (x_var rfl (x_cons (x_var rfl ?_)))))
  refine x_nil (x_kCall0 rfl rfl ⟨jobs.length, _, aheads, some', rfl, .inl rfl, js4, x_kRes0 ?_⟩)
  refine x_nil (x_kLstF rfl ?_ (sz_of (by simp)))
  refine x_nx ?_
  show as_law_s166 _ ([x0, some (.own 0), some (.dat (.list odd)), x3, x4, x5, some (.dat (.int (n : Int))), some (.dat (jobsD jobs)), some (.dat (.list (iL nm))), x9, x10, x11, some (.dat (.tuple (aheads.map jobD))), some (.dat (lotD (greatest jobs aheads))), some (.dat (lotD lot)), some (.dat (lotD some')), some (.dat (.list [.bool (firstB aheads lot), .bool (firstB aheads some')])), x17, x18, x19, x20, x21, x22, x23, x24, x25, x26, x27, x28, x29, x30, x31] : Gm) (S ++ R)
  unfold as_law_s166
  refine x_seq (x_ifS (x_tst (x_op (x_cb (x_cons (x_var rfl (x_nil (x_repr rfl ?_ rb))))))))
  refine x_cb (x_cons (x_lst (x_cons (x_call (x_cons (x_var rfl (x_cons (x_var rfl ?_))))))))
  refine x_nil (x_kCall0 rfl rfl ⟨jobs.length, _, aheads, lot, rfl, .inl rfl, js4, x_kRes0 ?_⟩)
  refine x_cons (x_call (x_cons (x_var rfl (x_cons (x_var rfl ?_)))))
  refine x_nil (x_kCall0 rfl rfl ⟨jobs.length, _, aheads, some', rfl, .inl rfl, js4, x_kRes0 ?_⟩)
  refine x_nil (x_kLstF rfl ?_ (sz_of (by simp)))
  refine x_nil (x_repr rfl ?_ rb)
  refine x_ne rfl rfl ?_ (cmp_str _ _)
  rw [str_same]
  refine x_kTst (x_ifF rfl (x_next (x_nx ?_)))
  unfold as_law_s168
  refine x_seq (x_asgN (x_if (x_tst (x_op (x_op (x_var rfl (x_c (x_ixL (ps := [.bool (firstB aheads lot), .bool (firstB aheads some')]) (p := .bool (firstB aheads lot)) (.inl rfl) rfl rfl ?_))))))))
  refine x_c (x_isB rfl rfl (x_kTst ?_))
  refine x_if2 (fun q => ?_) fun q => ?_
  · refine x_var rfl (x_nx ?_)
    exact s169_ok L hs ho hnm hso hsl hsn h
  · refine x_var rfl (x_nx ?_)
    exact s169_ok (lot := greatest jobs aheads) ⟨L.hl, L.hn, L.h1, L.hj, L.ha, L.hp, bok, bne⟩ hs ho hnm hso hsl hsn h
end K17
end

section
set_option Elab.async false
set_option linter.all false
set_option maxRecDepth 100000
set_option maxHeartbeats 0
namespace K17
open PySem AM
/-! ### the law: the pairs of a lap -/
def pk (p : Nat × Nat) : List L2.Key × D := ([.inl (p.1 : Int), .inl (p.2 : Int)], .dat (.int 0))
theorem put_pk (ps : List (Nat × Nat)) (q : Nat × Nat) : ∃ ps' : List (Nat × Nat), put (ps.map pk) [.inl (q.1 : Int), .inl (q.2 : Int)] (.dat (.int 0)) = ps'.map pk ∧ ps'.length ≤ ps.length + 1 ∧ ∀ p ∈ ps', p ∈ ps ∨ p = q := by
  unfold put
  split
  · refine ⟨ps, ?_, by omega, fun p hp => .inl hp⟩
    rw [List.map_map]
    refine List.map_congr_left fun p _ => ?_
    show (if (pk p).1 = _ then ((pk p).1, D.dat (.int 0)) else pk p) = pk p
    split
    · rfl
    · rfl
  · refine ⟨ps ++ [q], by simp [pk], by simp, fun p hp => ?_⟩
    rcases List.mem_append.mp hp with w | w
    · exact .inl w
    · exact .inr (List.mem_singleton.mp w)
theorem range_iL2 (n : Nat) : rngP 0 (n : Int).toNat = iL (List.range n) := by
  simp [rngP, iL]
theorem two_of {l : List Nat} (h : l.length = 2) : ∃ a b, l = [a, b] := by
  match l, h with
  | [a, b], _ => exact ⟨a, b, rfl⟩
theorem loop158 {K : AEnds} {R : Sto} {n : Nat} {nm : List Nat} {x0 x2 x3 x5 x7 x12 x13 x14 x15 x16 x17 x18 x19 x20 x21 x22 x23 x24 x25 x26 x27 x28 x29 x30 x31 : Option D} (hn : n ≤ 9) (hnm : nm.Perm (List.range n)) : ∀ (items : List D) (ps : List (Nat × Nat)) (S : Sto) (x4 x10 x11 : Option D), Src S → (items ≠ [] → 2 ≤ n) → ps.length + items.length ≤ 1000 → (∀ p ∈ ps, p.1 < n ∧ p.2 < n) →
    (∀ (ps : List (Nat × Nat)) (S : Sto) (x4 x10 x11 : Option D), Src S → ps.length ≤ 1000 → (∀ p ∈ ps, p.1 < n ∧ p.2 < n) → K.nx ([x0, some (.own 0), x2, x3, x4, x5, some (.dat (.int (n : Int))), x7, some (.dat (.list (iL nm))), some (.own (2 + R.length)), x10, x11, x12, x13, x14, x15, x16, x17, x18, x19, x20, x21, x22, x23, x24, x25, x26, x27, x28, x29, x30, x31] : Gm) (S ++ (R ++ [some (.dit (ps.map pk))]))) →
    aLoop (aName 4) as_law_b158 (fun _ => True) K items ([x0, some (.own 0), x2, x3, x4, x5, some (.dat (.int (n : Int))), x7, some (.dat (.list (iL nm))), some (.own (2 + R.length)), x10, x11, x12, x13, x14, x15, x16, x17, x18, x19, x20, x21, x22, x23, x24, x25, x26, x27, x28, x29, x30, x31] : Gm) (S ++ (R ++ [some (.dit (ps.map pk))]))
  | [], ps, S, x4, x10, x11, hs, h2, hl, hp, h => ⟨trivial, h ps S _ _ _ hs (by simpa using hl) hp⟩
  | it :: items, ps, S, x4, x10, x11, hs, h2, hl, hp, h => by
    have hnl : nm.length = n := by rw [hnm.length_eq, List.length_range]
    have n2 := h2 (by simp)
    simp only [List.length_cons] at hl
    refine ⟨trivial, ?_⟩
    show as_law_b158 _ ([x0, some (.own 0), x2, x3, some it, x5, some (.dat (.int (n : Int))), x7, some (.dat (.list (iL nm))), some (.own (2 + R.length)), x10, x11, x12, x13, x14, x15, x16, x17, x18, x19, x20, x21, x22, x23, x24, x25, x26, x27, x28, x29, x30, x31] : Gm) (S ++ (R ++ [some (.dit (ps.map pk))]))
    unfold as_law_b158
    refine x_seq (x_asgT (x_cb (x_cons (x_sl (x_call (x_cons (x_var rfl (x_cons (x_lr1 (x_var rfl (x_kLr1 ?_ ⟨by omega, by omega⟩)))))))))))
    rw [range_iL2]
    refine x_nil (kc_mixed hs (by rw [iL_len, List.length_range]; omega) fun ys S1 hy hs1 => ?_)
    obtain ⟨l, rfl, hlp⟩ := perm_iL hy
    have hll : l.length = n := by rw [hlp.length_eq, List.length_range]
    refine x_kSl (x_noPart (x_part (x_c (x_kPart rfl (x_slL rfl ?_)))))
    rw [show (2 : Int) = ((2 : Nat) : Int) by rfl, cut_iL]
    refine x_nil (x_sortN ?_ (by rw [List.length_take]; omega))
    have pm := sortN_perm (l.take 2)
    obtain ⟨a, b, e⟩ := two_of (l := (l.take 2).mergeSort fun a b => decide (a ≤ b)) (by rw [pm.length_eq, List.length_take]; omega)
    have hm : ∀ c ∈ [a, b], c < n := fun c hc => by
      rw [← e] at hc
      exact List.mem_range.mp (hlp.mem_iff.mp (List.mem_of_mem_take (pm.mem_iff.mp hc)))
    have ha : a < nm.length := by rw [hnl]; exact hm a (by simp)
    have hb : b < nm.length := by rw [hnl]; exact hm b (by simp)
    rw [e]
    refine x_kAsg rfl (x_nx ?_)
    show aDPut _ _ _ _ ([x0, some (.own 0), x2, x3, some it, x5, some (.dat (.int (n : Int))), x7, some (.dat (.list (iL nm))), some (.own (2 + R.length)), some (.dat (.int (a : Int))), some (.dat (.int (b : Int))), x12, x13, x14, x15, x16, x17, x18, x19, x20, x21, x22, x23, x24, x25, x26, x27, x28, x29, x30, x31] : Gm) (S1 ++ (R ++ [some (.dit (ps.map pk))]))
    have ga : L2.atI (iL nm) (a : Int) = some (.int ((nm[a] : Nat) : Int)) := by
      rw [atI_nat]
      simp [iL, ha]
    have gb : L2.atI (iL nm) (b : Int) = some (.int ((nm[b] : Nat) : Int)) := by
      rw [atI_nat]
      simp [iL, hb]
    refine x_dput (x_c (x_var rfl (x_tup (x_cons (x_op (x_var rfl (x_var rfl (x_ixL (ps := iL nm) (.inl rfl) rfl ga ?_))))))))
    refine x_cons (x_op (x_var rfl (x_var rfl (x_ixL (ps := iL nm) (.inl rfl) rfl gb ?_))))
    refine x_nil (x_kTup rfl ?_ (sz_of (by simp)))
    have g0 : (S1 ++ (R ++ [some (Mo.dit (ps.map pk))]))[2 + R.length]? = some (some (.dit (ps.map pk))) := by
      rw [get_app hs1]
      simp
    obtain ⟨ps', e1, e2, e3⟩ := put_pk ps (nm[a], nm[b])
    refine x_kDPutT g0 rfl rfl ?_ (show _ + 1 ≤ sizeLine from sz_of (by rw [List.length_map]; omega))
    rw [e1, set_app hs1]
    have e4 : (R ++ [some (Mo.dit (ps.map pk))]).set R.length (some (.dit (ps'.map pk))) = R ++ [some (.dit (ps'.map pk))] := by simp
    rw [e4]
    have hp' : ∀ p ∈ ps', p.1 < n ∧ p.2 < n := fun p hm => by
      rcases e3 p hm with w | w
      · exact hp p w
      · subst w
        exact ⟨List.mem_range.mp (hnm.mem_iff.mp (List.getElem_mem _)), List.mem_range.mp (hnm.mem_iff.mp (List.getElem_mem _))⟩
    exact loop158 hn hnm items ps' S1 _ _ _ hs1 (fun z => n2) (by omega) hp' h
theorem x_sortP {M : Sto} {Ψ : K1} {j : Nat} {ps : List (Nat × Nat)} (h1 : M[j]? = some (some (.dit (ps.map pk)))) (hl : ps.length ≤ 1000) (h : Ψ (.dat (.list ((ps.mergeSort leB).map jobD))) M) : aSortedX false [.own j] M Ψ := by
  unfold aSortedX
  dsimp only
  rw [h1]
  have e : ktups (ps.map pk) = ps.map jobD := by
    unfold ktups
    rw [List.map_map]
    rfl
  dsimp only
  rw [e, sort_jobs]
  refine ⟨sz_of (by rw [List.length_map]; omega), alike_pairs ps, sortable_pairs ps, fun x hx => ?_, h⟩
  · obtain ⟨p, _, rfl⟩ := List.mem_map.mp hx
    simp [jobD, PyData.depth, PyData.depthAll]
end K17
end

section
set_option Elab.async false
set_option linter.all false
set_option maxRecDepth 100000
set_option maxHeartbeats 0
namespace K17
open PySem AM
/-! ### the law: a lap -/
theorem srt_lot {n k : Nat} {l : List Nat} (hl : l.Perm (List.range n)) (hn : n ≤ 9) (h1 : 1 ≤ n) (hk : 1 ≤ k) : LotOk n ((l.take k).mergeSort fun a b => decide (a ≤ b)) ∧ ((l.take k).mergeSort fun a b => decide (a ≤ b)) ≠ [] ∧ ((l.take k).mergeSort fun a b => decide (a ≤ b)).length ≤ 9 := by
  have hll : l.length = n := by rw [hl.length_eq, List.length_range]
  have pm := sortN_perm (l.take k)
  have e := pm.length_eq
  rw [List.length_take] at e
  refine ⟨⟨by omega, fun a ha => List.mem_range.mp (hl.mem_iff.mp (List.mem_of_mem_take (pm.mem_iff.mp ha)))⟩, fun z => ?_, by omega⟩
  rw [z] at e
  simp at e
  omega
theorem s162_ok {K : AEnds} {S R : Sto} {n : Nat} {jobs : List Job} {aheads : List (Nat × Nat)} {nm : List Nat} {odd : List PyData} {x0 x3 x4 x5 x9 x10 x11 x13 x14 x15 x16 x17 x18 x19 x20 x21 x22 x23 x24 x25 x26 x27 x28 x29 x30 x31 : Option D} (hjl : jobs.length = n) (hn : n ≤ 9) (h1 : 1 ≤ n) (hj : JobsOk jobs) (ha : AhOk jobs.length aheads) (hp : aheads.Pairwise leP) (hs : Src S) (ho : OddOk odd) (hnm : nm.Perm (List.range n))
    (h : ∀ (G : Gm) (S R : Sto), LapG odd G → Src S → K.nx G (S ++ R)) : as_law_s162 K ([x0, some (.own 0), some (.dat (.list odd)), x3, x4, x5, some (.dat (.int (n : Int))), some (.dat (jobsD jobs)), some (.dat (.list (iL nm))), x9, x10, x11, some (.dat (.tuple (aheads.map jobD))), x13, x14, x15, x16, x17, x18, x19, x20, x21, x22, x23, x24, x25, x26, x27, x28, x29, x30, x31] : Gm) (S ++ R) := by
  have hnl : nm.length = n := by rw [hnm.length_eq, List.length_range]
  unfold as_law_s162
  refine x_seq (x_asgN (x_call (x_cons (x_var rfl (x_cons (x_var rfl ?_))))))
  refine x_nil (x_kCall0 rfl rfl ⟨jobs, aheads, rfl, ⟨hj, by omega, by omega, ha⟩, rfl, x_kRes0 ?_⟩)
  refine x_nx ?_
  show as_law_s163 _ ([x0, some (.own 0), some (.dat (.list odd)), x3, x4, x5, some (.dat (.int (n : Int))), some (.dat (jobsD jobs)), some (.dat (.list (iL nm))), x9, x10, x11, some (.dat (.tuple (aheads.map jobD))), some (.dat (lotD (greatest jobs aheads))), x14, x15, x16, x17, x18, x19, x20, x21, x22, x23, x24, x25, x26, x27, x28, x29, x30, x31] : Gm) (S ++ R)
  unfold as_law_s163
  refine x_seq (x_asgN (x_cb (x_cons (x_cb (x_cons (x_sl (x_var rfl (x_kSl (x_noPart (x_part (x_op (x_c (x_call (x_cons (x_var rfl (x_cons (x_var rfl ?_)))))))))))))))))
  refine x_nil (kc_pick rfl hs (by omega) fun r S1 hr hs1 => ?_)
  refine x_addI rfl rfl (x_kPart rfl (x_slL rfl ?_))
  rw [show (1 + (r : Int)) = ((1 + r : Nat) : Int) by omega, cut_iL]
  refine x_nil (x_sortN (x_nil (x_tupleOf (.inl rfl) (x_nx ?_))) (by rw [List.length_take]; omega))
  obtain ⟨lo1, lo2, lo3⟩ := srt_lot (k := 1 + r) hnm hn h1 (by omega)
  show as_law_s164 _ ([x0, some (.own 0), some (.dat (.list odd)), x3, x4, x5, some (.dat (.int (n : Int))), some (.dat (jobsD jobs)), some (.dat (.list (iL nm))), x9, x10, x11, some (.dat (.tuple (aheads.map jobD))), some (.dat (lotD (greatest jobs aheads))), some (.dat (lotD ((nm.take (1 + r)).mergeSort fun a b => decide (a ≤ b)))), x15, x16, x17, x18, x19, x20, x21, x22, x23, x24, x25, x26, x27, x28, x29, x30, x31] : Gm) (S1 ++ R)
  generalize ((nm.take (1 + r)).mergeSort fun a b => decide (a ≤ b)) = lot at lo1 lo2 lo3
  unfold as_law_s164
  refine x_seq (x_asgN (x_cb (x_cons (x_cb (x_cons (x_sl (x_call (x_cons (x_var rfl (x_cons (x_lr1 (x_var rfl (x_kLr1 ?_ ⟨by omega, by omega⟩)))))))))))))
  rw [range_iL]
  refine x_nil (kc_mixed hs1 (by rw [iL_len, List.length_range]; omega) fun ys S2 hy hs2 => ?_)
  obtain ⟨l, rfl, hlp⟩ := perm_iL hy
  have hll : l.length = n := by rw [hlp.length_eq, List.length_range]
  refine x_kSl (x_noPart (x_part (x_op (x_c (x_call (x_cons (x_var rfl (x_cons (x_var rfl ?_)))))))))
  refine x_nil (kc_pick rfl hs2 (by omega) fun r2 S3 hr2 hs3 => ?_)
  refine x_addI rfl rfl (x_kPart rfl (x_slL rfl ?_))
  rw [show (1 + (r2 : Int)) = ((1 + r2 : Nat) : Int) by omega, cut_iL]
  refine x_nil (x_sortN (x_nil (x_tupleOf (.inl rfl) (x_nx ?_))) (by rw [List.length_take]; omega))
  obtain ⟨so1, so2, so3⟩ := srt_lot (k := 1 + r2) hlp hn h1 (by omega)
  exact s165_ok ⟨hjl, hn, h1, hj, ha, hp, by rw [hjl]; exact lo1, lo2⟩ hs3 ho hnm (by rw [hjl]; exact so1) so3 so2 h
theorem pow8 : L2.CPow 10 8 := ⟨by decide, by decide, by decide⟩
theorem x_dnewT {G : Gm} {M : Sto} {Ψ : K1} (h : Ψ (.own M.length) (M ++ [some (.dit [])])) : aDNew 1 G M Ψ := h
theorem b154_ok {K : AEnds} {S R : Sto} {odd : List PyData} {x0 x3 x4 x5 x6 x7 x8 x9 x10 x11 x12 x13 x14 x15 x16 x17 x18 x19 x20 x21 x22 x23 x24 x25 x26 x27 x28 x29 x30 x31 : Option D} (hs : Src S) (ho : OddOk odd) (h : ∀ (G : Gm) (S R : Sto), LapG odd G → Src S → K.nx G (S ++ R)) : as_law_b154 K ([x0, some (.own 0), some (.dat (.list odd)), x3, x4, x5, x6, x7, x8, x9, x10, x11, x12, x13, x14, x15, x16, x17, x18, x19, x20, x21, x22, x23, x24, x25, x26, x27, x28, x29, x30, x31] : Gm) (S ++ R) := by
  unfold as_law_b154
  refine x_seq (x_asgN (x_op (x_c (x_call (x_cons (x_var rfl (x_cons (x_if (x_tst (x_op (x_call (x_cons (x_var rfl (x_cons (x_c ?_)))))))))))))))
  refine x_nil (kc_pick (most := 6) rfl hs (by omega) fun r S1 hr hs1 => ?_)
  refine x_c (x_eq rfl rfl (x_kTst ?_) (.inl ⟨rfl, rfl, by simp [PyData.depth]⟩))
  have go : ∀ (most : Nat) (S : Sto), 1 ≤ most → most ≤ 9 → Src S → ∀ (z : Int), z = (most : Int) → kCall 2 2 sp__law_pick (fun e M2 => aAdd false (.dat (.int 1)) e M2 fun d M1 => as_law_s156 K (([x0, some (.own 0), some (.dat (.list odd)), x3, x4, x5, x6, x7, x8, x9, x10, x11, x12, x13, x14, x15, x16, x17, x18, x19, x20, x21, x22, x23, x24, x25, x26, x27, x28, x29, x30, x31] : Gm).set 6 (some d)) M1) [.own 0, .dat (.int z)] (S ++ R) := by
    intro most S m1 m9 hs z hz
    refine kc_pick hz hs (by omega) fun r S1 hr hs1 => ?_
    refine x_addI rfl rfl ?_
    rw [show (1 + (r : Int)) = ((1 + r : Nat) : Int) by omega]
    have n1 : 1 ≤ 1 + r := by omega
    have n9 : 1 + r ≤ 9 := by omega
    generalize 1 + r = n at n1 n9
    show as_law_s156 _ ([x0, some (.own 0), some (.dat (.list odd)), x3, x4, x5, some (.dat (.int (n : Int))), x7, x8, x9, x10, x11, x12, x13, x14, x15, x16, x17, x18, x19, x20, x21, x22, x23, x24, x25, x26, x27, x28, x29, x30, x31] : Gm) (S1 ++ R)
    unfold as_law_s156
    refine x_seq (x_asgN (x_call (x_cons (x_var rfl (x_cons (x_var rfl (x_cons (x_call (x_cons (x_var rfl (x_cons (x_lst (x_cons (x_c (x_cons (x_c (x_cons (x_op (x_c (x_c (x_int rfl rfl ?_ pow8)))))))))))))))))))))
    refine x_nil (x_kLstF rfl ?_ (sz_of (by simp)))
    refine x_nil (kc_of hs1 (by simp) (by simp) fun z S2 hz hs2 => ?_)
    obtain ⟨most2, rfl, m21, m22⟩ : ∃ m : Nat, z = .int (m : Int) ∧ 1 ≤ m ∧ m ≤ 100000000 := by
      simp only [List.mem_cons, List.not_mem_nil, or_false] at hz
      rcases hz with q | q | q
      · exact ⟨3, q, by omega, by omega⟩
      · exact ⟨9, q, by omega, by omega⟩
      · exact ⟨100000000, q, by omega, by omega⟩
    refine x_nil (kc_weighted hs2 (by omega) m21 m22 fun jobs S3 hjl hjj hs3 => x_nx ?_)
    have hj : JobsOk jobs := ⟨by omega, fun j hm => by
      have := hjj j hm
      omega⟩
    show as_law_s157 _ ([x0, some (.own 0), some (.dat (.list odd)), x3, x4, x5, some (.dat (.int (n : Int))), some (.dat (jobsD jobs)), x8, x9, x10, x11, x12, x13, x14, x15, x16, x17, x18, x19, x20, x21, x22, x23, x24, x25, x26, x27, x28, x29, x30, x31] : Gm) (S3 ++ R)
    unfold as_law_s157
    refine x_seq (x_asgL (x_cons (x_call (x_cons (x_var rfl (x_cons (x_lr1 (x_var rfl (x_kLr1 ?_ ⟨by omega, by omega⟩)))))))))
    rw [range_iL]
    refine x_nil (kc_mixed hs3 (by rw [iL_len, List.length_range]; omega) fun ys S4 hy hs4 => ?_)
    obtain ⟨nm, rfl, hnm⟩ := perm_iL hy
    refine x_cons (x_dnewT ?_)
    refine x_nil (x_kAsgL rfl rfl ?_ (sz_of (by omega)))
    refine x_nx ?_
    rw [List.append_assoc, len_app hs4]
    show as_law_s158 _ ([x0, some (.own 0), some (.dat (.list odd)), x3, x4, x5, some (.dat (.int (n : Int))), some (.dat (jobsD jobs)), some (.dat (.list (iL nm))), some (.own (2 + R.length)), x10, x11, x12, x13, x14, x15, x16, x17, x18, x19, x20, x21, x22, x23, x24, x25, x26, x27, x28, x29, x30, x31] : Gm) (S4 ++ (R ++ [some (.dit ([].map pk))]))
    unfold as_law_s158
    have tail : ∀ (items : List D) (S : Sto), Src S → (items ≠ [] → 2 ≤ n) → items.length ≤ 1000 → aLoop (aName 4) as_law_b158 (fun _ => True) { nx := as_law_s161 K, rt := K.rt, bk := K.bk, ct := K.ct } items ([x0, some (.own 0), some (.dat (.list odd)), x3, x4, x5, some (.dat (.int (n : Int))), some (.dat (jobsD jobs)), some (.dat (.list (iL nm))), some (.own (2 + R.length)), x10, x11, x12, x13, x14, x15, x16, x17, x18, x19, x20, x21, x22, x23, x24, x25, x26, x27, x28, x29, x30, x31] : Gm) (S ++ (R ++ [some (.dit ([].map pk))])) := by
      intro items S hs hi hil
      refine loop158 n9 hnm items [] S _ _ _ hs hi (by simpa using hil) (fun p hp => nomatch hp) fun ps S x4 x10 x11 hs hpl hpp => x_nx ?_
      have g0 : (S ++ (R ++ [some (Mo.dit (ps.map pk))]))[2 + R.length]? = some (some (.dit (ps.map pk))) := by
        rw [get_app hs]
        simp
      unfold as_law_s161
      refine x_seq (x_asgN (x_cb (x_cons (x_cb (x_cons (x_var rfl (x_nil (x_sortP g0 hpl (x_nil (x_tupleOf (.inl rfl) (x_nx ?_)))))))))))
      refine s162_ok hjl n9 n1 hj ⟨?_, fun p hm => ?_⟩ (sorted_pairs ps) hs ho hnm h
      · rw [List.length_mergeSort]
        exact hpl
      · rw [hjl]
        exact hpp p (List.mem_mergeSort.mp hm)
    refine x_seq (x_for (x_rg1 (x_cons (x_if (x_tst (x_op (x_var rfl (x_c (x_intT rfl rfl (x_kTst ?_))))))))))
    refine x_if2 (fun q => ?_) fun q => ?_
    · have q1 : (1 : Int) < (n : Int) := of_decide_eq_true q
      refine x_call (x_cons (x_var rfl (x_cons (x_op (x_c (x_var rfl (x_mulI rfl rfl ?_ ?_)))))))
      · refine x_nil (kc_pick (most := 2 * n) (by omega) hs4 (by omega) fun r S5 hr hs5 => x_nil (x_kRng1 ?_ ⟨by omega, by omega⟩))
        exact tail _ S5 hs5 (fun _ => by omega) (by rw [rng_len]; omega)
      · exact .inl (.inl ⟨by decide, by decide⟩)
    · refine x_c (x_nil (x_kRng1 ?_ ⟨by omega, by omega⟩))
      exact tail [] S4 hs4 (fun z => absurd rfl z) (by simp)
  refine x_if2 (fun q => ?_) fun q => ?_
  · exact x_c (x_nil (go 9 S1 (by omega) (by omega) hs1 _ rfl))
  · exact x_c (x_nil (go 6 S1 (by omega) (by omega) hs1 _ rfl))
end K17
end

section
set_option Elab.async false
set_option linter.all false
set_option maxRecDepth 100000
set_option maxHeartbeats 0
namespace K17
open PySem AM
/-! ### the law, whole -/
theorem lap_lit {odd : List PyData} {G : Gm} (h : LapG odd G) : ∃ x0 x3 x4 x5 x6 x7 x8 x9 x10 x11 x12 x13 x14 x15 x16 x17 x18 x19 x20 x21 x22 x23 x24 x25 x26 x27 x28 x29 x30 x31 : Option D, G = ([x0, some (.own 0), some (.dat (.list odd)), x3, x4, x5, x6, x7, x8, x9, x10, x11, x12, x13, x14, x15, x16, x17, x18, x19, x20, x21, x22, x23, x24, x25, x26, x27, x28, x29, x30, x31] : Gm) := by
  obtain ⟨h0, h1, h2⟩ := h
  match G, h0, h1, h2 with
  | [x0, x1, x2, x3, x4, x5, x6, x7, x8, x9, x10, x11, x12, x13, x14, x15, x16, x17, x18, x19, x20, x21, x22, x23, x24, x25, x26, x27, x28, x29, x30, x31], _, h1, h2 =>
    cases h1
    cases h2
    exact ⟨_, _, _, _, _, _, _, _, _, _, _, _, _, _, _, _, _, _, _, _, _, _, _, _, _, _, _, _, _, _, rfl⟩
theorem loop154 {K : AEnds} {odd : List PyData} (ho : OddOk odd) (hK : ∀ G M, K.nx G M) : ∀ (items : List D) (G : Gm) (S R : Sto), LapG odd G → Src S → aLoop (aName 5) as_law_b154 (fun _ => True) K items G (S ++ R)
  | [], _, _, _, _, _ => ⟨trivial, hK _ _⟩
  | it :: items, G, S, R, hG, hs => by
    obtain ⟨x0, x3, x4, x5, x6, x7, x8, x9, x10, x11, x12, x13, x14, x15, x16, x17, x18, x19, x20, x21, x22, x23, x24, x25, x26, x27, x28, x29, x30, x31, rfl⟩ := lap_lit hG
    refine ⟨trivial, ?_⟩
    show as_law_b154 _ ([x0, some (.own 0), some (.dat (.list odd)), x3, x4, some it, x6, x7, x8, x9, x10, x11, x12, x13, x14, x15, x16, x17, x18, x19, x20, x21, x22, x23, x24, x25, x26, x27, x28, x29, x30, x31] : Gm) (S ++ R)
    exact b154_ok hs ho fun G S R hG hs => loop154 ho hK items G S R hG hs
def Deep (d : Nat) (p : PyData) : Prop := Wid d (1921 + 5 * d) p ∧ ∀ xs, p = .tuple xs → xs.length ≤ 1
theorem deep_t {d : Nat} {p : PyData} (h : Deep d p) : Deep (d + 1) (.tuple [p]) := ⟨(wid_tuple (xs := [p]) (fun x hx => by
  rcases List.mem_singleton.mp hx with rfl
  exact h.1)).mono (Nat.le_refl _) (by simp; omega), fun xs e => by cases e; simp⟩
theorem deep_l {d : Nat} {p : PyData} (h : Deep d p) : Deep (d + 1) (.list [p]) := ⟨(wid_list (xs := [p]) (fun x hx => by
  rcases List.mem_singleton.mp hx with rfl
  exact h.1)).mono (Nat.le_refl _) (by simp; omega), fun xs e => by cases e⟩
theorem loop151 {K : AEnds} {R : Sto} {x0 x2 x5 x6 x7 x8 x9 x10 x11 x12 x13 x14 x15 x16 x17 x18 x19 x20 x21 x22 x23 x24 x25 x26 x27 x28 x29 x30 x31 : Option D} : ∀ (items : List D) (d : Nat) (p : PyData) (S : Sto) (x4 : Option D), Deep d p → Src S →
    (∀ (p : PyData) (S : Sto) (x4 : Option D), Deep (d + items.length) p → Src S → K.nx ([x0, some (.own 0), x2, some (.dat p), x4, x5, x6, x7, x8, x9, x10, x11, x12, x13, x14, x15, x16, x17, x18, x19, x20, x21, x22, x23, x24, x25, x26, x27, x28, x29, x30, x31] : Gm) (S ++ R)) →
    aLoop (aName 4) as_law_b151 (fun _ => True) K items ([x0, some (.own 0), x2, some (.dat p), x4, x5, x6, x7, x8, x9, x10, x11, x12, x13, x14, x15, x16, x17, x18, x19, x20, x21, x22, x23, x24, x25, x26, x27, x28, x29, x30, x31] : Gm) (S ++ R)
  | [], d, p, S, x4, hp, hs, h => ⟨trivial, h p S _ hp hs⟩
  | it :: items, d, p, S, x4, hp, hs, h => by
    have e : d + (it :: items).length = (d + 1) + items.length := by
      simp only [List.length_cons]
      omega
    rw [e] at h
    refine ⟨trivial, ?_⟩
    show as_law_b151 _ ([x0, some (.own 0), x2, some (.dat p), some it, x5, x6, x7, x8, x9, x10, x11, x12, x13, x14, x15, x16, x17, x18, x19, x20, x21, x22, x23, x24, x25, x26, x27, x28, x29, x30, x31] : Gm) (S ++ R)
    unfold as_law_b151
    refine x_asgN (x_if (x_tst (x_op (x_call (x_cons (x_var rfl (x_cons (x_c (x_nil (kc_pick (most := 3) rfl hs (by omega) fun r S1 hr hs1 => ?_))))))))))
    refine x_c (x_intT rfl rfl (x_kTst ?_))
    refine x_if2 (fun q => ?_) fun q => ?_
    · refine x_tup (x_cons (x_var rfl (x_nil (x_kTup rfl ?_ (sz_of (by simp))))))
      exact loop151 items (d + 1) _ S1 _ (deep_t hp) hs1 h
    · refine x_lst (x_cons (x_var rfl (x_nil (x_kLstF rfl ?_ (sz_of (by simp))))))
      exact loop151 items (d + 1) _ S1 _ (deep_l hp) hs1 h
end K17
end

section
set_option Elab.async false
set_option linter.all false
set_option maxRecDepth 100000
set_option maxHeartbeats 0
namespace K17
open PySem AM
theorem deep_vok {p : PyData} (h : Deep 36 p) : Vok p := h.1.vok (by decide) (by decide) (fun xs e => by have := h.2 xs e; omega) fun x vs e => by
  have := h.2 _ e
  simp at this
theorem wid_more {d k : Nat} {p : PyData} (h : Wid d k p) (hd : d ≤ 38) (hk : k ≤ 4000000) (hl : ∀ xs, p = .tuple xs → xs.length ≤ 100000) : Vok (.tuple [.str "more", p]) := by
  have hw : ∀ x ∈ [PyData.str "more", p], Wid d (k + 1921) x := fun x hx => by
    simp only [List.mem_cons, List.not_mem_nil, or_false] at hx
    rcases hx with rfl | rfl
    · exact atom_more.wid (by omega)
    · exact h.mono (Nat.le_refl _) (by omega)
  refine (wid_tuple hw).vok (by omega) (by simp; omega) (fun xs e => by cases e; simp) fun x vs e => ?_
  cases e
  exact hl vs rfl
theorem many_wid {ps : List PyData} {k : Nat} (h : ∀ x ∈ ps, Atom x) (hl : k * ps.length ≤ 1000) : Wid 1 2000000 (.tuple (List.replicate k ps).flatten) ∧ ((List.replicate k ps).flatten).length ≤ 1000 := by
  have e : ((List.replicate k ps).flatten).length = k * ps.length := by
    rw [List.length_flatten, List.map_replicate, List.sum_replicate_nat]
  refine ⟨(wid_tuple (d := 0) (k := 1921) fun x hx => ?_).mono (Nat.le_refl _) ?_, by omega⟩
  · obtain ⟨l, hl, hx⟩ := List.mem_flatten.mp hx
    rw [(List.mem_replicate.mp hl).2] at hx
    exact (h x hx).wid (Nat.le_refl _)
  · rw [e]
    omega
theorem atom_big : Atom (.int 100000000000000000000000000000000000000000000000000000000000) := atom_int (Nat.lt_of_lt_of_le (m := 2 ^ 200) (by decide) (Nat.pow_le_pow_right (by decide) (by decide)))
theorem pow59 : L2.CPow 10 59 := ⟨by decide, by decide, by decide⟩
theorem s153_ok {K : AEnds} {S R : Sto} {p : PyData} {odd : List PyData} {x0 x4 x5 x6 x7 x8 x9 x10 x11 x12 x13 x14 x15 x16 x17 x18 x19 x20 x21 x22 x23 x24 x25 x26 x27 x28 x29 x30 x31 : Option D} (hs : Src S) (hp : Deep 36 p) (ho : ∀ v ∈ odd, Vok v) (hl : odd.length ≤ 50) (h : ∀ M, K.rt (.dat (.bool true)) M) : as_law_s153 K ([x0, some (.own 0), some (.dat (.list odd)), some (.dat p), x4, x5, x6, x7, x8, x9, x10, x11, x12, x13, x14, x15, x16, x17, x18, x19, x20, x21, x22, x23, x24, x25, x26, x27, x28, x29, x30, x31] : Gm) (S ++ R) := by
  obtain ⟨w1, l1⟩ := many_wid (ps := [PyData.int 0]) (k := 900) (atoms_one (atom_nat (a := 0) (by decide))) (by simp)
  obtain ⟨w2, l2⟩ := many_wid (ps := [PyData.int 0, .int 1]) (k := 400) (fun x hx => by
    simp only [List.mem_cons, List.not_mem_nil, or_false] at hx
    rcases hx with rfl | rfl
    · exact atom_nat (a := 0) (by decide)
    · exact atom_nat (a := 1) (by decide)) (by simp)
  unfold as_law_s153
  refine x_seq (x_asgN (x_op (x_var rfl (x_lst (x_cons (x_var rfl (x_cons (x_tup (x_cons (x_c (x_cons (x_var rfl (x_nil (x_kTup rfl ?_ (sz_of (by simp))))))))))))))))
  refine x_cons (x_tup (x_cons (x_c (x_cons (x_op (x_tup (x_cons (x_c (x_nil (x_kTup rfl (x_c (x_mulT (ps := [.int 0]) (k := 900) rfl rfl ?_ ⟨by simp, by decide, by decide, by simp⟩)) (sz_of (by simp))))))))))))
  refine x_nil (x_kTup rfl ?_ (sz_of (by simp)))
  refine x_cons (x_tup (x_cons (x_c (x_cons (x_tup (x_cons (x_op (x_c (x_c (x_int rfl rfl ?_ pow59))))))))))
  refine x_nil (x_kTup rfl (x_nil (x_kTup rfl ?_ (sz_of (by simp)))) (sz_of (by simp)))
  refine x_cons (x_op (x_tup (x_cons (x_c (x_cons (x_c (x_nil (x_kTup rfl (x_c (x_mulT (ps := [.int 0, .int 1]) (k := 400) rfl rfl ?_ ⟨by simp, by decide, by decide, by simp⟩)) (sz_of (by simp))))))))))
  refine x_cons (x_tup (x_cons (x_c (x_nil (x_kTup rfl ?_ (sz_of (by simp)))))))
  refine x_nil (x_kLstF rfl (x_addL rfl rfl ?_ (sz_of (by simp; omega))) (sz_of (by simp)))
  refine x_nx ?_
  refine x_seq (x_for (x_rg1 (x_cons (x_c (x_nil (x_kRng1 ?_ ⟨by decide, by decide⟩))))))
  refine loop154 ⟨fun v hv => ?_, ?_, ?_⟩ (fun G M => x_nx (x_ret (x_c (h M)))) _ _ S R ⟨rfl, rfl, rfl⟩ hs
  · simp only [List.mem_append, List.mem_cons, List.not_mem_nil, or_false] at hv
    rcases hv with q | q | q | q | q | q | q
    · exact ho v q
    · subst q
      exact deep_vok hp
    · subst q
      exact wid_more hp.1 (by decide) (by decide) fun xs e => by have := hp.2 xs e; omega
    · subst q
      exact wid_more w1 (by decide) (by decide) fun xs e => by
        cases e
        exact Nat.le_trans l1 (by decide)
    · subst q
      exact more_vok (sml_of (atoms_one atom_big) (by simp))
    · subst q
      exact w2.vok (by decide) (by decide) (fun xs e => by
        cases e
        exact Nat.le_trans l2 (by decide)) fun x vs e => by
          have h3 : ((List.replicate (400 : Int).toNat [PyData.int 0, .int 1]).flatten) = [x, .tuple vs] := by cases e
          have h4 := congrArg List.length h3
          rw [List.length_flatten, List.map_replicate, List.sum_replicate_nat] at h4
          simp at h4
    · subst q
      exact Sml.vok (sml_of (atoms_one atom_Most) (by simp))
  · simp
    omega
  · simp
end K17
end

section
set_option Elab.async false
set_option linter.all false
set_option maxRecDepth 100000
set_option maxHeartbeats 0
namespace K17
open PySem AM
theorem x_dnewD {G : Gm} {M : Sto} {Ψ : K1} (h : Ψ (.dat (.dict [])) M) : aDNew 2 G M Ψ := h
theorem s149_ok {K : AEnds} {S R : Sto} {x0 x2 x3 x4 x5 x6 x7 x8 x9 x10 x11 x12 x13 x14 x15 x16 x17 x18 x19 x20 x21 x22 x23 x24 x25 x26 x27 x28 x29 x30 x31 : Option D} (hs : Src S) (h : ∀ M, K.rt (.dat (.bool true)) M) : as_law_s149 K ([x0, some (.own 0), x2, x3, x4, x5, x6, x7, x8, x9, x10, x11, x12, x13, x14, x15, x16, x17, x18, x19, x20, x21, x22, x23, x24, x25, x26, x27, x28, x29, x30, x31] : Gm) (S ++ R) := by
  unfold as_law_s149
  refine x_seq (x_asgN (x_lst (x_cons (x_c (x_cons (x_c (x_cons (x_tup (x_nil (x_kTup rfl ?_ (sz_of (by simp))))))))))))
  refine x_cons (x_c (x_cons (x_un (x_c (x_neg rfl ?_)))))
  refine x_cons (x_c (x_cons (x_c (x_cons (x_c (x_cons (x_c (x_cons (x_c ?_)))))))))
  refine x_cons (x_lst (x_nil (x_kLstF rfl ?_ (sz_of (by simp)))))
  refine x_cons (x_dnewD ?_)
  refine x_cons (x_tup (x_cons (x_c (x_cons (x_tup (x_nil (x_kTup rfl (x_nil (x_kTup rfl ?_ (sz_of (by simp)))) (sz_of (by simp)))))))))
  refine x_cons (x_tup (x_cons (x_c (x_cons (x_lst (x_nil (x_kLstF rfl (x_nil (x_kTup rfl ?_ (sz_of (by simp)))) (sz_of (by simp)))))))))
  refine x_nil (x_kLstF rfl ?_ (sz_of (by simp)))
  refine x_nx ?_
  unfold as_law_s150
  refine x_seq (x_par (x_cons (x_op (x_var rfl (x_lst (x_cons (x_tup (x_cons (x_c (x_cons (x_c (x_nil (x_kTup rfl ?_ (sz_of (by simp)))))))))))))))
  refine x_cons (x_lst (x_cons (x_c (x_nil (x_kLstF rfl ?_ (sz_of (by simp)))))))
  refine x_nil (x_kLstF rfl (x_addL rfl rfl ?_ (sz_of (by simp))) (sz_of (by simp)))
  refine x_cons (x_c (x_nil ⟨rfl, ?_⟩))
  refine x_nx ?_
  unfold as_law_s151
  refine x_seq (x_for (x_rg1 (x_cons (x_c (x_nil (x_kRng1 ?_ ⟨by decide, by decide⟩))))))
  have e36 : (rng 0 (36 : Int).toNat).length = 36 := by decide
  refine loop151 _ 0 (.int 1) S _ ⟨(atom_nat (a := 1) (by decide)).wid (by decide), fun xs e => by cases e⟩ hs fun p S x4 hp hs => x_nx ?_
  rw [e36, Nat.zero_add] at hp
  refine s153_ok hs hp (fun v hv => ?_) (by simp) h
  have atm : ∀ {y : PyData}, Atom y → Vok y := fun h => vok_atom h
  simp only [List.mem_append, List.mem_cons, List.not_mem_nil, or_false] at hv
  rcases hv with (q | q | q | q | q | q | q | q | q | q | q | q | q | q) | q | q <;> subst q
  · exact atm atom_none
  · exact atm (atom_bool true)
  · exact Sml.vok (sml_of (fun x hx => nomatch hx) (by simp))
  · exact atm (atom_nat (a := 0) (by decide))
  · exact atm (atom_int (i := -1) (pow1900 (by decide)))
  · exact atm (atom_nat (a := 99) (by decide))
  · exact atm atom_most
  · exact atm atom_more
  · exact atm atom_row
  · exact atm atom_sides
  · exact Sml.vok ⟨[], .inr rfl, by simp, fun x hx => nomatch hx⟩
  · exact vok_dict
  · exact more_vok (sml_of (fun x hx => nomatch hx) (by simp))
  · exact more_vok ⟨[], .inr rfl, by simp, fun x hx => nomatch hx⟩
  · exact Sml.vok (sml_of (fun x hx => by
      simp only [List.mem_cons, List.not_mem_nil, or_false] at hx
      rcases hx with rfl | rfl
      · exact atom_most
      · exact atom_nat (a := 0) (by decide)) (by simp))
  · exact Sml.vok ⟨[.str "most"], .inr rfl, by simp, atoms_one atom_most⟩
theorem ok_law {K : PySem.W.Frag} {ds : List D} {M : Sto} {Ψ : K1} (h : sp_law K ds M Ψ) : aBody N_law (as_law K) ds M Ψ := by
  obtain ⟨ns, rfl, hl, rfl, h⟩ := h
  refine x_body ?_
  unfold as_law
  refine x_seq (x_asgN (x_callO (x_cons (x_var rfl (x_nil (x_kCallO rfl ⟨ns, rfl, hl, rfl, fun M' hs => x_nx ?_⟩))))))
  have := s149_ok (K := { nx := fun _ M' => Ψ (.dat .none) M', rt := Ψ }) (S := M') (R := []) (x0 := some (.scr K ns)) (x2 := none) (x3 := none) (x4 := none) (x5 := none) (x6 := none) (x7 := none) (x8 := none) (x9 := none) (x10 := none) (x11 := none) (x12 := none) (x13 := none) (x14 := none) (x15 := none) (x16 := none) (x17 := none) (x18 := none) (x19 := none) (x20 := none) (x21 := none) (x22 := none) (x23 := none) (x24 := none) (x25 := none) (x26 := none) (x27 := none) (x28 := none) (x29 := none) (x30 := none) (x31 := none) hs h
  rw [List.append_nil] at this
  exact this
end K17
end

section
set_option Elab.async false
set_option linter.all false
set_option maxRecDepth 100000
set_option maxHeartbeats 0
namespace K17
open PySem PySem.Spec PyProof.Rows L2 AM
section
variable {P : Program} {w : World} {K : PySem.W.Frag} {mg : Str → Option Value} {base : Heap}
theorem join (B : Blt mg)
    {f_is_number : Addr} {fd_is_number : FuncData} (F_is_number : FunD K "is_number" "is_number" (defArgs s_is_number) (defBody s_is_number) (defScope s_is_number) [] [] f_is_number fd_is_number) (g_is_number : mg "is_number" = some (.ref f_is_number)) (b_is_number : Binds K fd_is_number ["value"] [])
    {f_divisor_of : Addr} {fd_divisor_of : FuncData} (F_divisor_of : FunD K "divisor_of" "divisor_of" (defArgs s_divisor_of) (defBody s_divisor_of) (defScope s_divisor_of) [] [] f_divisor_of fd_divisor_of) (g_divisor_of : mg "divisor_of" = some (.ref f_divisor_of)) (b_divisor_of : Binds K fd_divisor_of ["a", "b"] [])
    {f_press_of : Addr} {fd_press_of : FuncData} (F_press_of : FunD K "press_of" "press_of" (defArgs s_press_of) (defBody s_press_of) (defScope s_press_of) [] [] f_press_of fd_press_of) (g_press_of : mg "press_of" = some (.ref f_press_of)) (b_press_of : Binds K fd_press_of ["jobs", "lot"] [])
    {f_is_press_less : Addr} {fd_is_press_less : FuncData} (F_is_press_less : FunD K "is_press_less" "is_press_less" (defArgs s_is_press_less) (defBody s_is_press_less) (defScope s_is_press_less) [] [] f_is_press_less fd_is_press_less) (g_is_press_less : mg "is_press_less" = some (.ref f_is_press_less)) (b_is_press_less : Binds K fd_is_press_less ["one", "other"] [])
    {f_is_first_lot : Addr} {fd_is_first_lot : FuncData} (F_is_first_lot : FunD K "is_first_lot" "is_first_lot" (defArgs s_is_first_lot) (defBody s_is_first_lot) (defScope s_is_first_lot) [] [] f_is_first_lot fd_is_first_lot) (g_is_first_lot : mg "is_first_lot" = some (.ref f_is_first_lot)) (b_is_first_lot : Binds K fd_is_first_lot ["aheads", "lot"] [])
    {f_lots_among : Addr} {fd_lots_among : FuncData} (F_lots_among : FunD K "lots_among" "lots_among" (defArgs s_lots_among) (defBody s_lots_among) (defScope s_lots_among) [] [] f_lots_among fd_lots_among) (g_lots_among : mg "lots_among" = some (.ref f_lots_among)) (b_lots_among : Binds K fd_lots_among ["some"] [])
    {f_greatest_among : Addr} {fd_greatest_among : FuncData} (F_greatest_among : FunD K "greatest_among" "greatest_among" (defArgs s_greatest_among) (defBody s_greatest_among) (defScope s_greatest_among) [] [] f_greatest_among fd_greatest_among) (g_greatest_among : mg "greatest_among" = some (.ref f_greatest_among)) (b_greatest_among : Binds K fd_greatest_among ["jobs", "some", "aheads"] [])
    {f_greatest_first_lot : Addr} {fd_greatest_first_lot : FuncData} (F_greatest_first_lot : FunD K "greatest_first_lot" "greatest_first_lot" (defArgs s_greatest_first_lot) (defBody s_greatest_first_lot) (defScope s_greatest_first_lot) [] [] f_greatest_first_lot fd_greatest_first_lot) (g_greatest_first_lot : mg "greatest_first_lot" = some (.ref f_greatest_first_lot)) (b_greatest_first_lot : Binds K fd_greatest_first_lot ["jobs", "aheads"] [])
    {f_press_paper : Addr} {fd_press_paper : FuncData} (F_press_paper : FunD K "press_paper" "press_paper" (defArgs s_press_paper) (defBody s_press_paper) (defScope s_press_paper) [] [] f_press_paper fd_press_paper) (g_press_paper : mg "press_paper" = some (.ref f_press_paper)) (b_press_paper : Binds K fd_press_paper ["jobs", "aheads", "lot"] [])
    {f_is_lot_told : Addr} {fd_is_lot_told : FuncData} (F_is_lot_told : FunD K "is_lot_told" "is_lot_told" (defArgs s_is_lot_told) (defBody s_is_lot_told) (defScope s_is_lot_told) [] [] f_is_lot_told fd_is_lot_told) (g_is_lot_told : mg "is_lot_told" = some (.ref f_is_lot_told)) (b_is_lot_told : Binds K fd_is_lot_told ["n", "value"] [])
    {f_judge_press : Addr} {fd_judge_press : FuncData} (F_judge_press : FunD K "judge_press" "judge_press" (defArgs s_judge_press) (defBody s_judge_press) (defScope s_judge_press) [] [] f_judge_press fd_judge_press) (g_judge_press : mg "judge_press" = some (.ref f_judge_press)) (b_judge_press : Binds K fd_judge_press ["jobs", "aheads", "lot", "value"] [])
    {f_is_shape : Addr} {fd_is_shape : FuncData} (F_is_shape : FunD K "is_shape" "is_shape" (defArgs s_is_shape) (defBody s_is_shape) (defScope s_is_shape) [] [] f_is_shape fd_is_shape) (g_is_shape : mg "is_shape" = some (.ref f_is_shape)) (b_is_shape : Binds K fd_is_shape ["n", "value"] [])
    {f__law_open_cells : Addr} {fd__law_open_cells : FuncData} (F__law_open_cells : FunD K "_law_open_cells" "_law_open_cells" (defArgs s__law_open_cells) (defBody s__law_open_cells) (defScope s__law_open_cells) [] [] f__law_open_cells fd__law_open_cells) (g__law_open_cells : mg "_law_open_cells" = some (.ref f__law_open_cells)) (b__law_open_cells : Binds K fd__law_open_cells ["script"] [])
    {f__law_pick : Addr} {fd__law_pick : FuncData} (F__law_pick : FunD K "_law_pick" "_law_pick" (defArgs s__law_pick) (defBody s__law_pick) (defScope s__law_pick) [] [] f__law_pick fd__law_pick) (g__law_pick : mg "_law_pick" = some (.ref f__law_pick)) (b__law_pick : Binds K fd__law_pick ["source", "most"] [])
    {f__law_of : Addr} {fd__law_of : FuncData} (F__law_of : FunD K "_law_of" "_law_of" (defArgs s__law_of) (defBody s__law_of) (defScope s__law_of) [] [] f__law_of fd__law_of) (g__law_of : mg "_law_of" = some (.ref f__law_of)) (b__law_of : Binds K fd__law_of ["source", "some"] [])
    {f__law_mixed : Addr} {fd__law_mixed : FuncData} (F__law_mixed : FunD K "_law_mixed" "_law_mixed" (defArgs s__law_mixed) (defBody s__law_mixed) (defScope s__law_mixed) [] [] f__law_mixed fd__law_mixed) (g__law_mixed : mg "_law_mixed" = some (.ref f__law_mixed)) (b__law_mixed : Binds K fd__law_mixed ["source", "things"] [])
    {f__law_is_int : Addr} {fd__law_is_int : FuncData} (F__law_is_int : FunD K "_law_is_int" "_law_is_int" (defArgs s__law_is_int) (defBody s__law_is_int) (defScope s__law_is_int) [] [] f__law_is_int fd__law_is_int) (g__law_is_int : mg "_law_is_int" = some (.ref f__law_is_int)) (b__law_is_int : Binds K fd__law_is_int ["value"] [])
    {f__law_weighted : Addr} {fd__law_weighted : FuncData} (F__law_weighted : FunD K "_law_weighted" "_law_weighted" (defArgs s__law_weighted) (defBody s__law_weighted) (defScope s__law_weighted) [] [] f__law_weighted fd__law_weighted) (g__law_weighted : mg "_law_weighted" = some (.ref f__law_weighted)) (b__law_weighted : Binds K fd__law_weighted ["source", "n", "most"] [])
    {f__law_press : Addr} {fd__law_press : FuncData} (F__law_press : FunD K "_law_press" "_law_press" (defArgs s__law_press) (defBody s__law_press) (defScope s__law_press) [] [] f__law_press fd__law_press) (g__law_press : mg "_law_press" = some (.ref f__law_press)) (b__law_press : Binds K fd__law_press ["jobs", "lot"] [])
    {f__law_is_less : Addr} {fd__law_is_less : FuncData} (F__law_is_less : FunD K "_law_is_less" "_law_is_less" (defArgs s__law_is_less) (defBody s__law_is_less) (defScope s__law_is_less) [] [] f__law_is_less fd__law_is_less) (g__law_is_less : mg "_law_is_less" = some (.ref f__law_is_less)) (b__law_is_less : Binds K fd__law_is_less ["one", "other"] [])
    {f__law_is_first : Addr} {fd__law_is_first : FuncData} (F__law_is_first : FunD K "_law_is_first" "_law_is_first" (defArgs s__law_is_first) (defBody s__law_is_first) (defScope s__law_is_first) [] [] f__law_is_first fd__law_is_first) (g__law_is_first : mg "_law_is_first" = some (.ref f__law_is_first)) (b__law_is_first : Binds K fd__law_is_first ["aheads", "lot"] [])
    {f__law_greatest : Addr} {fd__law_greatest : FuncData} (F__law_greatest : FunD K "_law_greatest" "_law_greatest" (defArgs s__law_greatest) (defBody s__law_greatest) (defScope s__law_greatest) [] [] f__law_greatest fd__law_greatest) (g__law_greatest : mg "_law_greatest" = some (.ref f__law_greatest)) (b__law_greatest : Binds K fd__law_greatest ["jobs", "aheads"] [])
    {f__law_fault : Addr} {fd__law_fault : FuncData} (F__law_fault : FunD K "_law_fault" "_law_fault" (defArgs s__law_fault) (defBody s__law_fault) (defScope s__law_fault) [] [] f__law_fault fd__law_fault) (g__law_fault : mg "_law_fault" = some (.ref f__law_fault)) (b__law_fault : Binds K fd__law_fault ["jobs", "aheads", "lot", "due", "value"] [])
    {f__law_is_shape : Addr} {fd__law_is_shape : FuncData} (F__law_is_shape : FunD K "_law_is_shape" "_law_is_shape" (defArgs s__law_is_shape) (defBody s__law_is_shape) (defScope s__law_is_shape) [] [] f__law_is_shape fd__law_is_shape) (g__law_is_shape : mg "_law_is_shape" = some (.ref f__law_is_shape)) (b__law_is_shape : Binds K fd__law_is_shape ["n", "value"] [])
    {f_law : Addr} {fd_law : FuncData} (F_law : FunD K "law" "law" (defArgs s_law) (defBody s_law) (defScope s_law) [] [] f_law fd_law) :
    FnG P w K mg base 7 f_law fd_law ["script"] (sp_law K) := by
  have C_is_number : Cg P w K mg base 1 "is_number" 1 sp_is_number := ⟨⟨f_is_number, fd_is_number, _, rfl, (w_is_number F_is_number B ).imp fun ds M Ψ _ h => ok_is_number h, g_is_number, F_is_number.kp, b_is_number⟩⟩
  have C_divisor_of : Cg P w K mg base 1 "divisor_of" 2 sp_divisor_of := ⟨⟨f_divisor_of, fd_divisor_of, _, rfl, (w_divisor_of F_divisor_of B ).imp fun ds M Ψ _ h => ok_divisor_of h, g_divisor_of, F_divisor_of.kp, b_divisor_of⟩⟩
  have C_press_of : Cg P w K mg base 2 "press_of" 2 sp_press_of := ⟨⟨f_press_of, fd_press_of, _, rfl, (w_press_of F_press_of B C_divisor_of).imp fun ds M Ψ _ h => ok_press_of h, g_press_of, F_press_of.kp, b_press_of⟩⟩
  have C_is_press_less : Cg P w K mg base 1 "is_press_less" 2 sp_is_press_less := ⟨⟨f_is_press_less, fd_is_press_less, _, rfl, (w_is_press_less F_is_press_less B ).imp fun ds M Ψ _ h => ok_is_press_less h, g_is_press_less, F_is_press_less.kp, b_is_press_less⟩⟩
  have C_is_first_lot : Cg P w K mg base 1 "is_first_lot" 2 sp_is_first_lot := ⟨⟨f_is_first_lot, fd_is_first_lot, _, rfl, (w_is_first_lot F_is_first_lot B ).imp fun ds M Ψ _ h => ok_is_first_lot h, g_is_first_lot, F_is_first_lot.kp, b_is_first_lot⟩⟩
  have C_lots_among : Cg P w K mg base 1 "lots_among" 1 sp_lots_among := ⟨⟨f_lots_among, fd_lots_among, _, rfl, (w_lots_among F_lots_among B ).imp fun ds M Ψ _ h => ok_lots_among h, g_lots_among, F_lots_among.kp, b_lots_among⟩⟩
  have C_greatest_among : Cg P w K mg base 3 "greatest_among" 3 sp_greatest_among := ⟨⟨f_greatest_among, fd_greatest_among, _, rfl, (w_greatest_among F_greatest_among B C_lots_among C_is_first_lot C_press_of C_is_press_less).imp fun ds M Ψ _ h => ok_greatest_among h, g_greatest_among, F_greatest_among.kp, b_greatest_among⟩⟩
  have C_greatest_first_lot : Cg P w K mg base 4 "greatest_first_lot" 2 sp_greatest_first_lot := ⟨⟨f_greatest_first_lot, fd_greatest_first_lot, _, rfl, (w_greatest_first_lot F_greatest_first_lot B C_greatest_among).imp fun ds M Ψ _ h => ok_greatest_first_lot h, g_greatest_first_lot, F_greatest_first_lot.kp, b_greatest_first_lot⟩⟩
  have C_press_paper : Cg P w K mg base 5 "press_paper" 3 sp_press_paper := ⟨⟨f_press_paper, fd_press_paper, _, rfl, (w_press_paper F_press_paper B C_greatest_first_lot C_press_of C_is_press_less).imp fun ds M Ψ _ h => ok_press_paper h, g_press_paper, F_press_paper.kp, b_press_paper⟩⟩
  have C_is_lot_told : Cg P w K mg base 2 "is_lot_told" 2 sp_is_lot_told := ⟨⟨f_is_lot_told, fd_is_lot_told, _, rfl, (w_is_lot_told F_is_lot_told B C_is_number).imp fun ds M Ψ _ h => ok_is_lot_told h, g_is_lot_told, F_is_lot_told.kp, b_is_lot_told⟩⟩
  have C_judge_press : Cg P w K mg base 6 "judge_press" 4 sp_judge_press := ⟨⟨f_judge_press, fd_judge_press, _, rfl, (w_judge_press F_judge_press B C_press_paper C_is_lot_told C_press_of C_is_press_less).imp fun ds M Ψ _ h => ok_judge_press h, g_judge_press, F_judge_press.kp, b_judge_press⟩⟩
  have C_is_shape : Cg P w K mg base 2 "is_shape" 2 sp_is_shape := ⟨⟨f_is_shape, fd_is_shape, _, rfl, (w_is_shape F_is_shape B C_is_number).imp fun ds M Ψ _ h => ok_is_shape h, g_is_shape, F_is_shape.kp, b_is_shape⟩⟩
  have C__law_open_cells : Cg P w K mg base 1 "_law_open_cells" 1 (sp__law_open_cells K) := ⟨⟨f__law_open_cells, fd__law_open_cells, _, rfl, (w__law_open_cells F__law_open_cells B ).imp fun ds M Ψ _ h => ok__law_open_cells (K := K) h, g__law_open_cells, F__law_open_cells.kp, b__law_open_cells⟩⟩
  have C__law_pick : Cg P w K mg base 1 "_law_pick" 2 sp__law_pick := ⟨⟨f__law_pick, fd__law_pick, _, rfl, (w__law_pick F__law_pick B ).imp fun ds M Ψ _ h => ok__law_pick h, g__law_pick, F__law_pick.kp, b__law_pick⟩⟩
  have C__law_of : Cg P w K mg base 2 "_law_of" 2 sp__law_of := ⟨⟨f__law_of, fd__law_of, _, rfl, (w__law_of F__law_of B C__law_pick).imp fun ds M Ψ _ h => ok__law_of h, g__law_of, F__law_of.kp, b__law_of⟩⟩
  have C__law_mixed : Cg P w K mg base 2 "_law_mixed" 2 sp__law_mixed := ⟨⟨f__law_mixed, fd__law_mixed, _, rfl, (w__law_mixed F__law_mixed B C__law_pick).imp fun ds M Ψ _ h => ok__law_mixed h, g__law_mixed, F__law_mixed.kp, b__law_mixed⟩⟩
  have C__law_is_int : Cg P w K mg base 1 "_law_is_int" 1 sp__law_is_int := ⟨⟨f__law_is_int, fd__law_is_int, _, rfl, (w__law_is_int F__law_is_int B ).imp fun ds M Ψ _ h => ok__law_is_int h, g__law_is_int, F__law_is_int.kp, b__law_is_int⟩⟩
  have C__law_weighted : Cg P w K mg base 2 "_law_weighted" 3 sp__law_weighted := ⟨⟨f__law_weighted, fd__law_weighted, _, rfl, (w__law_weighted F__law_weighted B C__law_pick).imp fun ds M Ψ _ h => ok__law_weighted h, g__law_weighted, F__law_weighted.kp, b__law_weighted⟩⟩
  have C__law_press : Cg P w K mg base 1 "_law_press" 2 sp__law_press := ⟨⟨f__law_press, fd__law_press, _, rfl, (w__law_press F__law_press B ).imp fun ds M Ψ _ h => ok__law_press h, g__law_press, F__law_press.kp, b__law_press⟩⟩
  have C__law_is_less : Cg P w K mg base 1 "_law_is_less" 2 sp__law_is_less := ⟨⟨f__law_is_less, fd__law_is_less, _, rfl, (w__law_is_less F__law_is_less B ).imp fun ds M Ψ _ h => ok__law_is_less h, g__law_is_less, F__law_is_less.kp, b__law_is_less⟩⟩
  have C__law_is_first : Cg P w K mg base 1 "_law_is_first" 2 sp__law_is_first := ⟨⟨f__law_is_first, fd__law_is_first, _, rfl, (w__law_is_first F__law_is_first B ).imp fun ds M Ψ _ h => ok__law_is_first h, g__law_is_first, F__law_is_first.kp, b__law_is_first⟩⟩
  have C__law_greatest : Cg P w K mg base 2 "_law_greatest" 2 sp__law_greatest := ⟨⟨f__law_greatest, fd__law_greatest, _, rfl, (w__law_greatest F__law_greatest B C__law_is_first C__law_press C__law_is_less).imp fun ds M Ψ _ h => ok__law_greatest h, g__law_greatest, F__law_greatest.kp, b__law_greatest⟩⟩
  have C__law_fault : Cg P w K mg base 2 "_law_fault" 5 sp__law_fault := ⟨⟨f__law_fault, fd__law_fault, _, rfl, (w__law_fault F__law_fault B C__law_is_int C__law_press C__law_is_less).imp fun ds M Ψ _ h => ok__law_fault h, g__law_fault, F__law_fault.kp, b__law_fault⟩⟩
  have C__law_is_shape : Cg P w K mg base 2 "_law_is_shape" 2 sp__law_is_shape := ⟨⟨f__law_is_shape, fd__law_is_shape, _, rfl, (w__law_is_shape F__law_is_shape B C__law_is_int).imp fun ds M Ψ _ h => ok__law_is_shape h, g__law_is_shape, F__law_is_shape.kp, b__law_is_shape⟩⟩
  exact (w_law F_law B C__law_open_cells C__law_pick C__law_of C__law_weighted C__law_mixed C__law_greatest C_is_first_lot C__law_is_first C_press_of C__law_press C__law_is_less C_press_paper C_judge_press C__law_fault C_is_shape C__law_is_shape).imp fun ds M Ψ _ h => ok_law (K := K) h
end
end K17
end

section
set_option Elab.async false
set_option linter.all false
set_option maxRecDepth 100000
set_option maxHeartbeats 0
namespace K17
open PySem PySem.Spec PyProof.Rows L2 AM
def dd_is_number : He.DefD := ⟨("is_number", none), "is_number", "is_number", defArgs s_is_number, defBody s_is_number, defScope s_is_number, [], []⟩
def dd_divisor_of : He.DefD := ⟨("divisor_of", none), "divisor_of", "divisor_of", defArgs s_divisor_of, defBody s_divisor_of, defScope s_divisor_of, [], []⟩
def dd_press_of : He.DefD := ⟨("press_of", none), "press_of", "press_of", defArgs s_press_of, defBody s_press_of, defScope s_press_of, [], []⟩
def dd_is_press_less : He.DefD := ⟨("is_press_less", none), "is_press_less", "is_press_less", defArgs s_is_press_less, defBody s_is_press_less, defScope s_is_press_less, [], []⟩
def dd_is_first_lot : He.DefD := ⟨("is_first_lot", none), "is_first_lot", "is_first_lot", defArgs s_is_first_lot, defBody s_is_first_lot, defScope s_is_first_lot, [], []⟩
def dd_lots_among : He.DefD := ⟨("lots_among", none), "lots_among", "lots_among", defArgs s_lots_among, defBody s_lots_among, defScope s_lots_among, [], []⟩
def dd_greatest_among : He.DefD := ⟨("greatest_among", none), "greatest_among", "greatest_among", defArgs s_greatest_among, defBody s_greatest_among, defScope s_greatest_among, [], []⟩
def dd_greatest_first_lot : He.DefD := ⟨("greatest_first_lot", none), "greatest_first_lot", "greatest_first_lot", defArgs s_greatest_first_lot, defBody s_greatest_first_lot, defScope s_greatest_first_lot, [], []⟩
def dd_press_paper : He.DefD := ⟨("press_paper", none), "press_paper", "press_paper", defArgs s_press_paper, defBody s_press_paper, defScope s_press_paper, [], []⟩
def dd_is_lot_told : He.DefD := ⟨("is_lot_told", none), "is_lot_told", "is_lot_told", defArgs s_is_lot_told, defBody s_is_lot_told, defScope s_is_lot_told, [], []⟩
def dd_judge_press : He.DefD := ⟨("judge_press", none), "judge_press", "judge_press", defArgs s_judge_press, defBody s_judge_press, defScope s_judge_press, [], []⟩
def dd_is_shape : He.DefD := ⟨("is_shape", none), "is_shape", "is_shape", defArgs s_is_shape, defBody s_is_shape, defScope s_is_shape, [], []⟩
def dd__law_open_cells : He.DefD := ⟨("_law_open_cells", none), "_law_open_cells", "_law_open_cells", defArgs s__law_open_cells, defBody s__law_open_cells, defScope s__law_open_cells, [], []⟩
def dd__law_pick : He.DefD := ⟨("_law_pick", none), "_law_pick", "_law_pick", defArgs s__law_pick, defBody s__law_pick, defScope s__law_pick, [], []⟩
def dd__law_of : He.DefD := ⟨("_law_of", none), "_law_of", "_law_of", defArgs s__law_of, defBody s__law_of, defScope s__law_of, [], []⟩
def dd__law_mixed : He.DefD := ⟨("_law_mixed", none), "_law_mixed", "_law_mixed", defArgs s__law_mixed, defBody s__law_mixed, defScope s__law_mixed, [], []⟩
def dd__law_is_int : He.DefD := ⟨("_law_is_int", none), "_law_is_int", "_law_is_int", defArgs s__law_is_int, defBody s__law_is_int, defScope s__law_is_int, [], []⟩
def dd__law_weighted : He.DefD := ⟨("_law_weighted", none), "_law_weighted", "_law_weighted", defArgs s__law_weighted, defBody s__law_weighted, defScope s__law_weighted, [], []⟩
def dd__law_press : He.DefD := ⟨("_law_press", none), "_law_press", "_law_press", defArgs s__law_press, defBody s__law_press, defScope s__law_press, [], []⟩
def dd__law_is_less : He.DefD := ⟨("_law_is_less", none), "_law_is_less", "_law_is_less", defArgs s__law_is_less, defBody s__law_is_less, defScope s__law_is_less, [], []⟩
def dd__law_is_first : He.DefD := ⟨("_law_is_first", none), "_law_is_first", "_law_is_first", defArgs s__law_is_first, defBody s__law_is_first, defScope s__law_is_first, [], []⟩
def dd__law_greatest : He.DefD := ⟨("_law_greatest", none), "_law_greatest", "_law_greatest", defArgs s__law_greatest, defBody s__law_greatest, defScope s__law_greatest, [], []⟩
def dd__law_fault : He.DefD := ⟨("_law_fault", none), "_law_fault", "_law_fault", defArgs s__law_fault, defBody s__law_fault, defScope s__law_fault, [], []⟩
def dd__law_is_shape : He.DefD := ⟨("_law_is_shape", none), "_law_is_shape", "_law_is_shape", defArgs s__law_is_shape, defBody s__law_is_shape, defScope s__law_is_shape, [], []⟩
def dd_law : He.DefD := ⟨("law", none), "law", "law", defArgs s_law, defBody s_law, defScope s_law, [], []⟩
def fnL : List He.DefD := [dd_is_number, dd_divisor_of, dd_press_of, dd_is_press_less, dd_is_first_lot, dd_lots_among, dd_greatest_among, dd_greatest_first_lot, dd_press_paper, dd_is_lot_told, dd_judge_press, dd_is_shape, dd__law_open_cells, dd__law_pick, dd__law_of, dd__law_mixed, dd__law_is_int, dd__law_weighted, dd__law_press, dd__law_is_less, dd__law_is_first, dd__law_greatest, dd__law_fault, dd__law_is_shape, dd_law]
def faL : List He.Fa := [.glo "is_number", .glo "divisor_of", .glo "press_of", .glo "is_press_less", .glo "is_first_lot", .glo "lots_among", .glo "greatest_among", .glo "greatest_first_lot", .glo "press_paper", .glo "is_lot_told", .glo "judge_press", .glo "is_shape", .glo "_law_open_cells", .glo "_law_pick", .glo "_law_of", .glo "_law_mixed", .glo "_law_is_int", .glo "_law_weighted", .glo "_law_press", .glo "_law_is_less", .glo "_law_is_first", .glo "_law_greatest", .glo "_law_fault", .glo "_law_is_shape", .glo "law", .free "abs", .free "all", .free "bool", .free "int", .free "isinstance", .free "len", .free "list", .free "range", .free "repr", .free "sorted", .free "str", .free "sum", .free "tuple", .free "zip"]
abbrev RR : PySem.W.OpenRow := PySem.W.OpenLaw.row PySem.Challenge.rw_jobsinturn_k17_whole_press_papers_and_sh
abbrev hk : PySem.W.Hook := He.hookD 4 faL fnL
def ob (s : PySem.W.SharedT) : He.AlD := He.obsDG 4 faL fnL (HandSHeadRun.getT s)
theorem ob_eq (s : PySem.W.SharedT) : ob s = hk.obs s.abs := He.obsDG_eq (HandSHeadRun.getT_eq s)
def others : List Str := (["__name__", "is_number", "divisor_of", "press_of", "is_press_less", "is_first_lot", "lots_among", "greatest_among", "greatest_first_lot", "press_paper", "is_lot_told", "judge_press", "is_shape", "_law_open_cells", "_law_pick", "_law_of", "_law_mixed", "_law_is_int", "_law_weighted", "_law_press", "_law_is_less", "_law_is_first", "_law_greatest", "_law_fault", "_law_is_shape"] : List Str)
theorem run (w : World) : HandSHeadRun.RunEq RR (PySem.W.view RR.prog [29]) hk ob 4000 others w := by
  intro os
  kernel_rfl
section
variable {P : Program} {w : World} {K : PySem.W.Frag} {h : Heap} {mg : Str → Option Value} {f : Addr}
theorem facts (X : K.In h) (G : h.Ns mainGlobals mg) (hfa : mg ("law" : Str) = some (.ref f)) (c : He.SaysD faL fnL K) :
    ∃ fd : FuncData, (∀ (s : Shared) (v : Value), BindsTo s fd ⟨[v], []⟩ [("script", v)]) ∧ ∀ base : Heap, K.In base → base.Ns mainGlobals mg → FnG P w K mg base 7 f fd ["script"] (sp_law K) := by
  obtain ⟨fd_is_number, F_is_number⟩ := c.def_ 0 (d := dd_is_number) rfl
  obtain ⟨fd_divisor_of, F_divisor_of⟩ := c.def_ 1 (d := dd_divisor_of) rfl
  obtain ⟨fd_press_of, F_press_of⟩ := c.def_ 2 (d := dd_press_of) rfl
  obtain ⟨fd_is_press_less, F_is_press_less⟩ := c.def_ 3 (d := dd_is_press_less) rfl
  obtain ⟨fd_is_first_lot, F_is_first_lot⟩ := c.def_ 4 (d := dd_is_first_lot) rfl
  obtain ⟨fd_lots_among, F_lots_among⟩ := c.def_ 5 (d := dd_lots_among) rfl
  obtain ⟨fd_greatest_among, F_greatest_among⟩ := c.def_ 6 (d := dd_greatest_among) rfl
  obtain ⟨fd_greatest_first_lot, F_greatest_first_lot⟩ := c.def_ 7 (d := dd_greatest_first_lot) rfl
  obtain ⟨fd_press_paper, F_press_paper⟩ := c.def_ 8 (d := dd_press_paper) rfl
  obtain ⟨fd_is_lot_told, F_is_lot_told⟩ := c.def_ 9 (d := dd_is_lot_told) rfl
  obtain ⟨fd_judge_press, F_judge_press⟩ := c.def_ 10 (d := dd_judge_press) rfl
  obtain ⟨fd_is_shape, F_is_shape⟩ := c.def_ 11 (d := dd_is_shape) rfl
  obtain ⟨fd__law_open_cells, F__law_open_cells⟩ := c.def_ 12 (d := dd__law_open_cells) rfl
  obtain ⟨fd__law_pick, F__law_pick⟩ := c.def_ 13 (d := dd__law_pick) rfl
  obtain ⟨fd__law_of, F__law_of⟩ := c.def_ 14 (d := dd__law_of) rfl
  obtain ⟨fd__law_mixed, F__law_mixed⟩ := c.def_ 15 (d := dd__law_mixed) rfl
  obtain ⟨fd__law_is_int, F__law_is_int⟩ := c.def_ 16 (d := dd__law_is_int) rfl
  obtain ⟨fd__law_weighted, F__law_weighted⟩ := c.def_ 17 (d := dd__law_weighted) rfl
  obtain ⟨fd__law_press, F__law_press⟩ := c.def_ 18 (d := dd__law_press) rfl
  obtain ⟨fd__law_is_less, F__law_is_less⟩ := c.def_ 19 (d := dd__law_is_less) rfl
  obtain ⟨fd__law_is_first, F__law_is_first⟩ := c.def_ 20 (d := dd__law_is_first) rfl
  obtain ⟨fd__law_greatest, F__law_greatest⟩ := c.def_ 21 (d := dd__law_greatest) rfl
  obtain ⟨fd__law_fault, F__law_fault⟩ := c.def_ 22 (d := dd__law_fault) rfl
  obtain ⟨fd__law_is_shape, F__law_is_shape⟩ := c.def_ 23 (d := dd__law_is_shape) rfl
  obtain ⟨fd_law, F_law⟩ := c.def_ 24 (d := dd_law) rfl
  have e := hfa.symm.trans (He.glo_ok X G (c.fact 24 (f := .glo "law") rfl))
  cases e
  have B : Blt mg := ⟨He.free_ok X G (c.fact 25 (f := .free "abs") rfl), He.free_ok X G (c.fact 26 (f := .free "all") rfl), He.free_ok X G (c.fact 27 (f := .free "bool") rfl), He.free_ok X G (c.fact 28 (f := .free "int") rfl), He.free_ok X G (c.fact 29 (f := .free "isinstance") rfl), He.free_ok X G (c.fact 30 (f := .free "len") rfl), He.free_ok X G (c.fact 31 (f := .free "list") rfl), He.free_ok X G (c.fact 32 (f := .free "range") rfl), He.free_ok X G (c.fact 33 (f := .free "repr") rfl), He.free_ok X G (c.fact 34 (f := .free "sorted") rfl), He.free_ok X G (c.fact 35 (f := .free "str") rfl), He.free_ok X G (c.fact 36 (f := .free "sum") rfl), He.free_ok X G (c.fact 37 (f := .free "tuple") rfl), He.free_ok X G (c.fact 38 (f := .free "zip") rfl)⟩
  have b := FunD.bindsA (ps := ["script"]) F_law fun _ _ _ _ _ _ us hl => match us, hl with | [_], _ => rfl
  refine ⟨fd_law, fun s v => b s [v] rfl, fun base _ _ => ?_⟩
  have b_is_number : Binds K fd_is_number ["value"] [] := F_is_number.bindsN fun _ _ _ _ _ _ us hl => match us, hl with | [_], _ => rfl
  have b_divisor_of : Binds K fd_divisor_of ["a", "b"] [] := F_divisor_of.bindsN fun _ _ _ _ _ _ us hl => match us, hl with | [_, _], _ => rfl
  have b_press_of : Binds K fd_press_of ["jobs", "lot"] [] := F_press_of.bindsN fun _ _ _ _ _ _ us hl => match us, hl with | [_, _], _ => rfl
  have b_is_press_less : Binds K fd_is_press_less ["one", "other"] [] := F_is_press_less.bindsN fun _ _ _ _ _ _ us hl => match us, hl with | [_, _], _ => rfl
  have b_is_first_lot : Binds K fd_is_first_lot ["aheads", "lot"] [] := F_is_first_lot.bindsN fun _ _ _ _ _ _ us hl => match us, hl with | [_, _], _ => rfl
  have b_lots_among : Binds K fd_lots_among ["some"] [] := F_lots_among.bindsN fun _ _ _ _ _ _ us hl => match us, hl with | [_], _ => rfl
  have b_greatest_among : Binds K fd_greatest_among ["jobs", "some", "aheads"] [] := F_greatest_among.bindsN fun _ _ _ _ _ _ us hl => match us, hl with | [_, _, _], _ => rfl
  have b_greatest_first_lot : Binds K fd_greatest_first_lot ["jobs", "aheads"] [] := F_greatest_first_lot.bindsN fun _ _ _ _ _ _ us hl => match us, hl with | [_, _], _ => rfl
  have b_press_paper : Binds K fd_press_paper ["jobs", "aheads", "lot"] [] := F_press_paper.bindsN fun _ _ _ _ _ _ us hl => match us, hl with | [_, _, _], _ => rfl
  have b_is_lot_told : Binds K fd_is_lot_told ["n", "value"] [] := F_is_lot_told.bindsN fun _ _ _ _ _ _ us hl => match us, hl with | [_, _], _ => rfl
  have b_judge_press : Binds K fd_judge_press ["jobs", "aheads", "lot", "value"] [] := F_judge_press.bindsN fun _ _ _ _ _ _ us hl => match us, hl with | [_, _, _, _], _ => rfl
  have b_is_shape : Binds K fd_is_shape ["n", "value"] [] := F_is_shape.bindsN fun _ _ _ _ _ _ us hl => match us, hl with | [_, _], _ => rfl
  have b__law_open_cells : Binds K fd__law_open_cells ["script"] [] := F__law_open_cells.bindsN fun _ _ _ _ _ _ us hl => match us, hl with | [_], _ => rfl
  have b__law_pick : Binds K fd__law_pick ["source", "most"] [] := F__law_pick.bindsN fun _ _ _ _ _ _ us hl => match us, hl with | [_, _], _ => rfl
  have b__law_of : Binds K fd__law_of ["source", "some"] [] := F__law_of.bindsN fun _ _ _ _ _ _ us hl => match us, hl with | [_, _], _ => rfl
  have b__law_mixed : Binds K fd__law_mixed ["source", "things"] [] := F__law_mixed.bindsN fun _ _ _ _ _ _ us hl => match us, hl with | [_, _], _ => rfl
  have b__law_is_int : Binds K fd__law_is_int ["value"] [] := F__law_is_int.bindsN fun _ _ _ _ _ _ us hl => match us, hl with | [_], _ => rfl
  have b__law_weighted : Binds K fd__law_weighted ["source", "n", "most"] [] := F__law_weighted.bindsN fun _ _ _ _ _ _ us hl => match us, hl with | [_, _, _], _ => rfl
  have b__law_press : Binds K fd__law_press ["jobs", "lot"] [] := F__law_press.bindsN fun _ _ _ _ _ _ us hl => match us, hl with | [_, _], _ => rfl
  have b__law_is_less : Binds K fd__law_is_less ["one", "other"] [] := F__law_is_less.bindsN fun _ _ _ _ _ _ us hl => match us, hl with | [_, _], _ => rfl
  have b__law_is_first : Binds K fd__law_is_first ["aheads", "lot"] [] := F__law_is_first.bindsN fun _ _ _ _ _ _ us hl => match us, hl with | [_, _], _ => rfl
  have b__law_greatest : Binds K fd__law_greatest ["jobs", "aheads"] [] := F__law_greatest.bindsN fun _ _ _ _ _ _ us hl => match us, hl with | [_, _], _ => rfl
  have b__law_fault : Binds K fd__law_fault ["jobs", "aheads", "lot", "due", "value"] [] := F__law_fault.bindsN fun _ _ _ _ _ _ us hl => match us, hl with | [_, _, _, _, _], _ => rfl
  have b__law_is_shape : Binds K fd__law_is_shape ["n", "value"] [] := F__law_is_shape.bindsN fun _ _ _ _ _ _ us hl => match us, hl with | [_, _], _ => rfl
  exact join B F_is_number (He.glo_ok X G (c.fact 0 (f := .glo "is_number") rfl)) b_is_number
    F_divisor_of (He.glo_ok X G (c.fact 1 (f := .glo "divisor_of") rfl)) b_divisor_of
    F_press_of (He.glo_ok X G (c.fact 2 (f := .glo "press_of") rfl)) b_press_of
    F_is_press_less (He.glo_ok X G (c.fact 3 (f := .glo "is_press_less") rfl)) b_is_press_less
    F_is_first_lot (He.glo_ok X G (c.fact 4 (f := .glo "is_first_lot") rfl)) b_is_first_lot
    F_lots_among (He.glo_ok X G (c.fact 5 (f := .glo "lots_among") rfl)) b_lots_among
    F_greatest_among (He.glo_ok X G (c.fact 6 (f := .glo "greatest_among") rfl)) b_greatest_among
    F_greatest_first_lot (He.glo_ok X G (c.fact 7 (f := .glo "greatest_first_lot") rfl)) b_greatest_first_lot
    F_press_paper (He.glo_ok X G (c.fact 8 (f := .glo "press_paper") rfl)) b_press_paper
    F_is_lot_told (He.glo_ok X G (c.fact 9 (f := .glo "is_lot_told") rfl)) b_is_lot_told
    F_judge_press (He.glo_ok X G (c.fact 10 (f := .glo "judge_press") rfl)) b_judge_press
    F_is_shape (He.glo_ok X G (c.fact 11 (f := .glo "is_shape") rfl)) b_is_shape
    F__law_open_cells (He.glo_ok X G (c.fact 12 (f := .glo "_law_open_cells") rfl)) b__law_open_cells
    F__law_pick (He.glo_ok X G (c.fact 13 (f := .glo "_law_pick") rfl)) b__law_pick
    F__law_of (He.glo_ok X G (c.fact 14 (f := .glo "_law_of") rfl)) b__law_of
    F__law_mixed (He.glo_ok X G (c.fact 15 (f := .glo "_law_mixed") rfl)) b__law_mixed
    F__law_is_int (He.glo_ok X G (c.fact 16 (f := .glo "_law_is_int") rfl)) b__law_is_int
    F__law_weighted (He.glo_ok X G (c.fact 17 (f := .glo "_law_weighted") rfl)) b__law_weighted
    F__law_press (He.glo_ok X G (c.fact 18 (f := .glo "_law_press") rfl)) b__law_press
    F__law_is_less (He.glo_ok X G (c.fact 19 (f := .glo "_law_is_less") rfl)) b__law_is_less
    F__law_is_first (He.glo_ok X G (c.fact 20 (f := .glo "_law_is_first") rfl)) b__law_is_first
    F__law_greatest (He.glo_ok X G (c.fact 21 (f := .glo "_law_greatest") rfl)) b__law_greatest
    F__law_fault (He.glo_ok X G (c.fact 22 (f := .glo "_law_fault") rfl)) b__law_fault
    F__law_is_shape (He.glo_ok X G (c.fact 23 (f := .glo "_law_is_shape") rfl)) b__law_is_shape F_law
end
end K17
open PySem PySem.W PySem.Calls PyProof.Rows
theorem K17.whole : PySem.Challenge.rw_jobsinturn_k17_whole_press_papers_and_sh.Holds := by
  w_on; o_law
  refine HandSHeadRun.head_any (r := OpenLaw.row PySem.Challenge.rw_jobsinturn_k17_whole_press_papers_and_sh) (q := view (OpenLaw.row PySem.Challenge.rw_jobsinturn_k17_whole_press_papers_and_sh).prog [29]) (H := K17.hk) (ob := K17.ob) (M := 4000) (loose := K17.others) (d := HandSHeadRun.topDef (OpenLaw.row PySem.Challenge.rw_jobsinturn_k17_whole_press_papers_and_sh).prog 29) (kwd := []) K17.ob_eq
    (by kernel_rfl) (fun s => by kernel_rfl) K17.run (by kernel_rfl) (by kernel_rfl) (by kernel_rfl) (by rfl) (by first | assumption | decide +kernel) (by decide +kernel) ⟨rfl, rfl, rfl, rfl, rfl, by decide +kernel⟩ ?hw ?hc
  case hw => w_witness2
  case hc =>
    refine AM.walk_cg (l := PySem.Challenge.rw_jobsinturn_k17_whole_press_papers_and_sh) (n := 63) (k := 7) (x := "script") rfl (by decide) (by kernel_rfl) ⟨rfl, by decide, by decide⟩ ?_
    intro w mg fa h Y G hmg0
    obtain ⟨K, KX, c⟩ := Y
    have hmg : mg ("law" : PySem.Str) = some (.ref fa) := by
      have e : (HandSHeadRun.topDef (OpenLaw.row PySem.Challenge.rw_jobsinturn_k17_whole_press_papers_and_sh).prog 29).name = ("law" : PySem.Str) := by kernel_rfl
      rw [← e]
      exact hmg0
    obtain ⟨fd, hb, hF⟩ := K17.facts (P := (PySem.Challenge.rw_jobsinturn_k17_whole_press_papers_and_sh).prog) (w := w) KX G hmg c
    exact ⟨K, fd, K17.sp_law K, KX, hb, fun ns hl => ⟨ns, rfl, hl, rfl, fun _ => rfl⟩, hF⟩
end
theorem PySem.Challenge.cw_jobsinturn_k17_whole_press_papers_and_sh_holds : PySem.Challenge.rw_jobsinturn_k17_whole_press_papers_and_sh.Holds :=
  K17.whole
