import PyProof.Rows.All
import Wide.All
import OpenK.AllK
import Wide.FinOn
import HandS.ForMost
import HandS.ForExc
import HandS.Lambda
import HandS.IsInst
import HandS.TupMul
import HandS.TupAny
import HandS.Zip
import HandS.Deep
import HandS.Wide
import HandS.Style
import HandS.HotCalls
import HandS.ExcCtx
import HandS.EndTab
import KE.KTupSum
import HandS.Conv
import HandS.ExcIs
import HandS.Defaults
import HandS.SetFor
import HandS.Strs
import KE.SortKeyHeap
import HandS.SortKw
import HandS.HeadHook4
import HandS.HeadWalk
import HandS.Head0
import HandS.Head1
import HandS.Head2
import PySem.Challenge.RW_partmeans_k51_whole_greatest_misses
set_option Elab.async false
set_option linter.all false
set_option maxRecDepth 1000000
set_option maxHeartbeats 0
/-! Pz1: pure data, what is known of the heap, the relation of both. -/
namespace Pz
open PySem PySem.Spec PyProof.Rows L2

/-- pure data: no addresses; ref: a place of the store; fn: a def of the table; scr: the script -/
inductive D where
  | non
  | bl (b : Bool)
  | int (i : Int)
  | str (s : Str)
  | tup (ds : List D)
  | lst (ds : List D)
  | ref (n : Nat)
  | fn (k : Nat)
  | ty (n : String)
  | scr (ns : List Int)
  deriving Inhabited

/-- a changing thing of the store -/
inductive SO where
  | lst (ds : List D)
  deriving Inhabited
abbrev Store := List SO

/-- what is fixed of the program: the written part, the addresses of its defs and error classes, the tables of code objects -/
structure LamR where
  qual : Str
  params : Arguments
  body : Expr
  scope : Scope
  ps : List Str
  caps : List Str
structure Gc where
  K : PySem.W.Frag
  fa : Nat → Option Addr
  ca : Nat → Option Addr
  T : List (Addr × Str)
  lam : Nat → Option LamR

/-- what is known: Z never changes any more; the store's places stand at the addresses be -/
structure Wd where
  Z : Hp
  be : List Addr

mutual
inductive Dat (G : Gc) (W : Wd) : V → D → Prop
  | non : Dat G W .non .non
  | bl (b : Bool) : Dat G W (.bl b) (.bl b)
  | int (i : Int) : Dat G W (.int i) (.int i)
  | str (x : Str) : Dat G W (.str x) (.str x)
  | tup {a : Addr} {vs : List V} {ds : List D} (h : SqT G.K W.Z a vs) (hs : Dats G W vs ds) : Dat G W (.ref a) (.tup ds)
  | lst {a : Addr} {vs : List V} {ds : List D} (h : W.Z a = some (.lst vs)) (hs : Dats G W vs ds) : Dat G W (.ref a) (.lst ds)
  | ref {n : Nat} {a : Addr} (h : W.be[n]? = some a) : Dat G W (.ref a) (.ref n)
  | fn {k : Nat} {a : Addr} (h : G.fa k = some a) : Dat G W (.ref a) (.fn k)
  | ty (n : String) : Dat G W (.ty n) (.ty n)
  | scr {a : Addr} {ns : List Int} (h : SqL G.K W.Z a (ns.map V.int)) : Dat G W (.ref a) (.scr ns)
inductive Dats (G : Gc) (W : Wd) : List V → List D → Prop
  | nil : Dats G W [] []
  | cons {v : V} {d : D} {vs : List V} {ds : List D} (h : Dat G W v d) (t : Dats G W vs ds) : Dats G W (v :: vs) (d :: ds)
end

section
variable {G : Gc} {W W' : Wd}
theorem SqT.mono {K : PySem.W.Frag} {Z Z' : Hp} (hz : ∀ a o, Z a = some o → Z' a = some o) {a : Addr} {vs : List V} (h : SqT K Z a vs) : SqT K Z' a vs := by
  rcases h with (h | ⟨o, h⟩) | h
  · exact .inl (.inl (hz _ _ h))
  · exact .inl (.inr ⟨o, hz _ _ h⟩)
  · exact .inr h
theorem SqL.mono {K : PySem.W.Frag} {Z Z' : Hp} (hz : ∀ a o, Z a = some o → Z' a = some o) {a : Addr} {vs : List V} (h : SqL K Z a vs) : SqL K Z' a vs := by
  rcases h with (h | ⟨o, h⟩) | h
  · exact .inl (.inl (hz _ _ h))
  · exact .inl (.inr ⟨o, hz _ _ h⟩)
  · exact .inr h
/-- more is known -/
structure Wd.Le (W W' : Wd) : Prop where
  z : ∀ a o, W.Z a = some o → W'.Z a = some o
  b : ∀ (n : Nat) (a : Addr), W.be[n]? = some a → W'.be[n]? = some a
theorem Wd.Le.refl (W : Wd) : Wd.Le W W := ⟨fun _ _ h => h, fun _ _ h => h⟩
theorem Wd.Le.trans {W1 W2 W3 : Wd} (a : Wd.Le W1 W2) (b : Wd.Le W2 W3) : Wd.Le W1 W3 := ⟨fun x o h => b.z x o (a.z x o h), fun n x h => b.b n x (a.b n x h)⟩
mutual
theorem Dat.mono (l : Wd.Le W W') : ∀ (d : D) (v : V), Dat G W v d → Dat G W' v d
  | .non, _, h => by cases h; exact .non
  | .bl _, _, h => by cases h; exact .bl _
  | .int _, _, h => by cases h; exact .int _
  | .str _, _, h => by cases h; exact .str _
  | .tup ds, _, h => by
    cases h with
    | tup h hs => exact .tup (SqT.mono l.z h) (Dats.mono l ds _ hs)
  | .lst ds, _, h => by
    cases h with
    | lst h hs => exact .lst (l.z _ _ h) (Dats.mono l ds _ hs)
  | .ref _, _, h => by cases h with | ref h => exact .ref (l.b _ _ h)
  | .fn _, _, h => by cases h with | fn h => exact .fn h
  | .ty _, _, h => by cases h; exact .ty _
  | .scr _, _, h => by cases h with | scr h => exact .scr (SqL.mono l.z h)
theorem Dats.mono (l : Wd.Le W W') : ∀ (ds : List D) (vs : List V), Dats G W vs ds → Dats G W' vs ds
  | [], _, h => by cases h; exact .nil
  | d :: ds, _, h => by
    cases h with
    | cons h t => exact .cons (Dat.mono l d _ h) (Dats.mono l ds _ t)
end
theorem Dat.up {v : V} {d : D} (h : Dat G W v d) (l : Wd.Le W W') : Dat G W' v d := Dat.mono l d v h
theorem Dats.up {vs : List V} {ds : List D} (h : Dats G W vs ds) (l : Wd.Le W W') : Dats G W' vs ds := Dats.mono l ds vs h
theorem Dats.length {vs : List V} {ds : List D} (h : Dats G W vs ds) : vs.length = ds.length := by
  induction ds generalizing vs with
  | nil => cases h; rfl
  | cons d ds ih => cases h with | cons h t => simp [ih t]
theorem Dats.get {vs : List V} {ds : List D} (h : Dats G W vs ds) {i : Nat} {d : D} (e : ds[i]? = some d) : ∃ v, vs[i]? = some v ∧ Dat G W v d := by
  induction ds generalizing vs i with
  | nil => simp at e
  | cons d' ds ih =>
    cases h with
    | cons h t =>
      cases i with
      | zero => simp at e; subst e; exact ⟨_, rfl, h⟩
      | succ i => obtain ⟨v, e1, e2⟩ := ih t (by simpa using e); exact ⟨v, by simpa using e1, e2⟩
theorem Dats.getV {vs : List V} {ds : List D} (h : Dats G W vs ds) {i : Nat} {v : V} (e : vs[i]? = some v) : ∃ d, ds[i]? = some d ∧ Dat G W v d := by
  induction ds generalizing vs i with
  | nil => cases h; simp at e
  | cons d' ds ih =>
    cases h with
    | cons h t =>
      cases i with
      | zero => simp at e; subst e; exact ⟨_, rfl, h⟩
      | succ i => obtain ⟨v, e1, e2⟩ := ih t (by simpa using e); exact ⟨v, by simpa using e1, e2⟩
theorem Dats.append {vs ws : List V} {ds es : List D} (h : Dats G W vs ds) (k : Dats G W ws es) : Dats G W (vs ++ ws) (ds ++ es) := by
  induction ds generalizing vs with
  | nil => cases h; exact k
  | cons d ds ih => cases h with | cons h t => exact .cons h (ih t)
theorem Dats.take {vs : List V} {ds : List D} (h : Dats G W vs ds) (n : Nat) : Dats G W (vs.take n) (ds.take n) := by
  induction ds generalizing vs n with
  | nil => cases h; simp; exact .nil
  | cons d ds ih =>
    cases h with
    | cons h t =>
      cases n with
      | zero => simp; exact .nil
      | succ n => simp; exact .cons h (ih t n)
theorem Dats.drop {vs : List V} {ds : List D} (h : Dats G W vs ds) (n : Nat) : Dats G W (vs.drop n) (ds.drop n) := by
  induction ds generalizing vs n with
  | nil => cases h; simp; exact .nil
  | cons d ds ih =>
    cases h with
    | cons h t =>
      cases n with
      | zero => simp; exact .cons h t
      | succ n => simp; exact ih t n
theorem Dats.set {vs : List V} {ds : List D} (h : Dats G W vs ds) (n : Nat) {v : V} {d : D} (k : Dat G W v d) : Dats G W (vs.set n v) (ds.set n d) := by
  induction ds generalizing vs n with
  | nil => cases h; simp; exact .nil
  | cons e ds ih =>
    cases h with
    | cons h t =>
      cases n with
      | zero => simp; exact .cons k t
      | succ n => simp; exact .cons h (ih t n)
theorem Dats.rep {vs : List V} {ds : List D} (h : Dats G W vs ds) (k : Nat) : Dats G W (List.replicate k vs).flatten (List.replicate k ds).flatten := by
  induction k with
  | zero => simp; exact .nil
  | succ k ih => rw [List.replicate_succ, List.replicate_succ, List.flatten_cons, List.flatten_cons]; exact h.append ih
theorem Dats.rev {vs : List V} {ds : List D} (h : Dats G W vs ds) : Dats G W vs.reverse ds.reverse := by
  induction ds generalizing vs with
  | nil => cases h; simp; exact .nil
  | cons d ds ih => cases h with | cons h t => rw [List.reverse_cons, List.reverse_cons]; exact (ih t).append (.cons h .nil)
theorem Dats.ints : ∀ {ns : List Int} {vs : List V}, Dats G W vs (ns.map D.int) → vs = ns.map V.int
  | [], _, h => by cases h; rfl
  | n :: ns, _, h => by cases h with | cons h t => cases h; rw [Dats.ints t]; rfl
theorem Dats.bls : ∀ {ns : List Bool} {vs : List V}, Dats G W vs (ns.map D.bl) → vs = ns.map V.bl
  | [], _, h => by cases h; rfl
  | n :: ns, _, h => by cases h with | cons h t => cases h; rw [Dats.bls t]; rfl
theorem Dats.ofInts : ∀ (ns : List Int), Dats G W (ns.map V.int) (ns.map D.int)
  | [] => .nil
  | n :: ns => .cons (.int n) (Dats.ofInts ns)
end

/-- a thing of the store, in the heap -/
def SOk (G : Gc) (W : Wd) (H : Hp) (a : Addr) : SO → Prop
  | .lst ds => ∃ vs, H a = some (.lst vs) ∧ Dats G W vs ds
theorem SOk.some {G : Gc} {W : Wd} {H : Hp} {a : Addr} {so : SO} (h : SOk G W H a so) : ∃ o, H a = some o ∧ ∀ ps, o ≠ .tbl ps := by
  cases so with
  | lst ds => obtain ⟨vs, e, _⟩ := h; exact ⟨_, e, fun ps z => by cases z⟩
theorem SOk.up {G : Gc} {W W' : Wd} {H H' : Hp} {a : Addr} {so : SO} (h : SOk G W H a so) (l : Wd.Le W W') (e : H' a = H a) : SOk G W' H' a so := by
  cases so with
  | lst ds => obtain ⟨vs, q, t⟩ := h; exact ⟨vs, by rw [e]; exact q, t.up l⟩

/-- the heap bears what is known, and the store -/
structure Hok (G : Gc) (W : Wd) (H : Hp) (S : Store) : Prop where
  z : ∀ a o, W.Z a = some o → H a = some o
  nt : ∀ a ps, W.Z a ≠ some (.tbl ps)
  len : W.be.length = S.length
  nd : W.be.Nodup
  be : ∀ (n : Nat) (a : Addr) (so : SO), W.be[n]? = some a → S[n]? = some so → W.Z a = none ∧ SOk G W H a so
  tab : LamX.Tabs G.T H
theorem Hok.beat {G : Gc} {W : Wd} {H : Hp} {S : Store} (h : Hok G W H S) {a : Addr} (m : a ∈ W.be) : W.Z a = none ∧ ∃ o, H a = some o ∧ ∀ ps, o ≠ .tbl ps := by
  obtain ⟨n, hn, e⟩ := List.getElem_of_mem m
  have hs : n < S.length := by rw [← h.len]; exact hn
  obtain ⟨h1, h2⟩ := h.be n a S[n] (by rw [List.getElem?_eq_getElem hn, e]) (List.getElem?_eq_getElem hs)
  exact ⟨h1, h2.some⟩

/-- from a heap to a later one: nothing that stood there but the store's own has changed -/
structure Step (G : Gc) (W : Wd) (H : Hp) (W' : Wd) (H' : Hp) (S' : Store) : Prop where
  le : Wd.Le W W'
  zn : ∀ a o, W'.Z a = some o → W.Z a = some o ∨ H a = none ∨ ∃ q, o = LamX.CodeO a q
  bn : ∀ a, a ∈ W'.be → a ∈ W.be ∨ H a = none
  fr : ∀ a o, H a = some o → a ∉ W.be → (∀ ps, o ≠ .tbl ps) → H' a = some o
  tn : ∀ a ps, H a = some (.tbl ps) → ∃ qs, H' a = some (.tbl qs)
  ok : Hok G W' H' S'
theorem Wd.Le.mem {W W' : Wd} (l : Wd.Le W W') {a : Addr} (m : a ∈ W.be) : a ∈ W'.be := by
  obtain ⟨n, hn, e⟩ := List.getElem_of_mem m
  exact List.mem_of_getElem? (l.b n a (by rw [List.getElem?_eq_getElem hn, e]))
section
variable {G : Gc} {W W1 W2 : Wd} {H H1 H2 : Hp} {S S1 S2 : Store}
theorem Step.refl (h : Hok G W H S) : Step G W H W H S :=
  ⟨Wd.Le.refl W, fun _ _ h => .inl h, fun _ h => .inl h, fun _ _ h _ _ => h, fun _ _ h => ⟨_, h⟩, h⟩
theorem Step.gone (a : Step G W H W1 H1 S1) {x : Addr} (e : H1 x = none) : H x = none := by
  cases q : H x with
  | none => rfl
  | some o =>
    by_cases hb : x ∈ W.be
    · obtain ⟨_, o', e3, _⟩ := a.ok.beat (a.le.mem hb)
      rw [e] at e3; cases e3
    · by_cases ht : ∃ ps, o = .tbl ps
      · obtain ⟨ps, rfl⟩ := ht
        obtain ⟨qs, e3⟩ := a.tn x ps q
        rw [e] at e3; cases e3
      · have e3 := a.fr x o q hb (fun ps z => ht ⟨ps, z⟩)
        rw [e] at e3; cases e3
theorem Step.trans (a : Step G W H W1 H1 S1) (b : Step G W1 H1 W2 H2 S2) : Step G W H W2 H2 S2 := by
  refine ⟨a.le.trans b.le, fun x o e => ?_, fun x m => ?_, fun x o e hb ht => ?_, fun x ps e => ?_, b.ok⟩
  · rcases b.zn x o e with h | h | h
    · exact a.zn x o h
    · exact .inr (.inl (a.gone h))
    · exact .inr (.inr h)
  · rcases b.bn x m with h | h
    · exact a.bn x h
    · exact .inr (a.gone h)
  · have e1 := a.fr x o e hb ht
    refine b.fr x o e1 (fun m => ?_) ht
    rcases a.bn x m with h | h
    · exact hb h
    · rw [e] at h; cases h
  · obtain ⟨qs, e1⟩ := a.tn x ps e
    exact b.tn x qs e1
/-- a list that nobody knows stays so -/
theorem Step.zfree (s : Step G W H W1 H1 S1) {p : Addr} {us : List V} (h1 : H p = some (.lst us)) (h2 : W.Z p = none) (h3 : p ∉ W.be) : W1.Z p = none := by
  cases q : W1.Z p with
  | none => rfl
  | some o =>
    rcases s.zn p o q with z | z | ⟨t, z⟩
    · rw [h2] at z; cases z
    · rw [h1] at z; cases z
    · have e1 := s.fr p _ h1 h3 (fun ps z => by cases z)
      have e2 := s.ok.z p o q
      rw [e1, z] at e2
      unfold LamX.CodeO at e2
      cases e2
/-- a new thing is laid at p -/
theorem same_upd {p : Addr} {o : HO} (hp : H p = none) : ∀ a u, H a = some u → upd H p o a = some u := fun a u e => by rw [upd_ne (ne_of_none e hp)]; exact e
theorem Hok.new (h : Hok G W H S) {p : Addr} {o : HO} (hp : H p = none) : Hok G W (upd H p o) S where
  z := fun a u e => same_upd hp a u (h.z a u e)
  nt := h.nt
  len := h.len
  nd := h.nd
  be := fun n a so e1 e2 => by
    obtain ⟨z, k⟩ := h.be n a so e1 e2
    obtain ⟨u, q, _⟩ := k.some
    exact ⟨z, k.up (Wd.Le.refl W) (upd_ne (ne_of_none q hp))⟩
  tab := h.tab.ext (same_upd hp)
theorem Step.new (h : Hok G W H S) {p : Addr} {o : HO} (hp : H p = none) : Step G W H W (upd H p o) S :=
  ⟨Wd.Le.refl W, fun _ _ h => .inl h, fun _ h => .inl h, fun a u e _ _ => same_upd hp a u e, fun a ps e => ⟨ps, same_upd hp a _ e⟩, h.new hp⟩
/-- a thing that stands is known from now on -/
def Wd.add (W : Wd) (p : Addr) (o : HO) : Wd := ⟨upd W.Z p o, W.be⟩
theorem Wd.Le.add {p : Addr} {o : HO} (hp : W.Z p = none) : Wd.Le W (W.add p o) := ⟨same_upd hp, fun _ _ e => e⟩
theorem Hok.keep (h : Hok G W H S) {p : Addr} {o : HO} (hp : H p = some o) (hz : W.Z p = none) (hb : p ∉ W.be) (ht : ∀ ps, o ≠ .tbl ps) : Hok G (W.add p o) H S where
  z := fun a u e => by
    by_cases q : a = p
    · subst q
      have e' : upd W.Z a o a = some u := e
      rw [upd_same] at e'; cases e'; exact hp
    · have e' : upd W.Z p o a = some u := e
      rw [upd_ne q] at e'; exact h.z a u e'
  nt := fun a ps e => by
    have e' : upd W.Z p o a = some (.tbl ps) := e
    by_cases q : a = p
    · subst q
      rw [upd_same] at e'; cases e'; exact ht _ rfl
    · rw [upd_ne q] at e'; exact h.nt a ps e'
  len := h.len
  nd := h.nd
  be := fun n a so e1 e2 => by
    obtain ⟨z, k⟩ := h.be n a so e1 e2
    have np : a ≠ p := fun q => hb (by rw [← q]; exact List.mem_of_getElem? e1)
    exact ⟨by show upd W.Z p o a = none; rw [upd_ne np]; exact z, k.up (Wd.Le.add hz) rfl⟩
  tab := h.tab
/-- a new thing, known -/
theorem Hok.freshZ (h : Hok G W H S) {p : Addr} (hp : H p = none) : W.Z p = none ∧ p ∉ W.be := by
  refine ⟨?_, fun m => ?_⟩
  · cases q : W.Z p with
    | none => rfl
    | some u => have e := h.z p u q; rw [hp] at e; cases e
  · obtain ⟨_, u, e, _⟩ := h.beat m
    rw [hp] at e; cases e
theorem Step.newZ (h : Hok G W H S) {p : Addr} {o : HO} (hp : H p = none) (ht : ∀ ps, o ≠ .tbl ps) : Step G W H (W.add p o) (upd H p o) S := by
  obtain ⟨hz, hb⟩ := h.freshZ hp
  refine ⟨Wd.Le.add hz, fun a u e => ?_, fun _ m => .inl m, fun a u e _ _ => same_upd hp a u e, fun a ps e => ⟨ps, same_upd hp a _ e⟩, (h.new hp).keep upd_same hz hb ht⟩
  by_cases q : a = p
  · subst q; exact .inr (.inl hp)
  · have e' : upd W.Z p o a = some u := e
    rw [upd_ne q] at e'; exact .inl e'
theorem Wd.add_at (W : Wd) (p : Addr) (o : HO) : (W.add p o).Z p = some o := upd_same
/-- a new changing list, at the store's end -/
def Wd.push (W : Wd) (p : Addr) : Wd := ⟨W.Z, W.be ++ [p]⟩
theorem Wd.Le.push (W : Wd) (p : Addr) : Wd.Le W (W.push p) := ⟨fun _ _ h => h, fun n a e => by
  show (W.be ++ [p])[n]? = some a
  rw [List.getElem?_append_left (List.getElem?_eq_some_iff.mp e).1]; exact e⟩
theorem Step.cell (h : Hok G W H S) {p : Addr} {vs : List V} {ds : List D} (hp : H p = none) (hd : Dats G W vs ds) : Step G W H (W.push p) (upd H p (.lst vs)) (S ++ [.lst ds]) := by
  obtain ⟨hz, hb⟩ := h.freshZ hp
  refine ⟨Wd.Le.push W p, fun a u e => .inl e, fun a m => ?_, fun a u e _ _ => same_upd hp a u e, fun a ps e => ⟨ps, same_upd hp a _ e⟩, ?_⟩
  · have m' : a ∈ W.be ++ [p] := m
    rcases List.mem_append.mp m' with m' | m'
    · exact .inl m'
    · exact .inr (by rw [List.mem_singleton.mp m']; exact hp)
  · refine ⟨fun a u e => same_upd hp a u (h.z a u e), h.nt, ?_, ?_, fun n a so e1 e2 => ?_, h.tab.ext (same_upd hp)⟩
    · show (W.be ++ [p]).length = _
      simp [h.len]
    · show (W.be ++ [p]).Nodup
      rw [List.nodup_append]
      exact ⟨h.nd, by simp, fun a ha b hb' => by rw [List.mem_singleton.mp hb']; exact fun q => hb (q ▸ ha)⟩
    · have e1' : (W.be ++ [p])[n]? = some a := e1
      by_cases hn : n < W.be.length
      · rw [List.getElem?_append_left hn] at e1'
        rw [List.getElem?_append_left (by rw [← h.len]; exact hn)] at e2
        obtain ⟨z, k⟩ := h.be n a so e1' e2
        obtain ⟨u, q, _⟩ := k.some
        exact ⟨z, k.up (Wd.Le.push W p) (upd_ne (ne_of_none q hp))⟩
      · rw [List.getElem?_append_right (by omega)] at e1'
        rw [List.getElem?_append_right (by rw [← h.len]; omega)] at e2
        have n0 : n - W.be.length = 0 := by
          by_cases z : n - W.be.length = 0
          · exact z
          · rw [List.getElem?_eq_none (by simp; omega)] at e1'; cases e1'
        have n1 : n - S.length = 0 := by rw [← h.len]; exact n0
        rw [n0] at e1'
        rw [n1] at e2
        simp at e1' e2
        subst e1'
        subst e2
        exact ⟨hz, vs, upd_same, hd.up (Wd.Le.push W p)⟩
theorem nd_ix {A : Type} : ∀ {l : List A}, l.Nodup → ∀ {i j : Nat} {x : A}, l[i]? = some x → l[j]? = some x → i = j
  | [], _, _, _, _, h, _ => by simp at h
  | a :: l, hn, 0, 0, _, _, _ => rfl
  | a :: l, hn, 0, j + 1, x, h, k => by
    simp at h; subst h
    exact absurd (List.mem_of_getElem? (by simpa using k)) (List.nodup_cons.mp hn).1
  | a :: l, hn, i + 1, 0, x, h, k => by
    simp at k; subst k
    exact absurd (List.mem_of_getElem? (by simpa using h)) (List.nodup_cons.mp hn).1
  | a :: l, hn, i + 1, j + 1, x, h, k => congrArg (· + 1) (nd_ix (i := i) (j := j) (x := x) (List.nodup_cons.mp hn).2 (by simpa using h) (by simpa using k))
/-- a changing list is set -/
theorem Step.put (h : Hok G W H S) {n : Nat} {p : Addr} {vs : List V} {ds : List D} (hn : W.be[n]? = some p) (hd : Dats G W vs ds) : Step G W H W (upd H p (.lst vs)) (S.set n (.lst ds)) := by
  have mp := List.mem_of_getElem? hn
  obtain ⟨hz, o, ho, hnt⟩ := h.beat mp
  have np : ∀ a u, W.Z a = some u → a ≠ p := fun a u e q => by rw [q, hz] at e; cases e
  have hlt : n < S.length := by rw [← h.len]; exact (List.getElem?_eq_some_iff.mp hn).1
  have same : ∀ a, a ≠ p → upd H p (.lst vs) a = H a := fun a q => upd_ne q
  have tabs : LamX.Tabs G.T (upd H p (.lst vs)) := fun t ht => by
    obtain ⟨ps, h1, h2, h3⟩ := h.tab t ht
    have tp : t.1 ≠ p := fun q => by rw [q, ho] at h1; cases h1; exact hnt _ rfl
    refine ⟨ps, by rw [same _ tp]; exact h1, h2, fun pos cv hc => ?_⟩
    obtain ⟨c, e1, e2⟩ := h3 pos cv hc
    refine ⟨c, e1, ?_⟩
    have cp : c ≠ p := fun q => by
      obtain ⟨m, hm, e⟩ := List.getElem_of_mem mp
      have hm2 : m < S.length := by rw [← h.len]; exact hm
      obtain ⟨_, k⟩ := h.be m p S[m] (by rw [List.getElem?_eq_getElem hm, e]) (List.getElem?_eq_getElem hm2)
      cases hso : S[m] with
      | lst ds' =>
        rw [hso] at k
        obtain ⟨vs', q', _⟩ := k
        rw [q, q'] at e2
        unfold LamX.CodeO at e2
        cases e2
    rw [same _ cp]; exact e2
  refine ⟨Wd.Le.refl W, fun _ _ h => .inl h, fun _ h => .inl h, fun a u e hb _ => ?_, fun a ps e => ⟨ps, ?_⟩, ?_⟩
  · rw [same a (fun q => hb (q ▸ mp))]; exact e
  · rw [same a (fun q => by rw [q, ho] at e; cases e; exact hnt _ rfl)]; exact e
  · refine ⟨fun a u e => by rw [same a (np a u e)]; exact h.z a u e, h.nt, by rw [List.length_set]; exact h.len, h.nd, fun m a so e1 e2 => ?_, tabs⟩
    by_cases hm : m = n
    · subst hm
      rw [hn] at e1; cases e1
      rw [List.getElem?_set_self hlt] at e2
      cases e2
      exact ⟨hz, vs, upd_same, hd⟩
    · rw [List.getElem?_set_ne (Ne.symm hm)] at e2
      obtain ⟨z, k⟩ := h.be m a so e1 e2
      refine ⟨z, k.up (Wd.Le.refl W) (same a fun q => hm ?_)⟩
      subst q
      exact nd_ix h.nd e1 hn
end
end Pz

/-! Pz2: a small language for the texts of defs, and what it computes. -/
namespace Pz
open PySem PySem.Spec PyProof.Rows L2

inductive Out (A : Type) where
  | ok (a : A) (S : Store)
  | exc (c : Nat) (x : List (Str × D)) (S : Store)
  | bad
  deriving Inhabited
namespace Out
variable {A B : Type}
def bind (r : Out A) (f : A → Store → Out B) : Out B := match r with
  | .ok a S => f a S
  | .exc c x S => .exc c x S
  | .bad => .bad
def ofO (o : Option A) (S : Store) : Out A := match o with
  | some a => .ok a S
  | none => .bad
def map (f : A → B) (r : Out A) : Out B := r.bind fun a S => .ok (f a) S
/-- no error goes through -/
def calm (r : Out A) : Out A := match r with
  | .ok a S => .ok a S
  | _ => .bad
@[simp] theorem bind_ok (a : A) (S : Store) (f : A → Store → Out B) : (Out.ok a S).bind f = f a S := rfl
@[simp] theorem bind_exc (c : Nat) (x : List (Str × D)) (S : Store) (f : A → Store → Out B) : (Out.exc c x S : Out A).bind f = .exc c x S := rfl
@[simp] theorem bind_bad (f : A → Store → Out B) : (Out.bad : Out A).bind f = .bad := rfl
@[simp] theorem ofO_some (a : A) (S : Store) : ofO (some a) S = .ok a S := rfl
@[simp] theorem ofO_none (S : Store) : (ofO none S : Out A) = .bad := rfl
@[simp] theorem map_ok (f : A → B) (a : A) (S : Store) : (Out.ok a S).map f = .ok (f a) S := rfl
@[simp] theorem map_exc (f : A → B) (c : Nat) (x : List (Str × D)) (S : Store) : (Out.exc c x S : Out A).map f = .exc c x S := rfl
@[simp] theorem map_bad (f : A → B) : (Out.bad : Out A).map f = .bad := rfl
@[simp] theorem calm_ok (a : A) (S : Store) : (Out.ok a S).calm = .ok a S := rfl
end Out

/-- what a name holds: a value; a list of its own that may still grow; a lambda that was handed in -/
inductive Sl where
  | val (d : D)
  | own (ds : List D)
  | clo (k : Nat) (cap : List D)
  deriving Inhabited
abbrev Env := List (Option Sl)

inductive BOp where | add | sub | mul | fdiv | mod | pow
  deriving DecidableEq, Inhabited
inductive COp where | lt | le | gt | ge | eq | ne | isN | notN | in_ | notIn
  deriving DecidableEq, Inhabited
inductive Prim where | len | abs | max1 | min1 | max2 | min2 | sum | all | any | tuple | list | int | sortedSet | tupRange | listRange | sortSum | sortLen
  deriving DecidableEq, Inhabited
inductive Ty where | int | bool | tuple | str | list
  deriving DecidableEq, Inhabited
inductive SrcK where | seq | range1 | range2 | zip | enum
  deriving DecidableEq, Inhabited

mutual
inductive Tg where
  | nm (i : Nat)
  | tp (ts : Tgs)
inductive Tgs where
  | nil
  | cons (t : Tg) (ts : Tgs)
end

mutual
inductive IE where
  | var (i : Nat)
  | con (d : D)
  | glob (k : Nat)
  | fnv (k : Nat)
  | tup (es : IEs)
  | lst (es : IEs)
  | cel (es : IEs)
  | bin (op : BOp) (a b : IE)
  | neg (a : IE)
  | not (a : IE)
  | cmp (op : COp) (a b : IE)
  | cmp2 (op op2 : COp) (a b c : IE)
  | and (es : IEs)
  | or (es : IEs)
  | ife (c a b : IE)
  | idx (a i : IE)
  | slc (a : IE) (lo hi : IEs)
  | rev (a : IE)
  | call (k : Nat) (args : IEs)
  | callv (i : Nat) (args : IEs)
  | callc (i : Nat) (args : IEs)
  | callL (k : Nat) (args : IEs) (l : Nat) (caps : List Nat)
  | prim (p : Prim) (args : IEs)
  | isi (a : IE) (t : Ty)
  | lc (own : List Nat) (tg : Tg) (k : SrcK) (srcs : IEs) (conds : IEs) (elt : IE)
  | lc2 (own vs1 : List Nat) (tg : Tg) (k : SrcK) (srcs : IEs) (tg1 : Tg) (k1 : SrcK) (srcs1 : IEs) (elt : IE)
  | ownIx (i : Nat) (ix : IE)
  | ownLen (i : Nat)
  | ownNil (i : Nat)
  | ownSlc (i : Nat) (lo hi : IEs)
inductive IEs where
  | nil
  | cons (e : IE) (es : IEs)
end

mutual
inductive IS where
  | asg (i : Nat) (e : IE)
  | own (i : Nat) (e : IE)
  | tasg (t : Tg) (e : IE)
  | par (is js : List Nat) (es : IEs)
  | app (i : Nat) (e : IE)
  | setx (i : Nat) (ix e : IE)
  | expr (e : IE)
  | ret (e : IE)
  | retn
  | pass
  | ife (c : IE) (a b : ISs)
  | for_ (t : Tg) (k : SrcK) (srcs : IEs) (body : ISs)
  | while_ (c : IE) (body : ISs)
  | raise (c : Nat)
  | tryR (i : Nat) (body : ISs)
  | frz (i : Nat)
inductive ISs where
  | nil
  | cons (s : IS) (ss : ISs)
end

/-! ### values -/
mutual
def D.toP : D → PyData
  | .non => .none
  | .bl b => .bool b
  | .int i => .int i
  | .str s => .str s
  | .tup ds => .tuple (D.toPs ds)
  | .lst ds => .list (D.toPs ds)
  | .ref _ => .none
  | .fn _ => .none
  | .ty _ => .none
  | .scr _ => .none
def D.toPs : List D → List PyData
  | [] => []
  | d :: ds => D.toP d :: D.toPs ds
end
mutual
def D.isData : D → Bool
  | .non => true
  | .bl _ => true
  | .int _ => true
  | .str _ => true
  | .tup ds => D.areData ds
  | .lst ds => D.areData ds
  | .ref _ => false
  | .fn _ => false
  | .ty _ => false
  | .scr _ => false
def D.areData : List D → Bool
  | [] => true
  | d :: ds => D.isData d && D.areData ds
end

mutual
def D.cap (n : Nat) : D → Bool
  | .tup ds => D.allCap n ds
  | .lst ds => D.allCap n ds
  | .ref m => decide (m < n)
  | _ => true
def D.allCap (n : Nat) : List D → Bool
  | [] => true
  | d :: ds => D.cap n d && D.allCap n ds
end
def SO.cap (n : Nat) : SO → Bool
  | .lst ds => D.allCap n ds

def D.ofInts? : List D → Option (List Int)
  | [] => some []
  | .int i :: ds => (D.ofInts? ds).map (i :: ·)
  | _ :: _ => none
def D.ofBls? : List D → Option (List Bool)
  | [] => some []
  | .bl i :: ds => (D.ofBls? ds).map (i :: ·)
  | _ :: _ => none
def D.flat : D → Bool
  | .non => true
  | .bl _ => true
  | .int _ => true
  | .str _ => true
  | _ => false

/-- two factors whose product is no trouble -/
def mulOk (i j : Int) : Prop := CMul i j ∨ CMulW i j
/-- the tests stop at once at a thing that is not known -/
def mulB (i j : Int) : Bool := Nat.blt i.natAbs (2 ^ 64) || (Nat.blt j.natAbs (2 ^ 64) || Nat.blt (i.natAbs.log2 + j.natAbs.log2) 1000000)
theorem mulB_iff {i j : Int} : mulB i j = true ↔ mulOk i j := by
  unfold mulB mulOk CMul CMulW
  rw [Bool.or_eq_true, Bool.or_eq_true, Nat.blt_eq, Nat.blt_eq, Nat.blt_eq]
  constructor
  · rintro (h | h | h)
    · exact .inl (.inl (by omega))
    · exact .inl (.inr (by omega))
    · exact .inr h
  · rintro ((h | h) | h)
    · exact .inl (by omega)
    · exact .inr (.inl (by omega))
    · exact .inr (.inr h)
instance (i j : Int) : Decidable (mulOk i j) := decidable_of_iff (mulB i j = true) mulB_iff
def R62 (i : Int) : Prop := -(2 ^ 62) ≤ i ∧ i < 2 ^ 62
def r62B : Int → Bool
  | .ofNat n => Nat.blt n (2 ^ 62)
  | .negSucc n => Nat.blt n (2 ^ 62)
theorem r62B_iff {i : Int} : r62B i = true ↔ R62 i := by
  unfold R62
  cases i with
  | ofNat n =>
    show Nat.blt n (2 ^ 62) = true ↔ _
    rw [Nat.blt_eq]
    have : (Int.ofNat n) = (n : Int) := rfl
    omega
  | negSucc n =>
    show Nat.blt n (2 ^ 62) = true ↔ _
    rw [Nat.blt_eq]
    omega
instance (i : Int) : Decidable (R62 i) := decidable_of_iff (r62B i = true) r62B_iff
def divOk (j : Int) : Prop := 0 < j ∧ j.natAbs.log2 < 9000
instance (j : Int) : Decidable (divOk j) := by unfold divOk; infer_instance
def powOk (i j : Int) : Prop := 0 ≤ j ∧ j ≤ 1000000 ∧ i.natAbs < 2 ^ 64
instance (i j : Int) : Decidable (powOk i j) := by unfold powOk; infer_instance

def repL {A : Type} (k : Int) (xs : List A) : List A := (List.replicate k.toNat xs).flatten

def binD : BOp → D → D → Option D
  | .add, .int i, .int j => some (.int (i + j))
  | .add, .str x, .str y => if x.length + y.length ≤ sizeLine then some (.str (x ++ y)) else none
  | .add, .tup xs, .tup ys => if xs.length + ys.length ≤ sizeLine then some (.tup (xs ++ ys)) else none
  | .add, .lst xs, .lst ys => if xs.length + ys.length ≤ sizeLine then some (.lst (xs ++ ys)) else none
  | .sub, .int i, .int j => some (.int (i - j))
  | .mul, .int i, .int j => if mulOk i j then some (.int (i * j)) else none
  | .mul, .tup xs, .int k => if -1000 ≤ k ∧ k ≤ 1000 ∧ xs.length ≤ 1000 then some (.tup (repL k xs)) else none
  | .mul, .lst xs, .int k => if -1000 ≤ k ∧ k ≤ 1000 ∧ xs.length ≤ 1000 then some (.lst (repL k xs)) else none
  | .fdiv, .int i, .int j => if divOk j then some (.int (i / j)) else none
  | .mod, .int i, .int j => if 0 < j then some (.int (i % j)) else none
  | .pow, .int i, .int j => if powOk i j then some (.int (i ^ j.toNat)) else none
  | _, _, _ => none

/-- == of plain values -/
def scalD : D → D → Option Bool
  | .non, .non => some true
  | .int i, .int j => some (i == j)
  | .bl i, .bl j => some (i == j)
  | .str i, .str j => some (decide (i = j))
  | .non, .int _ => some false
  | .int _, .non => some false
  | .non, .bl _ => some false
  | .bl _, .non => some false
  | .non, .str _ => some false
  | .str _, .non => some false
  | .int _, .str _ => some false
  | .str _, .int _ => some false
  | .bl _, .str _ => some false
  | .str _, .bl _ => some false
  | _, _ => none
def eqD (a b : D) : Option Bool := match scalD a b with
  | some r => some r
  | none => if a.isData = true ∧ b.isData = true ∧ SeqAt.shaped a.toP = true ∧ SeqAt.shaped b.toP = true then some (PyData.eqv a.toP b.toP) else none
/-- in a list or tuple of plain values -/
def flatEq : D → D → Bool
  | .non, .non => true
  | .int i, .int j => i == j
  | .bl i, .bl j => i == j
  | .int i, .bl j => i == (if j then 1 else 0)
  | .bl i, .int j => (if i then 1 else 0) == j
  | .str x, .str y => decide (x = y)
  | _, _ => false
def inD (x : D) (xs : List D) : Option Bool := if x.flat && xs.all D.flat then some (xs.any fun y => flatEq y x) else none
def inS : D → D → Option Bool
  | x, .tup ys => inD x ys
  | x, .lst ys => match inD x ys with
    | some r => some r
    | none => if x.isData = true ∧ D.areData ys = true ∧ SeqAt.shaped x.toP = true ∧ SeqAt.shaped (D.lst ys).toP = true then some ((D.toPs ys).any fun z => PyData.eqv z x.toP) else none
  | _, _ => none
def cmpD : COp → D → D → Option Bool
  | .lt, .int i, .int j => some (decide (i < j))
  | .le, .int i, .int j => some (decide (i ≤ j))
  | .gt, .int i, .int j => some (decide (j < i))
  | .ge, .int i, .int j => some (decide (j ≤ i))
  | .lt, .str x, .str y => some (decide (x.cps.toList < y.cps.toList))
  | .eq, a, b => eqD a b
  | .ne, a, b => (eqD a b).map (!·)
  | .isN, a, .non => some (match a with | .non => true | _ => false)
  | .notN, a, .non => some (match a with | .non => false | _ => true)
  | .in_, a, b => inS a b
  | .notIn, a, b => (inS a b).map (!·)
  | _, _, _ => none

def ixD : D → D → Option D
  | .tup ds, .int i => atI ds i
  | .lst ds, .int i => atI ds i
  | .scr ns, .int i => (atI ns i).map D.int
  | .str z, .int i => if z.length ≤ sizeLine then (atI z.cps.toList i).map fun c => D.str ⟨#[c]⟩ else none
  | _, _ => none
def ixS (S : Store) : D → D → Option D
  | .ref n, y => match S[n]? with
    | some (.lst ds) => ixD (.lst ds) y
    | none => none
  | x, y => ixD x y
def cutL {A : Type} (xs : List A) (lo hi : Option Int) : List A := (xs.drop (HT.sIx xs.length 0 lo)).take (HT.sIx xs.length xs.length hi - HT.sIx xs.length 0 lo)
def slcD : D → Option Int → Option Int → Option D
  | .tup ds, lo, hi => some (.tup (cutL ds lo hi))
  | .lst ds, lo, hi => some (.lst (cutL ds lo hi))
  | _, _, _ => none
def truth : D → Option Bool
  | .bl b => some b
  | _ => none
def Ty.name : Ty → String
  | .int => "int"
  | .bool => "bool"
  | .tuple => "tuple"
  | .str => "str"
  | .list => "list"
def tyB : D → Ty → Option Bool
  | .non, _ => some false
  | .bl _, t => some (decide (t = .bool) || decide (t = .int))
  | .int _, t => some (decide (t = .int))
  | .str _, t => some (decide (t = .str))
  | .tup _, t => some (decide (t = .tuple))
  | .lst _, t => some (decide (t = .list))
  | .ref _, _ => none
  | _, _ => none
def maxI : List Int → Int
  | [] => 0
  | [a] => a
  | a :: b :: r => if a < maxI (b :: r) then maxI (b :: r) else a
def minI : List Int → Int
  | [] => 0
  | [a] => a
  | a :: b :: r => if minI (b :: r) < a then minI (b :: r) else a
/-- the ints of a list, each once, ascending -/
def insI (a : Int) : List Int → List Int
  | [] => [a]
  | b :: r => if a < b then a :: b :: r else if a = b then b :: r else b :: insI a r
def sortI (ns : List Int) : List Int := ns.foldr insI []
def rangeD (a b : Int) : List D := (List.range (b - a).toNat).map fun (i : Nat) => D.int (a + i)
def RgB (a b : Int) : Prop := -(2 ^ 62) ≤ a ∧ a < 2 ^ 62 ∧ -(2 ^ 62) ≤ b ∧ b < 2 ^ 62 ∧ (b - a).toNat ≤ 2 ^ 24
theorem rgB_iff {a b : Int} : (r62B a && (r62B b && Nat.ble (b - a).toNat (2 ^ 24))) = true ↔ RgB a b := by
  rw [Bool.and_eq_true, Bool.and_eq_true, r62B_iff, r62B_iff, Nat.ble_eq]
  unfold RgB R62
  constructor
  · rintro ⟨⟨h1, h2⟩, ⟨h3, h4⟩, h5⟩; exact ⟨h1, h2, h3, h4, h5⟩
  · rintro ⟨h1, h2, h3, h4, h5⟩; exact ⟨⟨h1, h2⟩, ⟨h3, h4⟩, h5⟩
instance (a b : Int) : Decidable (RgB a b) := decidable_of_iff _ rgB_iff
/-- sorted by a whole number, equal ones as they stood -/
def insBy (k : D → Int) (a : D) : List D → List D
  | [] => [a]
  | b :: r => if k a ≤ k b then a :: b :: r else b :: insBy k a r
def sortBy (k : D → Int) (ds : List D) : List D := ds.foldr (insBy k) []
def sumK : D → Int
  | .tup ds => match D.ofInts? ds with
    | some ns => ns.sum
    | none => 0
  | _ => 0
def lenK : D → Int
  | .tup ds => ds.length
  | _ => 0
def isIT : D → Bool
  | .tup ds => (D.ofInts? ds).isSome
  | _ => false
def isTp : D → Bool
  | .tup _ => true
  | _ => false
/-- the calls of built-ins that make nothing that changes -/
def primD : Prim → List D → Option D
  | .len, [.tup ds] => some (.int ds.length)
  | .len, [.lst ds] => some (.int ds.length)
  | .len, [.scr ds] => some (.int ds.length)
  | .len, [.str s] => if s.length ≤ sizeLine then some (.int s.length) else none
  | .abs, [.int i] => some (.int (if i < 0 then -i else i))
  | .max1, [.lst ds] => (D.ofInts? ds).bind fun ns => if ns = [] then none else some (.int (maxI ns))
  | .max1, [.tup ds] => (D.ofInts? ds).bind fun ns => if ns = [] then none else some (.int (maxI ns))
  | .min1, [.lst ds] => (D.ofInts? ds).bind fun ns => if ns = [] then none else some (.int (minI ns))
  | .max2, [.int i, .int j] => some (.int (if j > i then j else i))
  | .min2, [.int i, .int j] => some (.int (if j < i then j else i))
  | .sum, [.lst ds] => (D.ofInts? ds).map fun ns => .int ns.sum
  | .sum, [.tup ds] => (D.ofInts? ds).map fun ns => .int ns.sum
  | .all, [.lst ds] => (D.ofBls? ds).map fun bs => .bl (bs.all id)
  | .any, [.lst ds] => (D.ofBls? ds).map fun bs => .bl (bs.any id)
  | .tuple, [.lst ds] => some (.tup ds)
  | .tuple, [.tup ds] => some (.tup ds)
  | .list, [.lst ds] => some (.lst ds)
  | .list, [.tup ds] => some (.lst ds)
  | .int, [.int i] => some (.int i)
  | .int, [.bl b] => some (.int (if b then 1 else 0))
  | .sortedSet, [.lst ds] => (D.ofInts? ds).bind fun ns => if ns.length < 60 then some (.lst ((sortI ns).map D.int)) else none
  | .sortSum, [.lst ds] => if (Nat.ble ds.length 100000 && ds.all isIT) = true then some (.lst (sortBy sumK ds)) else none
  | .sortLen, [.lst ds] => if (Nat.ble ds.length 100000 && ds.all isTp) = true then some (.lst (sortBy lenK ds)) else none
  | .tupRange, [.int i] => if RgB 0 i then some (.tup (rangeD 0 i)) else none
  | .listRange, [.int i] => if RgB 0 i then some (.lst (rangeD 0 i)) else none
  | _, _ => none
def zipD (a b : List D) : List D := List.zipWith (fun x y => D.tup [x, y]) a b
def enumD (n : Nat) : List D → List D
  | [] => []
  | a :: r => .tup [.int n, a] :: enumD (n + 1) r
def seqD : D → Option (List D)
  | .tup ds => some ds
  | .lst ds => some ds
  | _ => none
/-- what a loop goes through -/
def itemsD : SrcK → List D → Option (List D)
  | .seq, [d] => seqD d
  | .range1, [.int i] => if R62 i then some (rangeD 0 i) else none
  | .range2, [.int i, .int j] => if R62 i ∧ R62 j then some (rangeD i j) else none
  | .zip, [.lst a, .lst b] => some (zipD a b)
  | .zip, [.tup a, .tup b] => some (zipD a b)
  | .zip, [.tup a, .lst b] => some (zipD a b)
  | .zip, [.lst a, .tup b] => some (zipD a b)
  | .enum, [.lst a] => some (enumD 0 a)
  | _, _ => none

/-! ### the interpreter -/
structure Orc where
  fn : Nat → List D → Option (Nat × List D) → Store → Out D
  lam : Nat → List D → List D → Store → Out D
  con : Nat → Option D
  err : Nat → Option Str

def Env.val (env : Env) (i : Nat) : Option D := match env[i]? with
  | some (some (.val d)) => some d
  | _ => none
def Env.put (env : Env) (i : Nat) (d : D) : Env := env.set i (some (.val d))
mutual
def bindT : Tg → D → Env → Option Env
  | .nm i, d, env => if i < env.length then some (env.put i d) else none
  | .tp ts, d, env => match d with
    | .tup ds => bindTs ts ds env
    | _ => none
def bindTs : Tgs → List D → Env → Option Env
  | .nil, ds, env => match ds with
    | [] => some env
    | _ => none
  | .cons t ts, ds, env => match ds with
    | d :: ds => (bindT t d env).bind fun env => bindTs ts ds env
    | [] => none
end
/-- within a comprehension: its own names forgotten, no lambda -/
def Env.blk (env : Env) (own : List Nat) : Env := (own.foldr (fun i e => e.set i none) env).map fun
  | some (.val d) => some (.val d)
  | _ => none
def compL (f : D → Store → Out (Option D)) : List D → Store → Out (List D)
  | [], S => .ok [] S
  | x :: xs, S => (f x S).bind fun y S => (compL f xs S).bind fun ys S => .ok (match y with | some d => d :: ys | none => ys) S
def compF (f : D → Store → Out (List D)) : List D → Store → Out (List D)
  | [], S => .ok [] S
  | x :: xs, S => (f x S).bind fun y S => (compF f xs S).bind fun ys S => .ok (y ++ ys) S
/-- more than one slice bound: none, one -/
def optI : List D → Option (Option Int)
  | [] => some none
  | [.int i] => some (some i)
  | _ => none

/-- the captured names' things -/
def capD (env : Env) : List Nat → Option (List D)
  | [] => some []
  | i :: is => (env.val i).bind fun d => (capD env is).map fun ds => d :: ds

mutual
def evE (o : Orc) : IE → Env → Store → Out D
  | .var i, env, S => .ofO (env.val i) S
  | .con d, _, S => .ok d S
  | .glob k, _, S => .ofO (o.con k) S
  | .fnv k, _, S => .ok (.fn k) S
  | .tup es, env, S => (evEs o es env S).bind fun ds S => if ds.length ≤ 1000 then .ok (.tup ds) S else .bad
  | .lst es, env, S => (evEs o es env S).bind fun ds S => if ds.length ≤ 1000 then .ok (.lst ds) S else .bad
  | .cel es, env, S => (evEs o es env S).bind fun ds S => if ds.length ≤ 1000 then .ok (.ref S.length) (S ++ [.lst ds]) else .bad
  | .bin op a b, env, S => (evE o a env S).bind fun x S => (evE o b env S).bind fun y S => .ofO (binD op x y) S
  | .neg a, env, S => (evE o a env S).bind fun x S => match x with
    | .int i => .ok (.int (-i)) S
    | _ => .bad
  | .not a, env, S => (evE o a env S).bind fun x S => .ofO ((truth x).map fun b => .bl (!b)) S
  | .cmp op a b, env, S => (evE o a env S).bind fun x S => (evE o b env S).bind fun y S => .ofO ((cmpD op x y).map D.bl) S
  | .cmp2 op op2 a b c, env, S => (evE o a env S).bind fun x S => (evE o b env S).bind fun y S => match cmpD op x y with
    | some true => (evE o c env S).bind fun z S => .ofO ((cmpD op2 y z).map D.bl) S
    | some false => .ok (.bl false) S
    | none => .bad
  | .and es, env, S => evAnd o es env S
  | .or es, env, S => evOr o es env S
  | .ife c a b, env, S => (evE o c env S).bind fun x S => match truth x with
    | some true => evE o a env S
    | some false => evE o b env S
    | none => .bad
  | .idx a i, env, S => (evE o a env S).bind fun x S => (evE o i env S).bind fun y S => .ofO (ixS S x y) S
  | .slc a lo hi, env, S => (evE o a env S).bind fun x S => ((evEs o lo env S).bind fun l S => .ofO (optI l) S).bind fun l S => ((evEs o hi env S).bind fun l S => .ofO (optI l) S).bind fun h S => .ofO (slcD x l h) S
  | .rev a, env, S => (evE o a env S).bind fun x S => match x with
    | .lst ds => .ok (.lst ds.reverse) S
    | _ => .bad
  | .call k args, env, S => (evEs o args env S).bind fun ds S => o.fn k ds none S
  | .callv i args, env, S => match env.val i with
    | some (.fn k) => (evEs o args env S).bind fun ds S => o.fn k ds none S
    | _ => .bad
  | .callc i args, env, S => match env[i]? with
    | some (some (.clo k cap)) => (evEs o args env S).bind fun ds S => o.lam k cap ds S
    | _ => .bad
  | .callL k args l caps, env, S => match capD env caps with
    | some cs => (evEs o args env S).bind fun ds S => o.fn k ds (some (l, cs)) S
    | none => .bad
  | .prim p args, env, S => (evEs o args env S).bind fun ds S => .ofO (primD p ds) S
  | .isi a t, env, S => (evE o a env S).bind fun x S => .ofO ((tyB x t).map D.bl) S
  | .lc own tg k srcs conds elt, env, S => (evEs o srcs env S).bind fun ds S => match itemsD k ds with
    | some its => ((compL (fun x S => match bindT tg x (env.blk own) with
        | some env' => (evAnd o conds env' S).bind fun b S => match truth b with
          | some true => (evE o elt env' S).map some
          | some false => .ok none S
          | none => .bad
        | none => .bad) its S).calm).bind fun ys S => if ys.length ≤ 1000000 then .ok (.lst ys) S else .bad
    | none => .bad
  | .lc2 own vs1 tg k srcs tg1 k1 srcs1 elt, env, S => (evEs o srcs env S).bind fun ds S => match itemsD k ds with
    | some its => ((compF (fun x S => match bindT tg x (env.blk own) with
        | some env1 => (evEs o srcs1 env1 S).bind fun ds1 S => match itemsD k1 ds1 with
          | some its1 => compL (fun y S => match bindT tg1 y (env1.blk vs1) with
            | some env2 => (evE o elt env2 S).map some
            | none => .bad) its1 S
          | none => .bad
        | none => .bad) its S).calm).bind fun ys S => if ys.length ≤ 1000000 then .ok (.lst ys) S else .bad
    | none => .bad
  | .ownIx i ix, env, S => match env[i]? with
    | some (some (.own ds)) => (evE o ix env S).bind fun y S => .ofO (ixD (.lst ds) y) S
    | _ => .bad
  | .ownLen i, env, S => match env[i]? with
    | some (some (.own ds)) => .ok (.int ds.length) S
    | _ => .bad
  | .ownNil i, env, S => match env[i]? with
    | some (some (.own ds)) => .ofO ((eqD (.lst ds) (.lst [])).map D.bl) S
    | _ => .bad
  | .ownSlc i lo hi, env, S => match env[i]? with
    | some (some (.own ds)) => ((evEs o lo env S).bind fun l S => .ofO (optI l) S).bind fun l S => ((evEs o hi env S).bind fun l S => .ofO (optI l) S).bind fun h S => .ofO (slcD (.lst ds) l h) S
    | _ => .bad
def evEs (o : Orc) : IEs → Env → Store → Out (List D)
  | .nil, _, S => .ok [] S
  | .cons e es, env, S => (evE o e env S).bind fun d S => (evEs o es env S).bind fun ds S => .ok (d :: ds) S
def evAnd (o : Orc) : IEs → Env → Store → Out D
  | .nil, _, S => .ok (.bl true) S
  | .cons e .nil, env, S => (evE o e env S).bind fun d S => .ofO ((truth d).map D.bl) S
  | .cons e es, env, S => (evE o e env S).bind fun d S => match truth d with
    | some true => evAnd o es env S
    | some false => .ok (.bl false) S
    | none => .bad
def evOr (o : Orc) : IEs → Env → Store → Out D
  | .nil, _, S => .ok (.bl false) S
  | .cons e .nil, env, S => (evE o e env S).bind fun d S => .ofO ((truth d).map D.bl) S
  | .cons e es, env, S => (evE o e env S).bind fun d S => match truth d with
    | some true => .ok (.bl true) S
    | some false => evOr o es env S
    | none => .bad
end

inductive SOut where
  | nxt (env : Env) (S : Store)
  | ret (d : D) (S : Store)
  | exc (c : Nat) (x : List (Str × D)) (env : Env) (S : Store)
  | bad
  deriving Inhabited
def SOut.bind (r : SOut) (f : Env → Store → SOut) : SOut := match r with
  | .nxt env S => f env S
  | r => r
@[simp] theorem SOut.bind_nxt (env : Env) (S : Store) (f : Env → Store → SOut) : (SOut.nxt env S).bind f = f env S := rfl
@[simp] theorem SOut.bind_ret (d : D) (S : Store) (f : Env → Store → SOut) : (SOut.ret d S).bind f = .ret d S := rfl
@[simp] theorem SOut.bind_exc (c : Nat) (x : List (Str × D)) (env : Env) (S : Store) (f : Env → Store → SOut) : (SOut.exc c x env S).bind f = .exc c x env S := rfl
@[simp] theorem SOut.bind_bad (f : Env → Store → SOut) : (SOut.bad).bind f = .bad := rfl
/-- an expression within a statement -/
def Out.st {A : Type} (r : Out A) (env : Env) (f : A → Store → SOut) : SOut := match r with
  | .ok a S => f a S
  | .exc c x S => .exc c x env S
  | .bad => .bad
@[simp] theorem Out.st_ok {A : Type} (a : A) (S : Store) (env : Env) (f : A → Store → SOut) : (Out.ok a S).st env f = f a S := rfl
@[simp] theorem Out.st_exc {A : Type} (c : Nat) (x : List (Str × D)) (S : Store) (env : Env) (f : A → Store → SOut) : (Out.exc c x S : Out A).st env f = .exc c x env S := rfl
@[simp] theorem Out.st_bad {A : Type} (env : Env) (f : A → Store → SOut) : (Out.bad : Out A).st env f = .bad := rfl
def forL (tg : Tg) (body : Env → Store → SOut) : List D → Env → Store → SOut
  | [], env, S => .nxt env S
  | x :: xs, env, S => match bindT tg x env with
    | some env' => (body env' S).bind fun env S => forL tg body xs env S
    | none => .bad
def whileL (c : Env → Store → Out D) (body : Env → Store → SOut) : Nat → Env → Store → SOut
  | 0, _, _ => .bad
  | n + 1, env, S => (c env S).st env fun d S => match truth d with
    | some true => (body env S).bind fun env S => whileL c body n env S
    | some false => .nxt env S
    | none => .bad
def putAll : List Nat → List D → Env → Option Env
  | [], [], env => some env
  | i :: is, d :: ds, env => if i < env.length then putAll is ds (env.put i d) else none
  | _, _, _ => none

def setD (ds : List D) (x d : D) : Option (List D) := match x with
  | .int k => (ixN ds.length k).map fun j => ds.set j d
  | _ => none
def putOwn : List Nat → Env → Option Env
  | [], env => some env
  | i :: is, env => if i < env.length then putOwn is (env.set i (some (.own []))) else none

mutual
def exS (o : Orc) (wf : Nat) : IS → Env → Store → SOut
  | .asg i e, env, S => (evE o e env S).st env fun d S => if i < env.length then .nxt (env.put i d) S else .bad
  | .own i e, env, S => (evE o e env S).st env fun d S => match d with
    | .lst ds => if i < env.length then .nxt (env.set i (some (.own ds))) S else .bad
    | _ => .bad
  | .tasg t e, env, S => (evE o e env S).st env fun d S => match bindT t d env with
    | some env' => .nxt env' S
    | none => .bad
  | .par is js es, env, S => (evEs o es env S).st env fun ds S => match (putAll is ds env).bind (putOwn js) with
    | some env' => .nxt env' S
    | none => .bad
  | .app i e, env, S => match env[i]? with
    | some (some (.own ds)) => (evE o e env S).st env fun d S => if ds.length ≤ 1000000 then .nxt (env.set i (some (.own (ds ++ [d])))) S else .bad
    | some (some (.val (.ref n))) => (evE o e env S).st env fun d S => match S[n]? with
      | some (.lst ds) => if ds.length ≤ 1000000 then .nxt env (S.set n (.lst (ds ++ [d]))) else .bad
      | none => .bad
    | _ => .bad
  | .setx i ix e, env, S => match env[i]? with
    | some (some (.own ds)) => (evE o e env S).st env fun d S => (evE o ix env S).st env fun x S => match setD ds x d with
      | some es => .nxt (env.set i (some (.own es))) S
      | none => .bad
    | some (some (.val (.ref n))) => (evE o e env S).st env fun d S => (evE o ix env S).st env fun x S => match S[n]? with
      | some (.lst ds) => match setD ds x d with
        | some es => .nxt env (S.set n (.lst es))
        | none => .bad
      | none => .bad
    | _ => .bad
  | .expr e, env, S => (evE o e env S).st env fun _ S => .nxt env S
  | .ret e, env, S => (evE o e env S).st env fun d S => .ret d S
  | .retn, _, S => .ret .non S
  | .pass, env, S => .nxt env S
  | .ife c a b, env, S => (evE o c env S).st env fun d S => match truth d with
    | some true => exSs o wf a env S
    | some false => exSs o wf b env S
    | none => .bad
  | .for_ t k srcs body, env, S => (evEs o srcs env S).st env fun ds S => match itemsD k ds with
    | some its => forL t (fun env S => exSs o wf body env S) its env S
    | none => .bad
  | .while_ c body, env, S => whileL (fun env S => evE o c env S) (fun env S => exSs o wf body env S) wf env S
  | .raise c, env, S => .exc c [] env S
  | .tryR i body, env, S => match exSs o wf body env S with
    | .exc c x env' S' => if i < env'.length ∧ x.isEmpty = true then match o.err c with
      | some w => .ret (.str w) S'
      | none => .bad
      else .bad
    | r => r
  | .frz i, env, S => match env[i]? with
    | some (some (.own ds)) => .nxt (env.put i (.lst ds)) S
    | _ => .bad
def exSs (o : Orc) (wf : Nat) : ISs → Env → Store → SOut
  | .nil, env, S => .nxt env S
  | .cons s ss, env, S => (exS o wf s env S).bind fun env S => exSs o wf ss env S
end

/-- a def: its names (parameters first), how many parameters, its body; whether what it laid in the store is dropped at its end; whether its last parameter is a lambda -/
structure Fn where
  n : Nat
  np : Nat
  body : ISs
  trim : Bool := false
  clo : Bool := false
structure Lam where
  np : Nat
  nc : Nat
  body : IE
structure Prog where
  fns : Array Fn
  lams : Array Lam
  cons : Array D
  errs : Array Str

def trimmed (n : Nat) : Out D → Out D
  | .ok d S => if d.cap n && (S.take n).all (SO.cap n) && decide (n ≤ S.length) then .ok d (S.take n) else .bad
  | .exc c x S => if (x.all fun p => p.2.cap n) && (S.take n).all (SO.cap n) && decide (n ≤ S.length) then .exc c x (S.take n) else .bad
  | .bad => .bad
def SOut.out : SOut → Out D
  | .nxt _ S => .ok .non S
  | .ret d S => .ok d S
  | .exc c x _ S => .exc c x S
  | .bad => .bad
def startE (f : Fn) (args : List D) (c : Option (Nat × List D)) : Env :=
  args.map (fun d => some (.val d)) ++ (match c with | some (k, cap) => [some (.clo k cap)] | none => []) ++ List.replicate (f.n - f.np) none
def cn : Option (Nat × List D) → Nat
  | some _ => 1
  | none => 0
def runF (o : Orc) (wf : Nat) (f : Fn) (args : List D) (c : Option (Nat × List D)) (S : Store) : Out D :=
  if args.length + cn c = f.np ∧ c.isSome = f.clo then
    let r := (exSs o wf f.body (startE f args c) S).out
    if f.trim then trimmed S.length r else r
  else .bad
/-- the program's defs, to a depth of calls -/
def orc (P : Prog) (wf : Nat) : Nat → Orc
  | 0 => ⟨fun _ _ _ _ => .bad, fun _ _ _ _ => .bad, fun k => P.cons[k]?, fun k => P.errs[k]?⟩
  | n + 1 => ⟨fun k args c S => match P.fns[k]? with
      | some f => runF (orc P wf n) wf f args c S
      | none => .bad, fun k cap args S => match P.lams[k]? with
      | some l => if args.length = l.np ∧ cap.length = l.nc then evE (orc P wf n) l.body ((args ++ cap).map fun d => some (.val d)) S else .bad
      | none => .bad, fun k => P.cons[k]?, fun k => P.errs[k]?⟩
end Pz

/-! Pz3: readings by the interpreter; the expressions' rules. -/
namespace Pz
open PySem PySem.Spec PyProof.Rows L2

/-- an error's object -/
def ExR (G : Gc) (W : Wd) (H : Hp) (c : Nat) (x : List (Str × D)) (cls : Value) (dO : Option Addr) : Prop :=
  ∃ C, G.ca c = some C ∧ cls = .ref C ∧ ((x = [] ∧ dO = none) ∨ ∃ dx fs, x ≠ [] ∧ dO = some dx ∧ H dx = some (.xd fs) ∧ fs.map Prod.fst = x.map Prod.fst ∧ Dats G W (fs.map Prod.snd) (x.map Prod.snd))
/-- where a lambda that was handed in stands -/
abbrev CF := Wd → V → Nat → List D → Prop
def SlOk (G : Gc) (W : Wd) (cf : CF) (H0 H : Hp) (v : V) : Sl → Prop
  | .val d => Dat G W v d
  | .own ds => ∃ a vs, v = .ref a ∧ H a = some (.lst vs) ∧ Dats G W vs ds ∧ W.Z a = none ∧ a ∉ W.be ∧ H0 a = none
  | .clo k cap => ∃ W0, Wd.Le W0 W ∧ cf W0 v k cap
structure EnvOk (G : Gc) (W : Wd) (cf : CF) (H0 H : Hp) (σ : L2.St) (env : Env) : Prop where
  len : env.length = σ.length
  get : ∀ (i : Nat) (sl : Sl), env[i]? = some (some sl) → ∃ v, σ[i]? = some (some v) ∧ SlOk G W cf H0 H v sl
  ne : ∀ (i j : Nat) (ds ds' : List D) (v : V), i ≠ j → env[i]? = some (some (.own ds)) → env[j]? = some (some (.own ds')) → σ[i]? = some (some v) → σ[j]? ≠ some (some v)
structure Cur (G : Gc) (cf : CF) (W : Wd) (H0 : Hp) (σ : L2.St) (H : Hp) (env : Env) (S : Store) : Prop where
  hok : Hok G W H S
  env : EnvOk G W cf H0 H σ env
/-- what is to follow the interpreter's answer -/
def Go {A B : Type} (G : Gc) (Wx : WX) (R : Wd → Hp → B → A → Prop) (W : Wd) (σ : L2.St) (H : Hp) (r : Out A) (Q : B → Hp → Prop) : Prop := match r with
  | .ok a S' => ∀ b W' H', Step G W H W' H' S' → R W' H' b a → Q b H'
  | .exc c x S' => ∀ cls dO W' H', Step G W H W' H' S' → ExR G W' H' c x cls dO → Wx cls dO σ H'
  | .bad => False
/-- the reading of a text that the interpreter runs -/
def tR {A B : Type} (G : Gc) (cf : CF) (Wx : WX) (R : Wd → Hp → B → A → Prop) (ev : Env → Store → Out A) : L2.St → Hp → (B → Hp → Prop) → Prop :=
  fun σ H Q => ∃ W H0 env S, Cur G cf W H0 σ H env S ∧ Go G Wx R W σ H (ev env S) Q
abbrev tE (G : Gc) (cf : CF) (Wx : WX) (ev : Env → Store → Out D) : TE := tR G cf Wx (fun W _ => Dat G W) ev
abbrev tA (G : Gc) (cf : CF) (Wx : WX) (ev : Env → Store → Out (List D)) : TA := tR G cf Wx (fun W _ => Dats G W) ev
abbrev RB : Wd → Hp → Bool → Bool → Prop := fun _ _ b a => b = a
abbrev tT (G : Gc) (cf : CF) (Wx : WX) (ev : Env → Store → Out Bool) : TT := tR G cf Wx RB ev

section
variable {G : Gc} {cf : CF} {Wx : WX} {W W1 : Wd} {H0 H H1 : Hp} {σ : L2.St} {env : Env} {S S1 : Store}
theorem SlOk.step {v : V} {sl : Sl} (s : Step G W H W1 H1 S1) (h : SlOk G W cf H0 H v sl) : SlOk G W1 cf H0 H1 v sl := by
  cases sl with
  | val d => exact Dat.up h s.le
  | clo k cap => obtain ⟨W0, l, c⟩ := h; exact ⟨W0, l.trans s.le, c⟩
  | own ds =>
    obtain ⟨a, vs, e, h1, h2, h3, h4, h5⟩ := h
    refine ⟨a, vs, e, s.fr a _ h1 h4 (fun ps z => by cases z), h2.up s.le, ?_, fun m => ?_, h5⟩
    · exact s.zfree h1 h3 h4
    · rcases s.bn a m with z | z
      · exact h4 z
      · rw [h1] at z; cases z
theorem EnvOk.step (s : Step G W H W1 H1 S1) (h : EnvOk G W cf H0 H σ env) : EnvOk G W1 cf H0 H1 σ env :=
  ⟨h.len, fun i sl e => let ⟨v, e1, k⟩ := h.get i sl e; ⟨v, e1, k.step s⟩, h.ne⟩
theorem Cur.step (s : Step G W H W1 H1 S1) (h : Cur G cf W H0 σ H env S) : Cur G cf W1 H0 σ H1 env S1 := ⟨s.ok, h.env.step s⟩
theorem Cur.val (h : Cur G cf W H0 σ H env S) {i : Nat} {d : D} (e : env.val i = some d) : ∃ v, σ[i]? = some (some v) ∧ Dat G W v d := by
  unfold Env.val at e
  split at e
  · rename_i d' e'
    cases e
    exact h.env.get i _ e'
  · cases e
section
variable {A B A' B' : Type} {R : Wd → Hp → B → A → Prop} {R' : Wd → Hp → B' → A' → Prop} {r : Out A} {Q Q' : B → Hp → Prop}
theorem Go.step (s : Step G W H W1 H1 S1) (h : Go G Wx R W σ H r Q) : Go G Wx R W1 σ H1 r Q := by
  cases r with
  | ok a S' => exact fun b W' H' t hr => h b W' H' (s.trans t) hr
  | exc c x S' => exact fun cls dO W' H' t hr => h cls dO W' H' (s.trans t) hr
  | bad => exact h
theorem Go.mono (h : Go G Wx R W σ H r Q) (hq : ∀ b H', Q b H' → Q' b H') : Go G Wx R W σ H r Q' := by
  cases r with
  | ok a S' => exact fun b W' H' t hr => hq _ _ (h b W' H' t hr)
  | exc c x S' => exact h
  | bad => exact h
theorem Go.ok {a : A} (hok : Hok G W H S) (h : Go G Wx R W σ H (.ok a S) Q) {b : B} (hr : R W H b a) : Q b H := h b W H (Step.refl hok) hr
theorem tR.cur {ev : Env → Store → Out A} (h : Cur G cf W H0 σ H env S) (g : Go G Wx R W σ H (ev env S) Q) : tR G cf Wx R ev σ H Q := ⟨W, H0, env, S, h, g⟩
/-- one part, then the rest -/
theorem tR.seq {evA : Env → Store → Out A'} {k : A' → Store → Out A} (h : Cur G cf W H0 σ H env S) (g : Go G Wx R W σ H ((evA env S).bind k) Q) {P : B' → Hp → Prop}
    (hp : ∀ b W1 H1 S1 a, Step G W H W1 H1 S1 → R' W1 H1 b a → Cur G cf W1 H0 σ H1 env S1 → Go G Wx R W1 σ H1 (k a S1) Q → P b H1) : tR G cf Wx R' evA σ H P := by
  refine ⟨W, H0, env, S, h, ?_⟩
  cases e : evA env S with
  | ok a S1 =>
    rw [e] at g
    exact fun b W' H' t hr => hp b W' H' S1 a t hr (h.step t) (Go.step t g)
  | exc c x S1 =>
    rw [e] at g
    exact fun cls dO W' H' t hr => g cls dO W' H' t hr
  | bad =>
    rw [e] at g
    exact g
end
end

theorem _root_.L2.PE.im {X : Cx} {e : Expr} {t t' : TE} (h : PE X e t) (hi : ∀ σ H Q, t' σ H Q → t σ H Q) : PE X e t' := ⟨fun pins s σ H Q I q => h.run pins s σ H Q I (hi _ _ _ q)⟩
theorem _root_.L2.PT.im {X : Cx} {e : Expr} {t t' : TT} (h : PT X e t) (hi : ∀ σ H Q, t' σ H Q → t σ H Q) : PT X e t' := ⟨fun pins s σ H Q I q => h.run pins s σ H Q I (hi _ _ _ q)⟩
theorem _root_.L2.PW.im {X : Cx} {e : Expr} {t t' : TT} (h : PW X e t) (hi : ∀ σ H Q, t' σ H Q → t σ H Q) : PW X e t' := ⟨fun wh pins s σ H Q I q => h.run wh pins s σ H Q I (hi _ _ _ q)⟩
theorem _root_.L2.PA.im {X : Cx} {es : List Expr} {t t' : TA} (h : PA X es t) (hi : ∀ σ H Q, t' σ H Q → t σ H Q) : PA X es t' := ⟨fun pos pins s σ H Q I q => h.run pos pins s σ H Q I (hi _ _ _ q)⟩
theorem _root_.L2.PS.im {X : Cx} {e : Stmt} {t t' : TS} (h : PS X e t) (hi : ∀ D σ H, t' D σ H → t D σ H) : PS X e t' := ⟨fun pins s σ H D I q => h.run pins s σ H D I (hi _ _ _ q)⟩
theorem _root_.L2.PSs.im {X : Cx} {e : List Stmt} {t t' : TS} (h : PSs X e t) (hi : ∀ D σ H, t' D σ H → t D σ H) : PSs X e t' := ⟨fun pins s σ H D I q => h.run pins s σ H D I (hi _ _ _ q)⟩

section
variable {X : Cx} {G : Gc} {cf : CF} {Wx : WX} {a b c : Expr} {evA evB evC : Env → Store → Out D} {pos : Pos}

theorem re_var {i : Nat} {x : Str} (hN : X.N[i]? = some x) (hv : Vis X.env.scope x) (hd : (x == ("__debug__" : Str)) = false) (hcd : (x == ("__classdict__" : Str)) = false) :
    PE X (.Name x pos) (tE G cf Wx fun env S => .ofO (env.val i) S) := by
  refine (pe_var hN hv hd hcd).im fun σ H Q ⟨W, H0, env, S, h, g⟩ => ?_
  dsimp only at g
  cases e : env.val i with
  | none => rw [e] at g; exact g.elim
  | some d =>
    rw [e] at g
    obtain ⟨v, e1, dv⟩ := h.val e
    exact ⟨v, e1, Go.ok h.hok g dv⟩
/-- a thing that needs nothing -/
theorem re_const {e : Expr} {v : V} {d : D} (he : PE X e (tC v)) (hd : ∀ W, Dat G W v d) : PE X e (tE G cf Wx fun _ S => .ok d S) :=
  he.im fun σ H Q ⟨W, H0, env, S, h, g⟩ => Go.ok h.hok g (hd W)
theorem re_constO {e : Expr} {v : V} {d : D} {o : Option D} (ho : o = some d) (he : PE X e (tC v)) (hd : ∀ W, Dat G W v d) : PE X e (tE G cf Wx fun _ S => .ofO o S) := by
  subst ho
  exact re_const he hd
/-- two-place operations by values -/
def OpB (G : Gc) (f : D → D → Option D) (r : R2) : Prop :=
  ∀ (W : Wd) (S : Store) (x y : V) (da db d : D) (H : Hp) (Q : VK), Hok G W H S → Dat G W x da → Dat G W y db → f da db = some d → (∀ v W' H', Step G W H W' H' S → Dat G W' v d → Q v H') → r x y H Q
theorem re_op {op : Operator} {r : R2} {f : D → D → Option D} (ho : OpR X (binaryOp op) r) (hb' : OpB G f r) (ha : PE X a (tE G cf Wx evA)) (hb : PE X b (tE G cf Wx evB)) :
    PE X (.BinOp a op b pos) (tE G cf Wx fun env S => (evA env S).bind fun x S => (evB env S).bind fun y S => .ofO (f x y) S) := by
  refine (pe_op ho ha hb).im fun σ H Q ⟨W, H0, env, S, h, g⟩ => ?_
  refine tR.seq h g fun x W1 H1 S1 da s1 dx h1 g1 => ?_
  refine tR.seq h1 g1 fun y W2 H2 S2 db s2 dy h2 g2 => ?_
  cases e : f da db with
  | none => rw [e] at g2; exact g2.elim
  | some d => rw [e] at g2; exact hb' W2 S2 x y da db d H2 Q h2.hok (dx.up s2.le) dy e fun v W' H' t dv => g2 v W' H' t dv
/-- comparisons -/
theorem re_cmp {op : CmpOp} {r : R2} {f : D → D → Option Bool} (ho : OpR X (compareOp op) r) (hb' : OpB G (fun x y => (f x y).map D.bl) r) (hm : behindInMarks op b = false) (ha : PE X a (tE G cf Wx evA)) (hb : PE X b (tE G cf Wx evB)) :
    PE X (.Compare a [op] [b] pos) (tE G cf Wx fun env S => (evA env S).bind fun x S => (evB env S).bind fun y S => .ofO ((f x y).map D.bl) S) := by
  refine (pe_cmpR ho ha hb hm).im fun σ H Q ⟨W, H0, env, S, h, g⟩ => ?_
  refine tR.seq h g fun x W1 H1 S1 da s1 dx h1 g1 => ?_
  refine tR.seq h1 g1 fun y W2 H2 S2 db s2 dy h2 g2 => ?_
  cases e : (f da db).map D.bl with
  | none => rw [e] at g2; exact g2.elim
  | some d => rw [e] at g2; exact hb' W2 S2 x y da db d H2 Q h2.hok (dx.up s2.le) dy e fun v W' H' t dv => g2 v W' H' t dv
def evT (ev : Env → Store → Out D) : Env → Store → Out Bool := fun env S => (ev env S).bind fun d S => .ofO (truth d) S
theorem ret_cmp {op : CmpOp} {r : R2} {f : D → D → Option Bool} (ho : OpR X (compareOp op) r) (hb' : OpB G (fun x y => (f x y).map D.bl) r) (hm : behindInMarks op b = false) (ha : PE X a (tE G cf Wx evA)) (hb : PE X b (tE G cf Wx evB)) :
    PT X (.Compare a [op] [b] pos) (tT G cf Wx (evT fun env S => (evA env S).bind fun x S => (evB env S).bind fun y S => .ofO ((f x y).map D.bl) S)) := by
  refine (pt_cmpR ho ha hb hm).im fun σ H Q ⟨W, H0, env, S, h, g⟩ => ?_
  have assoc : evT (fun env S => (evA env S).bind fun x S => (evB env S).bind fun y S => .ofO ((f x y).map D.bl) S) env S = (evA env S).bind fun x S => (evB env S).bind fun y S => .ofO (f x y) S := by
    dsimp only [evT]
    cases evA env S with
    | bad => rfl
    | exc c x S => rfl
    | ok x S1 =>
      simp only [Out.bind_ok]
      cases evB env S1 with
      | bad => rfl
      | exc c x S => rfl
      | ok y S2 =>
        simp only [Out.bind_ok]
        cases f x y <;> rfl
  rw [assoc] at g
  refine tR.seq h g fun x W1 H1 S1 da s1 dx h1 g1 => ?_
  refine tR.seq h1 g1 fun y W2 H2 S2 db s2 dy h2 g2 => ?_
  cases e : f da db with
  | none => rw [e] at g2; exact g2.elim
  | some k =>
    rw [e] at g2
    refine hb' W2 S2 x y da db (.bl k) H2 _ h2.hok (dx.up s2.le) dy (by simp only [e]; rfl) fun v W' H' t dv => ?_
    cases dv
    exact ⟨k, rfl, g2 k W' H' t rfl⟩
/-- a test by a value that is a bool -/
theorem ret_val {e : Expr} {ev : Env → Store → Out D} (h : PE X e (tE G cf Wx ev)) (he : ∀ whole, isTrue e X.env whole = (do let v ← whole; standAt e.pos; holding [v] (truthy v))) : PT X e (tT G cf Wx (evT ev)) := by
  refine (pt_val h he).im fun σ H Q ⟨W, H0, env, S, hc, g⟩ => ?_
  refine tR.seq hc g fun x W1 H1 S1 d s1 dx h1 g1 => ?_
  cases d with
  | bl k =>
    cases dx
    exact ⟨k, rfl, Go.ok h1.hok g1 rfl⟩
  | _ => exact (show False from g1).elim
theorem re_not {evA : Env → Store → Out D} (ha : PE X a (tE G cf Wx evA)) : PE X (.UnaryOp .Not a pos) (tE G cf Wx fun env S => (evA env S).bind fun x S => .ofO ((truth x).map fun b => .bl (!b)) S) := by
  refine (pe_not ha).im fun σ H Q ⟨W, H0, env, S, h, g⟩ => ?_
  refine tR.seq h g fun x W1 H1 S1 d s1 dx h1 g1 => ?_
  cases d with
  | bl k =>
    cases dx
    exact ⟨k, rfl, Go.ok h1.hok g1 (.bl _)⟩
  | _ => exact (show False from g1).elim
theorem ret_not {evA : Env → Store → Out D} (ha : PT X a (tT G cf Wx (evT evA))) : PT X (.UnaryOp .Not a pos) (tT G cf Wx (evT fun env S => (evA env S).bind fun x S => .ofO ((truth x).map fun b => .bl (!b)) S)) := by
  refine (pt_not ha).im fun σ H Q ⟨W, H0, env, S, h, g⟩ => ?_
  have assoc : evT (fun env S => (evA env S).bind fun x S => .ofO ((truth x).map fun b => D.bl (!b)) S) env S = (evT evA env S).bind fun k S => .ok (!k) S := by
    dsimp only [evT]
    cases evA env S with
    | bad => rfl
    | exc c x S => rfl
    | ok x S1 =>
      simp only [Out.bind_ok]
      cases truth x <;> rfl
  rw [assoc] at g
  exact tR.seq h g fun x W1 H1 S1 d s1 dx h1 g1 => by
    cases dx
    exact Go.ok h1.hok g1 rfl
theorem re_neg (ha : PE X a (tE G cf Wx evA)) : PE X (.UnaryOp .USub a pos) (tE G cf Wx fun env S => (evA env S).bind fun x S => match x with | .int i => .ok (.int (-i)) S | _ => .bad) := by
  refine (pe_un un_neg ha).im fun σ H Q ⟨W, H0, env, S, h, g⟩ => ?_
  refine tR.seq h g fun x W1 H1 S1 d s1 dx h1 g1 => ?_
  cases d with
  | int i =>
    cases dx
    exact ⟨i, rfl, Go.ok h1.hok g1 (.int _)⟩
  | _ => exact (show False from g1).elim
/-- argument lists -/
theorem ra_nil : PA X [] (tA G cf Wx fun _ S => .ok [] S) := pa_nil.im fun σ H Q ⟨W, H0, env, S, h, g⟩ => Go.ok h.hok g .nil
theorem ra_cons {es : List Expr} {evR : Env → Store → Out (List D)} (ha : PE X a (tE G cf Wx evA)) (hr : PA X es (tA G cf Wx evR)) (hs : starEach (a :: es) X.env = (false, eval a X.env) :: starEach es X.env) :
    PA X (a :: es) (tA G cf Wx fun env S => (evA env S).bind fun d S => (evR env S).bind fun ds S => .ok (d :: ds) S) := by
  refine (pa_cons ha hr hs).im fun σ H Q ⟨W, H0, env, S, h, g⟩ => ?_
  refine tR.seq h g fun x W1 H1 S1 da s1 dx h1 g1 => ?_
  exact tR.seq h1 g1 fun y W2 H2 S2 db s2 dy h2 g2 => Go.ok h2.hok g2 (.cons (dx.up s2.le) dy)
theorem small_line {n : Nat} (h : n ≤ 1000000) : n < sizeLine := by rw [sizeLine_eq]; omega
theorem re_tup {es : List Expr} {x1 : Nat} {ev : Env → Store → Out (List D)} (h : PA X es (tA G cf Wx ev)) : PE X (.Tuple es x1 pos) (tE G cf Wx fun env S => (ev env S).bind fun ds S => if ds.length ≤ 1000 then .ok (.tup ds) S else .bad) := by
  refine (pe_tup h).im fun σ H Q ⟨W, H0, env, S, hc, g⟩ => ?_
  refine tR.seq hc g fun xs W1 H1 S1 ds s1 dx h1 g1 => ?_
  by_cases hl : ds.length ≤ 1000
  · rw [if_pos hl] at g1
    refine ⟨Nat.le_of_lt (small_line (by rw [dx.length]; omega)), fun p hp => ?_⟩
    have st := Step.newZ h1.hok (o := .tup xs) hp (fun ps z => by cases z)
    exact g1 (.ref p) _ _ st (.tup (.inl (.inl (W1.add_at p _))) (dx.up st.le))
  · rw [if_neg hl] at g1; exact g1.elim
theorem re_lst {es : List Expr} {ev : Env → Store → Out (List D)} (h : PA X es (tA G cf Wx ev)) : PE X (.List es pos) (tE G cf Wx fun env S => (ev env S).bind fun ds S => if ds.length ≤ 1000 then .ok (.lst ds) S else .bad) := by
  refine (pe_lst h).im fun σ H Q ⟨W, H0, env, S, hc, g⟩ => ?_
  refine tR.seq hc g fun xs W1 H1 S1 ds s1 dx h1 g1 => ?_
  by_cases hl : ds.length ≤ 1000
  · rw [if_pos hl] at g1
    refine ⟨Nat.le_of_lt (small_line (by rw [dx.length]; omega)), fun p hp => ?_⟩
    have st := Step.newZ h1.hok (o := .lst xs) hp (fun ps z => by cases z)
    exact g1 (.ref p) _ _ st (.lst (W1.add_at p _) (dx.up st.le))
  · rw [if_neg hl] at g1; exact g1.elim
theorem re_cel {es : List Expr} {ev : Env → Store → Out (List D)} (h : PA X es (tA G cf Wx ev)) : PE X (.List es pos) (tE G cf Wx fun env S => (ev env S).bind fun ds S => if ds.length ≤ 1000 then .ok (.ref S.length) (S ++ [.lst ds]) else .bad) := by
  refine (pe_lst h).im fun σ H Q ⟨W, H0, env, S, hc, g⟩ => ?_
  refine tR.seq hc g fun xs W1 H1 S1 ds s1 dx h1 g1 => ?_
  by_cases hl : ds.length ≤ 1000
  · rw [if_pos hl] at g1
    refine ⟨Nat.le_of_lt (small_line (by rw [dx.length]; omega)), fun p hp => ?_⟩
    refine g1 (.ref p) _ _ (Step.cell h1.hok hp dx) (.ref ?_)
    show (W1.be ++ [p])[S1.length]? = some p
    rw [← h1.hok.len, List.getElem?_append_right (Nat.le_refl _)]
    simp
  · rw [if_neg hl] at g1; exact g1.elim
/-- a if c else b -/
theorem re_ife {evc : Env → Store → Out D} (hc : PT X c (tT G cf Wx (evT evc))) (ha : PE X a (tE G cf Wx evA)) (hb : PE X b (tE G cf Wx evB)) :
    PE X (.IfExp c a b pos) (tE G cf Wx fun env S => (evc env S).bind fun x S => match truth x with | some true => evA env S | some false => evB env S | none => .bad) := by
  refine (pe_ifExp hc ha hb).im fun σ H Q ⟨W, H0, env, S, h, g⟩ => ?_
  have assoc : ((evc env S).bind fun x S => match truth x with | some true => evA env S | some false => evB env S | none => .bad) = (evT evc env S).bind fun k S => if k = true then evA env S else evB env S := by
    dsimp only [evT]
    cases evc env S with
    | bad => rfl
    | exc c x S => rfl
    | ok x S1 =>
      simp only [Out.bind_ok]
      rcases truth x with _ | _ | _ <;> rfl
  dsimp only at g
  rw [assoc] at g
  refine tR.seq h g fun x W1 H1 S1 k s1 dx h1 g1 => ?_
  cases dx
  cases x with
  | true => rw [if_pos rfl] at g1 ⊢; exact ⟨_, _, _, _, h1, g1⟩
  | false => rw [if_neg Bool.false_ne_true] at g1 ⊢; exact ⟨_, _, _, _, h1, g1⟩
end
end Pz

/-! Pz4: the operators by values. -/
namespace Pz
open PySem PySem.Spec PyProof.Rows L2

/-! ### a tuple, so often -/
section
variable (l : Addr) (items : Array Value) (n : Nat) (dd : Option Addr) (sl : Array (Option Value)) (x : Int) (u : Tok)
theorem tmul_same (c0 : (decide (x < -(2 ^ 63)) || decide (x ≥ 2 ^ 63)) = false) (c1 : (items.isEmpty || x == 1) = true) :
    Meets (Builtin.«tuple.__mul__» ⟨[.ref l, .int x u], []⟩) (fun _ R s => s.heap.get? l = some { cls := .type "tuple", dict := dd, data := .seq items n, slots := sl } ∧ R (.ok (.ret (Value.ref l))) s) :=
  .of_wp fun prog w A R s h => by
    obtain ⟨hp, g, d, tk, os⟩ := s
    obtain ⟨hl, h⟩ := h
    have f1 := AutoSeq1.idx_int
    wp_walk using wpAny_loadPart' hl
    repeat (first
      | (refine wpAny_ite_false (decide_eq_false (by rw [c0]; exact Bool.false_ne_true)) ?_; wp_walk using wpAny_loadPart' hl)
      | (refine wpAny_ite_true (decide_eq_true (by rw [c1])) ?_; wp_walk using wpAny_loadPart' hl))
    exact ⟨_, rfl, h⟩
theorem tmul_none (c0 : (decide (x < -(2 ^ 63)) || decide (x ≥ 2 ^ 63)) = false) (c1 : (items.isEmpty || x == 1) = false) (c2 : (decide (x ≤ 0) || items.isEmpty) = true) :
    Meets (Builtin.«tuple.__mul__» ⟨[.ref l, .int x u], []⟩) (fun _ R s => s.heap.get? l = some { cls := .type "tuple", dict := dd, data := .seq items n, slots := sl } ∧
      R (.ok (.ret (Value.ref s.heap.objs.size))) { s with heap := s.heap.push { cls := Value.type "tuple", data := Data.seq #[] }, toks := s.toks }) :=
  .of_wp fun prog w A R s h => by
    obtain ⟨hp, g, d, tk, os⟩ := s
    obtain ⟨hl, h⟩ := h
    have f1 := AutoSeq1.idx_int
    wp_walk using wpAny_loadPart' hl
    repeat (first
      | (refine wpAny_ite_false (decide_eq_false (by rw [c0]; exact Bool.false_ne_true)) ?_; wp_walk using wpAny_loadPart' hl)
      | (refine wpAny_ite_false (decide_eq_false (by rw [c1]; exact Bool.false_ne_true)) ?_; wp_walk using wpAny_loadPart' hl)
      | (refine wpAny_ite_true (decide_eq_true (by rw [c2])) ?_; wp_walk using wpAny_loadPart' hl))
    exact ⟨_, rfl, h⟩
end

theorem OpR.orr {X : Cx} {f : Value → Value → Sem Value} {r r' : R2} (h : OpR X f r) (h' : OpR X f r') : OpR X f (fun x y H Q => r x y H Q ∨ r' x y H Q) := by
  intro pins s σ H x y v u Q I rx ry hq
  rcases hq with hq | hq
  · exact h pins s σ H x y v u Q I rx ry hq
  · exact h' pins s σ H x y v u Q I rx ry hq
theorem OpR.im {X : Cx} {f : Value → Value → Sem Value} {r r' : R2} (h : OpR X f r) (hi : ∀ x y H Q, r' x y H Q → r x y H Q) : OpR X f r' := fun pins s σ H x y v u Q I rx ry hq => h pins s σ H x y v u Q I rx ry (hi _ _ _ _ hq)

def rTm (K : PySem.W.Frag) : R2 := fun x y H Q => ∃ l k xs, x = .ref l ∧ y = .int k ∧ SqT K H l xs ∧ -1000 ≤ k ∧ k ≤ 1000 ∧ xs.length ≤ 1000 ∧
  (xs = [] ∨ k = 1 → Q (.ref l) H) ∧ (xs ≠ [] → k ≤ 0 → ∀ p, H p = none → Q (.ref p) (upd H p (.tup []))) ∧ (xs ≠ [] → 2 ≤ k → ∀ p, H p = none → Q (.ref p) (upd H p (.tup (List.replicate k.toNat xs).flatten)))
theorem op_tm {X : Cx} : OpR X (binaryOp .Mult) (rTm X.K) := by
  intro pins s σ H x y v u Q I rx ry hq
  obtain ⟨l, k, xs, rfl, rfl, hT, k0, k1, hz, q0, q1, q2⟩ := hq
  by_cases h2 : 2 ≤ k ∧ xs ≠ []
  · exact op_repT pins s σ H _ _ v u Q I rx ry ⟨l, k, xs, rfl, rfl, hT, h2.2, h2.1, k1, hz, q2 h2.2 h2.1⟩
  · cases rx
    obtain ⟨t, rfl⟩ := ry
    obtain ⟨its, r, ⟨⟨cls, dd, data, sl⟩, ho, hc, n, hd⟩, hs⟩ := I.tuple hT
    simp only at hc hd
    subst hc hd
    have c0 : (decide (k < -(2 ^ 63)) || decide (k ≥ 2 ^ 63)) = false := by
      simp only [Bool.or_eq_false_iff, decide_eq_false_iff_not]
      omega
    have emp : its.toArray.isEmpty = xs.isEmpty := by
      cases r with
      | nil => rfl
      | cons _ _ => simp
    by_cases h1 : xs = [] ∨ k = 1
    · have c1 : (its.toArray.isEmpty || k == 1) = true := by
        rw [emp]
        rcases h1 with h1 | h1
        · subst h1; rfl
        · subst h1; simp
      exact wpAny_binaryOp_repeat_ref (T := "tuple") (U := "int") (by decide) ⟨_, ho, rfl⟩ (fun s' => typeIs_int s' k t) noFill_tuple_mul F.fills_int_mul F.slot_int_rmul repeat_tuple F.slot_int_index.lookup
        (call_meets F.slot_int_rmul (typeIs_int s k t) F.entry_int_rmul (F.args_int_rmul_2 _ _) (int_rmul_tuple k t l its.toArray n dd sl)
          ⟨ho, rfl, ⟨_, ho, rfl⟩, call_meets F.slot_tuple_mul ⟨_, ho, rfl⟩ F.entry_tuple_mul (F.args_tuple_mul_2 _ _) (tmul_same l its.toArray n dd sl k t c0 c1) ⟨ho, ⟨.ref l, H, I, rfl, q0 h1⟩⟩⟩)
    · have hne : xs ≠ [] := fun e => h1 (.inl e)
      have hk1 : k ≠ 1 := fun e => h1 (.inr e)
      have hk0 : k ≤ 0 := by
        by_cases z : 2 ≤ k
        · exact absurd ⟨z, hne⟩ h2
        · omega
      have ie : xs.isEmpty = false := by cases xs with | nil => exact absurd rfl hne | cons _ _ => rfl
      have c1 : (its.toArray.isEmpty || k == 1) = false := by
        rw [emp, ie, Bool.false_or]
        exact beq_eq_false_iff_ne.mpr hk1
      have c2 : (decide (k ≤ 0) || its.toArray.isEmpty) = true := by rw [decide_eq_true hk0]; rfl
      refine wpAny_binaryOp_repeat_ref (T := "tuple") (U := "int") (by decide) ⟨_, ho, rfl⟩ (fun s' => typeIs_int s' k t) noFill_tuple_mul F.fills_int_mul F.slot_int_rmul repeat_tuple F.slot_int_index.lookup
        (call_meets F.slot_int_rmul (typeIs_int s k t) F.entry_int_rmul (F.args_int_rmul_2 _ _) (int_rmul_tuple k t l its.toArray n dd sl)
          ⟨ho, rfl, ⟨_, ho, rfl⟩, call_meets F.slot_tuple_mul ⟨_, ho, rfl⟩ F.entry_tuple_mul (F.args_tuple_mul_2 _ _) (tmul_none l its.toArray n dd sl k t c0 c1 c2) ⟨ho, ?_⟩⟩)
      refine ⟨.ref s.heap.objs.size, _, I.laid (t' := s.toks) (o := .tup []) (fun b ob q => Heap.get?_push_of_some _ q) (Nat.le_refl _) ?_, rfl, q1 hne hk0 _ (I.hok.fresh (Nat.le_refl _))⟩
      exact ⟨Nat.zero_le _, [], .nil, IsTup.new _ _⟩

/-! ### what the interpreter says of them -/
section
variable {G : Gc} {X : Cx}
def rAddD (K : PySem.W.Frag) : R2 := fun x y H Q => (((∃ i j, x = .int i ∧ y = .int j ∧ Q (.int (i + j)) H) ∨ (∃ i j, x = .str i ∧ y = .str j ∧ i.length + j.length ≤ sizeLine ∧ Q (.str (i ++ j)) H)) ∨ rCatA K x y H Q) ∨ rCat x y H Q
theorem op_addD : OpR X (binaryOp .Add) (rAddD X.K) := OpR.orr (OpR.orr (OpR.orr op_add op_add_str) op_catA) op_cat
theorem Dats.nilV {W : Wd} {ds : List D} (h : Dats G W [] ds) : ds = [] := by cases h; rfl
theorem Dats.nilD {W : Wd} {vs : List V} (h : Dats G W vs []) : vs = [] := by cases h; rfl
theorem addD_ok : OpB G (binD .add) (rAddD G.K) := by
  intro W S x y da db d H Q hk hx hy e hq
  cases hx <;> cases hy <;> first | (exfalso; revert e; simp [binD]; done) | skip
  · rename_i i j
    cases e
    exact .inl (.inl (.inl ⟨i, j, rfl, rfl, hq _ W H (Step.refl hk) (.int _)⟩))
  · rename_i i j
    simp only [binD] at e
    split at e
    · rename_i hl
      cases e
      exact .inl (.inl (.inr ⟨i, j, rfl, rfl, hl, hq _ W H (Step.refl hk) (.str _)⟩))
    · cases e
  · rename_i a vs ds h hs a' vs' ds' h' hs'
    simp only [binD] at e
    split at e
    · rename_i hl
      cases e
      refine .inl (.inr ⟨a, a', vs, vs', rfl, rfl, SqT.mono hk.z h, SqT.mono hk.z h', by rw [hs.length, hs'.length]; exact hl, fun z => ?_, fun z z' => ?_, fun z z' p hp => ?_⟩)
      · subst z
        have e1 := hs.nilV
        subst e1
        exact hq _ W H (Step.refl hk) (.tup h' hs')
      · subst z'
        have e1 := hs'.nilV
        subst e1
        rw [List.append_nil] at hq
        exact hq _ W H (Step.refl hk) (.tup h hs)
      · have st := Step.newZ hk (o := .tup (vs ++ vs')) hp (fun ps z => by cases z)
        exact hq _ _ _ st (.tup (.inl (.inl (W.add_at p _))) ((hs.append hs').up st.le))
    · cases e
  · rename_i a vs ds h hs a' vs' ds' h' hs'
    simp only [binD] at e
    split at e
    · rename_i hl
      cases e
      refine .inr ⟨a, a', vs, vs', rfl, rfl, hk.z _ _ h, hk.z _ _ h', by rw [hs.length, hs'.length]; exact hl, fun p hp => ?_⟩
      have st := Step.newZ hk (o := .lst (vs ++ vs')) hp (fun ps z => by cases z)
      exact hq _ _ _ st (.lst (W.add_at p _) ((hs.append hs').up st.le))
    · cases e
theorem subD_ok : OpB G (binD .sub) (rI0 fun i j => .int (i - j)) := by
  intro W S x y da db d H Q hk hx hy e hq
  cases hx <;> cases hy <;> first | (exfalso; revert e; simp [binD]; done) | skip
  cases e
  exact ⟨_, _, rfl, rfl, hq _ W H (Step.refl hk) (.int _)⟩
def rMulD (K : PySem.W.Frag) : R2 := fun x y H Q => (((∃ i j, x = .int i ∧ y = .int j ∧ CMul i j ∧ Q (.int (i * j)) H) ∨ (∃ i j, x = .int i ∧ y = .int j ∧ CMulW i j ∧ Q (.int (i * j)) H)) ∨ rTm K x y H Q) ∨ rRep x y H Q
theorem op_mulD : OpR X (binaryOp .Mult) (rMulD X.K) := OpR.orr (OpR.orr (OpR.orr op_mul op_mulW) op_tm) op_rep
theorem mulD_ok : OpB G (binD .mul) (rMulD G.K) := by
  intro W S x y da db d H Q hk hx hy e hq
  cases hx <;> cases hy <;> first | (exfalso; revert e; simp [binD]; done) | skip
  · rename_i i j
    simp only [binD] at e
    split at e
    · rename_i hm
      cases e
      rcases hm with hm | hm
      · exact .inl (.inl (.inl ⟨i, j, rfl, rfl, hm, hq _ W H (Step.refl hk) (.int _)⟩))
      · exact .inl (.inl (.inr ⟨i, j, rfl, rfl, hm, hq _ W H (Step.refl hk) (.int _)⟩))
    · cases e
  · rename_i a vs ds h hs k
    simp only [binD] at e
    split at e
    · rename_i hl
      cases e
      refine .inl (.inr ⟨a, k, vs, rfl, rfl, SqT.mono hk.z h, hl.1, hl.2.1, by rw [hs.length]; exact hl.2.2, fun z => ?_, fun z z' p hp => ?_, fun z z' p hp => ?_⟩)
      · have e1 : repL k ds = ds := by
          rcases z with z | z
          · subst z
            have e1 := hs.nilV
            subst e1
            simp [repL]
          · subst z
            simp [repL]
        rw [e1] at hq
        exact hq _ W H (Step.refl hk) (.tup h hs)
      · have e1 : repL k ds = [] := by
          have z0 : k.toNat = 0 := by omega
          simp [repL, z0]
        rw [e1] at hq
        have st := Step.newZ hk (o := .tup []) hp (fun ps z => by cases z)
        exact hq _ _ _ st (.tup (.inl (.inl (W.add_at p _))) .nil)
      · have st := Step.newZ hk (o := .tup (List.replicate k.toNat vs).flatten) hp (fun ps z => by cases z)
        exact hq _ _ _ st (.tup (.inl (.inl (W.add_at p _))) ((hs.rep k.toNat).up st.le))
    · cases e
  · rename_i a vs ds h hs k
    simp only [binD] at e
    split at e
    · rename_i hl
      cases e
      have hz : vs.length * k.toNat ≤ sizeLine := by
        rw [hs.length, sizeLine_eq]
        have a1 : ds.length * k.toNat ≤ 1000 * 1000 := Nat.mul_le_mul hl.2.2 (by omega)
        omega
      refine .inr ⟨a, k, vs, rfl, rfl, hk.z _ _ h, by omega, by omega, hz, fun p hp => ?_⟩
      have st := Step.newZ hk (o := .lst (List.replicate k.toNat vs).flatten) hp (fun ps z => by cases z)
      exact hq _ _ _ st (.lst (W.add_at p _) ((hs.rep k.toNat).up st.le))
    · cases e
theorem fdivD_ok : OpB G (binD .fdiv) (rI CDivW fun i j => .int (i / j)) := by
  intro W S x y da db d H Q hk hx hy e hq
  cases hx <;> cases hy <;> first | (exfalso; revert e; simp [binD]; done) | skip
  simp only [binD] at e
  split at e
  · rename_i hm
    cases e
    exact ⟨_, _, rfl, rfl, hm, hq _ W H (Step.refl hk) (.int _)⟩
  · cases e
theorem modD_ok : OpB G (binD .mod) (rI (fun _ j => 0 < j) fun i j => .int (i % j)) := by
  intro W S x y da db d H Q hk hx hy e hq
  cases hx <;> cases hy <;> first | (exfalso; revert e; simp [binD]; done) | skip
  simp only [binD] at e
  split at e
  · rename_i hm
    cases e
    exact ⟨_, _, rfl, rfl, hm, hq _ W H (Step.refl hk) (.int _)⟩
  · cases e
theorem powD_ok : OpB G (binD .pow) (rI CPow fun i j => .int (i ^ j.toNat)) := by
  intro W S x y da db d H Q hk hx hy e hq
  cases hx <;> cases hy <;> first | (exfalso; revert e; simp [binD]; done) | skip
  simp only [binD] at e
  split at e
  · rename_i hm
    cases e
    exact ⟨_, _, rfl, rfl, hm, hq _ W H (Step.refl hk) (.int _)⟩
  · cases e
end

/-! ### comparisons -/
section
variable {G : Gc} {X : Cx}
mutual
theorem Dat.dp {W : Wd} {H : Hp} (hz : ∀ a o, W.Z a = some o → H a = some o) : ∀ (d : D) (v : V), Dat G W v d → d.isData = true → Dp G.K H v d.toP
  | .non, _, h, _ => by cases h; rw [D.toP]; exact .non
  | .bl b, _, h, _ => by cases h; rw [D.toP]; exact .bl b
  | .int i, _, h, _ => by cases h; rw [D.toP]; exact .int i
  | .str s, _, h, _ => by cases h; rw [D.toP]; exact .str s
  | .tup ds, _, h, e => by
    rw [D.isData] at e
    rw [D.toP]
    cases h with
    | tup h hs => exact .tup (SqT.mono hz h) (Dats.dp hz ds _ hs e)
  | .lst ds, _, h, e => by
    rw [D.isData] at e
    rw [D.toP]
    cases h with
    | lst h hs => exact .lst (SqL.of (hz _ _ h)) (Dats.dp hz ds _ hs e)
  | .ref _, _, _, e => by rw [D.isData] at e; cases e
  | .fn _, _, _, e => by rw [D.isData] at e; cases e
  | .ty _, _, _, e => by rw [D.isData] at e; cases e
  | .scr _, _, _, e => by rw [D.isData] at e; cases e
theorem Dats.dp {W : Wd} {H : Hp} (hz : ∀ a o, W.Z a = some o → H a = some o) : ∀ (ds : List D) (vs : List V), Dats G W vs ds → D.areData ds = true → DpAll G.K H vs (D.toPs ds)
  | [], _, h, _ => by cases h; rw [D.toPs]; exact .nil
  | d :: ds, _, h, e => by
    rw [D.areData, Bool.and_eq_true] at e
    rw [D.toPs]
    cases h with
    | cons h t => exact .cons (Dat.dp hz d _ h e.1) (Dats.dp hz ds _ t e.2)
end
def rEqB (K : PySem.W.Frag) : R2 := fun x y H Q => rEq x y H Q ∨ rEqD K x y H Q
def rNeB (K : PySem.W.Frag) : R2 := fun x y H Q => rNe x y H Q ∨ rNeD K x y H Q
theorem op_eqB (hu : X.A.units + 64 < cLine) : OpR X (compareOp .Eq) (rEqB X.K) := OpR.orr op_eq (op_eqD hu)
theorem op_neB (hu : X.A.units + 64 < cLine) : OpR X (compareOp .NotEq) (rNeB X.K) := OpR.orr op_ne (op_neD hu)
theorem scal_ok {W : Wd} {x y : V} {da db : D} {r : Bool} (hx : Dat G W x da) (hy : Dat G W y db) (e : scalD da db = some r) : scal x y = true ∧ decide (x = y) = r := by
  cases hx <;> cases hy <;> first | (exfalso; revert e; simp [scalD]; done) | (cases e; first | exact ⟨rfl, dec_int⟩ | exact ⟨rfl, dec_bl⟩ | (refine ⟨rfl, ?_⟩; simp; done))
theorem eqD_cases {a b : D} {r : Bool} (e : eqD a b = some r) : scalD a b = some r ∨ (a.isData = true ∧ b.isData = true ∧ SeqAt.shaped a.toP = true ∧ SeqAt.shaped b.toP = true ∧ PyData.eqv a.toP b.toP = r) := by
  unfold eqD at e
  split at e
  · rename_i r' h
    cases e
    exact .inl h
  · split at e
    · rename_i h
      cases e
      exact .inr ⟨h.1, h.2.1, h.2.2.1, h.2.2.2, rfl⟩
    · cases e
theorem eqB_ok : OpB G (fun x y => (cmpD .eq x y).map D.bl) (rEqB G.K) := by
  intro W S x y da db d H Q hk hx hy e hq
  have e' : (eqD da db).map D.bl = some d := by cases da <;> cases db <;> exact e
  cases er : eqD da db with
  | none => rw [er] at e'; cases e'
  | some r =>
    rw [er] at e'; cases e'
    have fin := hq (.bl r) W H (Step.refl hk) (.bl r)
    rcases eqD_cases er with h | ⟨h1, h2, h3, h4, h5⟩
    · obtain ⟨k1, k2⟩ := scal_ok hx hy h
      exact .inl ⟨k1, by rw [k2]; exact fin⟩
    · exact .inr ⟨_, _, Dat.dp hk.z da _ hx h1, Dat.dp hk.z db _ hy h2, h3, h4, by rw [h5]; exact fin⟩
theorem neB_ok : OpB G (fun x y => (cmpD .ne x y).map D.bl) (rNeB G.K) := by
  intro W S x y da db d H Q hk hx hy e hq
  have e' : ((eqD da db).map (!·)).map D.bl = some d := by cases da <;> cases db <;> exact e
  cases er : eqD da db with
  | none => rw [er] at e'; cases e'
  | some r =>
    rw [er] at e'; cases e'
    have fin := hq (.bl (!r)) W H (Step.refl hk) (.bl _)
    rcases eqD_cases er with h | ⟨h1, h2, h3, h4, h5⟩
    · obtain ⟨k1, k2⟩ := scal_ok hx hy h
      exact .inl ⟨k1, by rw [k2]; exact fin⟩
    · exact .inr ⟨_, _, Dat.dp hk.z da _ hx h1, Dat.dp hk.z db _ hy h2, h3, h4, by rw [h5]; exact fin⟩
def rLtB : R2 := fun x y H Q => (∃ i j, x = .int i ∧ y = .int j ∧ Q (.bl (decide (i < j))) H) ∨ (∃ i j, x = .str i ∧ y = .str j ∧ Q (.bl (decide (i.cps.toList < j.cps.toList))) H)
theorem op_ltB : OpR X (compareOp .Lt) rLtB := OpR.orr op_lt op_lt_str
theorem ltB_ok : OpB G (fun x y => (cmpD .lt x y).map D.bl) rLtB := by
  intro W S x y da db d H Q hk hx hy e hq
  cases hx <;> cases hy <;> first | (exfalso; revert e; simp [cmpD]; done) | skip
  · cases e
    exact .inl ⟨_, _, rfl, rfl, hq _ W H (Step.refl hk) (.bl _)⟩
  · cases e
    exact .inr ⟨_, _, rfl, rfl, hq _ W H (Step.refl hk) (.bl _)⟩
theorem leB_ok : OpB G (fun x y => (cmpD .le x y).map D.bl) (rI0 fun i j => .bl (decide (i ≤ j))) := by
  intro W S x y da db d H Q hk hx hy e hq
  cases hx <;> cases hy <;> first | (exfalso; revert e; simp [cmpD]; done) | skip
  cases e
  exact ⟨_, _, rfl, rfl, hq _ W H (Step.refl hk) (.bl _)⟩
theorem gtB_ok : OpB G (fun x y => (cmpD .gt x y).map D.bl) (rI0 fun i j => .bl (decide (j < i))) := by
  intro W S x y da db d H Q hk hx hy e hq
  cases hx <;> cases hy <;> first | (exfalso; revert e; simp [cmpD]; done) | skip
  cases e
  exact ⟨_, _, rfl, rfl, hq _ W H (Step.refl hk) (.bl _)⟩
theorem geB_ok : OpB G (fun x y => (cmpD .ge x y).map D.bl) (rI0 fun i j => .bl (decide (j ≤ i))) := by
  intro W S x y da db d H Q hk hx hy e hq
  cases hx <;> cases hy <;> first | (exfalso; revert e; simp [cmpD]; done) | skip
  cases e
  exact ⟨_, _, rfl, rfl, hq _ W H (Step.refl hk) (.bl _)⟩
theorem isB_ok : OpB G (fun x y => (cmpD .isN x y).map D.bl) (fun x y H Q => y = .non ∧ Q (.bl (decide (x = .non))) H) := by
  intro W S x y da db d H Q hk hx hy e hq
  cases hy <;> first | (exfalso; revert e; cases da <;> simp [cmpD]; done) | skip
  refine ⟨rfl, ?_⟩
  cases hx <;> (cases e; have fin := hq _ W H (Step.refl hk) (.bl _); simpa using fin)
theorem notB_ok : OpB G (fun x y => (cmpD .notN x y).map D.bl) (fun x y H Q => y = .non ∧ Q (.bl (!decide (x = .non))) H) := by
  intro W S x y da db d H Q hk hx hy e hq
  cases hy <;> first | (exfalso; revert e; cases da <;> simp [cmpD]; done) | skip
  refine ⟨rfl, ?_⟩
  cases hx <;> (cases e; have fin := hq _ W H (Step.refl hk) (.bl _); simpa using fin)
/-- plain values -/
def fv : D → V
  | .non => .non
  | .bl b => .bl b
  | .int i => .int i
  | .str s => .str s
  | _ => .non
theorem Dat.fv {W : Wd} {v : V} {d : D} (h : Dat G W v d) (f : d.flat = true) : v = Pz.fv d := by
  cases h <;> first | rfl | (exfalso; revert f; simp [D.flat]; done)
theorem Dats.fv {W : Wd} : ∀ {ds : List D} {vs : List V}, Dats G W vs ds → ds.all D.flat = true → vs = ds.map Pz.fv
  | [], _, h, _ => by cases h; rfl
  | d :: ds, _, h, f => by
    rw [List.all_cons, Bool.and_eq_true] at f
    cases h with
    | cons h t => rw [h.fv f.1, Dats.fv t f.2]; rfl
theorem fv_flat {d : D} (f : d.flat = true) : flatV (fv d) = true := by cases d <;> first | rfl | (exfalso; revert f; simp [D.flat]; done)
theorem fvs_flat : ∀ {ds : List D}, ds.all D.flat = true → (ds.map fv).all flatV = true
  | [], _ => rfl
  | d :: ds, f => by
    rw [List.all_cons, Bool.and_eq_true] at f
    rw [List.map_cons, List.all_cons, fv_flat f.1, fvs_flat f.2]; rfl
theorem fv_eq {x y : D} (fx : x.flat = true) (fy : y.flat = true) : eqV (fv y) (fv x) = flatEq y x := by
  cases x <;> cases y <;> first | rfl | (exfalso; revert fx; simp [D.flat]; done) | (exfalso; revert fy; simp [D.flat]; done) | (simp [fv, eqV, flatEq]; try rfl)
theorem fvs_in {x : D} (fx : x.flat = true) : ∀ {ds : List D}, ds.all D.flat = true → inV (fv x) (ds.map fv) = ds.any fun y => flatEq y x
  | [], _ => rfl
  | d :: ds, f => by
    rw [List.all_cons, Bool.and_eq_true] at f
    have ih := fvs_in fx f.2
    unfold inV at ih ⊢
    rw [List.map_cons, List.any_cons, List.any_cons, fv_eq fx f.1, ih]
theorem inS_cases {x y : D} {r : Bool} (e : inS x y = some r) : ∃ ys, (y = .tup ys ∨ y = .lst ys) ∧ ((x.flat = true ∧ ys.all D.flat = true ∧ (ys.any fun z => flatEq z x) = r) ∨
    (y = .lst ys ∧ x.isData = true ∧ D.areData ys = true ∧ SeqAt.shaped x.toP = true ∧ SeqAt.shaped (D.lst ys).toP = true ∧ ((D.toPs ys).any fun z => PyData.eqv z x.toP) = r)) := by
  have fl : ∀ {ys : List D} {r : Bool}, inD x ys = some r → x.flat = true ∧ ys.all D.flat = true ∧ (ys.any fun z => flatEq z x) = r := fun {ys r} e => by
    unfold inD at e
    split at e
    · rename_i h
      rw [Bool.and_eq_true] at h
      cases e
      exact ⟨h.1, h.2, rfl⟩
    · cases e
  cases y with
  | tup ys => exact ⟨ys, .inl rfl, .inl (fl e)⟩
  | lst ys =>
    refine ⟨ys, .inr rfl, ?_⟩
    simp only [inS] at e
    split at e
    · rename_i r' h
      cases e
      exact .inl (fl h)
    · split at e
      · rename_i h
        cases e
        exact .inr ⟨rfl, h.1, h.2.1, h.2.2.1, h.2.2.2, rfl⟩
      · cases e
  | _ => cases e
def rInB (K : PySem.W.Frag) : R2 := fun x y H Q => rIn K false x y H Q ∨ rInD K x y H Q
def rNinB (K : PySem.W.Frag) : R2 := fun x y H Q => rIn K true x y H Q ∨ rNotInD K x y H Q
theorem op_inB (hu : X.A.units + 65 < cLine) : OpR X (compareOp .In) (rInB X.K) := OpR.orr op_in_seq (op_inD hu)
theorem op_ninB (hu : X.A.units + 65 < cLine) : OpR X (compareOp .NotIn) (rNinB X.K) := OpR.orr op_notIn_seq (op_notInD hu)
theorem seq_ref {W : Wd} {H : Hp} {y : V} {d : D} {ys : List D} (hz : ∀ a o, W.Z a = some o → H a = some o) (h : Dat G W y d) (e : d = .tup ys ∨ d = .lst ys) : ∃ p vs, y = .ref p ∧ (SqL G.K H p vs ∨ SqT G.K H p vs) ∧ Dats G W vs ys := by
  rcases e with e | e
  · subst e
    cases h with
    | tup h hs => exact ⟨_, _, rfl, .inr (SqT.mono hz h), hs⟩
  · subst e
    cases h with
    | lst h hs => exact ⟨_, _, rfl, .inl (SqL.of (hz _ _ h)), hs⟩
theorem inB_ok : OpB G (fun x y => (cmpD .in_ x y).map D.bl) (rInB G.K) := by
  intro W S x y da db d H Q hk hx hy e hq
  have e' : (inS da db).map D.bl = some d := by cases da <;> cases db <;> exact e
  cases er : inS da db with
  | none => rw [er] at e'; cases e'
  | some r =>
    rw [er] at e'; cases e'
    have fin := hq (.bl r) W H (Step.refl hk) (.bl r)
    obtain ⟨ys, hys, h | h⟩ := inS_cases er
    · obtain ⟨p, vs, rfl, h1, h2⟩ := seq_ref hk.z hy hys
      obtain ⟨f1, f2, f3⟩ := h
      have ev := h2.fv f2
      subst ev
      have ex := hx.fv f1
      subst ex
      exact .inl ⟨p, _, rfl, h1, fv_flat f1, fvs_flat f2, by rw [if_neg Bool.false_ne_true, fvs_in f1 f2, f3]; exact fin⟩
    · obtain ⟨rfl, h1, h2, h3, h4, h5⟩ := h
      rw [D.toP] at h4
      exact .inr ⟨da.toP, D.toPs ys, Dat.dp hk.z da _ hx h1, by rw [← D.toP]; exact Dat.dp hk.z (.lst ys) _ hy h2, h3, h4, by rw [h5]; exact fin⟩
theorem ninB_ok : OpB G (fun x y => (cmpD .notIn x y).map D.bl) (rNinB G.K) := by
  intro W S x y da db d H Q hk hx hy e hq
  have e' : ((inS da db).map (!·)).map D.bl = some d := by cases da <;> cases db <;> exact e
  cases er : inS da db with
  | none => rw [er] at e'; cases e'
  | some r =>
    rw [er] at e'; cases e'
    have fin := hq (.bl (!r)) W H (Step.refl hk) (.bl _)
    obtain ⟨ys, hys, h | h⟩ := inS_cases er
    · obtain ⟨p, vs, rfl, h1, h2⟩ := seq_ref hk.z hy hys
      obtain ⟨f1, f2, f3⟩ := h
      have ev := h2.fv f2
      subst ev
      have ex := hx.fv f1
      subst ex
      exact .inl ⟨p, _, rfl, h1, fv_flat f1, fvs_flat f2, by rw [if_pos rfl, fvs_in f1 f2, f3]; exact fin⟩
    · obtain ⟨rfl, h1, h2, h3, h4, h5⟩ := h
      rw [D.toP] at h4
      exact .inr ⟨da.toP, D.toPs ys, Dat.dp hk.z da _ hx h1, by rw [← D.toP]; exact Dat.dp hk.z (.lst ys) _ hy h2, h3, h4, by rw [h5]; exact fin⟩
end
end Pz

/-! Pz5: subscripts, slices, chains, and, or, built-ins. -/
namespace Pz
open PySem PySem.Spec PyProof.Rows L2

section
variable {X : Cx} {G : Gc} {cf : CF} {Wx : WX} {a b c : Expr} {evA evB evC : Env → Store → Out D} {pos : Pos}
/-- two-place operations that look into the store -/
def OpS (G : Gc) (f : Store → D → D → Option D) (r : R2) : Prop :=
  ∀ (W : Wd) (S : Store) (x y : V) (da db d : D) (H : Hp) (Q : VK), Hok G W H S → Dat G W x da → Dat G W y db → f S da db = some d → (∀ v W' H', Step G W H W' H' S → Dat G W' v d → Q v H') → r x y H Q
theorem ixS_ok : OpS G ixS (rIx G.K) := by
  intro W S x y da db d H Q hk hx hy e hq
  have lst : ∀ {p : Addr} {vs : List V} {ds : List D}, SqL G.K H p vs → Dats G W vs ds → ixD (.lst ds) db = some d → rIx G.K (.ref p) y H Q := fun {p vs ds} h hs e9 => by
    clear e
    cases hy <;> first | (exfalso; revert e9; simp [ixD]; done) | skip
    rename_i i
    simp only [ixD] at e9
    have e2 : (ixN vs.length i).bind (fun j => ds[j]?) = some d := by rw [hs.length]; exact e9
    obtain ⟨j, hj, ej⟩ := Option.bind_eq_some_iff.mp e2
    obtain ⟨v, e3, dv⟩ := hs.get ej
    exact .inl ⟨p, vs, i, v, rfl, rfl, h, by show (ixN vs.length i).bind (fun j => vs[j]?) = some v; rw [hj]; exact e3, hq v W H (Step.refl hk) dv⟩
  cases hx with
  | lst h hs => exact lst (SqL.of (hk.z _ _ h)) hs e
  | ref h =>
    simp only [ixS] at e
    split at e
    · rename_i n a ds hS
      obtain ⟨_, vs, e1, e2⟩ := hk.be _ _ _ h hS
      exact lst (SqL.of e1) e2 e
    · cases e
  | tup h hs =>
    cases hy <;> first | (exfalso; revert e; simp [ixS, ixD]; done) | skip
    rename_i p vs ds i
    simp only [ixS, ixD] at e
    have e2 : (ixN vs.length i).bind (fun j => ds[j]?) = some d := by rw [hs.length]; exact e
    obtain ⟨j, hj, ej⟩ := Option.bind_eq_some_iff.mp e2
    obtain ⟨v, e3, dv⟩ := hs.get ej
    exact .inr (.inl ⟨p, vs, i, v, rfl, rfl, SqT.mono hk.z h, by show (ixN vs.length i).bind (fun j => vs[j]?) = some v; rw [hj]; exact e3, hq v W H (Step.refl hk) dv⟩)
  | scr h =>
    cases hy <;> first | (exfalso; revert e; simp [ixS, ixD]; done) | skip
    rename_i p ns i
    simp only [ixS, ixD, Option.map_eq_some_iff] at e
    obtain ⟨n, e, e'⟩ := e
    subst e'
    obtain ⟨j, hj, ej⟩ := Option.bind_eq_some_iff.mp (show (ixN ns.length i).bind (fun j => ns[j]?) = some n from e)
    exact .inl ⟨p, _, i, .int n, rfl, rfl, SqL.mono hk.z h, by show (ixN (ns.map V.int).length i).bind (fun j => (ns.map V.int)[j]?) = some _; rw [List.length_map, hj]; simp [ej], hq _ W H (Step.refl hk) (.int n)⟩
  | str z =>
    cases hy <;> first | (exfalso; revert e; simp [ixS, ixD]; done) | skip
    rename_i i
    simp only [ixS, ixD] at e
    split at e
    · rename_i hl
      rw [Option.map_eq_some_iff] at e
      obtain ⟨k, e, e'⟩ := e
      subst e'
      exact .inr (.inr ⟨z, i, k, rfl, rfl, hl, e, hq _ W H (Step.refl hk) (.str _)⟩)
    · cases e
  | _ => exfalso; revert e; simp [ixS, ixD]
theorem re_ix {r : R2} {f : Store → D → D → Option D} (hr : IxR X r) (hf : OpS G f r) (ha : PE X a (tE G cf Wx evA)) (hb : PE X b (tE G cf Wx evB)) (hs : PlainIx b) :
    PE X (.Subscript a b pos) (tE G cf Wx fun env S => (evA env S).bind fun x S => (evB env S).bind fun y S => .ofO (f S x y) S) := by
  refine (pe_ix hr ha hb hs).im fun σ H Q ⟨W, H0, env, S, h, g⟩ => ?_
  refine tR.seq h g fun x W1 H1 S1 da s1 dx h1 g1 => ?_
  refine tR.seq h1 g1 fun y W2 H2 S2 db s2 dy h2 g2 => ?_
  cases e : f S2 da db with
  | none => rw [e] at g2; exact g2.elim
  | some d => rw [e] at g2; exact hf W2 S2 x y da db d H2 Q h2.hok (dx.up s2.le) dy e fun v W' H' t dv => g2 v W' H' t dv
/-- an item of a name's own list -/
theorem re_ownIx {i : Nat} {x : Str} {p1 : Pos} (hKG : X.K = G.K) (hN : X.N[i]? = some x) (hv : Vis X.env.scope x) (hd : (x == ("__debug__" : Str)) = false) (hcd : (x == ("__classdict__" : Str)) = false) (hb : PE X b (tE G cf Wx evB)) (hs : PlainIx b) :
    PE X (.Subscript (.Name x p1) b pos) (tE G cf Wx fun env S => match env[i]? with | some (some (.own ds)) => (evB env S).bind fun y S => .ofO (ixD (.lst ds) y) S | _ => .bad) := by
  refine (pe_ix (ix_list (X := X)) (pe_var hN hv hd hcd) hb hs).im fun σ H Q ⟨W, H0, env, S, h, g⟩ => ?_
  dsimp only at g
  split at g
  · rename_i ds e
    obtain ⟨v, e1, p, vs, rfl, h1, h2, h3, h4, h5⟩ := h.env.get i _ e
    refine ⟨.ref p, e1, ?_⟩
    refine tR.seq h g fun y W1 H1 S1 db s1 dy h1' g1 => ?_
    obtain ⟨v', e1', p', vs', e2', k1, k2, k3, k4, k5⟩ := h1'.env.get i _ e
    rw [e1] at e1'; cases e1'
    cases e2'
    cases e3 : ixD (.lst ds) db with
    | none => rw [e3] at g1; exact g1.elim
    | some d =>
      rw [e3] at g1
      cases dy <;> first | (exfalso; revert e3; simp [ixD]; done) | skip
      rename_i i
      simp only [ixD] at e3
      have e2 : (ixN vs'.length i).bind (fun j => ds[j]?) = some d := by rw [k2.length]; exact e3
      obtain ⟨j, hj, ej⟩ := Option.bind_eq_some_iff.mp e2
      obtain ⟨v, e4, dv⟩ := k2.get ej
      exact ⟨p, vs', i, v, rfl, rfl, SqL.of k1, by show (ixN vs'.length i).bind (fun j => vs'[j]?) = some v; rw [hj]; exact e4, Go.ok h1'.hok g1 dv⟩
  · exact g.elim

/-! ### slices -/
abbrev RO : Wd → Hp → Option Int → Option Int → Prop := fun _ _ b a => b = a
abbrev tOp' (G : Gc) (cf : CF) (Wx : WX) (ev : Env → Store → Out (Option Int)) : TO := tR G cf Wx RO ev
theorem ro_none : PO X none (tOp' G cf Wx fun _ S => .ok none S) := by
  have h := po_none (X := X)
  exact ⟨fun pins s σ H Q I q => h.run pins s σ H Q I (by obtain ⟨W, H0, env, S, h, g⟩ := q; exact Go.ok h.hok g rfl)⟩
theorem ro_some (ha : PE X a (tE G cf Wx evA)) : PO X (some a) (tOp' G cf Wx fun env S => (evA env S).bind fun x S => match x with | .int i => .ok (some i) S | _ => .bad) := by
  have h := po_some ha
  refine ⟨fun pins s σ H Q I q => h.run pins s σ H Q I ?_⟩
  obtain ⟨W, H0, env, S, h, g⟩ := q
  refine tR.seq h g fun x W1 H1 S1 d s1 dx h1 g1 => ?_
  cases d with
  | int i =>
    cases dx
    exact ⟨i, rfl, Go.ok h1.hok g1 rfl⟩
  | _ => exact (show False from g1).elim
theorem cutV_eq {W : Wd} {vs : List V} {ds : List D} (h : Dats G W vs ds) (lo hi : Option Int) : Dats G W (cutV vs lo hi) (cutL ds lo hi) := by
  unfold cutV cutL
  rw [h.length]
  exact (h.drop _).take _
def rSlD (K : PySem.W.Frag) : V → Option Int → Option Int → Hp → VK → Prop := fun x lo hi H Q => rSlA K x lo hi H Q ∨ rSlL K x lo hi H Q
theorem slD_ok {W : Wd} {S : Store} {x : V} {da d : D} {lo hi : Option Int} {H : Hp} {Q : VK} (hk : Hok G W H S) (hx : Dat G W x da) (e : slcD da lo hi = some d) (hq : ∀ v W' H', Step G W H W' H' S → Dat G W' v d → Q v H') : rSlD G.K x lo hi H Q := by
  cases hx with
  | tup h hs =>
    cases e
    rename_i p vs ds
    refine .inl ⟨p, vs, rfl, SqT.mono hk.z h, fun z => ?_, fun z q hn => ?_⟩
    · have e1 : cutL ds lo hi = ds := by
        unfold cutL
        rw [← hs.length, z.1, z.2]
        simp [hs.length]
      rw [e1] at hq
      exact hq _ W H (Step.refl hk) (.tup h hs)
    · have st := Step.newZ hk (o := .tup (cutV vs lo hi)) hn (fun ps z => by cases z)
      exact hq _ _ _ st (.tup (.inl (.inl (W.add_at q _))) ((cutV_eq hs lo hi).up st.le))
  | lst h hs =>
    cases e
    rename_i p vs ds
    refine .inr ⟨p, vs, rfl, SqL.of (hk.z _ _ h), fun q hn => ?_⟩
    have st := Step.newZ hk (o := .lst (cutV vs lo hi)) hn (fun ps z => by cases z)
    exact hq _ _ _ st (.lst (W.add_at q _) ((cutV_eq hs lo hi).up st.le))
  | _ => cases e
theorem re_slc {lo hi : Option Expr} {evL evH : Env → Store → Out (Option Int)} {p2 : Pos} (hKG : X.K = G.K) (ha : PE X a (tE G cf Wx evA)) (hl : PO X lo (tOp' G cf Wx evL)) (hh : PO X hi (tOp' G cf Wx evH)) :
    PE X (.Subscript a (.Slice lo hi none p2) pos) (tE G cf Wx fun env S => (evA env S).bind fun x S => (evL env S).bind fun l S => (evH env S).bind fun h S => .ofO (slcD x l h) S) := by
  refine (pe_slice (SlR.or (sl_tupA (X := X)) (sl_list (X := X))) ha hl hh).im fun σ H Q ⟨W, H0, env, S, h, g⟩ => ?_
  refine tR.seq h g fun x W1 H1 S1 da s1 dx h1 g1 => ?_
  refine tR.seq h1 g1 fun l W2 H2 S2 dl s2 el h2 g2 => ?_
  refine tR.seq h2 g2 fun u W3 H3 S3 du s3 eu h3 g3 => ?_
  cases el
  cases eu
  rw [hKG]
  cases e : slcD da l u with
  | none => rw [e] at g3; exact g3.elim
  | some d => rw [e] at g3; exact slD_ok h3.hok ((dx.up s2.le).up s3.le) e fun v W' H' t dv => g3 v W' H' t dv
theorem re_ownSlc {i : Nat} {x : Str} {p1 p2 : Pos} {lo hi : Option Expr} {evL evH : Env → Store → Out (Option Int)} (hN : X.N[i]? = some x) (hv : Vis X.env.scope x) (hd : (x == ("__debug__" : Str)) = false) (hcd : (x == ("__classdict__" : Str)) = false)
    (hl : PO X lo (tOp' G cf Wx evL)) (hh : PO X hi (tOp' G cf Wx evH)) :
    PE X (.Subscript (.Name x p1) (.Slice lo hi none p2) pos) (tE G cf Wx fun env S => match env[i]? with | some (some (.own ds)) => (evL env S).bind fun l S => (evH env S).bind fun h S => .ofO (slcD (.lst ds) l h) S | _ => .bad) := by
  refine (pe_slice (sl_list (X := X)) (pe_var hN hv hd hcd) hl hh).im fun σ H Q ⟨W, H0, env, S, h, g⟩ => ?_
  dsimp only at g
  split at g
  · rename_i ds e
    obtain ⟨v, e1, p, vs, rfl, h1, h2, h3, h4, h5⟩ := h.env.get i _ e
    refine ⟨.ref p, e1, ?_⟩
    refine tR.seq h g fun l W1 H1 S1 dl s1 el h1' g1 => ?_
    refine tR.seq h1' g1 fun u W2 H2 S2 du s2 eu h2' g2 => ?_
    cases el
    cases eu
    obtain ⟨v', e1', p', vs', e2', k1, k2, k3, k4, k5⟩ := h2'.env.get i _ e
    rw [e1] at e1'; cases e1'
    cases e2'
    refine ⟨p, vs', rfl, SqL.of k1, fun q hn => ?_⟩
    have st := Step.newZ h2'.hok (o := .lst (cutV vs' l u)) hn (fun ps z => by cases z)
    exact g2 _ _ _ st (.lst (W2.add_at q _) ((cutV_eq k2 l u).up st.le))
  · exact g.elim
theorem re_rev {k : Nat} {p1 p2 p3 : Pos} (ha : PE X a (tE G cf Wx evA)) : PE X (.Subscript a (.Slice none none (some (.UnaryOp .USub (.Constant (.int 1) k p1) p2)) p3) pos)
    (tE G cf Wx fun env S => (evA env S).bind fun x S => match x with | .lst ds => .ok (.lst ds.reverse) S | _ => .bad) := by
  refine (pe_revL ha).im fun σ H Q ⟨W, H0, env, S, h, g⟩ => ?_
  refine tR.seq h g fun x W1 H1 S1 da s1 dx h1 g1 => ?_
  cases dx with
  | lst h hs =>
    rename_i p vs ds
    refine ⟨p, vs, rfl, SqL.of (h1.hok.z _ _ h), fun q hn => ?_⟩
    have st := Step.newZ h1.hok (o := .lst vs.reverse) hn (fun ps z => by cases z)
    exact g1 _ _ _ st (.lst (W1.add_at q _) (hs.rev.up st.le))
  | _ => exact (show False from g1).elim

/-! ### chains, and, or -/
theorem chainD {f f' : D → D → Option Bool} {r r' : R2} (hb1 : OpB G (fun x y => (f x y).map D.bl) r) (hb2 : OpB G (fun x y => (f' x y).map D.bl) r') {σ : L2.St} {H : Hp} {Q : VK}
    (q : tE G cf Wx (fun env S => (evA env S).bind fun x S => (evB env S).bind fun y S => match f x y with | some true => (evC env S).bind fun z S => .ofO ((f' y z).map D.bl) S | some false => .ok (.bl false) S | none => .bad) σ H Q) :
    tChain r r' (tE G cf Wx evA) (tE G cf Wx evB) (tE G cf Wx evC) σ H Q := by
  obtain ⟨W, H0, env, S, h, g⟩ := q
  refine tR.seq h g fun x W1 H1 S1 da s1 dx h1 g1 => ?_
  refine tR.seq h1 g1 fun y W2 H2 S2 db s2 dy h2 g2 => ?_
  cases e : f da db with
  | none => rw [e] at g2; exact (show False from g2).elim
  | some k =>
    rw [e] at g2
    refine hb1 W2 S2 x y da db (.bl k) H2 _ h2.hok (dx.up s2.le) dy (by simp only [e]; rfl) fun v W3 H3 s3 dv => ?_
    cases dv
    refine ⟨k, rfl, ?_⟩
    cases k with
    | false =>
      rw [if_neg Bool.false_ne_true]
      exact g2 _ _ _ s3 (.bl false)
    | true =>
      rw [if_pos rfl]
      refine tR.seq (h2.step s3) (Go.step s3 g2) fun z W4 H4 S4 dc s4 dz h4 g4 => ?_
      cases e2 : f' db dc with
      | none => rw [e2] at g4; exact (show False from g4).elim
      | some k' =>
        rw [e2] at g4
        exact hb2 W4 S4 y z db dc (.bl k') H4 Q h4.hok ((dy.up s3.le).up s4.le) dz (by simp only [e2]; rfl) fun v W' H' t dv => g4 v W' H' t dv
theorem re_chain {op op' : CmpOp} {f f' : D → D → Option Bool} {r r' : R2} (ho : OpR X (compareOp op) r) (ho' : OpR X (compareOp op') r') (hb1 : OpB G (fun x y => (f x y).map D.bl) r) (hb2 : OpB G (fun x y => (f' x y).map D.bl) r')
    (ha : PE X a (tE G cf Wx evA)) (hb : PE X b (tE G cf Wx evB)) (hc : PE X c (tE G cf Wx evC)) (hm : lastMarks [op, op'] [b, c] = false) :
    PE X (.Compare a [op, op'] [b, c] pos) (tE G cf Wx (fun env S => (evA env S).bind fun x S => (evB env S).bind fun y S => match f x y with | some true => (evC env S).bind fun z S => .ofO ((f' y z).map D.bl) S | some false => .ok (.bl false) S | none => .bad)) :=
  (pe_chain ho ho' ha hb hc hm).im fun σ H Q q => chainD hb1 hb2 q
theorem tE_test {ev : Env → Store → Out D} {σ : L2.St} {H : Hp} {Q : Bool → Hp → Prop} (q : tT G cf Wx (evT ev) σ H Q) : tE G cf Wx ev σ H fun x H' => ∃ k, x = .bl k ∧ Q k H' := by
  obtain ⟨W, H0, env, S, h, g⟩ := q
  refine tR.seq h g fun x W1 H1 S1 d s1 dx h1 g1 => ?_
  cases d with
  | bl k =>
    cases dx
    exact ⟨k, rfl, Go.ok h1.hok g1 rfl⟩
  | _ => exact (show False from g1).elim
theorem ret_chain {op op' : CmpOp} {f f' : D → D → Option Bool} {r r' : R2} (ho : OpR X (compareOp op) r) (ho' : OpR X (compareOp op') r') (hb1 : OpB G (fun x y => (f x y).map D.bl) r) (hb2 : OpB G (fun x y => (f' x y).map D.bl) r')
    (ha : PE X a (tE G cf Wx evA)) (hb : PE X b (tE G cf Wx evB)) (hc : PE X c (tE G cf Wx evC)) (hm : lastMarks [op, op'] [b, c] = false) :
    PT X (.Compare a [op, op'] [b, c] pos) (tT G cf Wx (evT (fun env S => (evA env S).bind fun x S => (evB env S).bind fun y S => match f x y with | some true => (evC env S).bind fun z S => .ofO ((f' y z).map D.bl) S | some false => .ok (.bl false) S | none => .bad))) :=
  (pt_chain ho ho' ha hb hc hm).im fun σ H Q q => chainD hb1 hb2 (tE_test q)

/-- and, or as values -/
theorem re_and {es : List Expr} {evR : Env → Store → Out D} (ha : PE X a (tE G cf Wx evA)) (hr : PE X (.BoolOp .And (b :: es) pos) (tE G cf Wx evR)) :
    PE X (.BoolOp .And (a :: b :: es) pos) (tE G cf Wx fun env S => (evA env S).bind fun d S => match truth d with | some true => evR env S | some false => .ok (.bl false) S | none => .bad) := by
  refine (pe_and ha hr).im fun σ H Q ⟨W, H0, env, S, h, g⟩ => ?_
  refine tR.seq h g fun x W1 H1 S1 d s1 dx h1 g1 => ?_
  cases d with
  | bl k =>
    cases dx
    refine ⟨k, rfl, ?_⟩
    cases k with
    | true => rw [if_pos rfl]; exact ⟨_, _, _, _, h1, g1⟩
    | false => rw [if_neg Bool.false_ne_true]; exact Go.ok h1.hok g1 (.bl false)
  | _ => exact (show False from g1).elim
theorem re_or {es : List Expr} {evR : Env → Store → Out D} (ha : PE X a (tE G cf Wx evA)) (hr : PE X (.BoolOp .Or (b :: es) pos) (tE G cf Wx evR)) :
    PE X (.BoolOp .Or (a :: b :: es) pos) (tE G cf Wx fun env S => (evA env S).bind fun d S => match truth d with | some true => .ok (.bl true) S | some false => evR env S | none => .bad) := by
  refine (pe_or ha hr).im fun σ H Q ⟨W, H0, env, S, h, g⟩ => ?_
  refine tR.seq h g fun x W1 H1 S1 d s1 dx h1 g1 => ?_
  cases d with
  | bl k =>
    cases dx
    refine ⟨k, rfl, ?_⟩
    cases k with
    | false => rw [if_neg Bool.false_ne_true]; exact ⟨_, _, _, _, h1, g1⟩
    | true => rw [if_pos rfl]; exact Go.ok h1.hok g1 (.bl true)
  | _ => exact (show False from g1).elim
theorem re_one {op : BoolOp} (ha : PE X a (tE G cf Wx evA)) : PE X (.BoolOp op [a] pos) (tE G cf Wx fun env S => (evA env S).bind fun d S => .ofO ((truth d).map D.bl) S) := by
  refine (pe_one ha).im fun σ H Q ⟨W, H0, env, S, h, g⟩ => ?_
  refine tR.seq h g fun x W1 H1 S1 d s1 dx h1 g1 => ?_
  cases d with
  | bl k => cases dx; exact Go.ok h1.hok g1 (.bl k)
  | _ => exact (show False from g1).elim
theorem evT_bl {ev : Env → Store → Out D} {env : Env} {S : Store} : evT (fun env S => (ev env S).bind fun d S => .ofO ((truth d).map D.bl) S) env S = evT ev env S := by
  dsimp only [evT]
  cases ev env S with
  | bad => rfl
  | exc c x S => rfl
  | ok x S1 =>
    simp only [Out.bind_ok]
    cases truth x <;> rfl
theorem rew_one {op : BoolOp} (ha : PT X a (tT G cf Wx (evT evA))) : PW X (.BoolOp op [a] pos) (tT G cf Wx (evT fun env S => (evA env S).bind fun d S => .ofO ((truth d).map D.bl) S)) := by
  have key : PW X (.BoolOp op [a] pos) (tT G cf Wx (evT evA)) := by
    cases op with
    | And => exact pw_and1 ha
    | Or => exact pw_or1 ha
  exact key.im fun σ H Q ⟨W, H0, env, S, h, g⟩ => ⟨W, H0, env, S, h, by rw [evT_bl] at g; exact g⟩
theorem rew_and {es : List Expr} {evR : Env → Store → Out D} (ha : PT X a (tT G cf Wx (evT evA))) (hr : PW X (.BoolOp .And (b :: es) pos) (tT G cf Wx (evT evR))) :
    PW X (.BoolOp .And (a :: b :: es) pos) (tT G cf Wx (evT fun env S => (evA env S).bind fun d S => match truth d with | some true => evR env S | some false => .ok (.bl false) S | none => .bad)) := by
  refine (pw_and ha hr).im fun σ H Q ⟨W, H0, env, S, h, g⟩ => ?_
  have assoc : evT (fun env S => (evA env S).bind fun d S => match truth d with | some true => evR env S | some false => .ok (.bl false) S | none => .bad) env S = (evT evA env S).bind fun k S => if k = true then evT evR env S else .ok false S := by
    dsimp only [evT]
    cases evA env S with
    | bad => rfl
    | exc c x S => rfl
    | ok x S1 =>
      simp only [Out.bind_ok]
      rcases truth x with _ | _ | _ <;> rfl
  rw [assoc] at g
  refine tR.seq h g fun x W1 H1 S1 k s1 dx h1 g1 => ?_
  cases dx
  cases x with
  | true => rw [if_pos rfl] at g1 ⊢; exact ⟨_, _, _, _, h1, g1⟩
  | false => rw [if_neg Bool.false_ne_true] at g1 ⊢; exact Go.ok h1.hok g1 rfl
theorem rew_or {es : List Expr} {evR : Env → Store → Out D} (ha : PT X a (tT G cf Wx (evT evA))) (hr : PW X (.BoolOp .Or (b :: es) pos) (tT G cf Wx (evT evR))) :
    PW X (.BoolOp .Or (a :: b :: es) pos) (tT G cf Wx (evT fun env S => (evA env S).bind fun d S => match truth d with | some true => .ok (.bl true) S | some false => evR env S | none => .bad)) := by
  refine (pw_or ha hr).im fun σ H Q ⟨W, H0, env, S, h, g⟩ => ?_
  have assoc : evT (fun env S => (evA env S).bind fun d S => match truth d with | some true => .ok (.bl true) S | some false => evR env S | none => .bad) env S = (evT evA env S).bind fun k S => if k = true then .ok true S else evT evR env S := by
    dsimp only [evT]
    cases evA env S with
    | bad => rfl
    | exc c x S => rfl
    | ok x S1 =>
      simp only [Out.bind_ok]
      rcases truth x with _ | _ | _ <;> rfl
  rw [assoc] at g
  refine tR.seq h g fun x W1 H1 S1 k s1 dx h1 g1 => ?_
  cases dx
  cases x with
  | true => rw [if_pos rfl] at g1 ⊢; exact Go.ok h1.hok g1 rfl
  | false => rw [if_neg Bool.false_ne_true] at g1 ⊢; exact ⟨_, _, _, _, h1, g1⟩
end
end Pz

/-! Pz6: built-ins called. -/
namespace Pz
open PySem PySem.Spec PyProof.Rows L2

section
variable {X : Cx} {G : Gc} {cf : CF} {Wx : WX} {a b c : Expr} {evA evB evC : Env → Store → Out D} {pos : Pos}
/-- what a built-in's rule is to follow from -/
def PrimR (G : Gc) (p : Prim) (r : List V → Hp → VK → Prop) : Prop :=
  ∀ (W : Wd) (S : Store) (vs : List V) (ds : List D) (d : D) (H : Hp) (Q : VK), Hok G W H S → Dats G W vs ds → primD p ds = some d → (∀ v W' H', Step G W H W' H' S → Dat G W' v d → Q v H') → r vs H Q
theorem re_prim {x : Str} {r : List V → Hp → VK → Prop} {p : Prim} {e : Expr} {es : List Expr} {evs : Env → Store → Out (List D)} (hp : PrimR G p r) (hc : PE X e (tE G cf Wx evA) → PA X (e :: es) (tA G cf Wx evs) → PE X a (tCB r (tA G cf Wx evs))) (he : PE X e (tE G cf Wx evA)) (ha : PA X (e :: es) (tA G cf Wx evs)) :
    PE X a (tE G cf Wx fun env S => (evs env S).bind fun ds S => .ofO (primD p ds) S) := by
  refine (hc he ha).im fun σ H Q ⟨W, H0, env, S, h, g⟩ => ?_
  refine tR.seq h g fun vs W1 H1 S1 ds s1 dx h1 g1 => ?_
  cases e : primD p ds with
  | none => rw [e] at g1; exact g1.elim
  | some d => rw [e] at g1; exact hp W1 S1 vs ds d H1 Q h1.hok dx e fun v W' H' t dv => g1 v W' H' t dv
theorem re_primA {r : List V → Hp → VK → Prop} {p : Prim} {evs : Env → Store → Out (List D)} (hp : PrimR G p r) (hc : PE X a (tCB r (tA G cf Wx evs))) :
    PE X a (tE G cf Wx fun env S => (evs env S).bind fun ds S => .ofO (primD p ds) S) := by
  refine hc.im fun σ H Q ⟨W, H0, env, S, h, g⟩ => ?_
  refine tR.seq h g fun vs W1 H1 S1 ds s1 dx h1 g1 => ?_
  cases e : primD p ds with
  | none => rw [e] at g1; exact g1.elim
  | some d => rw [e] at g1; exact hp W1 S1 vs ds d H1 Q h1.hok dx e fun v W' H' t dv => g1 v W' H' t dv

theorem Dats.one {W : Wd} {vs : List V} {d : D} (h : Dats G W vs [d]) : ∃ v, vs = [v] ∧ Dat G W v d := by
  cases h with
  | cons h t => cases t; exact ⟨_, rfl, h⟩
theorem Dats.two {W : Wd} {vs : List V} {d e : D} (h : Dats G W vs [d, e]) : ∃ v u, vs = [v, u] ∧ Dat G W v d ∧ Dat G W u e := by
  cases h with
  | cons h t =>
    cases t with
    | cons h2 t2 => cases t2; exact ⟨_, _, rfl, h, h2⟩
theorem ofInts_eq : ∀ {ds : List D} {ns : List Int}, D.ofInts? ds = some ns → ds = ns.map D.int
  | [], ns, e => by cases e; rfl
  | .int i :: ds, ns, e => by
    simp only [D.ofInts?, Option.map_eq_some_iff] at e
    obtain ⟨ms, h1, rfl⟩ := e
    rw [ofInts_eq h1]; rfl
  | .non :: _, _, e => by cases e
  | .bl _ :: _, _, e => by cases e
  | .str _ :: _, _, e => by cases e
  | .tup _ :: _, _, e => by cases e
  | .lst _ :: _, _, e => by cases e
  | .ref _ :: _, _, e => by cases e
  | .fn _ :: _, _, e => by cases e
  | .ty _ :: _, _, e => by cases e
  | .scr _ :: _, _, e => by cases e
theorem ofBls_eq : ∀ {ds : List D} {ns : List Bool}, D.ofBls? ds = some ns → ds = ns.map D.bl
  | [], ns, e => by cases e; rfl
  | .bl i :: ds, ns, e => by
    simp only [D.ofBls?, Option.map_eq_some_iff] at e
    obtain ⟨ms, h1, rfl⟩ := e
    rw [ofBls_eq h1]; rfl
  | .non :: _, _, e => by cases e
  | .int _ :: _, _, e => by cases e
  | .str _ :: _, _, e => by cases e
  | .tup _ :: _, _, e => by cases e
  | .lst _ :: _, _, e => by cases e
  | .ref _ :: _, _, e => by cases e
  | .fn _ :: _, _, e => by cases e
  | .ty _ :: _, _, e => by cases e
  | .scr _ :: _, _, e => by cases e
@[simp] theorem ofInts_map : ∀ ns : List Int, D.ofInts? (ns.map D.int) = some ns
  | [] => rfl
  | n :: ns => by simp only [List.map_cons, D.ofInts?, ofInts_map ns]; rfl
@[simp] theorem ofBls_map : ∀ ns : List Bool, D.ofBls? (ns.map D.bl) = some ns
  | [] => rfl
  | n :: ns => by simp only [List.map_cons, D.ofBls?, ofBls_map ns]; rfl
theorem maxI_mem : ∀ {ns : List Int}, ns ≠ [] → maxI ns ∈ ns ∧ ∀ y ∈ ns, y ≤ maxI ns
  | [], h => absurd rfl h
  | [a], _ => by simp [maxI]
  | a :: b :: r, _ => by
    obtain ⟨h1, h2⟩ := maxI_mem (ns := b :: r) (by simp)
    rw [maxI]
    split
    · rename_i hl
      refine ⟨List.mem_cons_of_mem _ h1, fun y hy => ?_⟩
      rcases List.mem_cons.mp hy with rfl | hy
      · omega
      · exact h2 y hy
    · rename_i hl
      refine ⟨List.mem_cons_self, fun y hy => ?_⟩
      rcases List.mem_cons.mp hy with rfl | hy
      · omega
      · have := h2 y hy; omega
theorem minI_mem : ∀ {ns : List Int}, ns ≠ [] → minI ns ∈ ns ∧ ∀ y ∈ ns, minI ns ≤ y
  | [], h => absurd rfl h
  | [a], _ => by simp [minI]
  | a :: b :: r, _ => by
    obtain ⟨h1, h2⟩ := minI_mem (ns := b :: r) (by simp)
    rw [minI]
    split
    · rename_i hl
      refine ⟨List.mem_cons_of_mem _ h1, fun y hy => ?_⟩
      rcases List.mem_cons.mp hy with rfl | hy
      · omega
      · exact h2 y hy
    · rename_i hl
      refine ⟨List.mem_cons_self, fun y hy => ?_⟩
      rcases List.mem_cons.mp hy with rfl | hy
      · omega
      · have := h2 y hy; omega

section
variable {prog : Program} {w : World} {A : Around} {E : Value → Shared → Prop} {s : Shared} {l : Addr} {its : List Value} {ns : List Int} {Q : Value → Shared → Prop}
theorem sum_rawT (hh : A.handled = none) (hl : IsTup s.heap l its.toArray) (hi : IntsAre its ns)
    (h : ∀ h' tk t', (∀ b o, s.heap.get? b = some o → h'.get? b = some o) → Q (.int ns.sum t') { s with heap := h', toks := tk }) : wpAny (model prog w) A (call (.builtin "sum") [.ref l]) Q E s := by
  obtain ⟨xs, e⟩ := hi.allInts.items
  have hn : numsOf (intItems xs).toList = ns := by rw [← e]; exact hi.numsOf
  rw [nums_intItems] at hn
  rw [e] at hl
  refine PySem.W.ktm_sumG hh hl fun h' tk t' hk => ?_
  have := h h' tk t' hk
  rw [preSum_eq, List.take_of_length_le (by simp), hn]; exact this
theorem max_rawT (hh : A.handled = none) (hl : IsTup s.heap l its.toArray) (hi : IntsAre its ns) (hne : 0 < ns.length)
    (h : ∀ h' tk M t', (∀ b o, s.heap.get? b = some o → h'.get? b = some o) → M ∈ ns → (∀ a, a ∈ ns → a ≤ M) → Q (.int M t') { s with heap := h', toks := tk }) : wpAny (model prog w) A (call (.builtin "max") [.ref l]) Q E s := by
  obtain ⟨xs, e⟩ := hi.allInts.items
  have hn : numsOf (intItems xs).toList = ns := by rw [← e]; exact hi.numsOf
  rw [nums_intItems] at hn
  subst hn
  rw [e] at hl
  have hl : s.heap.IsTuple l (intItems xs) := hl
  have hsz : 0 < xs.size := by simpa using hne
  obtain ⟨o, ho, hc, n, hd⟩ := id hl
  have hnt : l ≠ s.heap.objs.size := Nat.ne_of_lt (Heap.lt_size ho)
  refine call_max_walk (wpAny_pyIter_tuple hl ?_)
  refine ⟨s.heap.objs.size, _, _, _, _, _, _, rfl, Walks.tuple (prog := prog) (w := w) (A := A.in1) hh s.heap.objs.size l hnt (intItems xs), ⟨⟨_, Heap.get?_push_size _ rfl, rfl, rfl⟩, hl.at fun o e => Heap.get?_push_of_some _ e⟩, fun b hb => ?_, by simpa [intItems] using hsz, CmpOf.ints_gt (numAt xs) (fun _ _ => intItems_at), fun v h' tk hP hk => ?_⟩
  · rcases List.mem_cons.mp hb with rfl | hb
    · exact Heap.lt_size (Heap.get?_push_size _ rfl)
    · obtain rfl := List.mem_singleton.mp hb
      exact Heap.lt_size (Heap.get?_push_of_some _ ho)
  · obtain ⟨t, rfl⟩ := intItems_at (i := argBest (fun i j => decide (numAt xs i > numAt xs j)) (xs.size - 1)) (by simpa [intItems] using hP)
    obtain ⟨h1, h2⟩ := argBest_gt (numAt xs) (xs.size - 1)
    refine h h' tk _ t (fun b o e => hk b o (fun hb => absurd (Heap.lt_size e) ((List.mem_singleton.mp hb) ▸ Nat.lt_irrefl _)) (Heap.get?_push_of_some _ e)) ?_ fun a ha => ?_
    · rw [numAt_eq]; exact PySem.getD_mem (by rw [List.length_map, Array.length_toList]; omega)
    · obtain ⟨j, hj, rfl⟩ := mem_getD ha
      rw [List.length_map, Array.length_toList] at hj
      rw [← numAt_eq]; exact h2 j (by omega)
end
section
variable {X : Cx}
/-- sum(xs), max(xs) of a list or of a tuple of ints -/
def rSumA (K : PySem.W.Frag) : List V → Hp → VK → Prop := fun vs H Q => ∃ (a : Addr) (ns : List Int), vs = [V.ref a] ∧ (SqL K H a (ns.map V.int) ∨ SqT K H a (ns.map V.int)) ∧ Q (.int ns.sum) H
def rMaxA (K : PySem.W.Frag) : List V → Hp → VK → Prop := fun vs H Q => ∃ (a : Addr) (ns : List Int), vs = [V.ref a] ∧ (SqL K H a (ns.map V.int) ∨ SqT K H a (ns.map V.int)) ∧ 0 < ns.length ∧ ∀ m, m ∈ ns → (∀ y, y ∈ ns → y ≤ m) → Q (.int m) H
theorem cr_sumA (hc : X.calm = true) : CallR X (.builtin "sum") (rSumA X.K) := by
  intro pins s σ H vs us Q I r h
  obtain ⟨a, ns, rfl, hs | hs, q⟩ := h
  · exact cr_sum hc pins s σ H _ us Q I r ⟨a, ns, rfl, hs, q⟩
  · obtain ⟨its, rv, hl, _⟩ := I.tuple hs
    rw [Vals.ref1 r]
    exact sum_rawT (I.ok.hd hc) hl rv.ints fun h' tk t' hk => ⟨.int _, H, I.kept hk, ⟨_, rfl⟩, q⟩
theorem cr_maxA (hc : X.calm = true) : CallR X (.builtin "max") (rMaxA X.K) := by
  intro pins s σ H vs us Q I r h
  obtain ⟨a, ns, rfl, hs | hs, hne, q⟩ := h
  · exact cr_max hc pins s σ H _ us Q I r ⟨a, ns, rfl, hs, hne, q⟩
  · obtain ⟨its, rv, hl, _⟩ := I.tuple hs
    rw [Vals.ref1 r]
    exact max_rawT (I.ok.hd hc) hl rv.ints hne fun h' tk m t' hk h1 h2 => ⟨.int _, H, I.kept hk, ⟨_, rfl⟩, q m h1 h2⟩
end
def rLen (K : PySem.W.Frag) : List V → Hp → VK → Prop := fun xs H Q => ∃ x n, xs = [x] ∧ LenV K x H n ∧ Q (.int n) H
theorem len_ok : PrimR G .len (rLen G.K) := by
  intro W S vs ds d H Q hk hd e hq
  rcases ds with _ | ⟨d1, _ | ⟨d2, r⟩⟩ <;> first | (exfalso; revert e; simp [primD]; done) | skip
  obtain ⟨v, rfl, dv⟩ := hd.one
  cases dv with
  | tup h hs => cases e; exact ⟨_, _, rfl, .inr ⟨_, SqT.mono hk.z h, rfl⟩, by rw [hs.length]; exact hq _ W H (Step.refl hk) (.int _)⟩
  | lst h hs => cases e; exact ⟨_, _, rfl, .inl ⟨_, SqL.of (hk.z _ _ h), rfl⟩, by rw [hs.length]; exact hq _ W H (Step.refl hk) (.int _)⟩
  | scr h => cases e; exact ⟨_, _, rfl, .inl ⟨_, SqL.mono hk.z h, rfl⟩, by rw [List.length_map]; exact hq _ W H (Step.refl hk) (.int _)⟩
  | str x =>
    simp only [primD] at e
    split at e
    · rename_i hl
      cases e; exact ⟨_, _, rfl, ⟨hl, rfl⟩, hq _ W H (Step.refl hk) (.int _)⟩
    · cases e
  | _ => exfalso; revert e; simp [primD]
theorem abs_ok : PrimR G .abs (fun xs H Q => ∃ i, xs = [.int i] ∧ Q (.int (if i < 0 then -i else i)) H) := by
  intro W S vs ds d H Q hk hd e hq
  rcases ds with _ | ⟨d1, _ | ⟨d2, r⟩⟩ <;> first | (exfalso; revert e; simp [primD]; done) | skip
  obtain ⟨v, rfl, dv⟩ := hd.one
  cases dv <;> first | (exfalso; revert e; simp [primD]; done) | skip
  cases e
  exact ⟨_, rfl, hq _ W H (Step.refl hk) (.int _)⟩
theorem intsL {W : Wd} {S : Store} {H : Hp} {vs : List V} {a : Addr} {ds : List D} {ns : List Int} (hk : Hok G W H S) (h : W.Z a = some (.lst vs)) (hs : Dats G W vs ds) (e : D.ofInts? ds = some ns) : SqL G.K H a (ns.map V.int) := by
  have e1 := ofInts_eq e
  subst e1
  have e2 := hs.ints
  subst e2
  exact SqL.of (hk.z _ _ h)
theorem intsT {W : Wd} {S : Store} {H : Hp} {vs : List V} {a : Addr} {ds : List D} {ns : List Int} (hk : Hok G W H S) (h : SqT G.K W.Z a vs) (hs : Dats G W vs ds) (e : D.ofInts? ds = some ns) : SqT G.K H a (ns.map V.int) := by
  have e1 := ofInts_eq e
  subst e1
  have e2 := hs.ints
  subst e2
  exact SqT.mono hk.z h
theorem max1_ok : PrimR G .max1 (rMaxA G.K) := by
  intro W S vs ds d H Q hk hd e hq
  rcases ds with _ | ⟨d1, _ | ⟨d2, r⟩⟩ <;> first | (exfalso; revert e; simp [primD]; done) | skip
  obtain ⟨v, rfl, dv⟩ := hd.one
  cases dv <;> first | (exfalso; revert e; simp [primD]; done) | skip
  all_goals
    rename_i p vs ds h hs
    simp only [primD] at e
    obtain ⟨ns, e1, e2⟩ := Option.bind_eq_some_iff.mp e
    split at e2
    · cases e2
    · rename_i hne
      cases e2
      obtain ⟨m1, m2⟩ := maxI_mem hne
      refine ⟨p, ns, rfl, by first | exact .inl (intsL hk h hs e1) | exact .inr (intsT hk h hs e1), List.length_pos_iff.mpr hne, fun m hm hy => ?_⟩
      have em : m = maxI ns := by have := hy _ m1; have := m2 _ hm; omega
      subst em
      exact hq _ W H (Step.refl hk) (.int _)
theorem min1_ok : PrimR G .min1 (rMin G.K) := by
  intro W S vs ds d H Q hk hd e hq
  rcases ds with _ | ⟨d1, _ | ⟨d2, r⟩⟩ <;> first | (exfalso; revert e; simp [primD]; done) | skip
  obtain ⟨v, rfl, dv⟩ := hd.one
  cases dv <;> first | (exfalso; revert e; simp [primD]; done) | skip
  rename_i p vs ds h hs
  simp only [primD] at e
  obtain ⟨ns, e1, e2⟩ := Option.bind_eq_some_iff.mp e
  split at e2
  · cases e2
  · rename_i hne
    cases e2
    obtain ⟨m1, m2⟩ := minI_mem hne
    refine ⟨p, ns, rfl, intsL hk h hs e1, List.length_pos_iff.mpr hne, fun m hm hy => ?_⟩
    have em : m = minI ns := by have := hy _ m1; have := m2 _ hm; omega
    subst em
    exact hq _ W H (Step.refl hk) (.int _)
theorem max2_ok : PrimR G .max2 (fun xs H Q => ∃ i j, xs = [.int i, .int j] ∧ Q (.int (if j > i then j else i)) H) := by
  intro W S vs ds d H Q hk hd e hq
  rcases ds with _ | ⟨d1, _ | ⟨d2, _ | ⟨d3, r⟩⟩⟩ <;> first | (exfalso; revert e; simp [primD]; done) | skip
  obtain ⟨v, u, rfl, dv, du⟩ := hd.two
  cases dv <;> cases du <;> first | (exfalso; revert e; simp [primD]; done) | skip
  cases e
  exact ⟨_, _, rfl, hq _ W H (Step.refl hk) (.int _)⟩
theorem min2_ok : PrimR G .min2 (fun xs H Q => ∃ i j, xs = [.int i, .int j] ∧ Q (.int (if j < i then j else i)) H) := by
  intro W S vs ds d H Q hk hd e hq
  rcases ds with _ | ⟨d1, _ | ⟨d2, _ | ⟨d3, r⟩⟩⟩ <;> first | (exfalso; revert e; simp [primD]; done) | skip
  obtain ⟨v, u, rfl, dv, du⟩ := hd.two
  cases dv <;> cases du <;> first | (exfalso; revert e; simp [primD]; done) | skip
  cases e
  exact ⟨_, _, rfl, hq _ W H (Step.refl hk) (.int _)⟩
theorem sum_ok : PrimR G .sum (rSumA G.K) := by
  intro W S vs ds d H Q hk hd e hq
  rcases ds with _ | ⟨d1, _ | ⟨d2, r⟩⟩ <;> first | (exfalso; revert e; simp [primD]; done) | skip
  obtain ⟨v, rfl, dv⟩ := hd.one
  cases dv <;> first | (exfalso; revert e; simp [primD]; done) | skip
  all_goals
    rename_i p vs ds h hs
    simp only [primD, Option.map_eq_some_iff] at e
    obtain ⟨ns, e1, rfl⟩ := e
    exact ⟨p, ns, rfl, by first | exact .inl (intsL hk h hs e1) | exact .inr (intsT hk h hs e1), hq _ W H (Step.refl hk) (.int _)⟩
theorem blsL {W : Wd} {S : Store} {H : Hp} {vs : List V} {a : Addr} {ds : List D} {ns : List Bool} (hk : Hok G W H S) (h : W.Z a = some (.lst vs)) (hs : Dats G W vs ds) (e : D.ofBls? ds = some ns) : SqL G.K H a (ns.map V.bl) := by
  have e1 := ofBls_eq e
  subst e1
  have e2 := hs.bls
  subst e2
  exact SqL.of (hk.z _ _ h)
theorem all_ok : PrimR G .all (rAll G.K) := by
  intro W S vs ds d H Q hk hd e hq
  rcases ds with _ | ⟨d1, _ | ⟨d2, r⟩⟩ <;> first | (exfalso; revert e; simp [primD]; done) | skip
  obtain ⟨v, rfl, dv⟩ := hd.one
  cases dv <;> first | (exfalso; revert e; simp [primD]; done) | skip
  rename_i p vs ds h hs
  simp only [primD, Option.map_eq_some_iff] at e
  obtain ⟨ns, e1, rfl⟩ := e
  exact ⟨p, ns, rfl, blsL hk h hs e1, hq _ W H (Step.refl hk) (.bl _)⟩
theorem any_ok : PrimR G .any (rAny G.K) := by
  intro W S vs ds d H Q hk hd e hq
  rcases ds with _ | ⟨d1, _ | ⟨d2, r⟩⟩ <;> first | (exfalso; revert e; simp [primD]; done) | skip
  obtain ⟨v, rfl, dv⟩ := hd.one
  cases dv <;> first | (exfalso; revert e; simp [primD]; done) | skip
  rename_i p vs ds h hs
  simp only [primD, Option.map_eq_some_iff] at e
  obtain ⟨ns, e1, rfl⟩ := e
  exact ⟨p, ns, rfl, blsL hk h hs e1, hq _ W H (Step.refl hk) (.bl _)⟩
def rTupC (K : PySem.W.Frag) : List V → Hp → VK → Prop := fun xs H Q => ∃ p ys, xs = [.ref p] ∧ ((SqL K H p ys ∧ ∀ l, H l = none → Q (.ref l) (upd H l (.tup ys))) ∨ (SqT K H p ys ∧ Q (.ref p) H))
theorem tuple_ok : PrimR G .tuple (rTupC G.K) := by
  intro W S vs ds d H Q hk hd e hq
  rcases ds with _ | ⟨d1, _ | ⟨d2, r⟩⟩ <;> first | (exfalso; revert e; simp [primD]; done) | skip
  obtain ⟨v, rfl, dv⟩ := hd.one
  cases dv with
  | @lst q us es h hs =>
    cases e
    refine ⟨_, _, rfl, .inl ⟨SqL.of (hk.z _ _ h), fun l hl => ?_⟩⟩
    have st := Step.newZ hk (o := .tup us) hl (fun ps z => by cases z)
    exact hq _ _ _ st (.tup (.inl (.inl (W.add_at l _))) (hs.up st.le))
  | tup h hs =>
    cases e
    exact ⟨_, _, rfl, .inr ⟨SqT.mono hk.z h, hq _ W H (Step.refl hk) (.tup h hs)⟩⟩
  | _ => exfalso; revert e; simp [primD]
def rLstC (K : PySem.W.Frag) : List V → Hp → VK → Prop := fun xs H Q => ∃ p ys, xs = [.ref p] ∧ (SqL K H p ys ∨ SqT K H p ys) ∧ ∀ l, H l = none → Q (.ref l) (upd H l (.lst ys))
theorem list_ok : PrimR G .list (rLstC G.K) := by
  intro W S vs ds d H Q hk hd e hq
  rcases ds with _ | ⟨d1, _ | ⟨d2, r⟩⟩ <;> first | (exfalso; revert e; simp [primD]; done) | skip
  obtain ⟨v, rfl, dv⟩ := hd.one
  cases dv with
  | @lst q us es h hs =>
    cases e
    refine ⟨_, _, rfl, .inl (SqL.of (hk.z _ _ h)), fun l hl => ?_⟩
    have st := Step.newZ hk (o := .lst us) hl (fun ps z => by cases z)
    exact hq _ _ _ st (.lst (W.add_at l _) (hs.up st.le))
  | @tup q us es h hs =>
    cases e
    refine ⟨_, _, rfl, .inr (SqT.mono hk.z h), fun l hl => ?_⟩
    have st := Step.newZ hk (o := .lst us) hl (fun ps z => by cases z)
    exact hq _ _ _ st (.lst (W.add_at l _) (hs.up st.le))
  | _ => exfalso; revert e; simp [primD]
theorem int_ok : PrimR G .int (fun xs H Q => (∃ i, xs = [.int i] ∧ Q (.int i) H) ∨ ∃ k, xs = [.bl k] ∧ Q (.int (if k then 1 else 0)) H) := by
  intro W S vs ds d H Q hk hd e hq
  rcases ds with _ | ⟨d1, _ | ⟨d2, r⟩⟩ <;> first | (exfalso; revert e; simp [primD]; done) | skip
  obtain ⟨v, rfl, dv⟩ := hd.one
  cases dv <;> first | (exfalso; revert e; simp [primD]; done) | skip
  · cases e; exact .inr ⟨_, rfl, hq _ W H (Step.refl hk) (.int _)⟩
  · cases e; exact .inl ⟨_, rfl, hq _ W H (Step.refl hk) (.int _)⟩

/-- isinstance -/
theorem kit_tab : ∀ t : Ty, kitB "NoneType" t.name = some false ∧ kitB "bool" t.name = some (decide (t = .bool) || decide (t = .int)) ∧ kitB "int" t.name = some (decide (t = .int)) ∧ kitB "str" t.name = some (decide (t = .str)) ∧
    kitB "tuple" t.name = some (decide (t = .tuple)) ∧ kitB "list" t.name = some (decide (t = .list)) := by
  intro t
  cases t <;> decide +kernel
theorem tyB_ok {W : Wd} {S : Store} {H : Hp} {v : V} {d : D} {t : Ty} {k : Bool} (hk : Hok G W H S) (hd : Dat G W v d) (e : tyB d t = some k) : ∃ T, TyX G.K H v (.type T) ∧ PySem.W.kitOne G.K (.type T) (.type t.name) = some k := by
  obtain ⟨k1, k2, k3, k4, k5, k6⟩ := kit_tab t
  cases hd with
  | non => cases e; exact ⟨_, .base .non, kit_ty k1⟩
  | bl b => cases e; exact ⟨_, .base (.bl b), kit_ty k2⟩
  | int i => cases e; exact ⟨_, .base (.int i), kit_ty k3⟩
  | str x => cases e; exact ⟨_, .base (.str x), kit_ty k4⟩
  | tup h hs =>
    cases e
    refine ⟨"tuple", ?_, kit_ty k5⟩
    rcases SqT.mono hk.z h with (h | ⟨o, h⟩) | ⟨o, its, n, h1, h2, _⟩
    · exact .base (.tup h)
    · exact .fTuple h
    · exact .kTuple h1 h2
  | lst h hs => cases e; exact ⟨"list", .base (.lst (hk.z _ _ h)), kit_ty k6⟩
  | _ => exact absurd e (by simp [tyB])
theorem re_isi {t : Ty} {p p2 : Pos} {x : Str} (hKG : X.K = G.K) (hg : Gl X "isinstance") (hm : X.mg "isinstance" = none) (hgt : Gl X x) (hmt : X.mg x = none) (hv : bootBuiltins x = some (.type t.name)) (hn : x ≠ "__name__") (hdb : (x == ("__debug__" : Str)) = false)
    (ha : PE X a (tE G cf Wx evA)) (hs : starEach [a, .Name x p2] X.env = (false, eval a X.env) :: starEach [.Name x p2] X.env) :
    PE X (.Call (.Name "isinstance" p) [a, .Name x p2] [] pos) (tE G cf Wx fun env S => (evA env S).bind fun y S => .ofO ((tyB y t).map D.bl) S) := by
  have hT : PE X (.Name x p2) (tC (.ty t.name)) := pe_bltn hgt hmt hv rfl hn hdb
  refine (pe_callB (call_isi (X := X)) hg hm (by decide +kernel) (pa_cons ha (pa_cons hT pa_nil) hs) (by decide) (by decide) hs rfl).im fun σ H Q ⟨W, H0, env, S, h, g⟩ => ?_
  refine tR.seq h g fun v W1 H1 S1 d s1 dv h1 g1 => ?_
  cases e : tyB d t with
  | none => rw [e] at g1; exact (show False from g1).elim
  | some k =>
    rw [e] at g1
    obtain ⟨T, t1, t2⟩ := tyB_ok h1.hok dv e
    rw [hKG]
    exact ⟨v, .ty t.name, .type T, .type t.name, k, rfl, .ty _, t1, t2, Go.ok h1.hok g1 (.bl k)⟩

/-- tuple(range(n)), list(range(n)) -/
theorem rgV_dats (W : Wd) (i j : Int) : Dats G W (rgV i j) (rangeD i j) := by
  unfold rgV rangeD
  generalize List.range (j - i).toNat = l
  induction l with
  | nil => exact .nil
  | cons k r ih => exact .cons (.int _) ih
theorem re_tupRange {p p2 pos2 : Pos} (hc : X.calm = true) (hg : Gl X "tuple") (hm : X.mg "tuple" = none) (hg2 : Gl X "range") (hm2 : X.mg "range" = none) (ha : PE X a (tE G cf Wx evA)) (na : starEach [a] X.env = (false, eval a X.env) :: starEach [] X.env) :
    PE X (.Call (.Name "tuple" p) [.Call (.Name "range" p2) [a] [] pos2] [] pos) (tE G cf Wx fun env S => ((evA env S).bind fun d S => .ok [d] S).bind fun ds S => .ofO (primD .tupRange ds) S) := by
  refine (pe_tupRg hc hg hm (prg_1 hg2 hm2 ha na) rfl).im fun σ H Q ⟨W, H0, env, S, h, g⟩ => ?_
  have assoc : ((evA env S).bind fun d S => (.ok [d] S : Out (List D))).bind (fun ds S => Out.ofO (primD .tupRange ds) S) = (evA env S).bind fun d S => Out.ofO (primD .tupRange [d]) S := by cases evA env S <;> rfl
  dsimp only at g
  rw [assoc] at g
  refine tR.seq h g fun x W1 H1 S1 d s1 dx h1 g1 => ?_
  cases dx <;> first | (exact (show False from g1).elim) | skip
  rename_i n
  refine ⟨n, rfl, ?_⟩
  simp only [primD] at g1
  split at g1
  · rename_i hr
    refine ⟨hr, fun q hn => ?_⟩
    have st := Step.newZ h1.hok (o := .tup (rgV 0 n)) hn (fun ps z => by cases z)
    exact g1 _ _ _ st (.tup (.inl (.inl (W1.add_at q _))) (rgV_dats _ 0 n))
  · exact (show False from g1).elim
theorem re_listRange {p p2 pos2 : Pos} (hc : X.calm = true) (hg : Gl X "list") (hm : X.mg "list" = none) (hg2 : Gl X "range") (hm2 : X.mg "range" = none) (ha : PE X a (tE G cf Wx evA)) (na : starEach [a] X.env = (false, eval a X.env) :: starEach [] X.env) :
    PE X (.Call (.Name "list" p) [.Call (.Name "range" p2) [a] [] pos2] [] pos) (tE G cf Wx fun env S => ((evA env S).bind fun d S => .ok [d] S).bind fun ds S => .ofO (primD .listRange ds) S) := by
  refine (pe_listRg hc hg hm (prg_1 hg2 hm2 ha na) rfl).im fun σ H Q ⟨W, H0, env, S, h, g⟩ => ?_
  have assoc : ((evA env S).bind fun d S => (.ok [d] S : Out (List D))).bind (fun ds S => Out.ofO (primD .listRange ds) S) = (evA env S).bind fun d S => Out.ofO (primD .listRange [d]) S := by cases evA env S <;> rfl
  dsimp only at g
  rw [assoc] at g
  refine tR.seq h g fun x W1 H1 S1 d s1 dx h1 g1 => ?_
  cases dx <;> first | (exact (show False from g1).elim) | skip
  rename_i n
  refine ⟨n, rfl, ?_⟩
  simp only [primD] at g1
  split at g1
  · rename_i hr
    refine ⟨hr, fun q hn => ?_⟩
    have st := Step.newZ h1.hok (o := .lst (rgV 0 n)) hn (fun ps z => by cases z)
    exact g1 _ _ _ st (.lst (W1.add_at q _) (rgV_dats _ 0 n))
  · exact (show False from g1).elim
/-- len(x), x == [] of a name's own list -/
theorem re_ownLen {i : Nat} {x : Str} {p p1 : Pos} (hg : Gl X "len") (hm : X.mg "len" = none) (hN : X.N[i]? = some x) (hv : Vis X.env.scope x) (hd : (x == ("__debug__" : Str)) = false) (hcd : (x == ("__classdict__" : Str)) = false) :
    PE X (.Call (.Name "len" p) [.Name x p1] [] pos) (tE G cf Wx fun env S => match env[i]? with | some (some (.own ds)) => .ok (.int ds.length) S | _ => .bad) := by
  refine (pe_callB (call_len (X := X)) hg hm PySem.boot_len (pa_cons (pe_var hN hv hd hcd) pa_nil rfl) (by decide) (by decide) rfl rfl).im fun σ H Q ⟨W, H0, env, S, h, g⟩ => ?_
  dsimp only at g
  split at g
  · rename_i ds e
    obtain ⟨v, e1, q, vs, rfl, h1, h2, h3, h4, h5⟩ := h.env.get i _ e
    exact ⟨.ref q, e1, _, _, rfl, .inl ⟨vs, SqL.of h1, rfl⟩, by rw [h2.length]; exact Go.ok h.hok g (.int _)⟩
  · exact g.elim
end
end Pz

/-! Pz50: zip of a list and of a tuple, either way round. -/
namespace Pz
open PySem PySem.Spec PyProof.Rows L2
/-- a list or a tuple, as a thing that is gone through -/
inductive SK where | l | t
  deriving DecidableEq
def SK.Sq : SK → Heap → Addr → Array Value → Prop
  | .l, hp, a, items => hp.IsList a items
  | .t, hp, a, items => hp.IsTuple a items
def SK.Ix : SK → Heap → Addr → Addr → Nat → Prop
  | .l, hp, it, a, n => hp.IsListIter it a n
  | .t, hp, it, a, n => hp.IsTupleIter it a n
section
variable {k : SK} {hp hp' : Heap} {a it b : Addr} {items : Array Value} {n : Nat}
theorem SK.Sq.ext (x : k.Sq hp a items) (e : Heap.ExtBut b hp hp') (d : a ≠ b) : k.Sq hp' a items := by
  cases k
  · exact Heap.IsList.extBut x e d
  · exact Heap.IsTuple.extBut x e d
theorem SK.Ix.ext (x : k.Ix hp it a n) (e : Heap.ExtBut b hp hp') (d : it ≠ b) : k.Ix hp' it a n := by
  cases k
  · exact Heap.IsListIter.extBut x e d
  · exact Heap.IsTupleIter.extBut x e d
theorem SK.Ix.to (x : k.Ix hp it a n) (e : ∀ o, hp.get? it = some o → hp'.get? it = some o) : k.Ix hp' it a n := by
  cases k
  · exact Heap.IsListIter.at x e
  · exact Heap.IsTupleIter.at x e
theorem SK.Sq.to (x : k.Sq hp a items) (e : ∀ o, hp.get? a = some o → hp'.get? a = some o) : k.Sq hp' a items := by
  cases k
  · exact Heap.IsList.at x e
  · exact Heap.IsTuple.at x e
theorem SK.Ix.obj (x : k.Ix hp it a n) : ∃ o, hp.get? it = some o ∧ ∃ fs, o.data = .fields fs := by
  cases k
  · obtain ⟨o, e, _, d⟩ := x; exact ⟨o, e, _, d⟩
  · obtain ⟨o, e, _, d⟩ := x; exact ⟨o, e, _, d⟩
theorem SK.Sq.lt (x : k.Sq hp a items) : a < hp.objs.size := by
  cases k
  · obtain ⟨o, e, _⟩ := x; exact Heap.lt_size e
  · obtain ⟨o, e, _⟩ := x; exact Heap.lt_size e
theorem SK.Ix.lt (x : k.Ix hp it a n) : it < hp.objs.size := by obtain ⟨o, e, _⟩ := x.obj; exact Heap.lt_size e
end
section
variable {prog : Program} {w : World} {A : Around} {E : Value → Shared → Prop} {s : Shared} {k : SK} {it a : Addr} {n : Nat} {items : Array Value}
theorem SK.next {x : Value} {Q : Value → Shared → Prop} (hi : k.Ix s.heap it a n) (hs : k.Sq s.heap a items) (hx : items[n]? = some x) (q : ∀ h', k.Ix h' it a (n + 1) → Heap.SameBut it s.heap h' → Q x { s with heap := h' }) :
    wpAny (model prog w) A (Builtin.SmallTypes.nextOf (.ref it)) Q E s := by
  cases k
  · exact wpAny_nextOf_list_item hi hs hx q
  · exact RZ.nextOf_tuple_item hi hs hx q
theorem SK.last {Q : Value → Shared → Prop} (hh : A.handled = none) (hi : k.Ix s.heap it a n) (hs : k.Sq s.heap a items) (hx : items[n]? = none) (q : ∀ h' e, Heap.ExtBut it s.heap h' → (∃ o, h'.get? e = some o ∧ o.cls = .type "StopIteration") → E (.ref e) { s with heap := h' }) :
    wpAny (model prog w) A (Builtin.SmallTypes.nextOf (.ref it)) Q E s := by
  cases k
  · exact wpAny_nextOf_list_end hh hi hs hx q
  · exact RZ.nextOf_tuple_end hh hi hs hx q
end
section
variable {prog : Program} {w : World} {A : Around} {E : Value → Shared → Prop} {s : Shared} {ka kb : SK} {Z P R i j la lb : Addr} {m n : Nat} {us vs : Array Value} {r0 r1 : Value}
/-- a zip object ahead of a turn -/
structure ZipAt (ka kb : SK) (hp : Heap) (Z P R i j la lb : Addr) (m n : Nat) (us vs : Array Value) (r0 r1 : Value) : Prop where
  ap : ZipApart Z P R i j la lb
  z : IsZip hp Z P R .none
  p : IsPair hp P (.ref i) (.ref j)
  r : IsPair hp R r0 r1
  i : ka.Ix hp i la m
  j : kb.Ix hp j lb n
  a : ka.Sq hp la us
  b : kb.Sq hp lb vs
/-- what stays as it was -/
def ZipKept (h h' : Heap) (Z R i j : Addr) : Prop := ∀ c o, c ≠ Z → c ≠ R → c ≠ i → c ≠ j → h.get? c = some o → h'.get? c = some o
theorem zipG_item {x y : Value} {Q : Value → Shared → Prop} (C : ZipAt ka kb s.heap Z P R i j la lb m n us vs r0 r1) (hx : us[m]? = some x) (hy : vs[n]? = some y)
    (q : ∀ h', IsZip h' Z P R (rawInt s.heap.objs.size) → IsPair h' R x y → ka.Ix h' i la (m + 1) → kb.Ix h' j lb (n + 1) → IsPair h' s.heap.objs.size x y → h'.objs.size = s.heap.objs.size + 1 → ZipKept s.heap h' Z R i j → Q (.ref s.heap.objs.size) { s with heap := h' }) :
    wpAny (model prog w) A (Builtin.«zip.__next__» ⟨[.ref Z], []⟩) (fun fin s' => ∃ v, fin = .done (.ret v) ∧ Q v s') E s := by
  obtain ⟨D, cz, cp, cr, ci, cj, ca, cb⟩ := C
  show wpAny _ _ (field (.ref Z) 2 >>= _) _ _ _
  refine wpAny_bind (wpAny_field cz rfl (x := .bool false) rfl ?_)
  show wpAny _ _ (field (.ref Z) 3 >>= _) _ _ _
  refine wpAny_bind (wpAny_field cz rfl (x := .ref P) rfl (wpAny_bind (wpAny_seqItems cp rfl ?_)))
  show wpAny _ _ (Builtin.SmallTypes.ownedTupleIsFree (.ref Z) >>= _) _ _ _
  unfold Builtin.SmallTypes.ownedTupleIsFree
  refine wpAny_bind (wpAny_bind (wpAny_field cz rfl (x := .none) rfl (wpAny_pure ?_)))
  simp only [if_true]
  refine wpAny_bind (wpAny_rule (wpAny_bind (wpAny_field cz rfl (x := .ref R) rfl (wpAny_bind (wpAny_setField_rec cz (by simp) fun g1 z1 b1 => ?_)))))
  have z1 : IsZip g1 Z P R .ellipsis := z1
  refine wpAny_bind ?_
  simp only [List.zipIdx_cons, List.zipIdx_nil, List.forIn_cons, List.forIn_nil]
  refine wpAny_bind (wpAny_bind (wpAny_onRaise ?_))
  show wpAny _ _ (Builtin.SmallTypes.nextOf (.ref i) >>= _) _ _ _
  refine wpAny_bind (SK.next (ci.ext b1.extBut D.i1z) (ca.ext b1.extBut D.l1z) hx fun g2 i2 b2 => wpAny_pure ?_)
  have r2 : IsPair g2 R r0 r1 := b2.extBut _ _ D.TOi1 (b1.extBut _ _ D.TOz cr)
  refine wpAny_bind (wpAny_seqItems r2 rfl (wpAny_bind (wpAny_updateSeq_pair r2 fun g3 r3 b3 => wpAny_bind (wpAny_letGo (wpAny_pure ?_)))))
  have r3 : IsPair g3 R x r1 := r3
  refine wpAny_bind (wpAny_bind (wpAny_onRaise ?_))
  show wpAny _ _ (Builtin.SmallTypes.nextOf (.ref j) >>= _) _ _ _
  refine wpAny_bind (SK.next (((cj.ext b1.extBut D.i2z).ext b2.extBut D.i12.symm).ext b3.extBut D.TOi2.symm) (((cb.ext b1.extBut D.l2z).ext b2.extBut D.l2i1).ext b3.extBut D.l2TO) hy fun g4 j4 b4 => wpAny_pure ?_)
  have r4 : IsPair g4 R x r1 := b4.extBut _ _ D.TOi2 r3
  refine wpAny_bind (wpAny_seqItems r4 rfl (wpAny_bind (wpAny_updateSeq_pair r4 fun g5 r5 b5 => wpAny_bind (wpAny_letGo (wpAny_pure (wpAny_pure ?_))))))
  have r5 : IsPair g5 R x y := r5
  refine wpAny_bind (wpAny_seqItems r5 rfl (wpAny_bind (wpAny_newTuple ?_)))
  have size5 : g5.objs.size = s.heap.objs.size := by rw [b5.1, b4.1, b3.1, b2.1, b1.1]
  have z5 : IsZip g5 Z P R .ellipsis := b5.extBut _ _ D.TOz.symm (b4.extBut _ _ D.i2z.symm (b3.extBut _ _ D.TOz.symm (b2.extBut _ _ D.i1z.symm z1)))
  have k5 : ZipKept s.heap g5 Z R i j := fun c o n1 n2 n3 n4 e => b5.extBut _ _ n2 (b4.extBut _ _ n4 (b3.extBut _ _ n2 (b2.extBut _ _ n3 (b1.extBut _ _ n1 e))))
  have i5 : ka.Ix g5 i la (m + 1) := ((i2.ext b3.extBut D.TOi1.symm).ext b4.extBut D.i12).ext b5.extBut D.TOi1.symm
  have j5 : kb.Ix g5 j lb (n + 1) := j4.ext b5.extBut D.TOi2.symm
  have ltZ : Z < g5.objs.size := Heap.lt_size z5
  show wpAny _ _ (Builtin.SmallTypes.ownedTupleHandOut (.ref Z) (.ref g5.objs.size) >>= _) _ _ _
  unfold Builtin.SmallTypes.ownedTupleHandOut
  have z6 : IsZip (g5.push { cls := .type "tuple", data := .seq #[x, y] }) Z P R .ellipsis := Heap.get?_push_of_some _ z5
  refine wpAny_bind (wpAny_bind (wpAny_setField_rec z6 (by simp) fun g7 z7 b7 => ?_))
  have z7 : IsZip g7 Z P R (rawInt g5.objs.size) := z7
  refine wpAny_setField_rec z7 (by simp) fun g8 z8 b8 => ?_
  have z8 : IsZip g8 Z P R (rawInt g5.objs.size) := z8
  have up : ∀ c o, c ≠ Z → g5.get? c = some o → g8.get? c = some o := fun c o d e => b8.extBut _ _ d (b7.extBut _ _ d (Heap.get?_push_of_some _ e))
  have t8 : IsPair g8 g5.objs.size x y := b8.extBut _ _ (Nat.ne_of_gt ltZ) (b7.extBut _ _ (Nat.ne_of_gt ltZ) (Heap.get?_push_size _ rfl))
  have size8 : g8.objs.size = g5.objs.size + 1 := by rw [b8.1, b7.1, Heap.size_push]
  rw [size5] at z8 t8 size8
  refine wpAny_pure ⟨_, rfl, ?_⟩
  show Q (.ref g5.objs.size) _
  rw [size5]
  exact q g8 z8 (up _ _ D.TOz r5) (i5.to fun o e => up _ o D.i1z e) (j5.to fun o e => up _ o D.i2z e) t8 size8 fun c o n1 n2 n3 n4 e => up c o n1 (k5 c o n1 n2 n3 n4 e)
theorem zipG_end {Q : Fin → Shared → Prop} (hh : A.handled = none) (C : ZipAt ka kb s.heap Z P R i j la lb m n us vs r0 r1) (hend : us[m]? = none ∨ vs[n]? = none)
    (q : ∀ h' e, ZipKept s.heap h' Z R i j → (∃ o, h'.get? e = some o ∧ o.cls = .type "StopIteration") → E (.ref e) { s with heap := h' }) :
    wpAny (model prog w) A (Builtin.«zip.__next__» ⟨[.ref Z], []⟩) Q E s := by
  obtain ⟨D, cz, cp, cr, ci, cj, ca, cb⟩ := C
  show wpAny _ _ (field (.ref Z) 2 >>= _) _ _ _
  refine wpAny_bind (wpAny_field cz rfl (x := .bool false) rfl ?_)
  show wpAny _ _ (field (.ref Z) 3 >>= _) _ _ _
  refine wpAny_bind (wpAny_field cz rfl (x := .ref P) rfl (wpAny_bind (wpAny_seqItems cp rfl ?_)))
  show wpAny _ _ (Builtin.SmallTypes.ownedTupleIsFree (.ref Z) >>= _) _ _ _
  unfold Builtin.SmallTypes.ownedTupleIsFree
  refine wpAny_bind (wpAny_bind (wpAny_field cz rfl (x := .none) rfl (wpAny_pure ?_)))
  simp only [if_true]
  refine wpAny_bind (wpAny_rule (wpAny_bind (wpAny_field cz rfl (x := .ref R) rfl (wpAny_bind (wpAny_setField_rec cz (by simp) fun g1 z1 b1 => ?_)))))
  have z1 : IsZip g1 Z P R .ellipsis := z1
  refine wpAny_bind ?_
  simp only [List.zipIdx_cons, List.zipIdx_nil, List.forIn_cons, List.forIn_nil]
  refine wpAny_bind (wpAny_bind (wpAny_onRaise ?_))
  show wpAny _ _ (Builtin.SmallTypes.nextOf (.ref i) >>= _) _ _ _
  cases hx : us[m]? with
  | none =>
    refine wpAny_bind (SK.last hh (ci.ext b1.extBut D.i1z) (ca.ext b1.extBut D.l1z) hx fun g2 e b2 ⟨oe, f1, f2⟩ => ?_)
    have z2 : IsZip g2 Z P R .ellipsis := b2 _ _ D.i1z.symm z1
    have ne : e ≠ Z := fun x => by subst x; rw [z2] at f1; cases f1; simp at f2
    exact wpAny_setField_rec z2 (by simp) fun g3 _ b3 => q g3 e (fun c o n1 _ n3 _ x => b3.extBut _ _ n1 (b2 _ _ n3 (b1.extBut _ _ n1 x))) ⟨oe, b3.extBut _ _ ne f1, f2⟩
  | some x =>
    have hy : vs[n]? = none := by
      rcases hend with h | h
      · rw [hx] at h; cases h
      · exact h
    refine wpAny_bind (SK.next (ci.ext b1.extBut D.i1z) (ca.ext b1.extBut D.l1z) hx fun g2 i2 b2 => wpAny_pure ?_)
    have r2 : IsPair g2 R r0 r1 := b2.extBut _ _ D.TOi1 (b1.extBut _ _ D.TOz cr)
    refine wpAny_bind (wpAny_seqItems r2 rfl (wpAny_bind (wpAny_updateSeq_pair r2 fun g3 r3 b3 => wpAny_bind (wpAny_letGo (wpAny_pure ?_)))))
    refine wpAny_bind (wpAny_bind (wpAny_onRaise ?_))
    show wpAny _ _ (Builtin.SmallTypes.nextOf (.ref j) >>= _) _ _ _
    refine wpAny_bind (SK.last hh (((cj.ext b1.extBut D.i2z).ext b2.extBut D.i12.symm).ext b3.extBut D.TOi2.symm) (((cb.ext b1.extBut D.l2z).ext b2.extBut D.l2i1).ext b3.extBut D.l2TO) hy fun g4 e b4 ⟨oe, f1, f2⟩ => ?_)
    have z4 : IsZip g4 Z P R .ellipsis := b4 _ _ D.i2z.symm (b3.extBut _ _ D.TOz.symm (b2.extBut _ _ D.i1z.symm z1))
    have ne : e ≠ Z := fun x => by subst x; rw [z4] at f1; cases f1; simp at f2
    exact wpAny_setField_rec z4 (by simp) fun g5 _ b5 => q g5 e (fun c o n1 n2 n3 n4 x => b5.extBut _ _ n1 (b4 _ _ n4 (b3.extBut _ _ n2 (b2.extBut _ _ n3 (b1.extBut _ _ n1 x))))) ⟨oe, b5.extBut _ _ ne f1, f2⟩
theorem pyNext_zipG {x y : Value} {Q : Option Value → Shared → Prop} (C : ZipAt ka kb s.heap Z P R i j la lb m n us vs r0 r1) (hx : us[m]? = some x) (hy : vs[n]? = some y)
    (q : ∀ h', IsZip h' Z P R (rawInt s.heap.objs.size) → IsPair h' R x y → ka.Ix h' i la (m + 1) → kb.Ix h' j lb (n + 1) → IsPair h' s.heap.objs.size x y → h'.objs.size = s.heap.objs.size + 1 → ZipKept s.heap h' Z R i j → Q (some (.ref s.heap.objs.size)) { s with heap := h' }) :
    wpAny (model prog w) A (pyNext (.ref Z)) Q E s := by
  have ty : s.TypeIs (.ref Z) "zip" := ⟨_, C.z, rfl⟩
  unfold pyNext
  exact wpAny_bind (wpAny_attempt (wpAny_callSpecial?_slot (name := Str.ofString "__next__") ty F.slot_zip_next (wpAny_call_entry F.slot_zip_next ty F.entry_zip_next (zipG_item C hx hy fun h' a1 a2 a3 a4 a5 a6 a7 => wpAny_pure (q h' a1 a2 a3 a4 a5 a6 a7)) (F.args_zip_next_1 _))))
theorem pyNext_zipG_end {Q : Option Value → Shared → Prop} (hh : A.handled = none) (C : ZipAt ka kb s.heap Z P R i j la lb m n us vs r0 r1) (hend : us[m]? = none ∨ vs[n]? = none) (q : ∀ h', ZipKept s.heap h' Z R i j → Q none { s with heap := h' }) :
    wpAny (model prog w) A (pyNext (.ref Z)) Q E s := by
  have ty : s.TypeIs (.ref Z) "zip" := ⟨_, C.z, rfl⟩
  unfold pyNext
  refine wpAny_bind (wpAny_attempt (wpAny_callSpecial?_slot (name := Str.ofString "__next__") ty F.slot_zip_next (wpAny_call_entry F.slot_zip_next ty F.entry_zip_next (zipG_end hh C hend fun h' e kept ⟨o, f1, f2⟩ => ?_) (F.args_zip_next_1 _))))
  exact wpAny_bind (wpAny_isInstance (T := "StopIteration") (b := true) ⟨o, f1, f2⟩ isSubtype_stop (wpAny_pure (q _ kept)))
end
/-- a new iterator -/
def SK.ob (k : SK) (a : Addr) : Obj := match k with
  | .l => { cls := .type "list_iterator", data := .fields #[.ref a, .int 0 0] }
  | .t => { cls := .type "tuple_iterator", data := .fields #[.ref a, .int 0 0] }
abbrev mz1 (ka kb : SK) (hp : Heap) (la lb : Addr) : Heap := hp.push (ka.ob la)
abbrev mz2 (ka kb : SK) (hp : Heap) (la lb : Addr) : Heap := (mz1 ka kb hp la lb).push (kb.ob lb)
abbrev mz3 (ka kb : SK) (hp : Heap) (la lb : Addr) : Heap := (mz2 ka kb hp la lb).push { cls := .type "tuple", data := .seq #[.ref hp.objs.size, .ref (mz1 ka kb hp la lb).objs.size] }
abbrev mz4 (ka kb : SK) (hp : Heap) (la lb : Addr) : Heap := (mz3 ka kb hp la lb).push { cls := .type "tuple", data := .seq #[.none, .none] }
abbrev mz5 (ka kb : SK) (hp : Heap) (la lb : Addr) : Heap := (mz4 ka kb hp la lb).push { cls := .type "zip", data := .fields #[.none, .bool false, .bool false, .ref (mz2 ka kb hp la lb).objs.size, .ref (mz3 ka kb hp la lb).objs.size] }
def MzNew (ka kb : SK) : Prop := ∀ (la lb : Addr) (us vs : Array Value), Meets (Builtin.«zip.__new__» ⟨[.type "zip", .ref la, .ref lb], []⟩) (fun _ F s => ka.Sq s.heap la us ∧ kb.Sq s.heap lb vs ∧ F (.ok (.ret (.ref (mz4 ka kb s.heap la lb).objs.size))) { s with heap := mz5 ka kb s.heap la lb })
theorem mz_tl : MzNew .t .l := fun la lb us vs => .of_wp fun prog w A F s h => by
  obtain ⟨hp, g, d, tk, os⟩ := s
  obtain ⟨qa, qb, h⟩ := h
  have fact := sub_zip
  have first : Heap.IsTuple (Shared.heap ⟨hp, g, d, tk, os⟩) la us := qa
  have second : Heap.IsList (Shared.heap ⟨hp.push { cls := .type "tuple_iterator", data := .fields #[.ref la, .int 0 0] }, g, d, tk, os⟩) lb vs := Heap.IsList.push qb _
  wp_walk using wpAny_pyIter_tuple first, wpAny_pyIter_list second
  exact ⟨_, rfl, h⟩
theorem mz_lt : MzNew .l .t := fun la lb us vs => .of_wp fun prog w A F s h => by
  obtain ⟨hp, g, d, tk, os⟩ := s
  obtain ⟨qa, qb, h⟩ := h
  have fact := sub_zip
  have first : Heap.IsList (Shared.heap ⟨hp, g, d, tk, os⟩) la us := qa
  have second : Heap.IsTuple (Shared.heap ⟨hp.push { cls := .type "list_iterator", data := .fields #[.ref la, .int 0 0] }, g, d, tk, os⟩) lb vs := Heap.IsTuple.push qb _
  wp_walk using wpAny_pyIter_list first, wpAny_pyIter_tuple second
  exact ⟨_, rfl, h⟩
section
variable {prog : Program} {w : World} {A : Around} {E : Value → Shared → Prop} {s : Shared} {ka kb : SK} {la lb : Addr} {us vs : Array Value}
theorem SK.ob_ix {k : SK} {hp : Heap} {it a : Addr} (e : hp.get? it = some (k.ob a)) : k.Ix hp it a 0 := by
  cases k
  · exact ⟨_, e, rfl, rfl⟩
  · exact ⟨_, e, rfl, rfl⟩
theorem push_old {hp : Heap} {c : Addr} {o ob : Obj} (e : hp.get? c = some o) : (hp.push ob).get? c = some o := Heap.get?_push_of_some _ e
theorem call_zipG {Q : Value → Shared → Prop} (M : MzNew ka kb) (qa : ka.Sq s.heap la us) (qb : kb.Sq s.heap lb vs)
    (q : ∀ h', IsZip h' (s.heap.objs.size + 4) (s.heap.objs.size + 2) (s.heap.objs.size + 3) .none → IsPair h' (s.heap.objs.size + 2) (.ref s.heap.objs.size) (.ref (s.heap.objs.size + 1)) → IsPair h' (s.heap.objs.size + 3) .none .none →
      ka.Ix h' s.heap.objs.size la 0 → kb.Ix h' (s.heap.objs.size + 1) lb 0 → h'.objs.size = s.heap.objs.size + 5 → (∀ c o, s.heap.get? c = some o → h'.get? c = some o) → Q (.ref (s.heap.objs.size + 4)) { s with heap := h' }) :
    wpAny (model prog w) A (call (.type "zip") [.ref la, .ref lb]) Q E s := by
  refine callType_new F.called_zip (by decide) (F.typeCall_zip_2 _ _) (F.newCall_zip_2 _ _) (fun obj => F.args_object_init_3 obj _ _) F.entry_zip_new (M la lb us vs) ⟨qa, qb, ?_⟩
  have n1 : (mz1 ka kb s.heap la lb).objs.size = s.heap.objs.size + 1 := Heap.size_push ..
  have n2 : (mz2 ka kb s.heap la lb).objs.size = s.heap.objs.size + 2 := (Heap.size_push ..).trans (by rw [n1])
  have n3 : (mz3 ka kb s.heap la lb).objs.size = s.heap.objs.size + 3 := (Heap.size_push ..).trans (by rw [n2])
  have n4 : (mz4 ka kb s.heap la lb).objs.size = s.heap.objs.size + 4 := (Heap.size_push ..).trans (by rw [n3])
  have n5 : (mz5 ka kb s.heap la lb).objs.size = s.heap.objs.size + 5 := (Heap.size_push ..).trans (by rw [n4])
  have o5 : (mz5 ka kb s.heap la lb).get? (mz4 ka kb s.heap la lb).objs.size = some _ := Heap.get?_push_size _ rfl
  have o4 : (mz5 ka kb s.heap la lb).get? (mz3 ka kb s.heap la lb).objs.size = some _ := push_old (Heap.get?_push_size _ rfl)
  have o3 : (mz5 ka kb s.heap la lb).get? (mz2 ka kb s.heap la lb).objs.size = some _ := push_old (push_old (Heap.get?_push_size _ rfl))
  have o2 : (mz5 ka kb s.heap la lb).get? (mz1 ka kb s.heap la lb).objs.size = some (kb.ob lb) := push_old (push_old (push_old (Heap.get?_push_size _ (by cases kb <;> rfl))))
  have o1 : (mz5 ka kb s.heap la lb).get? s.heap.objs.size = some (ka.ob la) := push_old (push_old (push_old (push_old (Heap.get?_push_size _ (by cases ka <;> rfl)))))
  show _ ∧ _
  rw [n2, n3, n4] at o5
  rw [n1, n2] at o3
  rw [n3] at o4
  rw [n1] at o2
  rw [n4]
  exact ⟨⟨_, o5, rfl⟩, q _ o5 o3 o4 (SK.ob_ix o1) (SK.ob_ix o2) n5 fun c o x => push_old (push_old (push_old (push_old (push_old x))))⟩
end
end Pz

/-! Pz51: a loop over zip of lists and tuples, in all four ways. -/
namespace Pz
open PySem PySem.Spec PyProof.Rows L2
def SK.Has (k : SK) (K : PySem.W.Frag) (H : Hp) (a : Addr) (xs : List V) : Prop := match k with
  | .l => SqL K H a xs
  | .t => SqT K H a xs
section
variable {X : Cx} {pins : List (Addr × Obj)} {σ : L2.St} {H : Hp} {s : Shared} {k : SK} {a : Addr} {xs ys : List V}
theorem SK.Has.inv (I : Inv X pins σ H s) (h : k.Has X.K H a xs) : ∃ its : List Value, Vals xs its ∧ k.Sq s.heap a its.toArray := by
  cases k
  · obtain ⟨its, rv, p, _⟩ := I.list h
    exact ⟨its, rv, p.isList⟩
  · obtain ⟨its, rv, p, _⟩ := I.tuple h
    exact ⟨its, rv, p⟩
theorem SK.Has.inj (I : Inv X pins σ H s) (h : k.Has X.K H a xs) (h' : k.Has X.K H a ys) : xs = ys := by
  cases k
  · exact I.list_inj h h'
  · exact I.tuple_inj h h'
end
/-- what stands at a and b at each turn, the items in new pairs -/
def ItzG (ka kb : SK) (K : PySem.W.Frag) (a b : Addr) : It :=
  ⟨fun i H => ∃ (xs ys : List V) (x y : V), ka.Has K H a xs ∧ kb.Has K H b ys ∧ xs[i]? = some x ∧ ys[i]? = some y,
    fun i H v H' => ∃ T x y, v = .ref T ∧ H T = none ∧ H' = upd H T (.tup [x, y]) ∧ (∀ xs, ka.Has K H a xs → xs[i]? = some x) ∧ ∀ ys, kb.Has K H b ys → ys[i]? = some y,
    fun i H => ∃ xs ys : List V, ka.Has K H a xs ∧ kb.Has K H b ys ∧ (xs.length ≤ i ∨ ys.length ≤ i)⟩
theorem turn_zipG {ka kb : SK} {P : Program} {w : World} {K : PySem.W.Frag} {elts : List Expr} {kk : Nat} {tpos : Pos} {a b Z Q R i1 i2 : Addr} (D : ZipApart Z Q R i1 i2 a b) :
    Turn P w K (.Tuple elts kk tpos) (ItzG ka kb K a b) [Z, Q, R, i1, i2] Z (fun i h => IsZip h Z Q R .none ∧ IsPair h Q (.ref i1) (.ref i2) ∧ (∃ x y, IsPair h R x y) ∧ ka.Ix h i1 a i ∧ kb.Ix h i2 b i) where
  mem := by simp
  obj := fun i h st c hc => by
    obtain ⟨cz, cq, ⟨x, y, cr⟩, c1, c2⟩ := st
    obtain ⟨o1, e1, f1, d1⟩ := c1.obj
    obtain ⟨o2, e2, f2, d2⟩ := c2.obj
    have five : c = Z ∨ c = Q ∨ c = R ∨ c = i1 ∨ c = i2 := by simpa using hc
    rcases five with rfl | rfl | rfl | rfl | rfl
    · exact ⟨_, cz, fun v z => nomatch z⟩
    · exact ⟨_, cq, fun v z => nomatch z⟩
    · exact ⟨_, cr, fun v z => nomatch z⟩
    · exact ⟨o1, e1, fun v z => by rw [d1] at z; cases z⟩
    · exact ⟨o2, e2, fun v z => by rw [d2] at z; cases z⟩
  keep := fun i h h' st k => by
    obtain ⟨cz, cq, ⟨x, y, cr⟩, c1, c2⟩ := st
    exact ⟨k Z (by simp) _ cz, k Q (by simp) _ cq, ⟨x, y, k R (by simp) _ cr⟩, c1.to fun o e => k i1 (by simp) o e, c2.to fun o e => k i2 (by simp) o e⟩
  item := by
    intro X hP hw hK hc i pins s σ H E I hf st hg
    subst hP hw hK
    obtain ⟨cz, cq, ⟨x0, y0, cr⟩, c1, c2⟩ := st
    obtain ⟨xs, ys, x, y, qx, qy, gx, gy⟩ := hg
    obtain ⟨its, rv, p⟩ := qx.inv I
    obtain ⟨its2, rv2, p2⟩ := qy.inv I
    obtain ⟨u, hu, ru⟩ := rv.get gx
    obtain ⟨u2, hu2, ru2⟩ := rv2.get gy
    have ltz : Z < s.heap.objs.size := Heap.lt_size cz
    refine pyNext_zipG ⟨D, cz, cq, cr, c1, c2, p, p2⟩ (x := u) (y := u2) (by simpa using hu) (by simpa using hu2) fun h' w1 w2 w3 w4 w5 w6 w7 => ?_
    refine ⟨_, rfl, wpAny_letOwnedTupleGo_zip (s := { s with heap := h' }) w1 fun h2 z2 sb => ?_⟩
    have pair : h2.get? s.heap.objs.size = some { cls := .type "tuple", data := .seq #[u, u2] } := (sb.2 _ (Nat.ne_of_gt ltz)).trans w5
    have new : ObjOk X.prog X.w (upd H s.heap.objs.size (.tup [x, y])) h2 s.heap.objs.size (.tup [x, y]) := ⟨by show 2 ≤ sizeLine; decide, [u, u2], .cons ru (.cons ru2 .nil), ⟨_, pair, rfl, _, rfl⟩⟩
    have I1 : Inv X pins σ (upd H s.heap.objs.size (.tup [x, y])) { s with heap := h2 } :=
      I.turnedNew (t' := s.toks) (ch := [Z, Q, R, i1, i2]) (fun c o out e => (sb.2 c (fun z => out (by simp [z]))).trans (w7 c o (fun z => out (by simp [z])) (fun z => out (by simp [z])) (fun z => out (by simp [z])) (fun z => out (by simp [z])) e)) hf (Nat.le_refl _) new
    refine ⟨.ref s.heap.objs.size, _, I1, rfl, ⟨_, x, y, rfl, I.hok.fresh (Nat.le_refl _), rfl, fun l hl => by rw [hl.inj I qx]; exact gx, fun l hl => by rw [hl.inj I qy]; exact gy⟩, ⟨z2, ?_, ⟨u, u2, ?_⟩, ?_, ?_⟩, fun c hcm => ?_⟩
    · exact (sb.2 _ D.TIz).trans (w7 _ _ D.TIz D.TITO D.TIi1 D.TIi2 cq)
    · exact (sb.2 _ D.TOz).trans w2
    · exact w3.to fun o e => (sb.2 _ D.i1z).trans e
    · exact w4.to fun o e => (sb.2 _ D.i2z).trans e
    · have lt : c < s.heap.objs.size := by
        have five : c = Z ∨ c = Q ∨ c = R ∨ c = i1 ∨ c = i2 := by simpa using hcm
        rcases five with rfl | rfl | rfl | rfl | rfl
        · exact ltz
        · exact Heap.lt_size cq
        · exact Heap.lt_size cr
        · exact c1.lt
        · exact c2.lt
      rw [upd_ne (Nat.ne_of_lt lt)]
      exact (hf c hcm).1
  done := by
    intro X hP hw hK hc i pins s σ H E I hf st hg
    subst hP hw hK
    obtain ⟨cz, cq, ⟨x0, y0, cr⟩, c1, c2⟩ := st
    obtain ⟨xs, ys, qx, qy, fin⟩ := hg
    obtain ⟨its, rv, p⟩ := qx.inv I
    obtain ⟨its2, rv2, p2⟩ := qy.inv I
    have l1 := rv.length
    have l2 := rv2.length
    have last : its.toArray[i]? = none ∨ its2.toArray[i]? = none := by
      rcases fin with q | q
      · exact .inl (by simp; omega)
      · exact .inr (by simp; omega)
    exact pyNext_zipG_end (I.ok.hd hc) ⟨D, cz, cq, cr, c1, c2, p, p2⟩ last fun h' kept => ⟨rfl, I.turnedL (t' := s.toks) (ch := [Z, Q, R, i1, i2]) (fun c o out e => kept c o (fun z => out (by simp [z])) (fun z => out (by simp [z])) (fun z => out (by simp [z])) (fun z => out (by simp [z])) e) hf⟩
  self := fun A i s Q E st h => wpAny_pyIter_zip st.1 h
theorem mz_ll : MzNew .l .l := fun la lb us vs => meets_zip_new la lb us vs
theorem mz_tt : MzNew .t .t := fun la lb us vs => RZ.meets_zipT_new la lb us vs
theorem mz_all : ∀ ka kb, MzNew ka kb
  | .l, .l => mz_ll
  | .l, .t => mz_lt
  | .t, .l => mz_tl
  | .t, .t => mz_tt
def iZipG (K : PySem.W.Frag) (ta : TA) : TI := fun σ H R => ta σ H fun vs H1 => ∃ (a b : Addr) (ka kb : SK) (xs ys : List V), vs = [.ref a, .ref b] ∧ ka.Has K H1 a xs ∧ kb.Has K H1 b ys ∧ R (ItzG ka kb K a b) H1
theorem pi_zipG {X : Cx} {e e2 : Expr} {ta : TA} {p pos tpos : Pos} {elts : List Expr} {kk : Nat} (hg : Gl X "zip") (hm : X.mg "zip" = none) (ha : PA X [e, e2] ta)
    (hs : starEach [e, e2] X.env = (false, eval e X.env) :: starEach [e2] X.env := by rfl) (hpl : (backTo pos (starEach [e2] X.env)).any (·.1) = false := by rfl) :
    PI X (.Tuple elts kk tpos) (.Call (.Name "zip" p) [e, e2] [] pos) (iZipG X.K ta) := by
  refine ⟨fun pins s σ H R I h => Call_ (ld_blt I hg hm PyProof.Rows.boot_zip (PyProof.Rows.callWith_type1 (thn (ha.run pos pins s σ H _ I h) fun us s1 ⟨vs, H1, I1, r1, q1⟩ => ?_) hs hpl))⟩
  obtain ⟨a, b, ka, kb, xs, ys, ex, qx, qy, q⟩ := q1
  subst ex
  cases r1 with
  | cons r rr =>
    cases rr with
    | cons r' rr =>
      cases rr
      cases r
      cases r'
      obtain ⟨its, rv, p1⟩ := qx.inv I1
      obtain ⟨its2, rv2, p2⟩ := qy.inv I1
      refine call_zipG (mz_all ka kb) p1 p2 fun h' hz h3 h4 h1 h2 hsz hk => wpAny_pyIter_zip hz ?_
      have I2 : Inv X pins σ H1 { s1 with heap := h' } := I1.kept (t' := s1.toks) hk
      refine ⟨s1.heap.objs.size + 4, [s1.heap.objs.size + 4, s1.heap.objs.size + 2, s1.heap.objs.size + 3, s1.heap.objs.size, s1.heap.objs.size + 1], _, _, H1, rfl, I2, turn_zipG (PySem.W.ktu_apart s1.heap.objs.size a b p1.lt p2.lt), ⟨hz, h3, ⟨_, _, h4⟩, h1, h2⟩, fun c hcm => ?_, q⟩
      have le : s1.heap.objs.size ≤ c := by
        simp only [List.mem_cons, List.not_mem_nil, or_false] at hcm
        rcases hcm with rfl | rfl | rfl | rfl | rfl <;> first | exact Nat.le_add_right _ _ | exact Nat.le_refl _
      exact I1.fpOk le (I1.hok.fresh le)
end Pz

/-! Pz7: targets, what loops go through, comprehensions, statements. -/
namespace Pz
open PySem PySem.Spec PyProof.Rows L2

/-! ### targets -/
section
variable {G : Gc} {cf : CF} {Wx : WX} {W W1 : Wd} {H0 H H1 : Hp} {σ : L2.St} {env : Env} {S S1 : Store}
theorem EnvOk.put (h : EnvOk G W cf H0 H σ env) {i : Nat} {v : V} {d : D} (hi : i < env.length) (hd : Dat G W v d) : EnvOk G W cf H0 H (σ.set i (some v)) (env.put i d) where
  len := by show (List.set _ _ _).length = _; rw [List.length_set, List.length_set]; exact h.len
  get := fun j sl e => by
    by_cases q : j = i
    · subst q
      have e' : (env.set j (some (.val d)))[j]? = some (some sl) := e
      rw [List.getElem?_set_self hi] at e'
      cases e'
      exact ⟨v, by rw [List.getElem?_set_self (by rw [← h.len]; exact hi)], hd⟩
    · have e' : (env.set i (some (.val d)))[j]? = some (some sl) := e
      rw [List.getElem?_set_ne (Ne.symm q)] at e'
      obtain ⟨u, h1, h2⟩ := h.get j sl e'
      exact ⟨u, by rw [List.getElem?_set_ne (Ne.symm q)]; exact h1, h2⟩
  ne := fun j k ds ds' u hjk ej ek hj hk => by
    have no : ∀ {m : Nat} {es : List D}, (env.put i d)[m]? = some (some (.own es)) → m ≠ i := fun {m es} e q => by
      subst q
      have e' : (env.set m (some (.val d)))[m]? = some (some (.own es)) := e
      rw [List.getElem?_set_self hi] at e'
      cases e'
    have nj := no ej
    have nk := no ek
    have ej' : (env.set i (some (.val d)))[j]? = _ := ej
    have ek' : (env.set i (some (.val d)))[k]? = _ := ek
    rw [List.getElem?_set_ne (Ne.symm nj)] at ej' hj
    rw [List.getElem?_set_ne (Ne.symm nk)] at ek' hk
    exact h.ne j k ds ds' u hjk ej' ek' hj hk
/-- a new own list at a name -/
theorem EnvOk.own (h : EnvOk G W cf H0 H σ env) {i : Nat} {a : Addr} {vs : List V} {ds : List D} (hi : i < env.length) (ha : H a = some (.lst vs)) (hd : Dats G W vs ds) (hz : W.Z a = none) (hb : a ∉ W.be) (h0 : H0 a = none)
    (hn : ∀ j es, j ≠ i → env[j]? = some (some (.own es)) → σ[j]? ≠ some (some (.ref a))) : EnvOk G W cf H0 H (σ.set i (some (.ref a))) (env.set i (some (.own ds))) where
  len := by rw [List.length_set, List.length_set]; exact h.len
  get := fun j sl e => by
    by_cases q : j = i
    · subst q
      rw [List.getElem?_set_self hi] at e
      cases e
      exact ⟨_, by rw [List.getElem?_set_self (by rw [← h.len]; exact hi)], a, vs, rfl, ha, hd, hz, hb, h0⟩
    · rw [List.getElem?_set_ne (Ne.symm q)] at e
      obtain ⟨u, h1, h2⟩ := h.get j sl e
      exact ⟨u, by rw [List.getElem?_set_ne (Ne.symm q)]; exact h1, h2⟩
  ne := fun j k es es' u hjk ej ek hj hk => by
    by_cases qj : j = i
    · subst qj
      rw [List.getElem?_set_self (by rw [← h.len]; exact hi)] at hj
      cases hj
      rw [List.getElem?_set_ne hjk] at ek hk
      exact hn k es' (Ne.symm hjk) ek hk
    · by_cases qk : k = i
      · subst qk
        rw [List.getElem?_set_self (by rw [← h.len]; exact hi)] at hk
        cases hk
        rw [List.getElem?_set_ne (Ne.symm hjk)] at ej hj
        exact hn j es hjk ej hj
      · rw [List.getElem?_set_ne (Ne.symm qj)] at ej hj
        rw [List.getElem?_set_ne (Ne.symm qk)] at ek hk
        exact h.ne j k es es' u hjk ej ek hj hk
end
mutual
def tgVars : Tg → List Nat
  | .nm i => [i]
  | .tp ts => tgsVars ts
def tgsVars : Tgs → List Nat
  | .nil => []
  | .cons t ts => tgVars t ++ tgsVars ts
end
/-- all slots but these are as they were -/
def SameBut (vs : List Nat) (σ σ' : L2.St) : Prop := σ'.length = σ.length ∧ ∀ j, j ∉ vs → σ'[j]? = σ[j]?
/-- a target's reading -/
def tG (G : Gc) (tg : Tg) : TG := fun v σ H Q => ∃ cf W H0 env S d env', Cur G cf W H0 σ H env S ∧ Dat G W v d ∧ bindT tg d env = some env' ∧ ∀ σ', EnvOk G W cf H0 H σ' env' → SameBut (tgVars tg) σ σ' → Q σ' H
def tGs (G : Gc) (tgs : Tgs) : TGs := fun vs σ H Q => ∃ cf W H0 env S ds env', Cur G cf W H0 σ H env S ∧ Dats G W vs ds ∧ bindTs tgs ds env = some env' ∧ ∀ σ', EnvOk G W cf H0 H σ' env' → SameBut (tgsVars tgs) σ σ' → Q σ' H
def tgsLen : Tgs → Nat
  | .nil => 0
  | .cons _ ts => tgsLen ts + 1
theorem bindTs_len : ∀ {tgs : Tgs} {ds : List D} {env env' : Env}, bindTs tgs ds env = some env' → ds.length = tgsLen tgs
  | .nil, [], _, _, _ => rfl
  | .nil, _ :: _, _, _, e => by simp [bindTs] at e
  | .cons _ _, [], _, _, e => by simp [bindTs] at e
  | .cons t ts, d :: ds, env, env', e => by
    simp only [bindTs] at e
    obtain ⟨e1, h1, h2⟩ := Option.bind_eq_some_iff.mp e
    rw [List.length_cons, bindTs_len h2]; rfl
section
variable {X : Cx} {G : Gc} {cf : CF} {Wx : WX} {pos : Pos}
theorem _root_.L2.PG.im {e : Expr} {t t' : TG} (h : PG X e t) (hi : ∀ v σ H Q, t' v σ H Q → t v σ H Q) : PG X e t' := ⟨fun pins s σ H v u Q I r q => h.run pins s σ H v u Q I r (hi _ _ _ _ q)⟩
theorem _root_.L2.PGs.im {e : List Expr} {t t' : TGs} (h : PGs X e t) (hi : ∀ v σ H Q, t' v σ H Q → t v σ H Q) : PGs X e t' := ⟨fun pins s σ H v u Q I r q => h.run pins s σ H v u Q I r (hi _ _ _ _ q)⟩
theorem rg_name {i : Nat} {x : Str} (hN : X.N.Nodup) (hi : X.N[i]? = some x) (hx : Loc X.env.scope x) (hf : X.fn x = true ∨ X.env.scope.names.lookup x = some .local) : PG X (.Name x pos) (tG G (.nm i)) := by
  refine (pg_name hN hi hx hf).im fun v σ H Q ⟨cf, W, H0, env, S, d, env', h, hd, e, k⟩ => ?_
  simp only [bindT] at e
  split at e
  · rename_i hl
    cases e
    refine k _ (h.env.put hl hd) ⟨List.length_set, fun j hj => ?_⟩
    rw [tgVars, List.mem_singleton] at hj
    exact List.getElem?_set_ne (Ne.symm hj)
  · cases e
theorem rgs_nil : PGs X [] (tGs G .nil) := by
  refine pgs_nil.im fun v σ H Q ⟨cf, W, H0, env, S, ds, env', h, hd, e, k⟩ => ?_
  cases ds with
  | nil =>
    cases e
    cases hd
    exact ⟨rfl, k σ h.env ⟨rfl, fun _ _ => rfl⟩⟩
  | cons _ _ => simp [bindTs] at e
theorem rgs_cons {e : Expr} {es : List Expr} {t : Tg} {ts : Tgs} (h1 : PG X e (tG G t)) (h2 : PGs X es (tGs G ts)) (hs : (assignEach (e :: es) X.env).map (·.2) = assign e X.env :: (assignEach es X.env).map (·.2)) : PGs X (e :: es) (tGs G (.cons t ts)) := by
  refine (pgs_cons h1 h2 hs).im fun vs σ H Q ⟨cf, W, H0, env, S, ds, env', h, hd, e, k⟩ => ?_
  cases ds with
  | nil => simp [bindTs] at e
  | cons d ds =>
    simp only [bindTs] at e
    obtain ⟨e1, k1, k2⟩ := Option.bind_eq_some_iff.mp e
    cases hd with
    | cons hd ht => exact ⟨_, _, rfl, cf, W, H0, env, S, d, e1, h, hd, k1, fun σ' he sb => ⟨cf, W, H0, e1, S, ds, env', ⟨h.hok, he⟩, ht, k2, fun σ2 he2 sb2 => k σ2 he2 ⟨sb2.1.trans sb.1, fun j hj => by
      rw [tgsVars, List.mem_append, not_or] at hj
      rw [sb2.2 j hj.2, sb.2 j hj.1]⟩⟩⟩
theorem rg_tup {es : List Expr} {kk : Nat} {ts : Tgs} (hKG : X.K = G.K) (hc : X.calm = true) (h : PGs X es (tGs G ts)) (hn : (assignEach es X.env).length = tgsLen ts) (hst : (assignEach es X.env).findIdx? (·.1) = none) : PG X (.Tuple es kk pos) (tG G (.tp ts)) := by
  refine (pg_tup hc h hn hst).im fun v σ H Q ⟨cf, W, H0, env, S, d, env', h, hd, e, k⟩ => ?_
  cases hd with
  | tup hz hs =>
    simp only [bindT] at e
    exact ⟨_, _, rfl, by rw [hKG]; exact SqT.mono h.hok.z hz, by rw [hs.length]; exact bindTs_len e, cf, W, H0, env, S, _, env', h, hs, e, fun σ' he sb => k σ' he sb⟩
  | _ => exfalso; revert e; simp [bindT]
end

/-! ### what a loop goes through -/
structure JOk (G : Gc) (W : Wd) (J : It) (its : List D) : Prop where
  go : ∀ (i : Nat) (H : Hp) (S : Store) (W' : Wd), Wd.Le W W' → Hok G W' H S → i < its.length → J.go i H
  stop : ∀ (H : Hp) (S : Store) (W' : Wd), Wd.Le W W' → Hok G W' H S → J.stop its.length H
  yld : ∀ (i : Nat) (H : Hp) (S : Store) (W' : Wd) (x : V) (H' : Hp) (d : D), Wd.Le W W' → Hok G W' H S → its[i]? = some d → J.yld i H x H' → ∃ W'', Step G W' H W'' H' S ∧ Dat G W'' x d
section
variable {G : Gc} {W : Wd}
theorem jok_lst {a : Addr} {vs : List V} {ds : List D} (h : W.Z a = some (.lst vs)) (hs : Dats G W vs ds) : JOk G W (Itl G.K a) ds where
  go := fun i H S W' l k hi => by
    obtain ⟨v, e, _⟩ := hs.get (List.getElem?_eq_getElem hi)
    exact ⟨vs, v, SqL.of (k.z _ _ (l.z _ _ h)), e⟩
  stop := fun H S W' l k => ⟨vs, SqL.of (k.z _ _ (l.z _ _ h)), by rw [hs.length]; exact Nat.le_refl _⟩
  yld := fun i H S W' x H' d l k e y => by
    obtain ⟨rfl, y⟩ := y
    obtain ⟨v, e1, dv⟩ := hs.get e
    have q := y vs (SqL.of (k.z _ _ (l.z _ _ h)))
    rw [e1] at q; cases q
    exact ⟨W', Step.refl k, dv.up l⟩
theorem jok_tup {a : Addr} {vs : List V} {ds : List D} (h : SqT G.K W.Z a vs) (hs : Dats G W vs ds) : JOk G W (Itt G.K a) ds where
  go := fun i H S W' l k hi => by
    obtain ⟨v, e, _⟩ := hs.get (List.getElem?_eq_getElem hi)
    exact ⟨vs, v, SqT.mono (fun a o q => k.z _ _ (l.z _ _ q)) h, e⟩
  stop := fun H S W' l k => ⟨vs, SqT.mono (fun a o q => k.z _ _ (l.z _ _ q)) h, by rw [hs.length]; exact Nat.le_refl _⟩
  yld := fun i H S W' x H' d l k e y => by
    obtain ⟨rfl, y⟩ := y
    obtain ⟨v, e1, dv⟩ := hs.get e
    have q := y vs (SqT.mono (fun a o q => k.z _ _ (l.z _ _ q)) h)
    rw [e1] at q; cases q
    exact ⟨W', Step.refl k, dv.up l⟩
theorem rangeD_get {i j : Int} {m : Nat} (h : m < (j - i).toNat) : (rangeD i j)[m]? = some (.int (i + m)) := by
  unfold rangeD
  simp [h]
theorem rangeD_len (i j : Int) : (rangeD i j).length = (j - i).toNat := by unfold rangeD; simp
theorem jok_rng (i j : Int) : JOk G W (Itr i (j - i).toNat) (rangeD i j) where
  go := fun m H S W' l k hi => by rw [rangeD_len] at hi; exact hi
  stop := fun H S W' l k => by rw [rangeD_len]; exact Nat.le_refl _
  yld := fun m H S W' x H' d l k e y => by
    obtain ⟨rfl, rfl⟩ := y
    have hm : m < (j - i).toNat := by
      have := (List.getElem?_eq_some_iff.mp e).1
      rw [rangeD_len] at this; exact this
    rw [rangeD_get hm] at e
    cases e
    exact ⟨W', Step.refl k, .int _⟩
theorem zipD_get {a b : List D} {i : Nat} {d : D} (e : (zipD a b)[i]? = some d) : ∃ x y, a[i]? = some x ∧ b[i]? = some y ∧ d = .tup [x, y] := by
  unfold zipD at e
  rw [List.getElem?_zipWith_eq_some] at e
  obtain ⟨x, y, h1, h2, h3⟩ := e
  exact ⟨x, y, h1, h2, h3.symm⟩
theorem zipD_len (a b : List D) : (zipD a b).length = min a.length b.length := by unfold zipD; exact List.length_zipWith
theorem new_pair {W' : Wd} {H : Hp} {S : Store} (k : Hok G W' H S) {T : Addr} (hT : H T = none) {x y : V} {d e : D} (hx : Dat G W' x d) (hy : Dat G W' y e) : ∃ W'', Step G W' H W'' (upd H T (.tup [x, y])) S ∧ Dat G W'' (.ref T) (.tup [d, e]) := by
  have st := Step.newZ k (o := .tup [x, y]) hT (fun ps z => by cases z)
  exact ⟨_, st, .tup (.inl (.inl (W'.add_at T _))) (.cons (hx.up st.le) (.cons (hy.up st.le) .nil))⟩
theorem SK.Has.mono {k : SK} {K : PySem.W.Frag} {Z Z' : Hp} (hz : ∀ a o, Z a = some o → Z' a = some o) {a : Addr} {vs : List V} (h : k.Has K Z a vs) : k.Has K Z' a vs := by
  cases k
  · exact SqL.mono hz h
  · exact SqT.mono hz h
theorem jok_zipG {ka kb : SK} {a b : Addr} {vs us : List V} {ds es : List D} (h : ka.Has G.K W.Z a vs) (hs : Dats G W vs ds) (h' : kb.Has G.K W.Z b us) (hs' : Dats G W us es) : JOk G W (ItzG ka kb G.K a b) (zipD ds es) where
  go := fun i H S W' l k hi => by
    rw [zipD_len] at hi
    obtain ⟨v, e, _⟩ := hs.get (List.getElem?_eq_getElem (show i < ds.length by omega))
    obtain ⟨u, e', _⟩ := hs'.get (List.getElem?_eq_getElem (show i < es.length by omega))
    exact ⟨vs, us, v, u, h.mono (fun a o q => k.z _ _ (l.z _ _ q)), h'.mono (fun a o q => k.z _ _ (l.z _ _ q)), e, e'⟩
  stop := fun H S W' l k => ⟨vs, us, h.mono (fun a o q => k.z _ _ (l.z _ _ q)), h'.mono (fun a o q => k.z _ _ (l.z _ _ q)), by rw [zipD_len, hs.length, hs'.length]; omega⟩
  yld := fun i H S W' x H' d l k e y => by
    obtain ⟨T, p, q, rfl, hT, rfl, y1, y2⟩ := y
    obtain ⟨dx, dy, e1, e2, rfl⟩ := zipD_get e
    obtain ⟨v, f1, dv⟩ := hs.get e1
    obtain ⟨u, f2, du⟩ := hs'.get e2
    have q1 := y1 vs (h.mono (fun a o q => k.z _ _ (l.z _ _ q)))
    have q2 := y2 us (h'.mono (fun a o q => k.z _ _ (l.z _ _ q)))
    rw [f1] at q1; cases q1
    rw [f2] at q2; cases q2
    exact new_pair k hT (dv.up l) (du.up l)
/-- a list or a tuple of the known things -/
theorem dat_has {v : V} {d : D} (h : Dat G W v d) : (∀ ds, d = .tup ds → ∃ a vs, v = .ref a ∧ SK.Has .t G.K W.Z a vs ∧ Dats G W vs ds) ∧ (∀ ds, d = .lst ds → ∃ a vs, v = .ref a ∧ SK.Has .l G.K W.Z a vs ∧ Dats G W vs ds) := by
  constructor
  · rintro ds rfl
    cases h with
    | tup h hs => exact ⟨_, _, rfl, h, hs⟩
  · rintro ds rfl
    cases h with
    | lst h hs => exact ⟨_, _, rfl, SqL.of h, hs⟩
theorem enumD_len : ∀ (n : Nat) (ds : List D), (enumD n ds).length = ds.length
  | _, [] => rfl
  | n, d :: ds => by rw [enumD, List.length_cons, List.length_cons, enumD_len]
theorem enumD_get : ∀ {n : Nat} {ds : List D} {i : Nat} {d : D}, (enumD n ds)[i]? = some d → ∃ x, ds[i]? = some x ∧ d = .tup [.int ((n + i : Nat) : Int), x]
  | _, [], _, _, e => by simp [enumD] at e
  | n, x :: ds, 0, d, e => by simp only [enumD, List.getElem?_cons_zero, Option.some.injEq] at e; subst e; exact ⟨x, rfl, rfl⟩
  | n, x :: ds, i + 1, d, e => by
    rw [enumD, List.getElem?_cons_succ] at e
    obtain ⟨y, h1, h2⟩ := enumD_get e
    exact ⟨y, by rw [List.getElem?_cons_succ]; exact h1, by rw [h2, show n + 1 + i = n + (i + 1) by omega]⟩
theorem jok_enum {a : Addr} {vs : List V} {ds : List D} (h : W.Z a = some (.lst vs)) (hs : Dats G W vs ds) : JOk G W (Ite G.K a) (enumD 0 ds) where
  go := fun i H S W' l k hi => by
    rw [enumD_len] at hi
    obtain ⟨v, e, _⟩ := hs.get (List.getElem?_eq_getElem hi)
    exact ⟨vs, v, SqL.of (k.z _ _ (l.z _ _ h)), e⟩
  stop := fun H S W' l k => ⟨vs, SqL.of (k.z _ _ (l.z _ _ h)), by rw [enumD_len, hs.length]; exact Nat.le_refl _⟩
  yld := fun i H S W' x H' d l k e y => by
    obtain ⟨T, p, rfl, hT, rfl, y1⟩ := y
    obtain ⟨dx, e1, rfl⟩ := enumD_get e
    obtain ⟨v, f1, dv⟩ := hs.get e1
    have q1 := y1 vs (SqL.of (k.z _ _ (l.z _ _ h)))
    rw [f1] at q1; cases q1
    rw [Nat.zero_add]
    exact new_pair k hT (.int _) (dv.up l)
end
abbrev tI (G : Gc) (cf : CF) (Wx : WX) (ev : Env → Store → Out (List D)) : TI := tR G cf Wx (fun W _ => JOk G W) ev
section
variable {X : Cx} {G : Gc} {cf : CF} {Wx : WX} {tg a b : Expr} {evA evB : Env → Store → Out D} {evs : Env → Store → Out (List D)} {pos : Pos}
theorem _root_.L2.PI.im {t t' : TI} (h : PI X tg a t) (hi : ∀ σ H Q, t' σ H Q → t σ H Q) : PI X tg a t' := ⟨fun pins s σ H R I q => h.run pins s σ H R I (hi _ _ _ q)⟩
/-- a list or a tuple, whichever comes -/
def iSeq (K : PySem.W.Frag) (tl : TE) : TI := fun σ H R => tl σ H fun x H1 => ∃ a, x = .ref a ∧ (((∃ xs, SqL K H1 a xs) ∧ R (Itl K a) H1) ∨ ((∃ xs, SqT K H1 a xs) ∧ R (Itt K a) H1))
theorem pi_seq {l : Expr} {tl : TE} (hl : PE X l tl) : PI X tg l (iSeq X.K tl) := by
  constructor
  intro pins s σ H R I h
  refine thn (hl.run pins s σ H _ I h) fun v s1 hv => ?_
  obtain ⟨x, H1, I1, r1, a, rfl, q | q⟩ := hv
  · obtain ⟨⟨xs, hq⟩, q⟩ := q
    cases r1
    obtain ⟨its, rv, p, _⟩ := I1.list hq
    refine wpAny_pyIter_list p.isList ?_
    have J := I1.kept (t' := s1.toks) (h' := s1.heap.push { cls := .type "list_iterator", data := .fields #[.ref a, .int 0 0] }) fun b o e => Heap.get?_push_of_some _ e
    refine ⟨_, [s1.heap.objs.size], _, _, H1, rfl, J, turn_list a _, ⟨_, Heap.get?_push_size _ rfl, rfl, rfl⟩, fun b hb => ?_, q⟩
    rw [List.mem_singleton.mp hb]
    exact I1.fpOk (Nat.le_refl _) (I1.hok.fresh (Nat.le_refl _))
  · obtain ⟨⟨xs, hq⟩, q⟩ := q
    cases r1
    obtain ⟨its, rv, p, _⟩ := I1.tuple hq
    refine wpAny_pyIter_tuple (show s1.heap.IsTuple a its.toArray from p) ?_
    have J := I1.kept (t' := s1.toks) (h' := s1.heap.push { cls := .type "tuple_iterator", data := .fields #[.ref a, .int 0 0] }) fun b o e => Heap.get?_push_of_some _ e
    refine ⟨_, [s1.heap.objs.size], _, _, H1, rfl, J, turn_tuple a _, ⟨_, Heap.get?_push_size _ rfl, rfl, rfl⟩, fun b hb => ?_, q⟩
    rw [List.mem_singleton.mp hb]
    exact I1.fpOk (Nat.le_refl _) (I1.hok.fresh (Nat.le_refl _))
def evI (k : SrcK) (evs : Env → Store → Out (List D)) : Env → Store → Out (List D) := fun env S => (evs env S).bind fun ds S => .ofO (itemsD k ds) S
theorem ri_seq (hKG : X.K = G.K) (ha : PE X a (tE G cf Wx evA)) : PI X tg a (tI G cf Wx (evI .seq fun env S => (evA env S).bind fun d S => .ok [d] S)) := by
  refine (pi_seq ha).im fun σ H Q ⟨W, H0, env, S, h, g⟩ => ?_
  have assoc : evI .seq (fun env S => (evA env S).bind fun d S => .ok [d] S) env S = (evA env S).bind fun d S => .ofO (seqD d) S := by
    dsimp only [evI]
    cases evA env S <;> rfl
  rw [assoc] at g
  refine tR.seq h g fun x W1 H1 S1 d s1 dx h1 g1 => ?_
  rw [hKG]
  cases dx with
  | lst hz hs => exact ⟨_, rfl, .inl ⟨⟨_, SqL.of (h1.hok.z _ _ hz)⟩, Go.ok h1.hok g1 (jok_lst hz hs)⟩⟩
  | tup hz hs => exact ⟨_, rfl, .inr ⟨⟨_, SqT.mono h1.hok.z hz⟩, Go.ok h1.hok g1 (jok_tup hz hs)⟩⟩
  | _ => exact (show False from g1).elim
theorem ri_range1 {p : Pos} (hg : Gl X "range") (hm : X.mg "range" = none) (ha : PA X [a] (tA G cf Wx evs)) (hs : starEach [a] X.env = [(false, eval a X.env)]) : PI X tg (.Call (.Name "range" p) [a] [] pos) (tI G cf Wx (evI .range1 evs)) := by
  refine (pi_range1 hg hm ha hs).im fun σ H Q ⟨W, H0, env, S, h, g⟩ => ?_
  refine tR.seq h g fun vs W1 H1 S1 ds s1 dx h1 g1 => ?_
  rcases ds with _ | ⟨d1, _ | ⟨d2, r⟩⟩
  · exact (show False from g1).elim
  · obtain ⟨v, rfl, dv⟩ := dx.one
    cases dv <;> first | (exact (show False from g1).elim) | skip
    rename_i j
    simp only [itemsD] at g1
    split at g1
    · rename_i hb
      refine ⟨j, rfl, hb.1, hb.2, ?_⟩
      have q := Go.ok h1.hok g1 (jok_rng (W := W1) (G := G) 0 j)
      rw [Int.sub_zero] at q
      exact q
    · exact (show False from g1).elim
  · cases d1 <;> exact (show False from g1).elim
theorem ri_range2 {p : Pos} (hg : Gl X "range") (hm : X.mg "range" = none) (ha : PA X [a, b] (tA G cf Wx evs)) (hs : starEach [a, b] X.env = [(false, eval a X.env), (false, eval b X.env)]) (hs2 : starEach [b] X.env = [(false, eval b X.env)]) :
    PI X tg (.Call (.Name "range" p) [a, b] [] pos) (tI G cf Wx (evI .range2 evs)) := by
  refine (pi_range2 hg hm ha hs hs2).im fun σ H Q ⟨W, H0, env, S, h, g⟩ => ?_
  refine tR.seq h g fun vs W1 H1 S1 ds s1 dx h1 g1 => ?_
  rcases ds with _ | ⟨d1, _ | ⟨d2, _ | ⟨d3, r⟩⟩⟩
  · exact (show False from g1).elim
  · cases d1 <;> exact (show False from g1).elim
  · obtain ⟨v, u, rfl, dv, du⟩ := dx.two
    cases dv <;> cases du <;> first | (exact (show False from g1).elim) | skip
    rename_i i j
    simp only [itemsD] at g1
    split at g1
    · rename_i hb
      exact ⟨i, j, rfl, ⟨hb.1.1, hb.1.2, hb.2.1, hb.2.2⟩, Go.ok h1.hok g1 (jok_rng (W := W1) (G := G) i j)⟩
    · exact (show False from g1).elim
  · cases d1 <;> cases d2 <;> exact (show False from g1).elim
theorem ri_zip {p tpos : Pos} {elts : List Expr} {kk : Nat} (hKG : X.K = G.K) (hg : Gl X "zip") (hm : X.mg "zip" = none) (ha : PA X [a, b] (tA G cf Wx evs)) (hs : starEach [a, b] X.env = (false, eval a X.env) :: starEach [b] X.env) (hpl : (backTo pos (starEach [b] X.env)).any (·.1) = false) :
    PI X (.Tuple elts kk tpos) (.Call (.Name "zip" p) [a, b] [] pos) (tI G cf Wx (evI .zip evs)) := by
  refine (pi_zipG hg hm ha hs hpl).im fun σ H Q ⟨W, H0, env, S, h, g⟩ => ?_
  refine tR.seq h g fun vs W1 H1 S1 ds s1 dx h1 g1 => ?_
  rw [hKG]
  rcases ds with _ | ⟨d1, _ | ⟨d2, _ | ⟨d3, r⟩⟩⟩
  · exact (show False from g1).elim
  · cases d1 <;> exact (show False from g1).elim
  · obtain ⟨v, u, rfl, dv, du⟩ := dx.two
    cases d1 <;> first | (exact (show False from g1).elim) | skip
    all_goals cases d2 <;> first | (exact (show False from g1).elim) | skip
    all_goals
      obtain ⟨a, xs, rfl, ha, hxs⟩ := (by first | exact (dat_has dv).1 _ rfl | exact (dat_has dv).2 _ rfl)
      obtain ⟨b, ys, rfl, hb, hys⟩ := (by first | exact (dat_has du).1 _ rfl | exact (dat_has du).2 _ rfl)
      exact ⟨a, b, _, _, xs, ys, rfl, ha.mono h1.hok.z, hb.mono h1.hok.z, Go.ok h1.hok g1 (jok_zipG ha hxs hb hys)⟩
  · cases d1 <;> cases d2 <;> exact (show False from g1).elim
theorem ri_enum {p tpos : Pos} {elts : List Expr} {kk : Nat} (hKG : X.K = G.K) (hg : Gl X "enumerate") (hm : X.mg "enumerate" = none) (ha : PA X [a] (tA G cf Wx evs)) (hs : starEach [a] X.env = [(false, eval a X.env)]) :
    PI X (.Tuple elts kk tpos) (.Call (.Name "enumerate" p) [a] [] pos) (tI G cf Wx (evI .enum evs)) := by
  refine (pi_enum hg hm ha hs).im fun σ H Q ⟨W, H0, env, S, h, g⟩ => ?_
  refine tR.seq h g fun vs W1 H1 S1 ds s1 dx h1 g1 => ?_
  rw [hKG]
  rcases ds with _ | ⟨d1, _ | ⟨d2, r⟩⟩
  · exact (show False from g1).elim
  · obtain ⟨v, rfl, dv⟩ := dx.one
    cases dv <;> first | (exact (show False from g1).elim) | skip
    rename_i p1 vs1 es1 h1z hs1
    exact ⟨_, _, rfl, SqL.of (h1.hok.z _ _ h1z), Go.ok h1.hok g1 (jok_enum h1z hs1)⟩
  · cases d1 <;> exact (show False from g1).elim
end
end Pz

/-! Pz8: new lists, comprehensions. -/
namespace Pz
open PySem PySem.Spec PyProof.Rows L2

/-- a new list that nobody knows yet -/
def RFr (G : Gc) (Hs : Hp) : Wd → Hp → V → D → Prop := fun W' H' v d => ∃ p vs ds, v = .ref p ∧ d = .lst ds ∧ H' p = some (.lst vs) ∧ Dats G W' vs ds ∧ W'.Z p = none ∧ p ∉ W'.be ∧ Hs p = none
abbrev tF (G : Gc) (cf : CF) (Wx : WX) (ev : Env → Store → Out D) : TE := fun σ H Q => tR G cf Wx (RFr G H) ev σ H Q
def IsLst (ev : Env → Store → Out D) : Prop := ∀ env S d S', ev env S = .ok d S' → ∃ ds, d = .lst ds
section
variable {G : Gc} {cf : CF} {Wx : WX} {W W1 : Wd} {H0 H H1 : Hp} {σ : L2.St} {env : Env} {S S1 : Store}
theorem Step.keep (st : Step G W H W1 H1 S1) {p : Addr} {o : HO} (hp : H1 p = some o) (hz : W1.Z p = none) (hb : p ∉ W1.be) (ht : ∀ ps, o ≠ .tbl ps) (hn : H p = none) : Step G W H (W1.add p o) H1 S1 where
  le := st.le.trans (Wd.Le.add hz)
  zn := fun a u e => by
    by_cases q : a = p
    · subst q; exact .inr (.inl hn)
    · have e' : upd W1.Z p o a = some u := e
      rw [upd_ne q] at e'
      exact st.zn a u e'
  bn := st.bn
  fr := st.fr
  tn := st.tn
  ok := st.ok.keep hp hz hb ht
theorem fr_of {ev : Env → Store → Out D} (he : IsLst ev) {Q : VK} (q : tE G cf Wx ev σ H Q) : tF G cf Wx ev σ H Q := by
  obtain ⟨W, H0, env, S, h, g⟩ := q
  refine ⟨W, H0, env, S, h, ?_⟩
  cases e : ev env S with
  | ok d S1 =>
    rw [e] at g
    rintro b W' H' t ⟨p, vs, ds, rfl, rfl, h1, h2, h3, h4, h5⟩
    have st := t.keep h1 h3 h4 (fun ps z => by cases z) h5
    exact g _ _ _ st (.lst (W'.add_at p _) (h2.up (Wd.Le.add h3)))
  | exc c x S1 => rw [e] at g; exact g
  | bad => rw [e] at g; exact g
/-- fresh, from the place where the last part was reckoned -/
theorem RFr.new (h1 : Hok G W1 H1 S1) {p : Addr} (hp : H1 p = none) {Hs : Hp} (hs : Hs p = none) {vs : List V} {ds : List D} (hd : Dats G W1 vs ds) : RFr G Hs W1 (upd H1 p (.lst vs)) (.ref p) (.lst ds) := by
  obtain ⟨hz, hb⟩ := h1.freshZ hp
  exact ⟨p, vs, ds, rfl, rfl, upd_same, hd, hz, hb, hs⟩
end
section
variable {X : Cx} {G : Gc} {cf : CF} {Wx : WX} {a b c : Expr} {evA evB : Env → Store → Out D} {pos : Pos}
theorem rf_lst {es : List Expr} {ev : Env → Store → Out (List D)} (h : PA X es (tA G cf Wx ev)) : PE X (.List es pos) (tF G cf Wx fun env S => (ev env S).bind fun ds S => if ds.length ≤ 1000 then .ok (.lst ds) S else .bad) := by
  refine (pe_lst h).im fun σ H Q ⟨W, H0, env, S, hc, g⟩ => ?_
  refine tR.seq hc g fun xs W1 H1 S1 ds s1 dx h1 g1 => ?_
  by_cases hl : ds.length ≤ 1000
  · rw [if_pos hl] at g1
    exact ⟨Nat.le_of_lt (small_line (by rw [dx.length]; omega)), fun p hp => g1 (.ref p) _ _ (Step.new h1.hok hp) (RFr.new h1.hok hp (s1.gone hp) dx)⟩
  · rw [if_neg hl] at g1; exact g1.elim
theorem rf_add (ha : PE X a (tE G cf Wx evA)) (hb : PE X b (tE G cf Wx evB)) :
    PE X (.BinOp a .Add b pos) (tF G cf Wx fun env S => (evA env S).bind fun x S => (evB env S).bind fun y S => match x, y with | .lst xs, .lst ys => .ofO (binD .add (.lst xs) (.lst ys)) S | _, _ => .bad) := by
  refine (pe_op op_cat ha hb).im fun σ H Q ⟨W, H0, env, S, h, g⟩ => ?_
  refine tR.seq h g fun x W1 H1 S1 da s1 dx h1 g1 => ?_
  refine tR.seq h1 g1 fun y W2 H2 S2 db s2 dy h2 g2 => ?_
  cases dx with
  | lst hz hs =>
    cases dy with
    | lst hz' hs' =>
      dsimp only [binD] at g2
      split at g2
      · rename_i hl
        refine ⟨_, _, _, _, rfl, rfl, h2.hok.z _ _ (s2.le.z _ _ hz), h2.hok.z _ _ hz', by rw [hs.length, hs'.length]; exact hl, fun p hp => ?_⟩
        exact g2 _ _ _ (Step.new h2.hok hp) (RFr.new h2.hok hp ((s1.trans s2).gone hp) ((hs.up s2.le).append hs'))
      · exact (show False from g2).elim
    | _ => exact (show False from g2).elim
  | _ => exact (show False from g2).elim
theorem rf_list {x : Str} {p : Pos} {e : Expr} {es : List Expr} {evs : Env → Store → Out (List D)} (hKG : X.K = G.K) (hg : Gl X "list") (hm : X.mg "list" = none) (ha : PA X [e] (tA G cf Wx evs)) (hs : starEach [e] X.env = (false, eval e X.env) :: starEach [] X.env) :
    PE X (.Call (.Name "list" p) [e] [] pos) (tF G cf Wx fun env S => (evs env S).bind fun ds S => .ofO (primD .list ds) S) := by
  refine (pe_callTy (call_list_of (X := X)) hg hm PyProof.Rows.boot_list ha (by decide) (by decide) hs rfl).im fun σ H Q ⟨W, H0, env, S, h, g⟩ => ?_
  refine tR.seq h g fun vs W1 H1 S1 ds s1 dx h1 g1 => ?_
  rw [hKG]
  rcases ds with _ | ⟨d1, _ | ⟨d2, r⟩⟩
  · exact (show False from g1).elim
  · obtain ⟨v, rfl, dv⟩ := dx.one
    cases dv with
    | lst hz hs => exact ⟨_, _, rfl, .inl (SqL.of (h1.hok.z _ _ hz)), fun p hp => g1 _ _ _ (Step.new h1.hok hp) (RFr.new h1.hok hp (s1.gone hp) hs)⟩
    | tup hz hs => exact ⟨_, _, rfl, .inr (SqT.mono h1.hok.z hz), fun p hp => g1 _ _ _ (Step.new h1.hok hp) (RFr.new h1.hok hp (s1.gone hp) hs)⟩
    | _ => exact (show False from g1).elim
  · cases d1 <;> exact (show False from g1).elim
end

/-! ### comprehensions -/
def wipeE : Env → List Nat → Env
  | env, [] => env
  | env, i :: is => (wipeE env is).set i none
theorem foldr_wipe : ∀ (own : List Nat) (env : Env), own.foldr (fun i e => e.set i none) env = wipeE env own
  | [], _ => rfl
  | i :: is, env => by rw [List.foldr_cons, foldr_wipe is env]; rfl
theorem wipeE_len : ∀ (own : List Nat) (env : Env), (wipeE env own).length = env.length
  | [], _ => rfl
  | i :: is, env => by rw [wipeE, List.length_set, wipeE_len is env]
theorem wipeE_get : ∀ {own : List Nat} {env : Env} {j : Nat} {sl : Sl}, (wipeE env own)[j]? = some (some sl) → j ∉ own ∧ env[j]? = some (some sl)
  | [], _, _, _, h => ⟨by simp, h⟩
  | i :: is, env, j, sl, h => by
    rw [wipeE] at h
    by_cases q : i = j
    · subst q
      by_cases hl : i < (wipeE env is).length
      · rw [List.getElem?_set_self hl] at h; cases h
      · rw [List.getElem?_eq_none (by rw [List.length_set]; omega)] at h; cases h
    · rw [List.getElem?_set_ne q] at h
      obtain ⟨h1, h2⟩ := wipeE_get h
      exact ⟨by rw [List.mem_cons, not_or]; exact ⟨fun e => q e.symm, h1⟩, h2⟩
theorem wipe_in : ∀ {σ : L2.St} {i : Nat} {vs : List Nat}, i ∈ vs → i < σ.length → (wipe σ vs)[i]? = some none
  | σ, i, [], h, _ => by simp at h
  | σ, i, v :: vs, h, hl => by
    rw [wipe]
    by_cases q : v = i
    · subst q
      rw [List.getElem?_set_self (by rw [wipe_length]; exact hl)]
    · rw [List.getElem?_set_ne q]
      rcases List.mem_cons.mp h with e | h
      · exact absurd e.symm q
      · exact wipe_in h hl
theorem wipe_same {σ σ2 : L2.St} {vs us : List Nat} (hu : ∀ i ∈ us, i ∈ vs) (h : SameBut us (wipe σ vs) σ2) : wipe σ2 vs = wipe σ vs := by
  apply List.ext_getElem?
  intro i
  by_cases hi : i ∈ vs
  · by_cases hl : i < σ.length
    · rw [wipe_in hi (by rw [h.1, wipe_length]; exact hl), wipe_in hi hl]
    · rw [List.getElem?_eq_none (by rw [wipe_length, h.1, wipe_length]; omega), List.getElem?_eq_none (by rw [wipe_length]; omega)]
  · rw [wipe_out hi, h.2 i fun z => hi (hu i z)]
abbrev cf0 : CF := fun _ _ _ _ => False
abbrev Wx0 : WX := fun _ _ _ _ => False
theorem blk_len (env : Env) (own : List Nat) : (env.blk own).length = env.length := by
  unfold Env.blk
  rw [List.length_map, foldr_wipe, wipeE_len]
theorem blk_get {env : Env} {own : List Nat} {j : Nat} {sl : Sl} (h : (env.blk own)[j]? = some (some sl)) : j ∉ own ∧ ∃ d, sl = .val d ∧ env[j]? = some (some (.val d)) := by
  unfold Env.blk at h
  rw [List.getElem?_map, foldr_wipe] at h
  cases e : (wipeE env own)[j]? with
  | none => rw [e] at h; cases h
  | some o =>
    rw [e] at h
    rcases o with _ | sl'
    · cases h
    · cases sl' with
      | val d =>
        obtain ⟨h1, h2⟩ := wipeE_get e
        cases h
        exact ⟨h1, d, rfl, h2⟩
      | own ds => cases h
      | clo k c => cases h
theorem EnvOk.blk {G : Gc} {W : Wd} {cf : CF} {H0 H : Hp} {σ : L2.St} {env : Env} (h : EnvOk G W cf H0 H σ env) (own : List Nat) : EnvOk G W cf0 H0 H (wipe σ own) (env.blk own) where
  len := by rw [blk_len, wipe_length]; exact h.len
  get := fun i sl e => by
    obtain ⟨h1, d, rfl, h2⟩ := blk_get e
    obtain ⟨v, h3, h4⟩ := h.get i _ h2
    exact ⟨v, by rw [wipe_out h1]; exact h3, h4⟩
  ne := fun i j ds ds' v _ e => by
    obtain ⟨_, d, z, _⟩ := blk_get e
    cases z
theorem compL_cons {f : D → Store → Out (Option D)} {x : D} {xs ys : List D} {S S2 : Store} (h : compL f (x :: xs) S = .ok ys S2) : ∃ y S1 zs, f x S = .ok y S1 ∧ compL f xs S1 = .ok zs S2 ∧ ys = (match y with | some d => d :: zs | none => zs) := by
  rw [compL] at h
  cases e : f x S with
  | bad => rw [e] at h; cases h
  | exc c x S => rw [e] at h; cases h
  | ok y S1 =>
    rw [e, Out.bind_ok] at h
    cases e2 : compL f xs S1 with
    | bad => rw [e2] at h; cases h
    | exc c x S => rw [e2] at h; cases h
    | ok zs S3 =>
      rw [e2, Out.bind_ok] at h
      cases h
      exact ⟨y, S1, zs, rfl, e2, rfl⟩
/-- one turn -/
def turnF (own : List Nat) (tg : Tg) (evC evE : Env → Store → Out D) (env : Env) : D → Store → Out (Option D) := fun x S => match bindT tg x (env.blk own) with
  | some env' => (evC env' S).bind fun b S => match truth b with
    | some true => (evE env' S).map some
    | some false => .ok none S
    | none => .bad
  | none => .bad
theorem turnF_ok {own : List Nat} {tg : Tg} {evC evE : Env → Store → Out D} {env : Env} {x : D} {S S1 : Store} {y : Option D} (h : turnF own tg evC evE env x S = .ok y S1) :
    ∃ env' b Sb, bindT tg x (env.blk own) = some env' ∧ evC env' S = .ok (.bl b) Sb ∧ (b = true → ∃ d, evE env' Sb = .ok d S1 ∧ y = some d) ∧ (b = false → y = none ∧ S1 = Sb) := by
  unfold turnF at h
  split at h
  · rename_i env' e
    cases e2 : evC env' S with
    | bad => rw [e2] at h; cases h
    | exc c x S => rw [e2] at h; cases h
    | ok b Sb =>
      rw [e2, Out.bind_ok] at h
      cases b with
      | bl b =>
        refine ⟨env', b, Sb, e, e2, ?_, ?_⟩
        · rintro rfl
          dsimp only [truth] at h
          cases e3 : evE env' Sb with
          | bad => rw [e3] at h; cases h
          | exc c x S => rw [e3] at h; cases h
          | ok d S3 =>
            rw [e3, Out.map_ok] at h
            cases h
            exact ⟨d, rfl, rfl⟩
        · rintro rfl
          cases h
          exact ⟨rfl, rfl⟩
      | _ => cases h
  · cases h
/-- the interpreter's comprehension -/
def evLc (own : List Nat) (tg : Tg) (evS : Env → Store → Out (List D)) (evC evE : Env → Store → Out D) : Env → Store → Out D := fun env S =>
  (evS env S).bind fun its S => ((compL (turnF own tg evC evE env) its S).calm).bind fun ys S => if ys.length ≤ 1000000 then .ok (.lst ys) S else .bad
theorem evLc_lst (own : List Nat) (tg : Tg) (evS : Env → Store → Out (List D)) (evC evE : Env → Store → Out D) : IsLst (evLc own tg evS evC evE) := by
  intro env S d S' h
  unfold evLc at h
  cases e : evS env S with
  | bad => rw [e] at h; cases h
  | exc c x S => rw [e] at h; cases h
  | ok its S1 =>
    rw [e, Out.bind_ok] at h
    cases e2 : compL (turnF own tg evC evE env) its S1 with
    | bad => rw [e2] at h; cases h
    | exc c x S => rw [e2] at h; cases h
    | ok ys S2 =>
      rw [e2, Out.calm_ok, Out.bind_ok] at h
      split at h
      · cases h; exact ⟨ys, rfl⟩
      · cases h
section
variable {X : Cx} {G : Gc} {cf : CF} {Wx : WX} {evS : Env → Store → Out (List D)} {evC evE : Env → Store → Out D}
/-- the state between two turns -/
structure LcAt (G : Gc) (cf : CF) (W1 : Wd) (H0 : Hp) (σ : L2.St) (H1 : Hp) (env : Env) (f : D → Store → Out (Option D)) (its ys : List D) (Sf : Store) (DD : Addr) (i : Nat) (H : Hp) : Prop where
  ex : ∃ W' S' acc ds zs, Step G W1 H1 W' H S' ∧ H DD = some (.lst acc) ∧ Dats G W' acc ds ∧ W'.Z DD = none ∧ DD ∉ W'.be ∧ compL f (its.drop i) S' = .ok zs Sf ∧ ys = ds ++ zs
theorem lcD {own : List Nat} {tg : Tg} (hown : ∀ i ∈ tgVars tg, i ∈ own) {tt : TT} (htt : ∀ σ H Q, tT G cf0 Wx0 (evT evC) σ H Q → tt σ H Q) {σ : L2.St} {H : Hp} {Q : VK}
    (q : tF G cf Wx (evLc own tg evS evC evE) σ H Q) : tLc (tI G cf Wx evS) (tG G tg) tt (tE G cf0 Wx0 evE) own σ H Q := by
  obtain ⟨W, H0, env, S, h, g⟩ := q
  refine tR.seq h g fun J W1 H1 S1 its s1 jok h1 g1 => ?_
  intro DD hD
  cases e2 : compL (turnF own tg evC evE env) its S1 with
  | bad => rw [e2] at g1; exact (show False from g1).elim
  | exc c x S => rw [e2] at g1; exact (show False from g1).elim
  | ok ys Sf =>
    rw [e2, Out.calm_ok, Out.bind_ok] at g1
    split at g1
    · rename_i hys
      refine ⟨fun i m H' => m = its.length - i ∧ i ≤ its.length ∧ LcAt G cf W1 H0 σ H1 env (turnF own tg evC evE env) its ys Sf DD i H', ⟨its.length, by simp, Nat.zero_le _, ?_⟩, ?_⟩
      · obtain ⟨hz, hb⟩ := h1.hok.freshZ hD
        exact ⟨W1, S1, [], [], ys, Step.new h1.hok hD, upd_same, .nil, hz, hb, by rw [List.drop_zero]; exact e2, rfl⟩
      · rintro i m H' ⟨rfl, hi, ⟨W', S', acc, ds, zs, st, hacc, hds, hz, hb, hcl, hyz⟩⟩
        by_cases hlt : i < its.length
        · refine .inr ⟨jok.go i H' S' W' st.le st.ok hlt, fun H'' => i + 1 ≤ its.length ∧ LcAt G cf W1 H0 σ H1 env (turnF own tg evC evE env) its ys Sf DD (i + 1) H'', fun H'' k => ⟨its.length - (i + 1), by omega, rfl, k.1, k.2⟩, ?_⟩
          intro x H2 hy
          obtain ⟨W2, st2, dx⟩ := jok.yld i H' S' W' x H2 its[i] st.le st.ok (List.getElem?_eq_getElem hlt) hy
          rw [List.drop_eq_getElem_cons hlt] at hcl
          obtain ⟨y, S3, zs2, hf, hcl2, hzs⟩ := compL_cons hcl
          obtain ⟨env', b, Sb, hbind, hc, ht, hn⟩ := turnF_ok hf
          have st12 := st.trans st2
          have keepD : ∀ {W3 : Wd} {H3 : Hp} {S3 : Store}, Step G W' H' W3 H3 S3 → H3 DD = some (.lst acc) ∧ W3.Z DD = none ∧ DD ∉ W3.be := fun {W3 H3 S3} t => by
            refine ⟨t.fr DD _ hacc hb (fun ps z => by cases z), ?_, fun m => ?_⟩
            · exact t.zfree hacc hz hb
            · rcases t.bn DD m with z | z
              · exact hb z
              · rw [hacc] at z; cases z
          have cur2 : Cur G cf0 W2 H0 (wipe σ own) H2 (env.blk own) S' := ⟨st2.ok, (h1.env.step st12).blk own⟩
          refine ⟨cf0, W2, H0, env.blk own, S', its[i], env', cur2, dx, hbind, fun σ2 he sb => ?_⟩
          refine ⟨wipe_same hown sb, ?_⟩
          refine htt _ _ _ ⟨W2, H0, env', S', ⟨st2.ok, he⟩, ?_⟩
          unfold evT
          rw [hc, Out.bind_ok]
          show ∀ b' W3 H3, Step G W2 H2 W3 H3 Sb → b' = b → _
          rintro b' W3 H3 st3 rfl
          have st13 := st12.trans st3
          cases b' with
          | true =>
            rw [if_pos rfl]
            obtain ⟨d, he2, rfl⟩ := ht rfl
            refine ⟨W3, H0, env', Sb, ⟨st3.ok, he.step st3⟩, ?_⟩
            rw [he2]
            intro v W4 H4 st4 dv
            obtain ⟨k1, k2, k3⟩ := keepD ((st2.trans st3).trans st4)
            have st14 := st13.trans st4
            simp only at hzs
            subst hzs
            have hlen : ds.length < ys.length := by rw [hyz, List.length_append, List.length_cons]; omega
            refine ⟨acc, k1, by have := small_line (n := acc.length) (by rw [hds.length]; omega); exact this, hlt, ?_⟩
            refine ⟨W4, S3, acc ++ [v], ds ++ [d], zs2, ?_, upd_same, ((((hds.up st2.le).up st3.le).up st4.le).append (.cons dv .nil)), k2, k3, hcl2, by rw [hyz]; simp⟩
            refine ⟨st14.le, st14.zn, st14.bn, fun a o e hb' ht' => ?_, fun a ps e => ?_, ?_⟩
            · rw [upd_ne (ne_of_none e hD)]
              exact st14.fr a o e hb' ht'
            · obtain ⟨qs, e1⟩ := st14.tn a ps e
              exact ⟨qs, by rw [upd_ne (ne_of_none e hD)]; exact e1⟩
            · have k4 := st14.ok
              have nd : ∀ {a : Addr}, a ∈ W4.be → a ≠ DD := fun m q => k3 (q ▸ m)
              refine ⟨fun a o e => ?_, k4.nt, k4.len, k4.nd, fun n a so f1 f2 => ?_, fun t ht' => ?_⟩
              · rw [upd_ne fun q => by rw [q, k2] at e; cases e]; exact k4.z a o e
              · obtain ⟨z1, z2⟩ := k4.be n a so f1 f2
                exact ⟨z1, z2.up (Wd.Le.refl _) (upd_ne (nd (List.mem_of_getElem? f1)))⟩
              · obtain ⟨ps, f1, f2, f3⟩ := k4.tab t ht'
                refine ⟨ps, by rw [upd_ne fun q => by rw [q, k1] at f1; cases f1]; exact f1, f2, fun pos cv hcv => ?_⟩
                obtain ⟨c, g1', g2'⟩ := f3 pos cv hcv
                exact ⟨c, g1', by rw [upd_ne fun q => by rw [q, k1] at g2'; unfold LamX.CodeO at g2'; cases g2']; exact g2'⟩
          | false =>
            rw [if_neg Bool.false_ne_true]
            obtain ⟨rfl, rfl⟩ := hn rfl
            simp only at hzs
            rw [hzs] at hyz
            obtain ⟨k1, k2, k3⟩ := keepD (st2.trans st3)
            exact ⟨hlt, W3, S3, acc, ds, zs2, st13, k1, (hds.up st2.le).up st3.le, k2, k3, hcl2, hyz⟩
        · have e : i = its.length := by omega
          subst e
          rw [List.drop_length] at hcl
          obtain ⟨hz1, hz2⟩ := Out.ok.inj hcl
          rw [← hz1, List.append_nil] at hyz
          subst hz2
          rw [← hyz] at hds
          exact .inl ⟨jok.stop H' S' W' st.le st.ok, g1 (.ref DD) W' H' st ⟨DD, acc, ys, rfl, rfl, hacc, hds, hz, hb, s1.gone hD⟩⟩
    · exact (show False from g1).elim
end
end Pz

/-! Pz52: comprehensions of two clauses. -/
namespace Pz
open PySem PySem.Spec PyProof.Rows L2
/-- one inner turn, one outer turn -/
def turn1 (vs1 : List Nat) (tg1 : Tg) (evE : Env → Store → Out D) (env : Env) : D → Store → Out (Option D) := fun y S => match bindT tg1 y (env.blk vs1) with
  | some env2 => (evE env2 S).map some
  | none => .bad
def turn2 (own vs1 : List Nat) (tg : Tg) (evS1 : Env → Store → Out (List D)) (tg1 : Tg) (evE : Env → Store → Out D) (env : Env) : D → Store → Out (List D) := fun x S => match bindT tg x (env.blk own) with
  | some env1 => (evS1 env1 S).bind fun its S => compL (turn1 vs1 tg1 evE env1) its S
  | none => .bad
def evLc2 (own vs1 : List Nat) (tg : Tg) (evS : Env → Store → Out (List D)) (tg1 : Tg) (evS1 : Env → Store → Out (List D)) (evE : Env → Store → Out D) : Env → Store → Out D := fun env S =>
  (evS env S).bind fun its S => ((compF (turn2 own vs1 tg evS1 tg1 evE env) its S).calm).bind fun ys S => if ys.length ≤ 1000000 then .ok (.lst ys) S else .bad
theorem evLc2_lst (own vs1 : List Nat) (tg : Tg) (evS : Env → Store → Out (List D)) (tg1 : Tg) (evS1 : Env → Store → Out (List D)) (evE : Env → Store → Out D) : IsLst (evLc2 own vs1 tg evS tg1 evS1 evE) := by
  intro env S d S' h
  unfold evLc2 at h
  cases e : evS env S with
  | bad => rw [e] at h; cases h
  | exc c x S => rw [e] at h; cases h
  | ok its S1 =>
    rw [e, Out.bind_ok] at h
    cases e2 : compF (turn2 own vs1 tg evS1 tg1 evE env) its S1 with
    | bad => rw [e2] at h; cases h
    | exc c x S => rw [e2] at h; cases h
    | ok ys S2 =>
      rw [e2, Out.calm_ok, Out.bind_ok] at h
      split at h
      · cases h; exact ⟨ys, rfl⟩
      · cases h
theorem compF_cons {f : D → Store → Out (List D)} {x : D} {xs ys : List D} {S S2 : Store} (h : compF f (x :: xs) S = .ok ys S2) : ∃ y S1 zs, f x S = .ok y S1 ∧ compF f xs S1 = .ok zs S2 ∧ ys = y ++ zs := by
  rw [compF] at h
  cases e : f x S with
  | bad => rw [e] at h; cases h
  | exc c x S => rw [e] at h; cases h
  | ok y S1 =>
    rw [e, Out.bind_ok] at h
    cases e2 : compF f xs S1 with
    | bad => rw [e2] at h; cases h
    | exc c x S => rw [e2] at h; cases h
    | ok zs S3 =>
      rw [e2, Out.bind_ok] at h
      cases h
      exact ⟨y, S1, zs, rfl, e2, rfl⟩
theorem turn2_ok {own vs1 : List Nat} {tg tg1 : Tg} {evS1 : Env → Store → Out (List D)} {evE : Env → Store → Out D} {env : Env} {x : D} {S S1 : Store} {ys : List D} (h : turn2 own vs1 tg evS1 tg1 evE env x S = .ok ys S1) :
    ∃ env1 its Sb, bindT tg x (env.blk own) = some env1 ∧ evS1 env1 S = .ok its Sb ∧ compL (turn1 vs1 tg1 evE env1) its Sb = .ok ys S1 := by
  unfold turn2 at h
  split at h
  · rename_i env1 e
    cases e2 : evS1 env1 S with
    | bad => rw [e2] at h; cases h
    | exc c x S => rw [e2] at h; cases h
    | ok its Sb =>
      rw [e2, Out.bind_ok] at h
      exact ⟨env1, its, Sb, e, e2, h⟩
  · cases h
theorem turn1_ok {vs1 : List Nat} {tg1 : Tg} {evE : Env → Store → Out D} {env : Env} {x : D} {S S1 : Store} {y : Option D} (h : turn1 vs1 tg1 evE env x S = .ok y S1) :
    ∃ env2 d, bindT tg1 x (env.blk vs1) = some env2 ∧ evE env2 S = .ok d S1 ∧ y = some d := by
  unfold turn1 at h
  split at h
  · rename_i env2 e
    cases e2 : evE env2 S with
    | bad => rw [e2] at h; cases h
    | exc c x S => rw [e2] at h; cases h
    | ok d Sb =>
      rw [e2, Out.map_ok] at h
      cases h
      exact ⟨env2, d, e, e2, rfl⟩
  · cases h
theorem EnvOk.blkLe {G : Gc} {W W' : Wd} {cf : CF} {H0 H H' : Hp} {σ : L2.St} {env : Env} (h : EnvOk G W cf H0 H σ env) (l : Wd.Le W W') (own : List Nat) : EnvOk G W' cf0 H0 H' (wipe σ own) (env.blk own) where
  len := by rw [blk_len, wipe_length]; exact h.len
  get := fun i sl e => by
    obtain ⟨h1, d, rfl, h2⟩ := blk_get e
    obtain ⟨v, h3, h4⟩ := h.get i _ h2
    exact ⟨v, by rw [wipe_out h1]; exact h3, Dat.up h4 l⟩
  ne := fun i j ds ds' v _ e => by
    obtain ⟨_, d, z, _⟩ := blk_get e
    cases z
/-- the list that grows at DD -/
structure Acc (G : Gc) (W1 : Wd) (H1 : Hp) (DD : Addr) (W : Wd) (H : Hp) (S : Store) (acc : List V) (ds : List D) : Prop where
  st : Step G W1 H1 W H S
  at_ : H DD = some (.lst acc)
  dat : Dats G W acc ds
  z : W.Z DD = none
  b : DD ∉ W.be
section
variable {G : Gc} {W1 W W2 : Wd} {H1 H H2 : Hp} {DD : Addr} {S S2 : Store} {acc : List V} {ds : List D}
theorem Acc.keep (a : Acc G W1 H1 DD W H S acc ds) (t : Step G W H W2 H2 S2) : Acc G W1 H1 DD W2 H2 S2 acc ds := by
  refine ⟨a.st.trans t, t.fr DD _ a.at_ a.b (fun ps z => by cases z), a.dat.up t.le, t.zfree a.at_ a.z a.b, fun m => ?_⟩
  rcases t.bn DD m with z | z
  · exact a.b z
  · rw [a.at_] at z; cases z
theorem Acc.push (a : Acc G W1 H1 DD W H S acc ds) (hD : H1 DD = none) {v : V} {d : D} (dv : Dat G W v d) : Acc G W1 H1 DD W (upd H DD (.lst (acc ++ [v]))) S (acc ++ [v]) (ds ++ [d]) := by
  obtain ⟨st, k1, dat, k2, k3⟩ := a
  refine ⟨⟨st.le, st.zn, st.bn, fun a o e hb' ht' => ?_, fun a ps e => ?_, ?_⟩, upd_same, dat.append (.cons dv .nil), k2, k3⟩
  · rw [upd_ne (ne_of_none e hD)]
    exact st.fr a o e hb' ht'
  · obtain ⟨qs, e1⟩ := st.tn a ps e
    exact ⟨qs, by rw [upd_ne (ne_of_none e hD)]; exact e1⟩
  · have k4 := st.ok
    have nd : ∀ {a : Addr}, a ∈ W.be → a ≠ DD := fun m q => k3 (q ▸ m)
    refine ⟨fun a o e => ?_, k4.nt, k4.len, k4.nd, fun n a so f1 f2 => ?_, fun t ht' => ?_⟩
    · rw [upd_ne fun q => by rw [q, k2] at e; cases e]; exact k4.z a o e
    · obtain ⟨z1, z2⟩ := k4.be n a so f1 f2
      exact ⟨z1, z2.up (Wd.Le.refl _) (upd_ne (nd (List.mem_of_getElem? f1)))⟩
    · obtain ⟨ps, f1, f2, f3⟩ := k4.tab t ht'
      refine ⟨ps, by rw [upd_ne fun q => by rw [q, k1] at f1; cases f1]; exact f1, f2, fun pos cv hcv => ?_⟩
      obtain ⟨c, g1', g2'⟩ := f3 pos cv hcv
      exact ⟨c, g1', by rw [upd_ne fun q => by rw [q, k1] at g2'; unfold LamX.CodeO at g2'; cases g2']; exact g2'⟩
end
section
variable {X : Cx} {G : Gc} {cf : CF} {Wx : WX} {evS evS1 : Env → Store → Out (List D)} {evE : Env → Store → Out D}
theorem lcD2 {own vs1 : List Nat} {tg tg1 : Tg} (hown : ∀ i ∈ tgVars tg, i ∈ own) (hv1 : ∀ i ∈ tgVars tg1, i ∈ vs1) {σ : L2.St} {H : Hp} {Q : VK}
    (q : tF G cf Wx (evLc2 own vs1 tg evS tg1 evS1 evE) σ H Q) : tLc2 (tI G cf Wx evS) (tG G tg) tYes (tI G cf0 Wx0 evS1) (tG G tg1) tYes (tE G cf0 Wx0 evE) own vs1 σ H Q := by
  obtain ⟨W, H0, env, S, h, g⟩ := q
  refine tR.seq h g fun J W1 H1 S1 its s1 jok h1 g1 => ?_
  intro DD hD
  cases e2 : compF (turn2 own vs1 tg evS1 tg1 evE env) its S1 with
  | bad => rw [e2] at g1; exact (show False from g1).elim
  | exc c x S => rw [e2] at g1; exact (show False from g1).elim
  | ok ys Sf =>
    rw [e2, Out.calm_ok, Out.bind_ok] at g1
    split at g1
    · rename_i hys
      let At : Nat → Hp → Prop := fun i H' => ∃ W' S' acc ds zs, Acc G W1 H1 DD W' H' S' acc ds ∧ compF (turn2 own vs1 tg evS1 tg1 evE env) (its.drop i) S' = .ok zs Sf ∧ ys = ds ++ zs
      refine ⟨fun i m H' => m = its.length - i ∧ i ≤ its.length ∧ At i H', ⟨its.length, by simp, Nat.zero_le _, ?_⟩, ?_⟩
      · obtain ⟨hz, hb⟩ := h1.hok.freshZ hD
        exact ⟨W1, S1, [], [], ys, ⟨Step.new h1.hok hD, upd_same, .nil, hz, hb⟩, by rw [List.drop_zero]; exact e2, rfl⟩
      · rintro i m H' ⟨rfl, hi, ⟨W', S', acc, ds, zs, ac, hcl, hyz⟩⟩
        by_cases hlt : i < its.length
        · refine .inr ⟨jok.go i H' S' W' ac.st.le ac.st.ok hlt, fun H'' => i + 1 ≤ its.length ∧ At (i + 1) H'', fun H'' k => ⟨its.length - (i + 1), by omega, rfl, k.1, k.2⟩, ?_⟩
          intro x H2 hy
          obtain ⟨W2, st2, dx⟩ := jok.yld i H' S' W' x H2 its[i] ac.st.le ac.st.ok (List.getElem?_eq_getElem hlt) hy
          rw [List.drop_eq_getElem_cons hlt] at hcl
          obtain ⟨y, S3, zs2, hf, hcl2, hzs⟩ := compF_cons hcl
          obtain ⟨env1, its1, Sb, hbind, hs1, hin⟩ := turn2_ok hf
          have ac2 := ac.keep st2
          have st12 := ac2.st
          have cur2 : Cur G cf0 W2 H0 (wipe σ own) H2 (env.blk own) S' := ⟨st2.ok, (h1.env.step st12).blk own⟩
          refine ⟨cf0, W2, H0, env.blk own, S', its[i], env1, cur2, dx, hbind, fun σ2 he sb => ⟨wipe_same hown sb, ?_⟩⟩
          simp only [tYes, if_true]
          refine ⟨W2, H0, env1, S', ⟨st2.ok, he⟩, ?_⟩
          rw [hs1]
          intro J1 W3 H3 st3 jok1
          have ac3 := ac2.keep st3
          let At1 : Nat → Hp → Prop := fun j H' => ∃ W' S' acc ds zs1, Acc G W1 H1 DD W' H' S' acc ds ∧ Wd.Le W3 W' ∧ compL (turn1 vs1 tg1 evE env1) (its1.drop j) S' = .ok zs1 S3 ∧ ys = ds ++ (zs1 ++ zs2)
          refine ⟨fun j m H' => m = its1.length - j ∧ j ≤ its1.length ∧ At1 j H', ⟨its1.length, by simp, Nat.zero_le _, W3, Sb, acc, ds, y, ac3, Wd.Le.refl _, by rw [List.drop_zero]; exact hin, by rw [hyz, hzs]⟩, ?_⟩
          rintro j m H5 ⟨rfl, hj, ⟨W5, S5, acc5, ds5, zs5, ac5, s35, hcl5, hyz5⟩⟩
          by_cases hlt5 : j < its1.length
          · refine .inr ⟨jok1.go j H5 S5 W5 s35 ac5.st.ok hlt5, fun H'' => j + 1 ≤ its1.length ∧ At1 (j + 1) H'', fun H'' k => ⟨its1.length - (j + 1), by omega, rfl, k.1, k.2⟩, ?_⟩
            intro x6 H6 hy6
            obtain ⟨W6, st6, dx6⟩ := jok1.yld j H5 S5 W5 x6 H6 its1[j] s35 ac5.st.ok (List.getElem?_eq_getElem hlt5) hy6
            rw [List.drop_eq_getElem_cons hlt5] at hcl5
            obtain ⟨y6, S7, zs7, hf7, hcl7, hzs7⟩ := compL_cons hcl5
            obtain ⟨env2, d7, hb7, he7, rfl⟩ := turn1_ok hf7
            have ac6 := ac5.keep st6
            have s36 := s35.trans st6.le
            have cur6 : Cur G cf0 W6 H0 (wipe σ2 vs1) H6 (env1.blk vs1) S5 := ⟨st6.ok, he.blkLe (st3.le.trans s36) vs1⟩
            refine ⟨cf0, W6, H0, env1.blk vs1, S5, its1[j], env2, cur6, dx6, hb7, fun σ3 he3 sb3 => ⟨wipe_same hv1 sb3, ?_⟩⟩
            simp only [tYes, if_true]
            refine ⟨W6, H0, env2, S5, ⟨st6.ok, he3⟩, ?_⟩
            rw [he7]
            intro v W8 H8 st8 dv
            have ac8 := ac6.keep st8
            simp only at hzs7
            subst hzs7
            have hlen : ds5.length < ys.length := by rw [hyz5, List.length_append]; simp
            refine ⟨acc5, ac8.at_, by have := small_line (n := acc5.length) (by rw [ac5.dat.length]; omega); exact this, hlt5, ?_⟩
            have ac9 := ac8.push hD dv
            exact ⟨W8, S7, acc5 ++ [v], ds5 ++ [d7], zs7, ac9, s36.trans st8.le, hcl7, by rw [hyz5]; simp⟩
          · have e : j = its1.length := by omega
            subst e
            rw [List.drop_length] at hcl5
            obtain ⟨hz1, hz2⟩ := Out.ok.inj hcl5
            rw [← hz1, List.nil_append] at hyz5
            subst hz2
            exact .inl ⟨jok1.stop H5 S5 W5 s35 ac5.st.ok, hlt, W5, S5, acc5, ds5, zs2, ac5, hcl2, hyz5⟩
        · have e : i = its.length := by omega
          subst e
          rw [List.drop_length] at hcl
          obtain ⟨hz1, hz2⟩ := Out.ok.inj hcl
          rw [← hz1, List.append_nil] at hyz
          subst hz2
          have hds := ac.dat
          rw [← hyz] at hds
          exact .inl ⟨jok.stop H' S' W' ac.st.le ac.st.ok, g1 (.ref DD) W' H' ac.st ⟨DD, acc, ys, rfl, rfl, ac.at_, hds, ac.z, ac.b, s1.gone hD⟩⟩
    · exact (show False from g1).elim
end
end Pz

/-! Pz9: statements. -/
namespace Pz
open PySem PySem.Spec PyProof.Rows L2

def SGo (G : Gc) (cf : CF) (Wx : WX) (W0 : Wd) (H0 : Hp) (W : Wd) (r : SOut) (D : Ends) : Prop := match r with
  | .nxt env S' => ∀ σ' W' H', Wd.Le W W' → Step G W0 H0 W' H' S' → EnvOk G W' cf H0 H' σ' env → D.nx σ' H'
  | .ret d S' => ∀ v W' H', Step G W0 H0 W' H' S' → Dat G W' v d → D.rt v H'
  | .exc c x env S' => ∀ cls dO σ' W' H', Step G W0 H0 W' H' S' → EnvOk G W' cf H0 H' σ' env → ExR G W' H' c x cls dO → Wx cls dO σ' H'
  | .bad => False
def tS (G : Gc) (cf : CF) (Wx : WX) (ex : Env → Store → SOut) : TS := fun D σ H => ∃ W0 H0 W env S, Step G W0 H0 W H S ∧ EnvOk G W cf H0 H σ env ∧ SGo G cf Wx W0 H0 W (ex env S) D
section
variable {G : Gc} {cf : CF} {Wx : WX} {W0 W W1 : Wd} {H0 H H1 : Hp} {σ : L2.St} {env : Env} {S S1 : Store} {D : Ends}
theorem SGo.le {r : SOut} (h : SGo G cf Wx W0 H0 W r D) (l : Wd.Le W W1) : SGo G cf Wx W0 H0 W1 r D := by
  cases r with
  | nxt env S' => exact fun σ' W' H' l' st e => h σ' W' H' (l.trans l') st e
  | ret d S' => exact h
  | exc c x env S' => exact h
  | bad => exact h
theorem st_seq {A B : Type} {R : Wd → Hp → B → A → Prop} {ev : Env → Store → Out A} {k : A → Store → SOut} (st : Step G W0 H0 W H S) (eo : EnvOk G W cf H0 H σ env) (g : SGo G cf Wx W0 H0 W ((ev env S).st env k) D) {P : B → Hp → Prop}
    (hp : ∀ b W1 H1 S1 a, Step G W H W1 H1 S1 → R W1 H1 b a → Step G W0 H0 W1 H1 S1 → EnvOk G W1 cf H0 H1 σ env → SGo G cf Wx W0 H0 W1 (k a S1) D → P b H1) : tR G cf Wx R ev σ H P := by
  refine ⟨W, H0, env, S, ⟨st.ok, eo⟩, ?_⟩
  cases e : ev env S with
  | ok a S1 =>
    rw [e] at g
    exact fun b W' H' t hr => hp b W' H' S1 a t hr (st.trans t) (eo.step t) (g.le t.le)
  | exc c x S1 =>
    rw [e] at g
    exact fun cls dO W' H' t hr => g cls dO σ W' H' (st.trans t) (eo.step t) hr
  | bad =>
    rw [e] at g
    exact g
end
section
variable {X : Cx} {G : Gc} {cf : CF} {Wx : WX} {e : Expr} {st : Stmt} {sts : List Stmt} {ev : Env → Store → Out D} {ex ex2 : Env → Store → SOut} {pos : Pos}
theorem ss_nil : PSs X [] (tS G cf Wx fun env S => .nxt env S) := pss_nil.im fun En σ H ⟨W0, H0, W, env, S, st, eo, g⟩ => g σ W H (Wd.Le.refl W) st eo
theorem ss_seqD {t : TS} {u : TS} (ht : ∀ D σ H, tS G cf Wx ex D σ H → t D σ H) (hu : ∀ D σ H, tS G cf Wx ex2 D σ H → u D σ H) {D : Ends} {σ : L2.St} {H : Hp} (q : tS G cf Wx (fun env S => (ex env S).bind ex2) D σ H) : tSeq t u D σ H := by
  obtain ⟨W0, H0, W, env, S, st, eo, g⟩ := q
  refine ht _ _ _ ⟨W0, H0, W, env, S, st, eo, ?_⟩
  dsimp only at g
  cases e : ex env S with
  | nxt env' S' =>
    rw [e] at g
    exact fun σ' W' H' l st' eo' => hu _ _ _ ⟨W0, H0, W', env', S', st', eo', SGo.le g l⟩
  | ret d S' => rw [e] at g; exact g
  | exc c x env' S' => rw [e] at g; exact g
  | bad => rw [e] at g; exact g
theorem ss_cons (h1 : PS X st (tS G cf Wx ex)) (h2 : PSs X sts (tS G cf Wx ex2)) : PSs X (st :: sts) (tS G cf Wx fun env S => (ex env S).bind ex2) :=
  (pss_cons h1 h2).im fun D σ H q => ss_seqD (fun _ _ _ h => h) (fun _ _ _ h => h) q
/-- a name's own list is known from now on -/
theorem ss_frz {i : Nat} (h2 : PSs X sts (tS G cf Wx ex2)) :
    PSs X sts (tS G cf Wx fun env S => (match env[i]? with | some (some (.own ds)) => SOut.nxt (env.put i (.lst ds)) S | _ => .bad).bind ex2) := by
  refine h2.im fun En σ H ⟨W0, H0, W, env, S, st, eo, g⟩ => ?_
  dsimp only at g
  split at g
  · rename_i ds e
    obtain ⟨v, e1, p, vs, rfl, h1, h2, h3, h4, h5⟩ := eo.get i _ e
    have st' := st.keep h1 h3 h4 (fun ps z => by cases z) h5
    have hi := (List.getElem?_eq_some_iff.mp e).1
    have le := Wd.Le.add (o := HO.lst vs) h3
    refine ⟨W0, H0, W.add p (.lst vs), env.put i (.lst ds), S, st', ?_, SGo.le g le⟩
    have σi : σ.set i (some (.ref p)) = σ := by
      apply List.ext_getElem?
      intro j
      by_cases q : j = i
      · subst q; rw [List.getElem?_set_self (by rw [← eo.len]; exact hi), e1]
      · rw [List.getElem?_set_ne (Ne.symm q)]
    have no : ∀ {j : Nat} {es : List D}, (env.put i (.lst ds))[j]? = some (some (.own es)) → j ≠ i ∧ env[j]? = some (some (.own es)) := fun {j es} e2 => by
      have e' : (env.set i (some (.val (.lst ds))))[j]? = some (some (.own es)) := e2
      by_cases q : j = i
      · subst q; rw [List.getElem?_set_self hi] at e'; cases e'
      · rw [List.getElem?_set_ne (Ne.symm q)] at e'; exact ⟨q, e'⟩
    refine ⟨by show (List.set _ _ _).length = _; rw [List.length_set]; exact eo.len, fun j sl e2 => ?_, fun j k es es' u hjk ej ek => eo.ne j k es es' u hjk (no ej).2 (no ek).2⟩
    have e' : (env.set i (some (.val (.lst ds))))[j]? = some (some sl) := e2
    by_cases q : j = i
    · subst q
      rw [List.getElem?_set_self hi] at e'
      cases e'
      exact ⟨_, e1, .lst (W.add_at p _) (h2.up le)⟩
    · rw [List.getElem?_set_ne (Ne.symm q)] at e'
      obtain ⟨u, k1, k2⟩ := eo.get j sl e'
      refine ⟨u, k1, ?_⟩
      cases sl with
      | val d => exact Dat.up k2 le
      | clo k c => obtain ⟨W9, l9, c9⟩ := k2; exact ⟨W9, l9.trans le, c9⟩
      | own es =>
        obtain ⟨a, us, rfl, f1, f2, f3, f4, f5⟩ := k2
        refine ⟨a, us, rfl, f1, f2.up le, ?_, f4, f5⟩
        have np : a ≠ p := fun z => eo.ne i j ds es (.ref p) (Ne.symm q) e e' e1 (by rw [k1, z])
        show upd W.Z p _ a = none
        rw [upd_ne np]; exact f3
  · exact g.elim
/-- x = e -/
theorem sgD {te : TE} {i : Nat} (he : ∀ σ H Q, tE G cf Wx ev σ H Q → te σ H Q) {D : Ends} {σ : L2.St} {H : Hp} (q : tS G cf Wx (fun env S => (ev env S).st env fun d S => if i < env.length then .nxt (env.put i d) S else .bad) D σ H) : tAsg te (gName i) D σ H := by
  obtain ⟨W0, H0, W, env, S, st, eo, g⟩ := q
  refine he _ _ _ (st_seq st eo g fun x W1 H1 S1 d s1 dx st1 eo1 g1 => ?_)
  split at g1
  · rename_i hl
    exact g1 _ W1 H1 (Wd.Le.refl _) st1 (eo1.put hl dx)
  · exact g1.elim
theorem ss_asg {i : Nat} {x : Str} {pos' : Pos} (hN : X.N.Nodup) (hi : X.N[i]? = some x) (hx : Loc X.env.scope x) (he : PE X e (tE G cf Wx ev)) (hs : swapsWith e (some (.Name x pos')) pos.line X.env = pure false) (hf : X.fn x = true ∨ X.env.scope.names.lookup x = some .local) :
    PS X (.Assign [.Name x pos'] e pos) (tS G cf Wx fun env S => (ev env S).st env fun d S => if i < env.length then .nxt (env.put i d) S else .bad) :=
  (ps_set hN hi hx he hs hf).im fun D σ H q => sgD (fun _ _ _ h => h) q
/-- x = a new list -/
theorem sgF {te : TE} {i : Nat} (he : ∀ σ H Q, tF G cf Wx ev σ H Q → te σ H Q) {D : Ends} {σ : L2.St} {H : Hp}
    (q : tS G cf Wx (fun env S => (ev env S).st env fun d S => match d with | .lst ds => if i < env.length then .nxt (env.set i (some (.own ds))) S else .bad | _ => .bad) D σ H) : tAsg te (gName i) D σ H := by
  obtain ⟨W0, H0, W, env, S, st, eo, g⟩ := q
  refine he _ _ _ (st_seq st eo g fun x W1 H1 S1 d s1 dx st1 eo1 g1 => ?_)
  obtain ⟨p, vs, ds, rfl, rfl, h1, h2, h3, h4, h5⟩ := dx
  dsimp only at g1
  split at g1
  · rename_i hl
    refine g1 _ W1 H1 (Wd.Le.refl _) st1 (eo1.own hl h1 h2 h3 h4 (st.gone h5) fun j es hj ej hs => ?_)
    obtain ⟨v, k1, a, us, rfl, k2, _⟩ := eo.get j _ ej
    rw [k1] at hs
    cases hs
    rw [h5] at k2; cases k2
  · exact g1.elim
theorem ss_own {i : Nat} {x : Str} {pos' : Pos} (hN : X.N.Nodup) (hi : X.N[i]? = some x) (hx : Loc X.env.scope x) (he : PE X e (tF G cf Wx ev)) (hs : swapsWith e (some (.Name x pos')) pos.line X.env = pure false) (hf : X.fn x = true ∨ X.env.scope.names.lookup x = some .local) :
    PS X (.Assign [.Name x pos'] e pos) (tS G cf Wx fun env S => (ev env S).st env fun d S => match d with | .lst ds => if i < env.length then .nxt (env.set i (some (.own ds))) S else .bad | _ => .bad) :=
  (ps_set hN hi hx he hs hf).im fun D σ H q => sgF (fun _ _ _ h => h) q
/-- target = e -/
theorem ss_tasg {t : Expr} {tg : Tg} (he : PE X e (tE G cf Wx ev)) (hg : PG X t (tG G tg)) (hs : swapsWithSole [t] e pos.line X.env = pure false) (hw : swappedStores [t] e X.env = pure none) (h1 : (assignEach [t] X.env).map (·.2) = [assign t X.env]) :
    PS X (.Assign [t] e pos) (tS G cf Wx fun env S => (ev env S).st env fun d S => match bindT tg d env with | some env' => .nxt env' S | none => .bad) := by
  refine (ps_asg he hg hs hw h1).im fun En σ H ⟨W0, H0, W, env, S, st, eo, g⟩ => ?_
  refine st_seq st eo g fun x W1 H1 S1 d s1 dx st1 eo1 g1 => ?_
  cases e : bindT tg d env with
  | none => rw [e] at g1; exact g1.elim
  | some env' =>
    rw [e] at g1
    exact ⟨cf, W1, H0, env, S1, d, env', ⟨st1.ok, eo1⟩, dx, e, fun σ' he _ => g1 σ' W1 H1 (Wd.Le.refl _) st1 he⟩
/-- small statements -/
theorem ss_expr (he : PE X e (tE G cf Wx ev)) (hs : swapsWith e none pos.line X.env = pure false) : PS X (.Expr e pos) (tS G cf Wx fun env S => (ev env S).st env fun _ S => .nxt env S) := by
  refine (ps_expr he hs).im fun En σ H ⟨W0, H0, W, env, S, st, eo, g⟩ => ?_
  exact st_seq st eo g fun x W1 H1 S1 d s1 dx st1 eo1 g1 => g1 σ W1 H1 (Wd.Le.refl _) st1 eo1
theorem ss_ret (he : PE X e (tE G cf Wx ev)) : PS X (.Return (some e) pos) (tS G cf Wx fun env S => (ev env S).st env fun d S => .ret d S) := by
  refine (ps_ret he).im fun En σ H ⟨W0, H0, W, env, S, st, eo, g⟩ => ?_
  exact st_seq st eo g fun x W1 H1 S1 d s1 dx st1 eo1 g1 => g1 x W1 H1 st1 dx
theorem ss_retn : PS X (.Return none pos) (tS G cf Wx fun env S => .ret .non S) :=
  ps_retN.im fun En σ H ⟨W0, H0, W, env, S, st, eo, g⟩ => g .non W H st .non
theorem ss_pass : PS X (.Pass pos) (tS G cf Wx fun env S => .nxt env S) :=
  ps_pass.im fun En σ H ⟨W0, H0, W, env, S, st, eo, g⟩ => g σ W H (Wd.Le.refl _) st eo
theorem ss_if {c : Expr} {as bs : List Stmt} {evc : Env → Store → Out D} {exA exB : Env → Store → SOut} (hc : PT X c (tT G cf Wx (evT evc))) (ha : PSs X as (tS G cf Wx exA)) (hb : PSs X bs (tS G cf Wx exB)) :
    PS X (.If c as bs pos) (tS G cf Wx fun env S => (evc env S).st env fun d S => match truth d with | some true => exA env S | some false => exB env S | none => .bad) := by
  refine (ps_if hc ha hb).im fun En σ H ⟨W0, H0, W, env, S, st, eo, g⟩ => ?_
  have assoc : ((evc env S).st env fun d S => match truth d with | some true => exA env S | some false => exB env S | none => .bad) = (evT evc env S).st env fun k S => if k = true then exA env S else exB env S := by
    unfold evT
    cases evc env S with
    | bad => rfl
    | exc c x S => rfl
    | ok x S1 =>
      simp only [Out.bind_ok, Out.st_ok]
      rcases truth x with _ | _ | _ <;> rfl
  dsimp only at g
  rw [assoc] at g
  refine st_seq st eo g fun x W1 H1 S1 d s1 dx st1 eo1 g1 => ?_
  cases dx
  cases x with
  | true => rw [if_pos rfl] at g1 ⊢; exact ⟨_, _, _, _, _, st1, eo1, g1⟩
  | false => rw [if_neg Bool.false_ne_true] at g1 ⊢; exact ⟨_, _, _, _, _, st1, eo1, g1⟩

/-! ### for, while -/
theorem ss_for {t iter : Expr} {body : List Stmt} {tg : Tg} {evs : Env → Store → Out (List D)} {exB : Env → Store → SOut} (hp : PassesOwn (model X.prog X.w) X.A X.env X.xe) (hc : X.calm = true) (hi : PI X t iter (tI G cf Wx evs)) (hg : PG X t (tG G tg)) (hb : PSs X body (tS G cf Wx exB))
    (hs : ∀ x, foldedSetIterable iter X.env x = pure x) : PS X (.For t iter body [] pos) (tS G cf Wx fun env S => (evs env S).st env fun its S => forL tg exB its env S) := by
  refine (ps_for hp hc hi hg hb hs).im fun En σ H ⟨W0, H0, W, env, S, st, eo, g⟩ => ?_
  refine st_seq st eo g fun J W1 H1 S1 its s1 jok st1 eo1 g1 => ?_
  refine ⟨fun i m σ H => m = its.length - i ∧ i ≤ its.length ∧ ∃ W' env' S', Wd.Le W1 W' ∧ Step G W0 H0 W' H S' ∧ EnvOk G W' cf H0 H σ env' ∧ SGo G cf Wx W0 H0 W' (forL tg exB (its.drop i) env' S') En,
    ⟨its.length, by simp, Nat.zero_le _, W1, env, S1, Wd.Le.refl _, st1, eo1, by rw [List.drop_zero]; exact g1⟩, ?_⟩
  rintro i m σ H ⟨rfl, hi, W', env', S', l, st', eo', g'⟩
  by_cases hlt : i < its.length
  · refine .inr ⟨jok.go i H S' W' l st'.ok hlt, fun σ2 H2 => i + 1 ≤ its.length ∧ ∃ W2 env2 S2, Wd.Le W1 W2 ∧ Step G W0 H0 W2 H2 S2 ∧ EnvOk G W2 cf H0 H2 σ2 env2 ∧ SGo G cf Wx W0 H0 W2 (forL tg exB (its.drop (i + 1)) env2 S2) En,
      fun σ2 H2 k => ⟨its.length - (i + 1), by omega, rfl, k.1, k.2⟩, ?_⟩
    intro x H2 hy
    obtain ⟨W2, st2, dx⟩ := jok.yld i H S' W' x H2 its[i] l st'.ok (List.getElem?_eq_getElem hlt) hy
    rw [List.drop_eq_getElem_cons hlt, forL] at g'
    cases e : bindT tg its[i] env' with
    | none => rw [e] at g'; exact g'.elim
    | some env2 =>
      rw [e] at g'
      dsimp only at g'
      have eo2 := eo'.step st2
      refine ⟨cf, W2, H0, env', S', its[i], env2, ⟨st2.ok, eo2⟩, dx, e, fun σ2 he _ => ?_⟩
      refine ⟨W0, H0, W2, env2, S', st'.trans st2, he, ?_⟩
      have g2 := SGo.le g' st2.le
      have l2 := l.trans st2.le
      cases e2 : exB env2 S' with
      | nxt env3 S3 =>
        rw [e2, SOut.bind_nxt] at g2
        exact fun σ3 W3 H3 l3 st3 eo3 => ⟨hlt, W3, env3, S3, l2.trans l3, st3, eo3, SGo.le g2 l3⟩
      | ret d S3 => rw [e2, SOut.bind_ret] at g2; exact g2
      | exc c x env3 S3 => rw [e2, SOut.bind_exc] at g2; exact g2
      | bad => rw [e2, SOut.bind_bad] at g2; exact g2
  · have e : i = its.length := by omega
    subst e
    rw [List.drop_length, forL] at g'
    exact .inl ⟨jok.stop H S' W' l st'.ok, g' σ W' H (Wd.Le.refl _) st' eo'⟩
theorem ss_while {c : Expr} {body : List Stmt} {evc : Env → Store → Out D} {exB : Env → Store → SOut} {wf : Nat} (hp : PassesOwn (model X.prog X.w) X.A X.env X.xe) (hc : PT X c (tT G cf Wx (evT evc))) (hb : PSs X body (tS G cf Wx exB)) :
    PS X (.While c body [] pos) (tS G cf Wx fun env S => whileL evc exB wf env S) := by
  refine (ps_while hp hc hb).im fun En σ H ⟨W0, H0, W, env, S, st, eo, g⟩ => ?_
  refine ⟨fun m σ H => ∃ W' env' S', Step G W0 H0 W' H S' ∧ EnvOk G W' cf H0 H σ env' ∧ SGo G cf Wx W0 H0 W' (whileL evc exB m env' S') En, ⟨wf, W, env, S, st, eo, g⟩, ?_⟩
  rintro m σ H ⟨W', env', S', st', eo', g'⟩
  cases m with
  | zero => exact (show False from g').elim
  | succ m =>
    have assoc : whileL evc exB (m + 1) env' S' = (evT evc env' S').st env' fun k S => if k = true then (exB env' S).bind fun env S => whileL evc exB m env S else .nxt env' S := by
      rw [whileL]
      unfold evT
      cases evc env' S' with
      | bad => rfl
      | exc c x S => rfl
      | ok x S1 =>
        simp only [Out.bind_ok, Out.st_ok]
        rcases truth x with _ | _ | _ <;> rfl
    rw [assoc] at g'
    refine st_seq st' eo' g' fun x W1 H1 S1 d s1 dx st1 eo1 g1 => ?_
    cases dx
    cases x with
    | true =>
      rw [if_pos rfl] at g1 ⊢
      refine ⟨fun σ2 H2 => ∃ W2 env2 S2, Step G W0 H0 W2 H2 S2 ∧ EnvOk G W2 cf H0 H2 σ2 env2 ∧ SGo G cf Wx W0 H0 W2 (whileL evc exB m env2 S2) En, fun σ2 H2 k => ⟨m, Nat.lt_succ_self m, k⟩, ?_⟩
      refine ⟨W0, H0, W1, env', S1, st1, eo1, ?_⟩
      cases e2 : exB env' S1 with
      | nxt env3 S3 =>
        rw [e2, SOut.bind_nxt] at g1
        exact fun σ3 W3 H3 l3 st3 eo3 => ⟨W3, env3, S3, st3, eo3, SGo.le g1 l3⟩
      | ret d S3 => rw [e2, SOut.bind_ret] at g1; exact g1
      | exc c x env3 S3 => rw [e2, SOut.bind_exc] at g1; exact g1
      | bad => rw [e2, SOut.bind_bad] at g1; exact g1
    | false =>
      rw [if_neg Bool.false_ne_true] at g1 ⊢
      exact g1 σ W1 H1 (Wd.Le.refl _) st1 eo1

/-! ### lists that change -/
end
/-- an own list is changed -/
theorem own_put {G : Gc} {cf : CF} {W0 W : Wd} {H0 H : Hp} {σ : L2.St} {env : Env} {S : Store} {i : Nat} {ds es : List D} {p : Addr} {us : List V} (st : Step G W0 H0 W H S) (eo : EnvOk G W cf H0 H σ env) (e1 : env[i]? = some (some (.own ds)))
    (e2 : σ[i]? = some (some (.ref p))) (hd : Dats G W us es) : Step G W0 H0 W (upd H p (.lst us)) S ∧ EnvOk G W cf H0 (upd H p (.lst us)) σ (env.set i (some (.own es))) := by
  obtain ⟨v', e2', p', vs', e3', k1, k2, k3, k4, k5⟩ := eo.get i _ e1
  rw [e2] at e2'; cases e2'
  cases e3'
  have hi := (List.getElem?_eq_some_iff.mp e1).1
  have np : ∀ {a : Addr} {o : HO}, H0 a = some o → a ≠ p := fun e q => by rw [q, k5] at e; cases e
  constructor
  · refine ⟨st.le, st.zn, st.bn, fun a o q m t => by rw [upd_ne (np q)]; exact st.fr a o q m t, fun a ps q => ?_, ?_⟩
    · obtain ⟨qs, q1⟩ := st.tn a ps q
      exact ⟨qs, by rw [upd_ne (np q)]; exact q1⟩
    · have k6 := st.ok
      refine ⟨fun a o q => by rw [upd_ne fun z => by rw [z, k3] at q; cases q]; exact k6.z a o q, k6.nt, k6.len, k6.nd, fun n a so f1 f2 => ?_, fun t ht => ?_⟩
      · obtain ⟨z1, z2⟩ := k6.be n a so f1 f2
        exact ⟨z1, z2.up (Wd.Le.refl _) (upd_ne fun z => k4 (z ▸ List.mem_of_getElem? f1))⟩
      · obtain ⟨ps, f1, f2, f3⟩ := k6.tab t ht
        refine ⟨ps, by rw [upd_ne fun q => by rw [q, k1] at f1; cases f1]; exact f1, f2, fun pos cv hcv => ?_⟩
        obtain ⟨c, g1', g2'⟩ := f3 pos cv hcv
        exact ⟨c, g1', by rw [upd_ne fun q => by rw [q, k1] at g2'; unfold LamX.CodeO at g2'; cases g2']; exact g2'⟩
  · refine ⟨by rw [List.length_set]; exact eo.len, fun j sl ej => ?_, fun j k es1 es' u hjk ej ek hj hk => ?_⟩
    · by_cases q : j = i
      · subst q
        rw [List.getElem?_set_self hi] at ej
        cases ej
        exact ⟨_, e2, p, us, rfl, upd_same, hd, k3, k4, k5⟩
      · rw [List.getElem?_set_ne (Ne.symm q)] at ej
        obtain ⟨u, f1, f2⟩ := eo.get j sl ej
        refine ⟨u, f1, ?_⟩
        cases sl with
        | val d => exact f2
        | clo k c => exact f2
        | own es =>
          obtain ⟨a, us, rfl, g1', g2', g3', g4', g5'⟩ := f2
          exact ⟨a, us, rfl, by rw [upd_ne fun z => eo.ne i j ds es (.ref p) (Ne.symm q) e1 ej e2 (by rw [f1, z])]; exact g1', g2', g3', g4', g5'⟩
    · have ow : ∀ {m : Nat} {es1 : List D}, (env.set i (some (.own es)))[m]? = some (some (.own es1)) → ∃ es', env[m]? = some (some (.own es')) := fun {m es1} em => by
        by_cases q : m = i
        · subst q; exact ⟨_, e1⟩
        · rw [List.getElem?_set_ne (Ne.symm q)] at em; exact ⟨_, em⟩
      obtain ⟨x1, y1⟩ := ow ej
      obtain ⟨x2, y2⟩ := ow ek
      exact eo.ne j k x1 x2 u hjk y1 y2 hj hk
theorem ref_lst {G : Gc} {W : Wd} {H : Hp} {S : Store} {n : Nat} {p : Addr} (k : Hok G W H S) (hb : W.be[n]? = some p) : ∃ us, H p = some (.lst us) := by
  have hlt : n < S.length := by rw [← k.len]; exact (List.getElem?_eq_some_iff.mp hb).1
  obtain ⟨_, q⟩ := k.be n p S[n] hb (List.getElem?_eq_getElem hlt)
  cases hso : S[n] with
  | lst ds' => rw [hso] at q; obtain ⟨us, q, _⟩ := q; exact ⟨us, q⟩
section
variable {X : Cx} {G : Gc} {cf : CF} {Wx : WX} {e : Expr} {ev : Env → Store → Out D} {pos : Pos}
theorem ss_app {i : Nat} {x : Str} {p1 apos cpos : Pos} (hKG : X.K = G.K) (hN : X.N[i]? = some x) (hv : Vis X.env.scope x) (hd : (x == ("__debug__" : Str)) = false) (hcd : (x == ("__classdict__" : Str)) = false) (he : PE X e (tE G cf Wx ev))
    (hbase : attributeBase (.Name x p1) "append" X.env (eval (.Name x p1) X.env) = eval (.Name x p1) X.env)
    (hfew : ((backTo cpos (starEach (e :: []) X.env)).all (fun x => !x.1) && (backToKw cpos (keywordEach [] X.env)).all (fun x => x.1.isSome) && decide ((e :: []).length + ([] : List Keyword).length + (if ([] : List Keyword).isEmpty then 0 else 1) < 30)) = true)
    (hline : (apos.endLine == cpos.line) = true) (hs : starEach (e :: []) X.env = (false, eval e X.env) :: starEach [] X.env) (hsw : swapsWith (.Call (.Attribute (.Name x p1) "append" apos) [e] [] cpos) none pos.line X.env = pure false) :
    PS X (.Expr (.Call (.Attribute (.Name x p1) "append" apos) [e] [] cpos) pos) (tS G cf Wx fun env S => match env[i]? with
      | some (some (.own ds)) => (ev env S).st env fun d S => if ds.length ≤ 1000000 then .nxt (env.set i (some (.own (ds ++ [d])))) S else .bad
      | some (some (.val (.ref n))) => (ev env S).st env fun d S => match S[n]? with
        | some (.lst ds) => if ds.length ≤ 1000000 then .nxt env (S.set n (.lst (ds ++ [d]))) else .bad
        | none => .bad
      | _ => .bad) := by
  have ha : PA X [e] (tCons (tE G cf Wx ev) tNil) := pa_cons he pa_nil hs
  refine (ps_expr (pe_bm PySem.F.plainAttrs_list PySem.F.slot_list_append PySem.F.type_list_append mt_append (pe_var hN hv hd hcd) ha hbase hfew hline hs rfl) hsw).im fun En σ H ⟨W0, H0, W, env, S, st, eo, g⟩ => ?_
  dsimp only at g
  split at g
  · rename_i ds e1
    obtain ⟨v, e2, p, vs, rfl, h1, h2, h3, h4, h5⟩ := eo.get i _ e1
    refine ⟨.ref p, e2, .inl ⟨rfl, vs, SqL.of h1⟩, ?_⟩
    refine st_seq st eo g fun x W1 H1 S1 d s1 dx st1 eo1 g1 => ?_
    obtain ⟨v', e2', p', vs', e3', k1, k2, k3, k4, k5⟩ := eo1.get i _ e1
    rw [e2] at e2'; cases e2'
    cases e3'
    split at g1
    · rename_i hl
      refine ⟨p, vs', x, rfl, rfl, k1, small_line (by rw [k2.length]; exact hl), ?_⟩
      obtain ⟨f1, f2⟩ := own_put st1 eo1 e1 e2 (k2.append (.cons dx .nil))
      exact g1 σ W1 _ (Wd.Le.refl _) f1 f2
    · exact g1.elim
  · rename_i n e1
    obtain ⟨v, e2, dv⟩ := eo.get i _ e1
    have dv : Dat G W v (.ref n) := dv
    cases dv with
    | @ref _ p hb =>
      obtain ⟨us, hl0⟩ := ref_lst st.ok hb
      refine ⟨.ref p, e2, .inl ⟨rfl, us, SqL.of hl0⟩, ?_⟩
      refine st_seq st eo g fun x W1 H1 S1 d s1 dx st1 eo1 g1 => ?_
      split at g1
      · rename_i ds hS
        split at g1
        · rename_i hl
          have hb1 := s1.le.b _ _ hb
          obtain ⟨_, vs', q, k2⟩ := st1.ok.be _ _ _ hb1 hS
          refine ⟨p, vs', x, rfl, rfl, q, small_line (by rw [k2.length]; exact hl), ?_⟩
          have st2 := Step.put st1.ok hb1 (k2.append (.cons dx .nil))
          exact g1 σ W1 _ (Wd.Le.refl _) (st1.trans st2) (eo1.step st2)
        · exact g1.elim
      · exact g1.elim
  · exact g.elim
theorem setD_some {ds es : List D} {x d : D} (h : setD ds x d = some es) : ∃ k j, x = .int k ∧ ixN ds.length k = some j ∧ es = ds.set j d := by
  cases x with
  | int k =>
    simp only [setD, Option.map_eq_some_iff] at h
    obtain ⟨j, h1, h2⟩ := h
    exact ⟨k, j, rfl, h1, h2.symm⟩
  | _ => cases h
theorem ss_setx {i : Nat} {x : Str} {ix : Expr} {evx : Env → Store → Out D} {p1 tpos : Pos} (hN : X.N[i]? = some x) (hv : Vis X.env.scope x) (hd : (x == ("__debug__" : Str)) = false) (hcd : (x == ("__classdict__" : Str)) = false) (he : PE X e (tE G cf Wx ev)) (hx : PE X ix (tE G cf Wx evx))
    (ha : ∀ v, assign (.Subscript (.Name x p1) ix tpos) X.env v = (do
      let ov ← holding [v] (eval (.Name x p1) X.env)
      let iv ← holding [v, ov] (eval ix X.env)
      standAt tpos
      holding [v, ov, iv] (setItem ov iv v)
      release [v, ov, iv] []))
    (hs : swapsWithSole [.Subscript (.Name x p1) ix tpos] e pos.line X.env = pure false) (hw : swappedStores [.Subscript (.Name x p1) ix tpos] e X.env = pure none) :
    PS X (.Assign [.Subscript (.Name x p1) ix tpos] e pos) (tS G cf Wx fun env S => match env[i]? with
      | some (some (.own ds)) => (ev env S).st env fun d S => (evx env S).st env fun x S => match setD ds x d with
        | some es => .nxt (env.set i (some (.own es))) S
        | none => .bad
      | some (some (.val (.ref n))) => (ev env S).st env fun d S => (evx env S).st env fun x S => match S[n]? with
        | some (.lst ds) => match setD ds x d with
          | some es => .nxt env (S.set n (.lst es))
          | none => .bad
        | none => .bad
      | _ => .bad) := by
  refine (ps_asg he (pg_sub (pe_var hN hv hd hcd) hx set_list ha) hs hw rfl).im fun En σ H ⟨W0, H0, W, env, S, st, eo, g⟩ => ?_
  dsimp only at g
  split at g
  · rename_i ds e1
    refine st_seq st eo g fun v W1 H1 S1 d s1 dx st1 eo1 g1 => ?_
    obtain ⟨u, e2, p, vs, rfl, h1, h2, h3, h4, h5⟩ := eo1.get i _ e1
    refine ⟨.ref p, e2, ?_⟩
    refine st_seq st1 eo1 g1 fun y W2 H2 S2 d2 s2 dy st2 eo2 g2 => ?_
    obtain ⟨u', e2', p', vs', e3', k1, k2, k3, k4, k5⟩ := eo2.get i _ e1
    rw [e2] at e2'; cases e2'
    cases e3'
    cases es' : setD ds d2 d with
    | none => rw [es'] at g2; exact g2.elim
    | some es =>
      rw [es'] at g2
      obtain ⟨k, j, rfl, hj, rfl⟩ := setD_some es'
      cases dy
      refine ⟨p, vs', k, j, rfl, rfl, k1, by rw [k2.length]; exact hj, ?_⟩
      obtain ⟨f1, f2⟩ := own_put st2 eo2 e1 e2 (k2.set j (dx.up s2.le))
      exact g2 σ W2 _ (Wd.Le.refl _) f1 f2
  · rename_i n e1
    refine st_seq st eo g fun v W1 H1 S1 d s1 dx st1 eo1 g1 => ?_
    obtain ⟨u, e2, dv⟩ := eo1.get i _ e1
    have dv : Dat G W1 u (.ref n) := dv
    cases dv with
    | @ref _ p hb =>
      refine ⟨.ref p, e2, ?_⟩
      refine st_seq st1 eo1 g1 fun y W2 H2 S2 d2 s2 dy st2 eo2 g2 => ?_
      have hb2 := s2.le.b _ _ hb
      cases hS : S2[n]? with
      | none => rw [hS] at g2; exact g2.elim
      | some so =>
        cases so with
        | lst ds =>
          rw [hS] at g2
          dsimp only at g2
          cases es' : setD ds d2 d with
          | none => rw [es'] at g2; exact g2.elim
          | some es =>
            rw [es'] at g2
            obtain ⟨k, j, rfl, hj, rfl⟩ := setD_some es'
            cases dy
            obtain ⟨_, vs', q, k2⟩ := st2.ok.be _ _ _ hb2 hS
            refine ⟨p, vs', k, j, rfl, rfl, q, by rw [k2.length]; exact hj, ?_⟩
            have st3 := Step.put st2.ok hb2 (k2.set j (dx.up s2.le))
            exact g2 σ W2 _ (Wd.Le.refl _) (st2.trans st3) (eo2.step st3)
  · exact g.elim
end
end Pz

/-! Pz10: several targets at once, calls of defs, raise, try. -/
namespace Pz
open PySem PySem.Spec PyProof.Rows L2

/-! ### a, b = x, [] -/
def RPar (G : Gc) (Hs : Hp) (k : Nat) : Wd → Hp → List V → List D → Prop := fun W' H' vs ds => ∃ (us : List V) (ps : List Addr), vs = us ++ ps.map V.ref ∧ Dats G W' us ds ∧ ps.length = k ∧ ps.Nodup ∧ ∀ p ∈ ps, H' p = some (.lst []) ∧ W'.Z p = none ∧ p ∉ W'.be ∧ Hs p = none
abbrev tP (G : Gc) (cf : CF) (Wx : WX) (k : Nat) (ev : Env → Store → Out (List D)) : TA := fun σ H Q => tR G cf Wx (RPar G H k) ev σ H Q
def setAll : List Nat → List V → L2.St → L2.St
  | i :: is, v :: vs, σ => setAll is vs (σ.set i (some v))
  | _, _, σ => σ
theorem keep_fresh {G : Gc} {W W1 : Wd} {H H1 : Hp} {S1 : Store} (s : Step G W H W1 H1 S1) {p : Addr} {us : List V} (h1 : H p = some (.lst us)) (h2 : W.Z p = none) (h3 : p ∉ W.be) : H1 p = some (.lst us) ∧ W1.Z p = none ∧ p ∉ W1.be := by
  refine ⟨s.fr p _ h1 h3 (fun ps z => by cases z), ?_, fun m => ?_⟩
  · exact s.zfree h1 h2 h3
  · rcases s.bn p m with z | z
    · exact h3 z
    · rw [h1] at z; cases z
section
variable {X : Cx} {G : Gc} {cf : CF} {Wx : WX} {a : Expr} {es : List Expr} {evA : Env → Store → Out D} {evR : Env → Store → Out (List D)} {pos : Pos}
theorem rp_nil : PA X [] (tP G cf Wx 0 fun _ S => .ok [] S) := pa_nil.im fun σ H Q ⟨W, H0, env, S, h, g⟩ => Go.ok h.hok g ⟨[], [], rfl, .nil, rfl, .nil, fun p hp => by cases hp⟩
theorem rp_own {k : Nat} (hr : PA X es (tP G cf Wx k fun _ S => .ok [] S)) (hs : starEach (.List [] pos :: es) X.env = (false, eval (.List [] pos) X.env) :: starEach es X.env) : PA X (.List [] pos :: es) (tP G cf Wx (k + 1) fun _ S => .ok [] S) := by
  refine (pa_cons (pe_lst pa_nil) hr hs).im fun σ H Q ⟨W, H0, env, S, h, g⟩ => ?_
  refine ⟨Nat.zero_le _, fun p hp => ?_⟩
  have st := Step.new h.hok (o := .lst []) hp
  refine ⟨W, H0, env, S, h.step st, ?_⟩
  show ∀ b W' H', Step G W (upd H p (.lst [])) W' H' S → _
  rintro b W' H' t ⟨us, ps, rfl, k1, k2, k3, k4⟩
  obtain ⟨hz, hb⟩ := h.hok.freshZ hp
  obtain ⟨f1, f2, f3⟩ := keep_fresh t (us := []) upd_same hz hb
  cases k1
  refine (show ∀ b W' H', Step G W H W' H' S → RPar G H (k + 1) W' H' b [] → Q b H' from g) (.ref p :: ps.map V.ref) W' H' (st.trans t) ⟨[], p :: ps, rfl, .nil, by rw [List.length_cons, k2], ?_, fun q hq => ?_⟩
  · refine List.nodup_cons.mpr ⟨fun m => ?_, k3⟩
    have := (k4 p m).2.2.2
    rw [upd_same] at this; cases this
  · rcases List.mem_cons.mp hq with rfl | hq
    · exact ⟨f1, f2, f3, hp⟩
    · obtain ⟨a1, a2, a3, a4⟩ := k4 q hq
      exact ⟨a1, a2, a3, st.gone a4⟩
theorem rp_cons {k : Nat} (ha : PE X a (tE G cf Wx evA)) (hr : PA X es (tP G cf Wx k evR)) (hs : starEach (a :: es) X.env = (false, eval a X.env) :: starEach es X.env) :
    PA X (a :: es) (tP G cf Wx k fun env S => (evA env S).bind fun d S => (evR env S).bind fun ds S => .ok (d :: ds) S) := by
  refine (pa_cons ha hr hs).im fun σ H Q ⟨W, H0, env, S, h, g⟩ => ?_
  refine tR.seq h g fun x W1 H1 S1 da s1 dx h1 g1 => ?_
  refine tR.seq h1 g1 fun y W2 H2 S2 db s2 dy h2 g2 => ?_
  obtain ⟨us, ps, rfl, k1, k2, k3, k4⟩ := dy
  exact Go.ok h2.hok g2 ⟨x :: us, ps, rfl, .cons (dx.up s2.le) k1, k2, k3, fun p hp => by obtain ⟨a1, a2, a3, a4⟩ := k4 p hp; exact ⟨a1, a2, a3, s1.gone a4⟩⟩
end
section
variable {G : Gc} {cf : CF} {Wx : WX} {W W1 : Wd} {H0 H H1 : Hp} {σ : L2.St} {env env' : Env} {S S1 : Store}
def NotOwn (env : Env) (σ : L2.St) (p : Addr) : Prop := ∀ (j : Nat) (es : List D), env[j]? = some (some (.own es)) → σ[j]? ≠ some (some (.ref p))
theorem putAll_ok : ∀ {is : List Nat} {ds : List D} {us : List V} {env : Env} {σ : L2.St}, EnvOk G W cf H0 H σ env → Dats G W us ds → putAll is ds env = some env' →
    EnvOk G W cf H0 H (setAll is us σ) env' ∧ is.length = us.length ∧ ∀ p, NotOwn env σ p → NotOwn env' (setAll is us σ) p
  | [], [], _, env, σ, h, hd, e => by cases e; cases hd; exact ⟨h, rfl, fun p n => n⟩
  | [], _ :: _, _, _, _, _, _, e => by cases e
  | _ :: _, [], _, _, _, _, _, e => by cases e
  | i :: is, d :: ds, _, env, σ, h, hd, e => by
    cases hd with
    | @cons v _ vs _ hv ht =>
      simp only [putAll] at e
      split at e
      · rename_i hi
        obtain ⟨k1, k2, k3⟩ := putAll_ok (h.put hi hv) ht e
        refine ⟨k1, by rw [List.length_cons, List.length_cons, k2], fun p n => k3 p fun j es ej => ?_⟩
        by_cases q : j = i
        · subst q
          have e' : (env.set j (some (.val d)))[j]? = some (some (.own es)) := ej
          rw [List.getElem?_set_self hi] at e'; cases e'
        · have e' : (env.set i (some (.val d)))[j]? = some (some (.own es)) := ej
          rw [List.getElem?_set_ne (Ne.symm q)] at e' ⊢
          exact n j es e'
      · cases e
theorem putOwn_ok : ∀ {js : List Nat} {ps : List Addr} {env : Env} {σ : L2.St}, EnvOk G W cf H0 H σ env → js.length = ps.length → ps.Nodup → (∀ p ∈ ps, H p = some (.lst []) ∧ W.Z p = none ∧ p ∉ W.be ∧ H0 p = none ∧ NotOwn env σ p) → putOwn js env = some env' →
    EnvOk G W cf H0 H (setAll js (ps.map V.ref) σ) env'
  | [], [], env, σ, h, _, _, _, e => by cases e; exact h
  | [], _ :: _, _, _, _, l, _, _, _ => by cases l
  | _ :: _, [], _, _, _, l, _, _, _ => by cases l
  | i :: is, p :: ps, env, σ, h, l, nd, hp, e => by
    simp only [putOwn] at e
    split at e
    · rename_i hi
      obtain ⟨a1, a2, a3, a4, a5⟩ := hp p List.mem_cons_self
      have h' := h.own hi a1 (ds := []) .nil a2 a3 a4 fun j es hj ej => a5 j es ej
      show EnvOk G W cf H0 H (setAll is (ps.map V.ref) (σ.set i (some (.ref p)))) env'
      refine putOwn_ok (js := is) (ps := ps) (σ := σ.set i (some (.ref p))) h' (by simpa using l) (List.nodup_cons.mp nd).2 (fun q hq => ?_) e
      obtain ⟨b1, b2, b3, b4, b5⟩ := hp q (List.mem_cons_of_mem _ hq)
      refine ⟨b1, b2, b3, b4, fun j es ej => ?_⟩
      by_cases z : j = i
      · subst z
        rw [List.getElem?_set_self (by rw [← h.len]; exact hi)]
        intro z
        cases z
        exact (List.nodup_cons.mp nd).1 hq
      · rw [List.getElem?_set_ne (Ne.symm z)] at ej ⊢
        exact b5 j es ej
    · cases e
theorem setAll_app : ∀ {is : List Nat} {us : List V} (js : List Nat) (ws : List V) (σ : L2.St), is.length = us.length → setAll (is ++ js) (us ++ ws) σ = setAll js ws (setAll is us σ)
  | [], [], _, _, _, _ => rfl
  | [], _ :: _, _, _, _, l => by cases l
  | _ :: _, [], _, _, _, l => by cases l
  | i :: is, u :: us, js, ws, σ, l => setAll_app (is := is) (us := us) js ws _ (by simpa using l)
theorem putOwn_len : ∀ {js : List Nat} {env env' : Env}, putOwn js env = some env' → True := fun _ => trivial
/-- all at once -/
theorem par_ok {Hs : Hp} {is js : List Nat} {ds : List D} {vs : List V} (eo0 : EnvOk G W cf H0 Hs σ env) (eo : EnvOk G W1 cf H0 H1 σ env) (g0 : ∀ p, Hs p = none → H0 p = none) (r : RPar G Hs js.length W1 H1 vs ds) (e : (putAll is ds env).bind (putOwn js) = some env') :
    EnvOk G W1 cf H0 H1 (setAll (is ++ js) vs σ) env' ∧ vs.length = is.length + js.length := by
  obtain ⟨us, ps, rfl, k1, k2, k3, k4⟩ := r
  obtain ⟨env1, e1, e2⟩ := Option.bind_eq_some_iff.mp e
  obtain ⟨f1, f2, f3⟩ := putAll_ok eo k1 e1
  refine ⟨?_, by rw [List.length_append, List.length_map, f2, k2]⟩
  rw [setAll_app js _ σ f2]
  refine putOwn_ok f1 k2.symm k3 (fun p hp => ?_) e2
  obtain ⟨a1, a2, a3, a4⟩ := k4 p hp
  refine ⟨a1, a2, a3, g0 p a4, f3 p fun j es ej hj => ?_⟩
  obtain ⟨v, b1, b, us, rfl, b2, _⟩ := eo0.get j _ ej
  rw [b1] at hj; cases hj
  rw [a4] at b2; cases b2
end
def gNames : List Nat → TGs
  | [] => gNil
  | i :: is => gCons (gName i) (gNames is)
theorem gNames_ok : ∀ {is : List Nat} {vs : List V} {σ : L2.St} {H : Hp} {Q : L2.St → Hp → Prop}, vs.length = is.length → Q (setAll is vs σ) H → gNames is vs σ H Q
  | [], [], _, _, _, _, q => ⟨rfl, q⟩
  | [], _ :: _, _, _, _, l, _ => by cases l
  | _ :: _, [], _, _, _, l, _ => by cases l
  | i :: is, v :: vs, σ, H, Q, l, q => ⟨v, vs, rfl, gNames_ok (by simpa using l) q⟩
section
variable {X : Cx} {G : Gc} {cf : CF} {Wx : WX} {a : Expr} {es : List Expr} {evs : Env → Store → Out (List D)} {pos : Pos}
abbrev exPar (is js : List Nat) (evs : Env → Store → Out (List D)) : Env → Store → SOut := fun env S => (evs env S).st env fun ds S => match (putAll is ds env).bind (putOwn js) with | some env' => .nxt env' S | none => .bad
theorem par_rd {is js : List Nat} {En : Ends} {σ : L2.St} {H : Hp} (q : tS G cf Wx (exPar is js evs) En σ H) {P : List V → Hp → Prop}
    (hp : ∀ vs H1, vs.length = is.length + js.length → (∀ H2, (∀ W1 S1, Hok G W1 H1 S1 → Step G W1 H1 W1 H2 S1) → En.nx (setAll (is ++ js) vs σ) H2) → P vs H1) : tP G cf Wx js.length evs σ H P := by
  obtain ⟨W0, H0, W, env, S, st, eo, g⟩ := q
  refine st_seq st eo g fun vs W1 H1 S1 ds s1 r st1 eo1 g1 => ?_
  cases e : (putAll is ds env).bind (putOwn js) with
  | none => rw [e] at g1; exact g1.elim
  | some env' =>
    rw [e] at g1
    obtain ⟨f1, f2⟩ := par_ok eo eo1 (fun p z => st.gone z) r e
    refine hp vs H1 f2 fun H2 hs => ?_
    have t := hs W1 S1 st1.ok
    exact g1 _ W1 H2 (Wd.Le.refl _) (st1.trans t) (f1.step t)
theorem ss_par2 {i j : Nat} {is js : List Nat} {x y : Str} {a b : Expr} {px py pt : Pos} {kt k2 pt2} (hij' : is ++ js = [i, j]) (hc : X.calm = true) (hN : X.N.Nodup) (hi : X.N[i]? = some x) (hj : X.N[j]? = some y) (hij : i ≠ j) (hx : X.env.scope.names.lookup x = some .local) (hy : X.env.scope.names.lookup y = some .local)
    (ha : PA X [a, b] (tP G cf Wx js.length evs)) (hw : swappedStores [.Tuple [.Name x px, .Name y py] kt pt] (.Tuple [a, b] k2 pt2) X.env = pure (some [x, y])) (hs : swapsWithSole [.Tuple [.Name x px, .Name y py] kt pt] (.Tuple [a, b] k2 pt2) pos.line X.env = pure false) :
    PS X (.Assign [.Tuple [.Name x px, .Name y py] kt pt] (.Tuple [a, b] k2 pt2) pos) (tS G cf Wx (exPar is js evs)) := by
  refine (ps_par hc hN hi hj hij hx hy ha hw hs).im fun En σ H q => ?_
  refine par_rd q fun vs H1 hl hk => ?_
  have hl2 : vs.length = 2 := by rw [hl, ← List.length_append, hij']; rfl
  rcases vs with _ | ⟨v, _ | ⟨w, _ | ⟨u, r⟩⟩⟩ <;> first | (simp at hl2; done) | skip
  refine ⟨v, w, rfl, ?_⟩
  have := hk H1 fun W1 S1 h => Step.refl h
  rw [hij'] at this
  exact this
theorem ss_par3 {i j l : Nat} {is js : List Nat} {x y z : Str} {a b c : Expr} {px py pz pt : Pos} {kt k2 pt2} (hij' : is ++ js = [i, j, l]) (hc : X.calm = true) (hN : X.N.Nodup) (hi : X.N[i]? = some x) (hj : X.N[j]? = some y) (hl' : X.N[l]? = some z) (hij : i ≠ j) (hil : i ≠ l) (hjl : j ≠ l)
    (hx : X.env.scope.names.lookup x = some .local) (hy : X.env.scope.names.lookup y = some .local) (hz : X.env.scope.names.lookup z = some .local)
    (ha : PA X [a, b, c] (tP G cf Wx js.length evs)) (hw : swappedStores [.Tuple [.Name x px, .Name y py, .Name z pz] kt pt] (.Tuple [a, b, c] k2 pt2) X.env = pure (some [x, y, z]))
    (hs : swapsWithSole [.Tuple [.Name x px, .Name y py, .Name z pz] kt pt] (.Tuple [a, b, c] k2 pt2) pos.line X.env = pure false) :
    PS X (.Assign [.Tuple [.Name x px, .Name y py, .Name z pz] kt pt] (.Tuple [a, b, c] k2 pt2) pos) (tS G cf Wx (exPar is js evs)) := by
  refine (ps_par3 hc hN hi hj hl' hij hil hjl hx hy hz ha hw hs).im fun En σ H q => ?_
  refine par_rd q fun vs H1 hl hk => ?_
  have hl2 : vs.length = 3 := by rw [hl, ← List.length_append, hij']; rfl
  rcases vs with _ | ⟨v, _ | ⟨w, _ | ⟨u, _ | ⟨t, r⟩⟩⟩⟩ <;> first | (simp at hl2; done) | skip
  refine ⟨v, w, u, rfl, ?_⟩
  have := hk H1 fun W1 S1 h => Step.refl h
  rw [hij'] at this
  exact this
/-- by a tuple that is made and taken apart -/
theorem ss_parT {is js : List Nat} {ts : List Expr} {pt pt2 : Pos} {kt k2 : Nat} (hKG : X.K = G.K) (hc : X.calm = true) (ha : PA X es (tP G cf Wx js.length evs)) (hg : PGs X ts (gNames (is ++ js))) (hlen : (is ++ js).length ≤ 100)
    (hn : (assignEach ts X.env).length = (is ++ js).length) (hst : (assignEach ts X.env).findIdx? (·.1) = none) (hs : swapsWithSole [.Tuple ts kt pt] (.Tuple es k2 pt2) pos.line X.env = pure false) (hw : swappedStores [.Tuple ts kt pt] (.Tuple es k2 pt2) X.env = pure none)
    (h1 : (assignEach [.Tuple ts kt pt] X.env).map (·.2) = [assign (.Tuple ts kt pt) X.env]) : PS X (.Assign [.Tuple ts kt pt] (.Tuple es k2 pt2) pos) (tS G cf Wx (exPar is js evs)) := by
  refine (ps_asg (pe_tup ha) (pg_tup hc hg hn hst) hs hw h1).im fun En σ H q => ?_
  refine par_rd q fun vs H1 hl hk => ?_
  have hl2 : vs.length = (is ++ js).length := by rw [hl, List.length_append]
  refine ⟨Nat.le_of_lt (small_line (by omega)), fun p hp => ?_⟩
  refine ⟨p, vs, rfl, .inl (.inl upd_same), hl2, gNames_ok hl2 (hk _ fun W1 S1 h => Step.new h hp)⟩
theorem gns_nil : PGs X [] (gNames []) := pgs_nil
theorem gns_cons {i : Nat} {is : List Nat} {x : Str} {ts : List Expr} {p : Pos} (hN : X.N.Nodup) (hi : X.N[i]? = some x) (hx : Loc X.env.scope x) (hf : X.fn x = true ∨ X.env.scope.names.lookup x = some .local) (h2 : PGs X ts (gNames is))
    (hs : (assignEach (.Name x p :: ts) X.env).map (·.2) = assign (.Name x p) X.env :: (assignEach ts X.env).map (·.2)) : PGs X (.Name x p :: ts) (gNames (i :: is)) := pgs_cons (pg_name hN hi hx hf) h2 hs
end

def plainE : Expr → Bool
  | .Starred _ _ => false
  | _ => true
theorem star_cons {e : Expr} {es : List Expr} {env : PySem.Env} (h : plainE e = true) : starEach (e :: es) env = (false, eval e env) :: starEach es env := by
  cases e <;> first | rfl | (simp [plainE] at h)
theorem star_plain {pos : Pos} {env : PySem.Env} : ∀ {es : List Expr}, es.all plainE = true → (backTo pos (starEach es env)).any (·.1) = false
  | [], _ => rfl
  | e :: es, h => by
    rw [List.all_cons, Bool.and_eq_true] at h
    rw [star_cons h.1]
    show (false || (backTo pos (starEach es env)).any (·.1)) = false
    rw [star_plain h.2]; rfl
/-! ### raise, try -/
theorem Step.ext {G : Gc} {W : Wd} {H H' : Hp} {S : Store} (h : Hok G W H S) (e : ∀ b u, H b = some u → H' b = some u) : Step G W H W H' S := by
  refine ⟨Wd.Le.refl W, fun _ _ z => .inl z, fun _ z => .inl z, fun a o q _ _ => e a o q, fun a ps q => ⟨ps, e a _ q⟩, fun a o q => e a o (h.z a o q), h.nt, h.len, h.nd, fun n a so f1 f2 => ?_, h.tab.ext e⟩
  obtain ⟨z, k⟩ := h.be n a so f1 f2
  obtain ⟨o, q, _⟩ := k.some
  exact ⟨z, k.up (Wd.Le.refl W) (by rw [q]; exact e a o q)⟩
section
variable {X : Cx} {G : Gc} {cf : CF} {Wx : WX} {pos : Pos}
/-- an error class without an __init__ of its own -/
structure ExcFact (K : PySem.W.Frag) (C : Addr) : Prop where
  exc : PySem.W.excIn K C [.type "ValueError", .type "Exception", .type "BaseException", .type "object"] "ValueError.__new__" = true
  kp : PySem.W.keepIn K (.ref C) = true
  sub : PySem.W.subIn K (.ref C) (.type "BaseException") = some true
  typ : PySem.W.typeIn K (.ref C) = some (.type "type")
theorem ss_raise {x m : Str} {C : Addr} {c j : Nat} {p p2 p3 : Pos} (F : ExcFact X.K C) (hca : G.ca c = some C) (hc : X.calm = true) (tk : L2N.Takes X Wx) (hg : Gl X x) (hm : X.mg x = some (.ref C)) (hdb : (x == ("__debug__" : Str)) = false) :
    PS X (.Raise (some (.Call (.Name x p) [.Constant (.str m) j p2] [] p3)) none pos) (tS G cf Wx fun env S => .exc c [] env S) := by
  refine (L2N.ps_raise hc tk (L2N.pmk_own PySem.F.excBase_ValueError F.exc hm F.kp (raises_own F.sub F.typ) hg hdb)).im fun En σ H ⟨W0, H0, W, env, S, st, eo, g⟩ => ?_
  exact g (.ref C) none σ W H st eo ⟨C, hca, rfl, .inl ⟨rfl, rfl⟩⟩
/-- what the suite of an except clause does with an error: it hands back the word of its class -/
def tErr (G : Gc) (err : Nat → Option Str) (i : Nat) (a : Addr) (cls : Value) (d : Option Addr) : TS := fun En σ H => σ[i]? = some (some (.ref a)) ∧ H a = none ∧ d = none ∧ ∃ c C w W S, G.ca c = some C ∧ cls = .ref C ∧ err c = some w ∧ Hok G W H S ∧ ∀ W' H', Step G W H W' H' S → En.rt (.str w) H'
theorem ss_tryR {x n : Str} {i : Nat} {cp : Value} {body suite : List Stmt} {b₀ : Stmt} {np pos' : Pos} {exB : Env → Store → SOut} {err : Nat → Option Str} (hs : X.stack = X.env :: X.outer) (hf : X.env.frame = some X.env.locals) (hN : X.N.Nodup) (hi : X.N[i]? = some n) (hln : X.env.kindOf n = some .local) (hc : Names X x cp) (tk : L2N.Takes X Wx)
    (hcatch : ∀ c C, G.ca c = some C → PySem.W.exmOne X.K (.ref C) cp = some true)
    (hb : ∀ (W : WX) (pn : List (Addr × Obj)) (xe : Value → Shared → Prop), L2N.Takes (X.tr pn xe) W → PassesOwn (model X.prog X.w) X.A X.env xe → PSs (X.tr pn xe) body (tS G cf W exB))
    (hsu : ∀ (a : Addr) (oe : Obj) (cls : Value) (d : Option Addr) (pn : List (Addr × Obj)), L2N.Zn cls d oe → (∃ vs, oe.data = .fields vs) → PSs (X.suite a ((a, oe) :: pn)) (b₀ :: suite) (tErr G err i a cls d)) :
    PS X (.Try body [.ExceptHandler (some (.Name x np)) (some n) (b₀ :: suite) pos'] [] [] pos) (tS G cf Wx fun env S => match exB env S with
      | .exc c x env' S' => if i < env'.length ∧ x.isEmpty = true then match err c with
        | some w => .ret (.str w) S'
        | none => .bad
        else .bad
      | r => r) := by
  refine (L2N.ps_try_as hs hf hN hi hln hc tk hb hsu).im fun En σ H ⟨W0, H0, W, env, S, st, eo, g⟩ => ?_
  refine ⟨W0, H0, W, env, S, st, eo, ?_⟩
  dsimp only at g
  cases e : exB env S with
  | nxt env' S' => rw [e] at g; exact g
  | ret d S' => rw [e] at g; exact g
  | bad => rw [e] at g; exact g
  | exc c xs env' S' =>
    rw [e] at g
    dsimp only at g
    split at g
    · rename_i hlt
      cases ew : err c with
      | none => rw [ew] at g; exact g.elim
      | some w =>
        rw [ew] at g
        intro cls dO σ' W' H' st' eo' ⟨C, hC, hcls, hx⟩
        subst hcls
        have hd : dO = none := by
          rcases hx with ⟨_, z⟩ | ⟨dx, fs, z, _⟩
          · exact z
          · exact absurd (List.isEmpty_iff.mp hlt.2) z
        refine ⟨true, hcatch c C hC, fun _ a ha => ⟨by rw [List.getElem?_set_self (by rw [← eo'.len]; exact hlt.1)], ha, hd, c, C, w, W', S', hC, rfl, ew, st'.ok, fun W2 H2 t => ?_⟩, fun z => Bool.noConfusion z⟩
        exact g (.str w) W2 H2 (st'.trans t) (.str w)
    · exact g.elim
end
end Pz

/-! Pz11: lambdas: made, handed to a def, called; calls of defs. -/
namespace Pz
open PySem PySem.Spec PyProof.Rows L2

structure LamOk (L : LamR) : Prop where
  kind : L.scope.kind = .function
  co : L.scope.isCoroutine = false
  gen : L.scope.isGenerator = false
  own : ∀ y ∈ L.scope.names, y.2 ≠ .cell ∧ (y.2 = .local → y.1 ∈ L.ps)
  par : ∀ x ∈ L.ps, L.scope.names.lookup x = some .local
  cap : ∀ x ∈ L.caps, L.scope.names.lookup x = some .free
  nd : (L.ps ++ L.caps).Nodup
  bind : ∀ (cl : List (Str × Addr)) (pm cv ctv : Value) (us : List Value), us.length = L.ps.length → bindArgs (PySem.W.kla_fn "<lambda>" L.qual L.params L.body L.scope cl pm cv ctv) ⟨us, []⟩ = pure (L.ps.zip us)
/-- the function object at f stands there with its cells and what they hold -/
structure CloIn (G : Gc) (h : Heap) (H : Hp) (fr : List Addr) (W : Wd) (L : LamR) (f c' : Addr) (pm ctv : Value) (cl : List (Str × Addr)) (cap : List D) : Prop where
  ob : h.get? f = some (PySem.W.kla_obj "<lambda>" L.qual L.params L.body L.scope cl pm c' ctv)
  fn : H f = none
  ff : f ∉ fr
  cd : W.Z c' = some (LamX.CodeO c' L.qual)
  inj : ∀ y z c, cl.lookup y = some c → cl.lookup z = some c → y = z
  cell : ∀ y c, cl.lookup y = some c → H c = none ∧ ∃ v, h.IsCell c v
  has : ∀ y ∈ L.scope.names, y.2 = .free → ∃ c, cl.lookup y.1 = some c
  len : cap.length = L.caps.length
  cap : ∀ (i : Nat) (n : Str) (d : D), L.caps[i]? = some n → cap[i]? = some d → ∃ c u v, cl.lookup n = some c ∧ h.IsCell c (some u) ∧ RelV v u ∧ Dat G W v d
def CloAt (G : Gc) (h : Heap) (H : Hp) (fr : List Addr) : CF := fun W v k cap => ∃ L f c' pm ctv cl, G.lam k = some L ∧ v = .ref f ∧ CloIn G h H fr W L f c' pm ctv cl cap
section
variable {G : Gc} {h h1 : Heap} {H H1 : Hp} {fr fr' : List Addr} {W W1 : Wd} {L : LamR} {f c' : Addr} {pm ctv : Value} {cl : List (Str × Addr)} {cap : List D}
theorem cell_move (un : Un fr [] H H1 h h1) {c : Addr} {v : Option Value} (n : H c = none) (k : h.IsCell c v) : h1.IsCell c v ∧ H1 c = none := by
  obtain ⟨o, e, d⟩ := k
  obtain ⟨sl, q⟩ := un.any e n (by simp)
  exact ⟨⟨_, q, d⟩, un.free c o e n (by simp)⟩
theorem CloIn.move (c : CloIn G h H fr W L f c' pm ctv cl cap) (un : Un fr [] H H1 h h1) (l : Wd.Le W W1) (hf : f ∉ fr') : CloIn G h1 H1 fr' W1 L f c' pm ctv cl cap where
  ob := un.keep f _ c.ob c.fn c.ff (by simp)
  fn := un.free f _ c.ob c.fn (by simp)
  ff := hf
  cd := l.z _ _ c.cd
  inj := c.inj
  cell := fun y a e => by
    obtain ⟨n, v, k⟩ := c.cell y a e
    exact ⟨(cell_move un n k).2, v, (cell_move un n k).1⟩
  has := c.has
  len := c.len
  cap := fun i n d e1 e2 => by
    obtain ⟨a, u, v, k1, k2, k3, k4⟩ := c.cap i n d e1 e2
    exact ⟨a, u, v, k1, (cell_move un (c.cell _ _ k1).1 k2).1, k3, k4.up l⟩
theorem CloIn.vals (c : CloIn G h H fr W L f c' pm ctv cl cap) : ∃ cvs : List V, Dats G W cvs cap ∧ ∀ (i : Nat) (n : Str) (v : V), L.caps[i]? = some n → cvs[i]? = some v → ∃ a u, cl.lookup n = some a ∧ h.IsCell a (some u) ∧ RelV v u := by
  have gen : ∀ (ns : List Str) (ds : List D), ds.length = ns.length → (∀ (i : Nat) (n : Str) (d : D), ns[i]? = some n → ds[i]? = some d → ∃ c u v, cl.lookup n = some c ∧ h.IsCell c (some u) ∧ RelV v u ∧ Dat G W v d) →
      ∃ cvs : List V, Dats G W cvs ds ∧ ∀ (i : Nat) (n : Str) (v : V), ns[i]? = some n → cvs[i]? = some v → ∃ a u, cl.lookup n = some a ∧ h.IsCell a (some u) ∧ RelV v u := by
    intro ns
    induction ns with
    | nil =>
      intro ds hl _
      have : ds = [] := List.eq_nil_of_length_eq_zero hl
      subst this
      exact ⟨[], .nil, fun i n v e => by simp at e⟩
    | cons n ns ih =>
      intro ds hl hc
      cases ds with
      | nil => cases hl
      | cons d ds =>
        obtain ⟨cvs, k1, k2⟩ := ih ds (by simpa using hl) fun i n d e1 e2 => hc (i + 1) n d e1 e2
        obtain ⟨a, u, v, q1, q2, q3, q4⟩ := hc 0 n d rfl rfl
        refine ⟨v :: cvs, .cons q4 k1, fun i m w e1 e2 => ?_⟩
        cases i with
        | zero => cases e1; cases e2; exact ⟨a, u, q1, q2, q3⟩
        | succ i => exact k2 i m w e1 e2
  exact gen _ _ c.len c.cap
end
theorem lookup_nd {B : Type} {x : Str} {u : B} : ∀ {l : List (Str × B)}, (l.map Prod.fst).Nodup → (x, u) ∈ l → l.lookup x = some u
  | (y, w) :: r, nd, m => by
    rw [List.map_cons, List.nodup_cons] at nd
    rw [List.lookup_cons]
    rcases List.mem_cons.mp m with e | m
    · cases e; simp
    · have : x ≠ y := fun q => nd.1 (q ▸ List.mem_map.mpr ⟨_, m, rfl⟩)
      rw [beq_eq_false_iff_ne.mpr this]
      exact lookup_nd nd.2 m
theorem zip_lookup {x : Str} {u : Value} {ps : List Str} {us : List Value} (nd : ps.Nodup) (hl : us.length = ps.length) {i : Nat} (h1 : ps[i]? = some x) (h2 : us[i]? = some u) : (ps.zip us).reverse.lookup x = some u := by
  refine lookup_nd ?_ ?_
  · rw [List.map_reverse, List.map_fst_zip (by omega)]
    exact (List.reverse_perm _).nodup_iff.mpr nd
  · rw [List.mem_reverse]
    exact List.mem_of_getElem? (i := i) (by rw [List.getElem?_zip_eq_some]; exact ⟨h1, h2⟩)
abbrev lamE (L : LamR) (A f c' : Addr) (cl : List (Str × Addr)) : PySem.Env := PySem.W.envX L.qual L.scope A f (.ref c') cl
/-- the context of a lambda's body, its function object at f -/
def lamC (P : Program) (w : World) (K : PySem.W.Frag) (mg : Str → Option Value) (base : Heap) (A : Around) (outer : List PySem.Env) (s : Shared) (H : Hp) (E : XK) (L : LamR) (f c' : Addr) (cl : List (Str × Addr)) : Cx where
  prog := P
  w := w
  K := K
  mg := mg
  base := base
  A := A.deeper (lamE L s.heap.objs.size f c' cl)
  N := L.ps ++ L.caps
  s_0 := s
  H_0 := H
  env := lamE L s.heap.objs.size f c' cl
  outer := outer
  stack := lamE L s.heap.objs.size f c' cl :: outer
  ex := []
  fn := fun _ => false
  calm := true
  pn := []
  xe := fun e s' => wpAny (model P w) (A.deeper (lamE L s.heap.objs.size f c' cl)) (leaving (lamE L s.heap.objs.size f c' cl) e) (fun _ s'' => L2N.CX P w outer H s E e s'') (fun e' s'' => L2N.CX P w outer H s E e' s'') s'
section
variable {P : Program} {w : World} {K : PySem.W.Frag} {mg : Str → Option Value} {base : Heap} {G : Gc} {A : Around} {outer : List PySem.Env} {s : Shared} {H : Hp} {E : XK} {W : Wd} {L : LamR} {f c' : Addr} {pm ctv : Value} {cl : List (Str × Addr)} {cap : List D} {S : Store}
theorem lam_in {h₁ : Heap} {tk : Nat} {us : List Value} {vs : List V} {ds : List D} (c : CloIn G s.heap H (frs outer) W L f c' pm ctv cl cap) (ok : LamOk L) (e0 : Env0 P w K mg base A outer s H) (hd : A.handled = none) (hl : us.length = L.ps.length) (r : Vals vs us) (dd : Dats G W vs ds)
    (hns : h₁.Ns s.heap.objs.size fun y => (L.ps.zip us).reverse.lookup y) (kp : ∀ b o, s.heap.get? b = some o → h₁.get? b = some o) :
    ∃ σ, Inv (lamC P w K mg base A outer s H E L f c' cl) [] σ H { s with heap := h₁, toks := tk } ∧ EnvOk G W cf0 H H σ ((ds ++ cap).map fun d => some (.val d)) := by
  obtain ⟨cvs, cd, cv⟩ := c.vals
  have hv : vs.length = L.ps.length := by rw [r.length, hl]
  have lc : cvs.length = L.caps.length := by rw [cd.length, c.len]
  have dall := dd.append cd
  have noA : ∀ b : Addr, b ∉ (lamC P w K mg base A outer s H E L f c' cl).ex := fun b z => by cases (show b ∈ ([] : List Addr) from z)
  refine ⟨(vs ++ cvs).map some, ⟨⟨e0.mod, ok.kind, rfl, rfl, Nat.le_refl _, c.inj, fun y hy => ?_, fun y c z _ => ?_, fun _ => hd, Around.frames_deeper e0.frames, .inr ⟨rfl, rfl⟩, fun b z => absurd z (noA b), e0.bs, e0.bsz, fun b _ _ => noA b, fun b z => absurd z (noA b), e0.funs, e0.frf⟩,
    rfl, e0.bare, Un.kept kp, ⟨_, hns, fun i y v e1 e2 e3 => ?_⟩, fun y a e => ?_, e0.hok.fresh (Nat.le_refl _), fun y a e => (c.cell y a e).1, fun q hq => ?_, e0.hok.kept kp, ?_⟩, ⟨?_, fun i sl e => ?_, fun i j x y v _ e _ => ?_⟩⟩
  · have hy : L.scope.names.lookup y = some .cell ∨ L.scope.names.lookup y = some .free := hy
    rcases hy with hy | hy
    · exact absurd rfl (ok.own _ (PySem.mem_of_lookup hy)).1
    · exact c.has _ (PySem.mem_of_lookup hy) rfl
  · exact Bool.noConfusion (show false = true from z)
  · have e1 : (L.ps ++ L.caps)[i]? = some y := e1
    rw [List.getElem?_map] at e2
    obtain ⟨v', e2', e2''⟩ := Option.map_eq_some_iff.mp e2
    cases e2''
    by_cases hi : i < L.ps.length
    · rw [List.getElem?_append_left hi] at e1
      rw [List.getElem?_append_left (by omega)] at e2'
      obtain ⟨u, hu, ru⟩ := r.get e2'
      refine ⟨u, ru, .inl ⟨ok.par _ (List.mem_of_getElem? e1), zip_lookup (List.nodup_append.mp ok.nd).1 hl e1 hu⟩⟩
    · rw [List.getElem?_append_right (by omega)] at e1
      rw [List.getElem?_append_right (by omega), hv] at e2'
      obtain ⟨a, u, k1, k2, k3⟩ := cv _ _ _ e1 e2'
      obtain ⟨o, q1, q2⟩ := k2
      exact ⟨u, k3, .inr ⟨.inr (ok.cap _ (List.mem_of_getElem? e1)), a, k1, o, kp _ _ q1, q2⟩⟩
  · obtain ⟨_, v, o, q1, q2⟩ := c.cell y a e
    exact ⟨v, o, kp _ _ q1, q2⟩
  · cases (show q ∈ ([] : List (Addr × Obj)) ++ [] from hq)
  · show ((vs ++ cvs).map some).length = (L.ps ++ L.caps).length
    simp [hv, lc]
  · simp [dd.length, cd.length]
  · rw [List.getElem?_map] at e
    obtain ⟨d, e', e''⟩ := Option.map_eq_some_iff.mp e
    cases e''
    obtain ⟨v, q, k⟩ := dall.get e'
    exact ⟨v, by rw [List.getElem?_map, q]; rfl, k⟩
  · rw [List.getElem?_map] at e
    obtain ⟨d, e', e''⟩ := Option.map_eq_some_iff.mp e
    cases e''
end

/-! ### what is promised of a call -/
def GoF (G : Gc) (W : Wd) (H : Hp) (r : Out D) (Q : VK) (E : XK) : Prop := match r with
  | .ok d S' => ∀ v W' H', Step G W H W' H' S' → Dat G W' v d → Q v H'
  | .exc c x S' => ∀ cls dO W' H', Step G W H W' H' S' → ExR G W' H' c x cls dO → E cls dO H'
  | .bad => False
/-- a lambda's -/
def LamFact (G : Gc) (P : Program) (w : World) (K : PySem.W.Frag) (mg : Str → Option Value) (base : Heap) (n : Nat) (r : List D → List D → Store → Out D) (L : LamR) : Prop :=
  ∀ (A : Around) (outer : List PySem.Env) (s : Shared) (H : Hp) (W : Wd) (S : Store) (us : List Value) (vs : List V) (ds cap : List D) (f c' : Addr) (pm ctv : Value) (cl : List (Str × Addr)) (Q : VK) (E : XK),
    Room n A → Env0 P w K mg base A outer s H → Hok G W H S → CloIn G s.heap H (frs outer) W L f c' pm ctv cl cap → Vals vs us → Dats G W vs ds → GoF G W H (r cap ds S) Q E →
    codeAny (model P w) A (.call (.ref f) ⟨us, []⟩) (CR (L2N.CX P w) outer P w H s Q E) s
section
variable {P : Program} {w : World} {K : PySem.W.Frag} {mg : Str → Option Value} {base : Heap} {G : Gc} {n : Nat} {L : LamR}
theorem takes_lam {A : Around} {outer : List PySem.Env} {s : Shared} {H : Hp} {E : XK} {f c' : Addr} {cl : List (Str × Addr)} : L2N.Takes (lamC P w K mg base A outer s H E L f c' cl) (fun cls d _ H => E cls d H) := L2N.takes_of rfl rfl rfl rfl
theorem lam_fact {ev : Env → Store → Out D} {r : List D → List D → Store → Out D} (ok : LamOk L) (hr : ∀ cap ds S, r cap ds S = if ds.length = L.ps.length ∧ cap.length = L.caps.length then ev ((ds ++ cap).map fun d => some (.val d)) S else .bad)
    (hb : ∀ (A : Around) (outer : List PySem.Env) (s : Shared) (H : Hp) (E : XK) (f c' : Addr) (cl : List (Str × Addr)), Room n (A.deeper (lamE L s.heap.objs.size f c' cl)) → PE (lamC P w K mg base A outer s H E L f c' cl) L.body (tE G cf0 (fun cls d _ H => E cls d H) ev)) :
    LamFact G P w K mg base (n + 1) r L := by
  intro A outer s H W S us vs ds cap f c' pm ctv cl Q E room e0 hk c rv dd g
  rw [hr] at g
  split at g
  · rename_i hl
    have hlu : us.length = L.ps.length := by rw [← rv.length, dd.length, hl.1]
    obtain ⟨⟨oc, vs', t, hoc, hdc, hvc⟩, _, _⟩ := e0.hok c' _ (hk.z _ _ c.cd)
    refine PySem.W.kla_callFunE room.depth c.ob rfl ok.co ok.gen rfl ⟨c', oc, vs', t, rfl, hoc, hdc, hvc⟩ ?_
    rw [ok.bind _ _ _ _ us hlu]
    refine wpAny_pure (wpAny_newFunctionEnv (fun y hy => (ok.own y hy).1) (fun y hy => ok.par _ (List.of_mem_zip hy).1) (fun h₁ hns hsb => ⟨?_, ?_⟩) ok.kind)
    · have lim : s.heap.NoLimit := e0.mod.nolimit.keeps fun b o e => (e0.bs b o e).1
      exact lim.fresh _ hsb
    · show codeAny _ _ (.expr L.body (lamE L s.heap.objs.size f c' cl)) _ _
      have kp : ∀ b o, s.heap.get? b = some o → h₁.get? b = some o := fun b o e => hsb.extBut b o (Nat.ne_of_lt (Heap.lt_size e)) (Heap.get?_push_of_some _ e)
      obtain ⟨σ, J, eo⟩ := lam_in (E := E) (tk := s.toks + (L.ps.zip us).length) c ok e0 room.hd hlu rv dd hns kp
      refine PySem.W.kla_codeExpr (wpAny_mono ((hb A outer s H E f c' cl (room.deeper _)).run [] _ σ H Q J ⟨W, H, _, S, ⟨hk, eo⟩, ?_⟩) (fun v s' hq => ?_) fun e s' hq => hq)
      · revert g
        cases ev ((ds ++ cap).map fun d => some (.val d)) S with
        | ok d S' => exact fun g => g
        | exc cc x S' => exact fun g => g
        | bad => exact fun g => g
      · obtain ⟨v', H', J', rv', q⟩ := hq
        exact ⟨v', H', J'.os, J'.bare, J'.base, J'.hok, rv', q⟩
  · exact g.elim
end

/-! ### made -/
theorem codeO_lst {a : Addr} {q : Str} {vs : List V} : LamX.CodeO a q ≠ .lst vs := fun z => by
  unfold LamX.CodeO at z
  cases z
theorem codeO_tbl {a : Addr} {q : Str} {ps : Array Value} : LamX.CodeO a q ≠ .tbl ps := fun z => by
  unfold LamX.CodeO at z
  cases z
section
variable {X : Cx} {pins : List (Addr × Obj)} {σ : L2.St} {H : Hp} {s : Shared}
theorem lam_mk {T : List (Addr × Str)} {c P : Addr} {params : Arguments} {body : Expr} {scope : Scope} {pos : Pos} {E Q : Value → Shared → Prop} (I : Inv X pins σ H s) (TB : LamX.TabB X.base X.mg c P) (hcode : X.env.code = .ref c)
    (hm : (P, X.env.qual ++ "<lambda>") ∈ T) (hu : ∀ p ∈ T, p.1 = P → p.2 = X.env.qual ++ "<lambda>") (hT : LamX.Tabs T H) (hdef : defaultsOf params X.env = ([], [])) (hfree : ∀ y ∈ scope.names, y.2 = .free → ∃ c, X.env.cells.lookup y.1 = some c)
    (h : ∀ (f c' : Addr) (pm ctv : Value) (H1 : Hp) (s' : Shared), Inv X pins σ H1 s' → LamX.ExtN H H1 → LamX.Tabs T H1 → (∀ a ps, H a = some (.tbl ps) → ∃ qs, H1 a = some (.tbl qs)) →
      (∀ b o, s.heap.get? b = some o → H b = none → s'.heap.get? b = some o ∧ H1 b = none) →
      s'.heap.get? f = some (PySem.W.kla_obj "<lambda>" (X.env.qual ++ "<lambda>") params body scope (cloFrom X.env.cells scope.names []) pm c' ctv) → H1 f = none → f ∉ frs X.stack → H1 c' = some (LamX.CodeO c' (X.env.qual ++ "<lambda>")) → Q (.ref f) s') :
    wpAny (model X.prog X.w) X.A (eval (.Lambda params body scope pos) X.env) Q E s := by
  have hTP := hT _ hm
  obtain ⟨ps, hP, ht, ha⟩ := hTP
  have hPs : s.heap.get? P = some { cls := .none, data := .fields ps } := I.hok P _ hP
  have bP : s.heap.BuiltinsAt X.mg P := TB.bm.keeps I.bk
  have out : ∀ g, s.heap.objs.size ≤ g → g ∉ frs X.stack := fun g hg m => by
    have m' := I.stkSub g m
    rw [List.mem_cons] at m'
    cases m' with
    | inl e => exact absurd (show g < s.heap.objs.size by rw [e]; exact I.lt) (Nat.not_lt.mpr hg)
    | inr e => exact I.nofs hg e
  refine PySem.W.kla_eval hdef ?_
  cases hc : codeAmong pos ps.toList with
  | some cv =>
    obtain ⟨c', rfl, hco⟩ := ha pos cv hc
    refine PySem.W.kla_makeFunctionHit (mg := X.mg) (c := c) (P := P) (ps := ps) (closure_ok hfree) I.ok.glob (I.mod.glob.keeps I.bk) hcode (TB.code.keeps I.bk) hPs ht hc bP fun ctv h' tk hx hsz => ?_
    have kp : ∀ b o, s.heap.get? b = some o → (h'.push (PySem.W.kla_obj "<lambda>" (X.env.qual ++ "<lambda>") params body scope (cloFrom X.env.cells scope.names []) ((X.mg "__name__").getD .none) c' ctv)).get? b = some o := fun b o e => Heap.get?_push_of_some _ (hx b o e)
    exact h h'.objs.size c' _ ctv H _ (I.kept kp) (LamX.ExtN.refl H) hT (fun a ps e => ⟨ps, e⟩) (fun b o e n => ⟨kp b o e, n⟩) (Heap.get?_push_size _ rfl) (I.hok.fresh hsz) (out _ hsz) hco
  | none =>
    refine PySem.W.kla_makeFunction (mg := X.mg) (c := c) (P := P) (ps := ps) (closure_ok hfree) I.ok.glob (I.mod.glob.keeps I.bk) hcode (TB.code.keeps I.bk) hPs ht hc TB.gP bP fun c' ctv h' tk hx hge hlt hrec htb => ?_
    obtain ⟨c2, oc, vs, t, e2, hoc, hd, hv⟩ := hrec
    cases e2
    have nC : H c' = none := I.hok.fresh hge
    have PC : P ≠ c' := ne_of_none hP nC
    have kp : ∀ b o, b ≠ P → s.heap.get? b = some o → (h'.push (PySem.W.kla_obj "<lambda>" (X.env.qual ++ "<lambda>") params body scope (cloFrom X.env.cells scope.names []) ((X.mg "__name__").getD .none) c' ctv)).get? b = some o := fun b o nb e => Heap.get?_push_of_some _ (hx b o nb e)
    have I1 := LamX.inv_table (t' := tk) (more := #[rawInt pos.line, rawInt pos.col, .ref c']) I hP kp (Heap.get?_push_of_some _ htb) hge ⟨oc, vs, t, Heap.get?_push_of_some _ hoc, hd, hv⟩
    generalize hH1 : upd (upd H P (.tbl (ps ++ #[rawInt pos.line, rawInt pos.col, .ref c']))) c' (LamX.CodeO c' (X.env.qual ++ "<lambda>")) = H1 at I1
    have atP : H1 P = some (.tbl (ps ++ #[rawInt pos.line, rawInt pos.col, .ref c'])) := by rw [← hH1, upd_ne PC, upd_same]
    have atC : H1 c' = some (LamX.CodeO c' (X.env.qual ++ "<lambda>")) := by rw [← hH1, upd_same]
    have atO : ∀ b, b ≠ P → b ≠ c' → H1 b = H b := fun b n1 n2 => by rw [← hH1, upd_ne n2, upd_ne n1]
    have ext : LamX.ExtN H H1 := fun b o e n => by
      rw [atO b (fun z => ?_) (ne_of_none e nC)]
      · exact e
      · rw [z, hP] at e
        exact n ps (Option.some.inj e).symm
    have hsz : s.heap.objs.size ≤ h'.objs.size := Nat.le_trans hge (Nat.le_of_lt hlt)
    refine h h'.objs.size c' _ ctv H1 _ I1 ext (fun p hp => ?_) (fun a qs e => ?_) (fun b o e n => ?_) (Heap.get?_push_size _ rfl) ?_ (out _ hsz) atC
    · by_cases hb : p.1 = P
      · rw [hu p hp hb, hb]
        refine ⟨_, atP, ?_, fun p' cv hcv => ?_⟩
        · rw [Array.toList_append]
          exact PySem.TriplesOk_snoc _ _ _ _ ht
        · rw [Array.toList_append] at hcv
          cases LamX.among_app _ ht hcv with
          | inl z =>
            obtain ⟨c0, e1, e2⟩ := ha p' cv z
            exact ⟨c0, e1, ext _ _ e2 fun ps => codeO_tbl⟩
          | inr z => exact ⟨c', z, atC⟩
      · obtain ⟨qs, a1, a2, a3⟩ := hT p hp
        refine ⟨qs, by rw [atO _ hb (ne_of_none a1 nC)]; exact a1, a2, fun p' cv hcv => ?_⟩
        obtain ⟨c0, e1, e2⟩ := a3 p' cv hcv
        exact ⟨c0, e1, ext _ _ e2 fun ps => codeO_tbl⟩
    · by_cases hb : a = P
      · exact ⟨_, by rw [hb]; exact atP⟩
      · exact ⟨qs, by rw [atO _ hb (ne_of_none e nC)]; exact e⟩
    · have nb : b ≠ P := fun z => by rw [z, hP] at n; cases n
      refine ⟨kp b o nb e, ?_⟩
      rw [atO b nb (fun z => ?_)]
      · exact n
      · rw [z] at e
        exact absurd (Heap.lt_size e) (Nat.not_lt.mpr hge)
    · rw [atO _ (fun z => ?_) (Nat.ne_of_gt hlt)]
      · exact I.hok.fresh hsz
      · exact absurd (show P < h'.objs.size from Nat.lt_of_lt_of_le (Heap.lt_size hPs) hsz) (by rw [z]; exact Nat.lt_irrefl _)
end
end Pz

/-! Pz12: calls. -/
namespace Pz
open PySem PySem.Spec PyProof.Rows L2

def ArgsAt (G : Gc) (h : Heap) (H : Hp) (fr : List Addr) (W : Wd) (vs : List V) (ds : List D) (c : Option (Nat × List D)) : Prop := match c with
  | none => Dats G W vs ds
  | some (k, cap) => ∃ vs0 vc, vs = vs0 ++ [vc] ∧ Dats G W vs0 ds ∧ CloAt G h H fr W vc k cap
abbrev FnR' := List D → Option (Nat × List D) → Store → Out D
def SpAt (G : Gc) (r : FnR') (outer : List PySem.Env) (s : Shared) (H : Hp) (vs : List V) (Q : VK) (E : XK) : Prop :=
  ∃ W S ds c, Hok G W H S ∧ ArgsAt G s.heap H (frs outer) W vs ds c ∧ GoF G W H (r ds c S) Q E
structure FnFact (G : Gc) (P : Program) (w : World) (K : PySem.W.Frag) (mg : Str → Option Value) (base : Heap) (n : Nat) (r : FnR') (f : Addr) : Prop where
  ex : ∃ (fd : FuncData) (ps : List Str), (∀ (A : Around) (outer : List PySem.Env) (s : Shared) (H : Hp) (args : Args) (us : List Value) (vs : List V) (Q : VK) (E : XK), Room n A → Env0 P w K mg base A outer s H → BindsTo s fd args (ps.zip us) → Vals vs us → vs.length = ps.length →
      SpAt G r outer s H vs Q E → codeAny (model P w) A (.call (.ref f) args) (CR (L2N.CX P w) outer P w H s Q E) s) ∧
    Binds K fd ps [] ∧ PySem.W.keepIn K (.ref f) = true ∧ (∀ ds (c : Option (Nat × List D)) S, ds.length + cn c ≠ ps.length → r ds c S = .bad) ∧ (∃ oc od osl, K.lookup f = some ⟨oc, od, .func fd, osl⟩) ∧ (fd.params.args.map fun a => a.arg) = ps
section
variable {X : Cx} {G : Gc} {cf : CF} {Wx : WX} {a : Expr} {es : List Expr} {evs : Env → Store → Out (List D)} {pos : Pos} {n : Nat} {r : FnR'} {f : Addr}
theorem FnFact.keep {P : Program} {w : World} {K : PySem.W.Frag} {mg : Str → Option Value} {base : Heap} (F : FnFact G P w K mg base n r f) : PySem.W.keepIn K (.ref f) = true := let ⟨_, _, _, _, h, _⟩ := F.ex; h
theorem go_f {σ : L2.St} {W : Wd} {H : Hp} {o : Out D} {Q : VK} (g : Go G Wx (fun W _ => Dat G W) W σ H o Q) : GoF G W H o Q (WE Wx σ) := by
  cases o with
  | ok d S' => exact g
  | exc c x S' => exact g
  | bad => exact g
/-- behind the run of what was called -/
theorem ran {pins : List (Addr × Obj)} {σ : L2.St} {H : Hp} {s : Shared} {Q : VK} {v : Value} {us : List Value} (tk : L2N.Takes X Wx) (I : Inv X pins σ H s)
    (rc : codeAny (model X.prog X.w) X.A (.call v ⟨us, []⟩) (CR (L2N.CX X.prog X.w) X.stack X.prog X.w H s Q (WE Wx σ)) s) : wpAny (model X.prog X.w) X.A (call v us) (EP X pins σ Q) X.xe s := by
  refine wpAny_call (codeAny_mono rc fun rr s' hq => ?_)
  cases rr with
  | error e => exact L2N.passAt tk σ pins H s e s' I hq
  | ok fl =>
    cases fl with
    | ret u => exact I.after hq
    | next => exact False.elim hq
    | brk => exact False.elim hq
    | cont => exact False.elim hq
theorem run_def {pins : List (Addr × Obj)} {σ : L2.St} {H : Hp} {s : Shared} {Q : VK} {us : List Value} {vs : List V} {W : Wd} {S : Store} {ds : List D} {c : Option (Nat × List D)} (F : FnFact G X.prog X.w X.K X.mg X.base n r f) (hr : Room n X.A) (tk : L2N.Takes X Wx)
    (I : Inv X pins σ H s) (rv : Vals vs us) (hk : Hok G W H S) (hd : ArgsAt G s.heap H (frs X.stack) W vs ds c) (g : Go G Wx (fun W _ => Dat G W) W σ H (r ds c S) Q) : wpAny (model X.prog X.w) X.A (call (.ref f) us) (EP X pins σ Q) X.xe s := by
  obtain ⟨fd, ps, F1, hb, _, hn, _⟩ := F.ex
  have hl0 : ds.length + cn c = ps.length := by
    by_cases q : ds.length + cn c = ps.length
    · exact q
    · rw [hn ds c S q] at g; exact g.elim
  have hl : vs.length = ps.length := by
    rw [← hl0]
    cases c with
    | none => exact hd.length
    | some kc =>
      obtain ⟨vs0, vc, rfl, h0, _⟩ := hd
      rw [List.length_append, h0.length]; rfl
  refine ran tk I (F1 X.A X.stack s H ⟨us, []⟩ us vs Q _ hr I.env0 ?_ rv hl ⟨W, S, ds, c, hk, hd, go_f g⟩)
  have b := hb s us I.kIn (by rw [List.append_nil, ← rv.length]; exact hl)
  rw [List.append_nil] at b
  exact b
/-- f(..) by the def's name -/
theorem re_call {x : Str} {p : Pos} {e : Expr} (F : FnFact G X.prog X.w X.K X.mg X.base n r f) (hr : Room n X.A) (tk : L2N.Takes X Wx) (hg : Gl X x) (hm : X.mg x = some (.ref f)) (hdb : (x == ("__debug__" : Str)) = false) (ha : PA X (e :: es) (tA G cf Wx evs)) (hp : (e :: es).all plainE = true) :
    PE X (.Call (.Name x p) (e :: es) [] pos) (tE G cf Wx fun env S => (evs env S).bind fun ds S => r ds none S) := by
  constructor
  intro pins s σ H Q I q
  obtain ⟨W, H0, env, S, h, g⟩ := q
  have go : tA G cf Wx evs σ H fun vs H1 => ∃ W1 S1 ds, Hok G W1 H1 S1 ∧ Dats G W1 vs ds ∧ Go G Wx (fun W _ => Dat G W) W1 σ H1 (r ds none S1) Q :=
    tR.seq h g fun vs W1 H1 S1 ds s1 dx h1 g1 => ⟨W1, S1, ds, h1.hok, dx, g1⟩
  refine wpAny_Call_Name_kw (ld_glob I hg hm ?_ hdb)
  rw [List.all_cons, Bool.and_eq_true] at hp
  refine PySem.W.callWith_K (h₀ := X.base) I.ok.mod.kin F.keep (thn (ha.run pos pins s σ H _ I go) fun us s1 hv => ?_) (star_cons hp.1) (star_plain hp.2)
  obtain ⟨vs, H1, I1, r1, W1, S1, ds, hk, hd, g1⟩ := hv
  exact ⟨I1.kIn, run_def (c := none) F hr tk I1 r1 hk hd g1⟩
theorem re_call0 {x : Str} {p : Pos} (F : FnFact G X.prog X.w X.K X.mg X.base n r f) (hr : Room n X.A) (tk : L2N.Takes X Wx) (hg : Gl X x) (hm : X.mg x = some (.ref f)) (hdb : (x == ("__debug__" : Str)) = false) :
    PE X (.Call (.Name x p) [] [] pos) (tE G cf Wx fun env S => (Out.ok [] S : Out (List D)).bind fun ds S => r ds none S) := by
  constructor
  intro pins s σ H Q I q
  obtain ⟨W, H0, env, S, h, g⟩ := q
  refine wpAny_Call_Name_kw (ld_glob I hg hm ?_ hdb)
  exact PySem.W.callWith_K0 I.kIn F.keep (run_def (c := none) F hr tk I (vs := []) (us := []) .nil h.hok .nil g)
/-- x(..), x a name that holds a def -/
theorem re_callv {i : Nat} {x : Str} {p : Pos} {e : Expr} {ff : Nat → FnR'} (F : ∀ k f, G.fa k = some f → FnFact G X.prog X.w X.K X.mg X.base n (ff k) f) (hr : Room n X.A) (tk : L2N.Takes X Wx) (hN : X.N[i]? = some x) (hv : Vis X.env.scope x)
    (hdb : (x == ("__debug__" : Str)) = false) (hcd : (x == ("__classdict__" : Str)) = false) (ha : PA X (e :: es) (tA G cf Wx evs)) (hp : (e :: es).all plainE = true) :
    PE X (.Call (.Name x p) (e :: es) [] pos) (tE G cf Wx fun env S => match env.val i with | some (.fn k) => (evs env S).bind fun ds S => ff k ds none S | _ => .bad) := by
  constructor
  intro pins s σ H Q I q
  obtain ⟨W, H0, env, S, h, g⟩ := q
  dsimp only at g
  split at g
  · rename_i k ek
    obtain ⟨v, e1, dv⟩ := h.val ek
    cases dv with
    | @fn _ f hf =>
      have go : tA G cf Wx evs σ H fun vs H1 => ∃ W1 S1 ds, Hok G W1 H1 S1 ∧ Dats G W1 vs ds ∧ Go G Wx (fun W _ => Dat G W) W1 σ H1 (ff k ds none S1) Q :=
        tR.seq h g fun vs W1 H1 S1 ds s1 dx h1 g1 => ⟨W1, S1, ds, h1.hok, dx, g1⟩
      refine wpAny_Call_Name_kw (thn ((pe_var (pos := p) hN hv hdb hcd).run pins s σ H (fun v H1 => v = .ref f ∧ H1 = H) I ⟨.ref f, e1, rfl, rfl⟩) fun u s1 hu => ?_)
      obtain ⟨v1, H1, I1, r1, rfl, rfl⟩ := hu
      cases r1
      rw [List.all_cons, Bool.and_eq_true] at hp
      refine PySem.W.callWith_K (h₀ := X.base) I1.ok.mod.kin (F k f hf).keep (thn (ha.run pos pins s1 σ _ _ I1 go) fun us s2 hv => ?_) (star_cons hp.1) (star_plain hp.2)
      obtain ⟨vs, H2, I2, r2, W2, S2, ds, hk, hd, g2⟩ := hv
      exact ⟨I2.kIn, run_def (c := none) (F k f hf) hr tk I2 r2 hk hd g2⟩
  · exact g.elim
/-- the frames of X's callees are X's own -/
theorem clo_now {pins : List (Addr × Obj)} {σ : L2.St} {H : Hp} {s : Shared} {W W0 : Wd} {L : LamR} {fo c' : Addr} {pm ctv : Value} {cl : List (Str × Addr)} {cap : List D} (hex : X.ex = []) (I : Inv X pins σ H s) (l : Wd.Le W0 W)
    (c : CloIn G X.s_0.heap X.H_0 (frs X.outer) W0 L fo c' pm ctv cl cap) : CloIn G s.heap H (frs X.stack) W L fo c' pm ctv cl cap := by
  have un : Un (frs X.outer) [] X.H_0 H X.s_0.heap s.heap := by
    have b := I.base
    rw [hex] at b
    exact b
  refine c.move un l fun m => ?_
  have m' := I.stkSub fo m
  rw [List.mem_cons] at m'
  cases m' with
  | inl e =>
    have h1 := Heap.lt_size c.ob
    have h2 := I.ok.above
    rw [e] at h1
    exact absurd (Nat.lt_of_lt_of_le h1 h2) (Nat.lt_irrefl _)
  | inr e => exact c.ff e
/-- x(..), x the name of a lambda that was handed in -/
theorem callc_at {pins : List (Addr × Obj)} {σ : L2.St} {W W0 : Wd} {Q : VK} {L : LamR} {fo c' : Addr} {pm ctv : Value} {cl : List (Str × Addr)} {cap : List D} {rl : List D → List D → Store → Out D} (F : LamFact G X.prog X.w X.K X.mg X.base n rl L) (hr : Room n X.A) (tk : L2N.Takes X Wx) (hex : X.ex = []) (l0 : Wd.Le W0 W)
    (ci : CloIn G X.s_0.heap X.H_0 (frs X.outer) W0 L fo c' pm ctv cl cap) : ∀ us s2, AP X pins σ (fun vs H1 => ∃ W1 S1 ds, Wd.Le W W1 ∧ Hok G W1 H1 S1 ∧ Dats G W1 vs ds ∧ Go G Wx (fun W _ => Dat G W) W1 σ H1 (rl cap ds S1) Q) us s2 →
        PySem.W.FnAt fo s2.heap ∧ wpAny (model X.prog X.w) X.A (call (.ref fo) us) (EP X pins σ Q) X.xe s2 := by
  rintro us s2 ⟨vs, H2, I2, r2, W2, S2, ds, l2, hk, hd, g2⟩
  have c2 := clo_now hex I2 (l0.trans l2) ci
  exact ⟨⟨_, _, _, _, c2.ob⟩, ran tk I2 (F X.A X.stack s2 H2 W2 S2 us vs ds cap fo c' pm ctv cl Q _ hr I2.env0 hk c2 r2 hd (go_f g2))⟩
theorem re_callc {i : Nat} {x : Str} {p : Pos} {e : Expr} {rl : Nat → List D → List D → Store → Out D} (F : ∀ k L, G.lam k = some L → LamFact G X.prog X.w X.K X.mg X.base n (rl k) L) (hr : Room n X.A) (tk : L2N.Takes X Wx) (hex : X.ex = []) (hcf : ∀ W v k cap, cf W v k cap → CloAt G X.s_0.heap X.H_0 (frs X.outer) W v k cap)
    (hN : X.N[i]? = some x) (hv : Vis X.env.scope x) (hdb : (x == ("__debug__" : Str)) = false) (hcd : (x == ("__classdict__" : Str)) = false) (ha : PA X (e :: es) (tA G cf Wx evs)) (hp : (e :: es).all plainE = true) :
    PE X (.Call (.Name x p) (e :: es) [] pos) (tE G cf Wx fun env S => match env[i]? with | some (some (.clo k cap)) => (evs env S).bind fun ds S => rl k cap ds S | _ => .bad) := by
  constructor
  intro pins s σ H Q I q
  obtain ⟨W, H0, env, S, h, g⟩ := q
  dsimp only at g
  split at g
  · rename_i k cap ek
    obtain ⟨v, e1, W0, l0, cl0⟩ := h.env.get i _ ek
    obtain ⟨L, fo, c', pm, ctv, cl, hL, rfl, ci⟩ := hcf _ _ _ _ cl0
    have go : tA G cf Wx evs σ H fun vs H1 => ∃ W1 S1 ds, Wd.Le W W1 ∧ Hok G W1 H1 S1 ∧ Dats G W1 vs ds ∧ Go G Wx (fun W _ => Dat G W) W1 σ H1 (rl k cap ds S1) Q :=
      tR.seq h g fun vs W1 H1 S1 ds s1 dx h1 g1 => ⟨W1, S1, ds, s1.le, h1.hok, dx, g1⟩
    refine wpAny_Call_Name_kw (thn ((pe_var (pos := p) hN hv hdb hcd).run pins s σ H (fun v H1 => v = .ref fo ∧ H1 = H) I ⟨.ref fo, e1, rfl, rfl⟩) fun u s1 hu => ?_)
    obtain ⟨v1, H1, I1, r1, rfl, rfl⟩ := hu
    cases r1
    rw [List.all_cons, Bool.and_eq_true] at hp
    exact PySem.W.callWith_F ⟨_, _, _, _, (clo_now hex I1 l0 ci).ob⟩ (thn (ha.run pos pins s1 σ _ _ I1 go) (callc_at (F k L hL) hr tk hex l0 ci)) (star_cons hp.1) (star_plain hp.2)
  · exact g.elim
theorem re_callc0 {i : Nat} {x : Str} {p : Pos} {rl : Nat → List D → List D → Store → Out D} (F : ∀ k L, G.lam k = some L → LamFact G X.prog X.w X.K X.mg X.base n (rl k) L) (hr : Room n X.A) (tk : L2N.Takes X Wx) (hex : X.ex = []) (hcf : ∀ W v k cap, cf W v k cap → CloAt G X.s_0.heap X.H_0 (frs X.outer) W v k cap)
    (hN : X.N[i]? = some x) (hv : Vis X.env.scope x) (hdb : (x == ("__debug__" : Str)) = false) (hcd : (x == ("__classdict__" : Str)) = false) :
    PE X (.Call (.Name x p) [] [] pos) (tE G cf Wx fun env S => match env[i]? with | some (some (.clo k cap)) => (Out.ok [] S : Out (List D)).bind fun ds S => rl k cap ds S | _ => .bad) := by
  constructor
  intro pins s σ H Q I q
  obtain ⟨W, H0, env, S, h, g⟩ := q
  dsimp only at g
  split at g
  · rename_i k cap ek
    obtain ⟨v, e1, W0, l0, cl0⟩ := h.env.get i _ ek
    obtain ⟨L, fo, c', pm, ctv, cl, hL, rfl, ci⟩ := hcf _ _ _ _ cl0
    refine wpAny_Call_Name_kw (thn ((pe_var (pos := p) hN hv hdb hcd).run pins s σ H (fun v H1 => v = .ref fo ∧ H1 = H) I ⟨.ref fo, e1, rfl, rfl⟩) fun u s1 hu => ?_)
    obtain ⟨v1, H1, I1, r1, rfl, rfl⟩ := hu
    cases r1
    obtain ⟨k1, k2⟩ := callc_at (pins := pins) (σ := σ) (Q := Q) (F k L hL) hr tk hex l0 ci [] s1 ⟨[], H1, I1, .nil, W, S, [], Wd.Le.refl W, h.hok, .nil, g⟩
    exact PySem.W.callWith_F0 k1 k2
  · exact g.elim

/-! ### f(.., lambda ..: ..) -/
theorem lam_step {W : Wd} {H H1 : Hp} {S : Store} {c' : Addr} {q : Str} (h : Hok G W H S) (e : LamX.ExtN H H1) (t : LamX.Tabs G.T H1) (tn : ∀ a ps, H a = some (.tbl ps) → ∃ qs, H1 a = some (.tbl qs)) (hc : H1 c' = some (LamX.CodeO c' q)) :
    ∃ W1, Step G W H W1 H1 S ∧ W1.Z c' = some (LamX.CodeO c' q) := by
  have hz : ∀ a o, W.Z a = some o → H1 a = some o := fun a o z => e a o (h.z a o z) fun ps q => h.nt a ps (by rw [z, q])
  have ok1 : Hok G W H1 S := ⟨hz, h.nt, h.len, h.nd, fun n a so e1 e2 => by
    obtain ⟨z, k⟩ := h.be n a so e1 e2
    obtain ⟨o, q, nt⟩ := k.some
    exact ⟨z, k.up (Wd.Le.refl W) (by rw [q]; exact e a o q nt)⟩, t⟩
  have st1 : Step G W H W H1 S := ⟨Wd.Le.refl W, fun _ _ z => .inl z, fun _ z => .inl z, fun a o q _ nt => e a o q nt, tn, ok1⟩
  cases z : W.Z c' with
  | some o =>
    have e1 := hz c' o z
    rw [hc] at e1
    cases e1
    exact ⟨W, st1, z⟩
  | none =>
    have nb : c' ∉ W.be := fun m => by
      obtain ⟨n, hn, en⟩ := List.getElem_of_mem m
      have hs : n < S.length := by rw [← ok1.len]; exact hn
      obtain ⟨_, k⟩ := ok1.be n c' S[n] (by rw [List.getElem?_eq_getElem hn, en]) (List.getElem?_eq_getElem hs)
      cases so : S[n] with
      | lst ds =>
        rw [so] at k
        obtain ⟨vs, k, _⟩ := k
        rw [hc] at k
        exact codeO_lst (Option.some.inj k)
    refine ⟨W.add c' (LamX.CodeO c' q), ⟨Wd.Le.add z, fun a u e => ?_, st1.bn, st1.fr, st1.tn, ok1.keep hc z nb fun ps => codeO_tbl⟩, W.add_at _ _⟩
    by_cases qa : a = c'
    · subst qa
      have e' : upd W.Z a (LamX.CodeO a q) a = some u := e
      rw [upd_same] at e'
      cases e'
      exact .inr (.inr ⟨q, rfl⟩)
    · have e' : upd W.Z c' (LamX.CodeO c' q) a = some u := e
      rw [upd_ne qa] at e'
      exact .inl e'
/-- what the maker of a lambda has -/
structure MkOk (G : Gc) (X : Cx) (L : LamR) (c P : Addr) (cis : List Nat) : Prop where
  tb : LamX.TabB X.base X.mg c P
  code : X.env.code = .ref c
  qual : L.qual = X.env.qual ++ "<lambda>"
  mem : (P, X.env.qual ++ "<lambda>") ∈ G.T
  uni : ∀ p ∈ G.T, p.1 = P → p.2 = X.env.qual ++ "<lambda>"
  dfl : defaultsOf L.params X.env = ([], [])
  free : ∀ y ∈ L.scope.names, y.2 = .free → X.env.scope.names.lookup y.1 = some .cell ∨ X.env.scope.names.lookup y.1 = some .free
  uq : ∀ y ∈ L.scope.names, L.scope.names.lookup y.1 = some y.2
  caps : cis.length = L.caps.length ∧ ∀ (j : Nat) (n : Str), L.caps[j]? = some n → ∃ i, cis[j]? = some i ∧ X.N[i]? = some n ∧ (n, NameKind.free) ∈ L.scope.names
theorem capD_get {env : Env} : ∀ {cis : List Nat} {cs : List D}, capD env cis = some cs → cs.length = cis.length ∧ ∀ (j i : Nat), cis[j]? = some i → ∃ d, cs[j]? = some d ∧ env.val i = some d
  | [], _, e => by cases e; exact ⟨rfl, fun j i e => by simp at e⟩
  | i :: is, cs, e => by
    simp only [capD] at e
    obtain ⟨d, e1, e2⟩ := Option.bind_eq_some_iff.mp e
    obtain ⟨ds, e3, rfl⟩ := Option.map_eq_some_iff.mp e2
    obtain ⟨k1, k2⟩ := capD_get e3
    refine ⟨by simp [k1], fun j i' ej => ?_⟩
    cases j with
    | zero => cases ej; exact ⟨d, rfl, e1⟩
    | succ j => exact k2 j i' ej
theorem lam_here {pins : List (Addr × Obj)} {σ : L2.St} {H H0 : Hp} {s : Shared} {W : Wd} {S : Store} {env : Env} {k : Nat} {L : LamR} {c P : Addr} {cis : List Nat} {cs : List D} {lpos : Pos} {E Q : Value → Shared → Prop} (hL : G.lam k = some L) (M : MkOk G X L c P cis) (I : Inv X pins σ H s) (h : Cur G cf W H0 σ H env S) (hc : capD env cis = some cs)
    (hq : ∀ vc u H1 W1 s1, Inv X pins σ H1 s1 → RelV vc u → Step G W H W1 H1 S → CloAt G s1.heap H1 (frs X.stack) W1 vc k cs → Q u s1) : wpAny (model X.prog X.w) X.A (eval (.Lambda L.params L.body L.scope lpos) X.env) Q E s := by
  have hfree : ∀ y ∈ L.scope.names, y.2 = .free → ∃ c, X.env.cells.lookup y.1 = some c := fun y hy e => by
    rcases M.free y hy e with z | z
    · exact I.ok.has _ (.inl z)
    · exact I.ok.has _ (.inr z)
  have low : ∀ {y a}, (cloFrom X.env.cells L.scope.names []).lookup y = some a → X.env.cells.lookup y = some a := fun {y a} e => by
    rcases cloFrom_mem (PySem.mem_of_lookup e) with hm | ⟨h1, h2⟩
    · cases hm
    · obtain ⟨b, hb⟩ := hfree _ h1 rfl
      have hb : X.env.cells.lookup y = some b := hb
      rw [h2, hb]; rfl
  have has : ∀ y, (y, NameKind.free) ∈ L.scope.names → ∃ a, (cloFrom X.env.cells L.scope.names []).lookup y = some a := fun y hy => mem_lookup (cloFrom_has (cells := X.env.cells) (acc := []) hy)
  refine lam_mk I M.tb M.code M.mem M.uni h.hok.tab M.dfl hfree fun fo c' pm ctv H1 s1 I1 eN tT tn kp ob fn ff cd => ?_
  rw [← M.qual] at ob cd
  obtain ⟨W1, st, hz⟩ := lam_step h.hok eN tT tn cd
  obtain ⟨l1, l2⟩ := capD_get hc
  refine hq (.ref fo) (.ref fo) H1 W1 s1 I1 rfl st ⟨L, fo, c', pm, ctv, cloFrom X.env.cells L.scope.names [], hL, rfl, ?_⟩
  refine ⟨ob, fn, ff, hz, fun y z a e1 e2 => I.ok.inj y z a (low e1) (low e2), fun y a e => ⟨I1.freeC y a (low e), I1.cell y a (low e)⟩, fun y hy e => ?_, by rw [l1, M.caps.1], fun j n d e1 e2 => ?_⟩
  · exact has y.1 (by rw [← e]; exact hy)
  · obtain ⟨i, k1, k2, k3⟩ := M.caps.2 j n e1
    obtain ⟨d', q1, q2⟩ := l2 j i k1
    rw [e2] at q1
    cases q1
    obtain ⟨v, hv, dv⟩ := h.val q2
    obtain ⟨a, ha⟩ := has n k3
    have hk : X.env.scope.names.lookup n = some .cell ∨ X.env.scope.names.lookup n = some .free := M.free _ k3 rfl
    obtain ⟨m, hn, hl⟩ := I1.loc
    obtain ⟨u, ru, q⟩ := hl i n v k2 hv (hk.elim (fun z => .inr (.inl z)) fun z => .inr (.inr z))
    refine ⟨a, u, v, ha, ?_, ru, dv.up st.le⟩
    rcases q with ⟨z, _⟩ | ⟨_, b, eb, cb⟩
    · have z : X.env.scope.names.lookup n = some .local := z
      rcases hk with z2 | z2 <;> (rw [z] at z2; cases z2)
    · rw [low ha] at eb
      cases eb
      exact cb
/-- the arguments, a lambda last -/
def PL (X : Cx) (G : Gc) (cf : CF) (Wx : WX) (es : List Expr) (ev : Env → Store → Out (List D)) (k : Nat) (cis : List Nat) : Prop :=
  ∀ (pos : Pos) (pins : List (Addr × Obj)) (s : Shared) (σ : L2.St) (H H0 : Hp) (W : Wd) (env : Env) (S : Store) (cs : List D) (Q : List Value → Shared → Prop), Inv X pins σ H s → Cur G cf W H0 σ H env S → capD env cis = some cs → ev env S ≠ .bad →
    (∀ c x S' cls dO W' H', ev env S = .exc c x S' → Step G W H W' H' S' → ExR G W' H' c x cls dO → Wx cls dO σ H') →
    (∀ us vs vc H1 W1 S1 ds s1, Inv X pins σ H1 s1 → Vals (vs ++ [vc]) us → Step G W H W1 H1 S1 → ev env S = .ok ds S1 → Dats G W1 vs ds → CloAt G s1.heap H1 (frs X.stack) W1 vc k cs → Q us s1) →
    wpAny (model X.prog X.w) X.A (spliced (backTo pos (starEach es X.env))) Q X.xe s
theorem pl_lam {k : Nat} {L : LamR} {c P : Addr} {cis : List Nat} {lpos : Pos} (hL : G.lam k = some L) (M : MkOk G X L c P cis) : PL X G cf Wx [.Lambda L.params L.body L.scope lpos] (fun _ S => .ok [] S) k cis := by
  intro pos pins s σ H H0 W env S cs Q I h hc _ _ hq
  show wpAny _ _ (spliced ((false, eval (.Lambda L.params L.body L.scope lpos) X.env) :: backTo pos (starEach [] X.env))) _ _ s
  refine Calls.spliced_cons (lam_here hL M I h hc fun vc u H1 W1 s1 I1 rv st ca => ?_)
  exact Calls.spliced_nil (hq [u] [] vc H1 W1 S [] s1 I1 (.cons rv .nil) st rfl .nil ca)
theorem pl_cons {e : Expr} {evA : Env → Store → Out D} {k : Nat} {cis : List Nat} (he : PE X e (tE G cf Wx evA)) (hr : PL X G cf Wx es evs k cis) (hp : plainE e = true) :
    PL X G cf Wx (e :: es) (fun env S => (evA env S).bind fun d S => (evs env S).bind fun ds S => .ok (d :: ds) S) k cis := by
  intro pos pins s σ H H0 W env S cs Q I h hc nb hx hq
  dsimp only at nb hx hq
  rw [star_cons hp]
  show wpAny _ _ (spliced ((false, eval e X.env) :: backTo pos (starEach es X.env))) _ _ s
  cases ea : evA env S with
  | bad => exact absurd (by rw [ea]; rfl) nb
  | exc c x S' =>
    refine Calls.spliced_cons (thn (he.run pins s σ H (fun _ _ => False) I ⟨W, H0, env, S, h, ?_⟩) fun u s1 hu => ?_)
    · rw [ea]
      exact fun cls dO W' H' st r => hx c x S' cls dO W' H' (by rw [ea]; rfl) st r
    · obtain ⟨_, _, _, _, z⟩ := hu
      exact z.elim
  | ok d S1 =>
    refine Calls.spliced_cons (thn (he.run pins s σ H (fun v H1 => ∃ W1, Step G W H W1 H1 S1 ∧ Dat G W1 v d) I ⟨W, H0, env, S, h, ?_⟩) fun u s1 hu => ?_)
    · rw [ea]
      exact fun v W' H' st r => ⟨W', st, r⟩
    · obtain ⟨v, H1, I1, rv, W1, st1, dv⟩ := hu
      have simp1 : ((evA env S).bind fun d S => (evs env S).bind fun ds S => (.ok (d :: ds) S : Out (List D))) = (evs env S1).bind fun ds S => .ok (d :: ds) S := by rw [ea]; rfl
      rw [simp1] at nb hx hq
      refine hr pos pins s1 σ H1 H0 W1 env S1 cs _ I1 (h.step st1) hc (fun z => nb (by rw [z]; rfl)) (fun c x S' cls dO W' H' e st r => hx c x S' cls dO W' H' (by rw [e]; rfl) (st1.trans st) r) fun us vs vc H2 W2 S2 ds s2 I2 r2 st2 e2 d2 ca => ?_
      exact hq (u :: us) (v :: vs) vc H2 W2 S2 (d :: ds) s2 I2 (.cons rv r2) (st1.trans st2) (by rw [e2]; rfl) (.cons (dv.up st2.le) d2) ca
theorem re_callL {x : Str} {p : Pos} {e : Expr} {k : Nat} {cis : List Nat} (F : FnFact G X.prog X.w X.K X.mg X.base n r f) (hr : Room n X.A) (tk : L2N.Takes X Wx) (hg : Gl X x) (hm : X.mg x = some (.ref f)) (hdb : (x == ("__debug__" : Str)) = false) (ha : PL X G cf Wx (e :: es) evs k cis) (hp : (e :: es).all plainE = true) :
    PE X (.Call (.Name x p) (e :: es) [] pos) (tE G cf Wx fun env S => match capD env cis with
      | some cs => (evs env S).bind fun ds S => r ds (some (k, cs)) S
      | none => .bad) := by
  constructor
  intro pins s σ H Q I q
  obtain ⟨W, H0, env, S, h, g⟩ := q
  dsimp only at g
  refine wpAny_Call_Name_kw (ld_glob I hg hm ?_ hdb)
  rw [List.all_cons, Bool.and_eq_true] at hp
  refine PySem.W.callWith_K (h₀ := X.base) I.ok.mod.kin F.keep ?_ (star_cons hp.1) (star_plain hp.2)
  cases ec : capD env cis with
  | none =>
    rw [ec] at g
    exact g.elim
  | some cs =>
    rw [ec] at g
    refine ha pos pins s σ H H0 W env S cs _ I h ec (fun z => by rw [z] at g; exact g) (fun c x S' cls dO W' H' ev st rr => by rw [ev] at g; exact g cls dO W' H' st rr) fun us vs vc H1 W1 S1 ds s1 I1 r1 st1 ev d1 ca => ?_
    refine ⟨I1.kIn, run_def F hr tk I1 r1 st1.ok (c := some (k, cs)) ⟨vs, vc, rfl, d1, ca⟩ ?_⟩
    rw [ev] at g
    exact Go.step st1 g
end
end Pz

/-! Pz13: while an error is handled: ends of lists and tuples, a comprehension, the word of an error. -/
namespace Pz
open PySem PySem.Spec PyProof.Rows L2 HotX

section
variable {prog : Program} {w : World} {A : Around} {E : Value → Shared → Prop} {s : Shared} {x1 : Addr}
/-- a StopIteration is made and raised beside the handled error -/
theorem stopH {α : Type} {s' : Shared} {Q : α → Shared → Prop} (hot : HotAt A x1 s'.heap) (k : ∀ h' a, (∀ b o, s'.heap.get? b = some o → h'.get? b = some o) → ({ s' with heap := h' } : Shared).TypeIs (.ref a) "StopIteration" → E (.ref a) { s' with heap := h' }) :
    wpAny (model prog w) A (do let e ← newExc (.type "StopIteration") []; raiseNew e : Sem α) Q E s' := by
  obtain ⟨hh, o1, vs1, h1, d1, c1⟩ := hot
  refine wpAny_bind ?_; simp only [newExc, newTuple]; refine wpAny_bind (wpAny_newObj_type ?_ (by size_fits))
  refine wpAny_bind (m := firstArgMember _ _) (wpAny_of_eq (a := Value.none) (by first | rfl | (simp only [firstArgMember]; rfl)) (wpAny_newObj_type ?_ (by size_fits)))
  have k2 := fun {b : Addr} {o : Obj} (ho : s'.heap.get? b = some o) => Heap.get?_push_of_some { cls := .type "StopIteration", data := .fields (#[Value.ref s'.heap.objs.size, Value.none, Value.none, Value.none, Value.bool false, Value.none] ++ ownMembersOf (Value.type "StopIteration") []) } (Heap.get?_push_of_some { cls := .type "tuple", data := .seq #[] } ho)
  refine raiseNew_hot ⟨hh, o1, vs1, k2 h1, d1, c1⟩ (Nat.ne_of_lt (Heap.lt_size (Heap.get?_push_of_some _ h1))) (Heap.get?_push_size _ rfl) rfl (by first | (simp; done) | (simp; omega) | (simp only [Array.size_append]; simp; omega)) ?_
  refine k _ _ (fun b o e => ?_) ⟨_, Heap.get?_update_self _ (Heap.get?_push_size _ rfl) rfl, rfl⟩
  rw [Heap.get?_update_other _ _ (Nat.ne_of_gt (Heap.lt_size (Heap.get?_push_of_some _ e)))]; exact k2 e
theorem hot_but {h h' : Heap} {it : Addr} (hot : HotAt A x1 h) (hn : x1 ≠ it) (e : Heap.ExtBut it h h') : HotAt A x1 h' := by
  obtain ⟨hh, o1, vs1, h1, d1, c1⟩ := hot
  exact ⟨hh, o1, vs1, e x1 _ hn h1, d1, c1⟩
theorem list_endH {it l : Addr} {i : Nat} {items : Array Value} {Q : Option Value → Shared → Prop} (hot : HotAt A x1 s.heap) (hit : s.heap.IsListIter it l i) (hl : s.heap.IsList l items) (hx : items[i]? = none) (hne : x1 ≠ it)
    (hQ : ∀ h', Heap.ExtBut it s.heap h' → Q none { s with heap := h' }) : wpAny (model prog w) A (pyNext (.ref it)) Q E s := by
  obtain ⟨o, ho, hc, hd⟩ := id hit; obtain ⟨ol, hol, _, nl, hdl⟩ := hl
  unfold pyNext
  refine wpAny_bind (wpAny_attempt (wpAny_callSpecial?_slot (name := Str.ofString "__next__") hit.typeIs slot_listiter_next (wpAny_call_entry slot_listiter_next hit.typeIs entry_listiter_next ?_ (args_listiter_next _))))
  show wpAny _ _ (field (.ref it) 0 >>= _) _ _ s; refine wpAny_bind (wpAny_field ho hd (x := .ref l) rfl ?_)
  show wpAny _ _ (if (Value.ref l == Value.none) = true then _ else _) _ _ s; rw [if_neg (show ¬ ((Value.ref l == Value.none) = true) from Bool.false_ne_true)]
  show wpAny _ _ (field (.ref it) 1 >>= _) _ _ s; refine wpAny_bind (wpAny_field ho hd (x := .int i 0) rfl ?_)
  show wpAny _ _ (seqItems? (.ref l) >>= _) _ _ s; refine wpAny_bind (wpAny_seqItems hol hdl ?_); simp only [Int.toNat_natCast, hx]
  refine wpAny_bind (wpAny_rule (wpAny_bind (wpAny_setField ho hd (by simp) ?_)))
  have sb := Heap.SameBut.update (h := s.heap) (a := it) (f := Obj.mapFields (·.setIfInBounds 0 Value.none))
  refine stopH (hot_but hot hne sb.extBut) fun h' a k ty => ?_
  refine wpAny_bind (wpAny_isInstance (T := "StopIteration") (b := true) ty isSubtype_stop ?_); exact wpAny_pure (hQ _ fun b o hb e => k b o (sb.extBut b o hb e))
theorem tup_endH {it t : Addr} {i : Nat} {items : Array Value} {Q : Option Value → Shared → Prop} (hot : HotAt A x1 s.heap) (hit : IsTupIter s.heap it t i) (ht : IsTup s.heap t items) (hx : items[i]? = none) (hne : x1 ≠ it)
    (hQ : ∀ h', Heap.ExtBut it s.heap h' → Q none { s with heap := h' }) : wpAny (model prog w) A (pyNext (.ref it)) Q E s := by
  obtain ⟨o, ho, hc, hd⟩ := id hit; obtain ⟨ol, hol, _, nl, hdl⟩ := ht
  unfold pyNext
  refine wpAny_bind (wpAny_attempt (wpAny_callSpecial?_slot (name := Str.ofString "__next__") hit.typeIs slot_tupleiter_next (wpAny_call_entry slot_tupleiter_next hit.typeIs entry_tupleiter_next ?_ (args_tupleiter_next _))))
  show wpAny _ _ (field (.ref it) 0 >>= _) _ _ s; refine wpAny_bind (wpAny_field ho hd (x := .ref t) rfl ?_)
  show wpAny _ _ (if (Value.ref t == Value.none) = true then _ else _) _ _ s; rw [if_neg (show ¬ ((Value.ref t == Value.none) = true) from Bool.false_ne_true)]
  show wpAny _ _ (field (.ref it) 1 >>= _) _ _ s; refine wpAny_bind (wpAny_field ho hd (x := .int i 0) rfl ?_)
  show wpAny _ _ (seqItems? (.ref t) >>= _) _ _ s; refine wpAny_bind (wpAny_seqItems hol hdl ?_); simp only [Int.toNat_natCast, hx]
  refine wpAny_bind (wpAny_rule (wpAny_bind (wpAny_setField ho hd (by simp) ?_)))
  have sb := Heap.SameBut.update (h := s.heap) (a := it) (f := Obj.mapFields (·.setIfInBounds 0 Value.none))
  refine stopH (hot_but hot hne sb.extBut) fun h' a k ty => ?_
  refine wpAny_bind (wpAny_isInstance (T := "StopIteration") (b := true) ty isSubtype_stop ?_); exact wpAny_pure (hQ _ fun b o hb e => k b o (sb.extBut b o hb e))
theorem unpackH {t : Addr} {items : Array Value} {targets : List (Bool × (Value → Sem Unit))} {Q : Unit → Shared → Prop} (hot : HotAt A x1 s.heap) (ht : IsTup s.heap t items) (hn : targets.length = items.size) (hstar : targets.findIdx? (·.1) = none)
    (h : ∀ h', Heap.ExtBut s.heap.objs.size s.heap h' → wpAny (model prog w) A (assignInOrder (targets.map (·.2)) items.toList) Q E { s with heap := h' }) : wpAny (model prog w) A (unpack (.ref t) targets) Q E s := by
  obtain ⟨hh, o1, vs1, h1, d1, c1⟩ := id hot
  have ne1 : x1 ≠ s.heap.objs.size := Nat.ne_of_lt (Heap.lt_size h1)
  have ne2 : t ≠ s.heap.objs.size := by obtain ⟨o, ho, _⟩ := ht; exact Nat.ne_of_lt (Heap.lt_size ho)
  have all : List.take items.size (List.drop 0 items.toList) = items.toList := by rw [List.drop_zero]; exact List.take_of_length_le (by simp)
  unfold unpack; rw [hn, hstar]; refine wpAny_bind (wpAny_holding ?_)
  unfold unpackItems notIterableAtAll
  refine wpAny_bind (wpAny_bind (wpAny_specialOf ht.typeIs slot_tuple_iter.lookup ?_))
  refine wpAny_pure ?_; simp only [Bool.false_eq_true, if_false]
  refine wpAny_bind (wpAny_holding (iter_tuple ht ?_)); refine wpAny_bind (wpAny_holding (draw_tuple ne2 items.size 0 _ _ ⟨_, Heap.get?_push_size _ rfl, rfl, rfl⟩ (ht.push _) (by omega) fun g1 i1 b1 => ?_))
  rw [all, if_neg (by simp)]
  have eb : Heap.ExtBut s.heap.objs.size s.heap g1 := fun b o hb e => b1.extBut b o hb (Heap.get?_push_of_some _ e)
  refine wpAny_bind (wpAny_holding (tup_endH (hot_but hot ne1 eb) i1 (ht.extBut eb ne2) (by simp) ne1 fun g2 e2 => ?_)); simp only [Option.isSome_none, Bool.false_eq_true, if_false]
  exact wpAny_pure (h g2 fun b o hb e => e2 b o hb (eb b o hb e))
end
/-- the handled error is pinned in the context -/
def HotX' (X : Cx) (a : Addr) : Prop := ∃ p : Addr × Obj, p.1 = a ∧ L2H.Hot1 X.A p ∧ p ∈ X.pn
theorem HotX'.at {X : Cx} {a : Addr} {pins : List (Addr × Obj)} {σ : L2.St} {H : Hp} {s : Shared} (c : HotX' X a) (I : Inv X pins σ H s) : HotAt X.A a s.heap := by
  obtain ⟨p, rfl, ⟨hh, v1, e1, c1⟩, hp⟩ := c
  exact ⟨hh, p.2, v1, (I.pin p (List.mem_append_left _ hp)).1, e1, c1⟩
theorem pg_tupH {X : Cx} {a : Addr} {es : List Expr} {k : Nat} {t : TGs} {n : Nat} {pos : Pos} (hc : HotX' X a) (h : PGs X es t) (hn : (assignEach es X.env).length = n) (hst : (assignEach es X.env).findIdx? (·.1) = none) : PG X (.Tuple es k pos) (gTup X.K n t) := by
  constructor
  intro pins s σ H v u Q I r hw
  obtain ⟨b, xs, rfl, hq, hl, hw⟩ := hw
  cases r
  obtain ⟨its, rv, ht, hz⟩ := I.tuple hq
  rw [assign_Tuple]
  refine wpAny_bind (wpAny_standAt (unpackH (hc.at I) ht (by simp [hn, ← hl, rv.length]) hst fun h' hx => ?_))
  exact h.run pins _ σ H xs _ Q (I.kept (t' := s.toks) fun b o e => hx b o (Nat.ne_of_lt (Heap.lt_size e)) e) (by simpa using rv) hw
/-! ### [.. for .. in a list if ..] -/
abbrev XB (X : Cx) (s : Shared) (H : Hp) (scope : Scope) (ce : PySem.Env) (it : Addr) (p : Addr × Obj) : Cx := (X.blk s H scope ce [it]).tr [p] (fun _ _ => False)
def tLcH (K : PySem.W.Frag) (ti : TE) (g : TG) (tt : TT) (te : TE) (vs : List Nat) : TE := fun σ H Q => ti σ H fun v H1 => ∃ l xs, v = .ref l ∧ SqL K H1 l xs ∧ ∀ D, H1 D = none → ∃ J : Nat → Hp → Prop, J 0 (upd H1 D (.lst [])) ∧ (∀ i H', J i H' → SqL K H' l xs) ∧ (∀ H', J xs.length H' → Q (.ref D) H') ∧
  ∀ i x H', xs[i]? = some x → J i H' → g x (wipe σ vs) H' fun σ2 H2 => wipe σ2 vs = wipe σ vs ∧ tt σ2 H2 fun b H3 => if b = true then te σ2 H3 fun y H4 => ∃ acc, H4 D = some (.lst acc) ∧ acc.length < sizeLine ∧ J (i + 1) (upd H4 D (.lst (acc ++ [y]))) else J (i + 1) H3
section
variable {X : Cx} {p : Addr × Obj} {elt tg iter : Expr} {ifs : List Expr} {scope : Scope} {own : List (Str × Nat)} {pos : Pos} {ti : TE} {g : TG} {tt : TT} {te : TE}
theorem pe_lcH (hot : L2H.Hot1 X.A p) (hp : p ∈ X.pn) (hN : X.N.Nodup) (hi : PE X iter ti) (ok : BlkOk X.N X.env.scope scope own)
    (hg : ∀ (s : Shared) (H : Hp) (C : Addr) (cl : List (Str × Addr)) (it : Addr), PG (XB X s H scope (compEnvC scope cl C X.env) it p) tg g)
    (ht : ∀ (s : Shared) (H : Hp) (C : Addr) (cl : List (Str × Addr)) (it : Addr), PTs (XB X s H scope (compEnvC scope cl C X.env) it p) ifs tt)
    (he : ∀ (s : Shared) (H : Hp) (C : Addr) (cl : List (Str × Addr)) (it : Addr), PE (XB X s H scope (compEnvC scope cl C X.env) it p) elt te) (hs : ∀ x, foldedSetIterable iter X.env x = pure x) :
    PE X (.ListComp elt [⟨tg, iter, ifs, 0⟩] scope pos) (tLcH X.K ti g tt te (own.map (·.2))) := by
  constructor
  intro pins s σ H Q I h
  rw [eval_ListComp]
  have free : ∀ y ∈ scope.names, y.2 = .free → ∃ c, X.env.cells.lookup y.1 = some c := fun y hy e => by
    cases ok.free y hy e with
    | inl k => exact I.ok.has _ (.inl k)
    | inr k => exact I.ok.has _ (.inr k)
  refine wpAny_comprehension_free (use := none) rfl hs (closure_ok free) ok.kind (fun y hy e => by rw [ok.uniq y hy, e]) (thn (hi.run pins s σ H _ I h) fun xv s1 hx => ?_)
  obtain ⟨v, H1, I1, r1, l, xs, rfl, hq, hD⟩ := hx
  cases r1
  obtain ⟨its, rv, pl, hz⟩ := I1.list hq
  refine wpAny_pyIter_list pl.isList ?_
  generalize hs2 : ({ s1 with heap := s1.heap.push { cls := .type "list_iterator", data := .fields #[.ref l, .int 0 0] } } : Shared) = s2
  have k12 : ∀ b o, s1.heap.get? b = some o → s2.heap.get? b = some o := fun b o e => by rw [← hs2]; exact Heap.get?_push_of_some _ e
  have I2 : Inv X pins σ H1 s2 := by rw [← hs2]; exact I1.kept (t' := s1.toks) fun b o e => Heap.get?_push_of_some _ e
  generalize hit : s1.heap.objs.size = it
  have it2 : s2.heap.IsListIter it l 0 := by rw [← hs2, ← hit]; exact ⟨_, Heap.get?_push_size _ rfl, rfl, rfl⟩
  have itlt : it < s2.heap.objs.size := by obtain ⟨o, e, _⟩ := it2; exact Heap.lt_size e
  have fp1 : FpOk X pins H1 it := by rw [← hit]; exact I1.fpOk (Nat.le_refl _) (I1.hok.fresh (Nat.le_refl _))
  refine wpAny_newObj_type (newEnv_comp ?_) (by show 0 ≤ sizeLine; decide)
  generalize eD : s2.heap.objs.size = D
  have nD : H1 D = none := I2.hok.fresh (Nat.le_of_eq eD)
  have neD : it ≠ D := by rw [← eD]; exact Nat.ne_of_lt itlt
  obtain ⟨J, j0, jq, jd, jt⟩ := hD D nD
  generalize hs3 : ({ s2 with heap := s2.heap.push { cls := .type "list", data := .seq ([] : List Value).toArray } } : Shared) = s3
  have h3 : s3.heap = s2.heap.push { cls := .type "list", data := .seq ([] : List Value).toArray } := by rw [← hs3]
  have k23 : ∀ b o, s2.heap.get? b = some o → s3.heap.get? b = some o := fun b o e => by rw [h3]; exact Heap.get?_push_of_some _ e
  have I3 : Inv X pins σ (upd H1 D (.lst [])) s3 := by
    rw [← hs3]
    refine I2.laid (t' := s2.toks) (fun b o e => Heap.get?_push_of_some _ e) (Nat.le_of_eq eD) ⟨Nat.zero_le _, [], 0, .nil, ?_⟩
    rw [← eD]
    exact Heap.get?_push_size _ rfl
  have it3 : s3.heap.IsListIter it l 0 := it2.at fun o e => k23 it o e
  have lt3 : it < s3.heap.objs.size := by obtain ⟨o, e, _⟩ := it3; exact Heap.lt_size e
  have fp3 : FpOk X pins (upd H1 D (.lst [])) it := ⟨by rw [upd_ne neD]; exact fp1.1, fp1.2⟩
  have I4 := block_start (fp := [it]) I3 ok hN fun b hb => by rw [List.mem_singleton.mp hb]; exact ⟨fp3, lt3⟩
  have pg := hg s3 (upd H1 D (.lst [])) s3.heap.objs.size (cellsFrom (s3.heap.objs.size + 1) scope.names (cloFrom X.env.cells scope.names [])) it
  have pt := ht s3 (upd H1 D (.lst [])) s3.heap.objs.size (cellsFrom (s3.heap.objs.size + 1) scope.names (cloFrom X.env.cells scope.names [])) it
  have pe := he s3 (upd H1 D (.lst [])) s3.heap.objs.size (cellsFrom (s3.heap.objs.size + 1) scope.names (cloFrom X.env.cells scope.names [])) it
  show codeAny _ _ (.compStart (.ListComp elt [⟨tg, iter, ifs, 0⟩] scope pos) 0 (.ref it) (.ref D) (compEnvC scope (cellsFrom (s3.heap.objs.size + 1) scope.names (cloFrom X.env.cells scope.names [])) s3.heap.objs.size X.env)) (compPost (model X.prog X.w) X.A X.xe none (EP X pins σ Q) (.ref D) s3.heap.objs.size) { s3 with heap := pushCells (s3.heap.push { cls := .type "dict", data := .dict #[] }) scope.names }
  generalize hce : compEnvC scope (cellsFrom (s3.heap.objs.size + 1) scope.names (cloFrom X.env.cells scope.names [])) s3.heap.objs.size X.env = ce at I4 pg pt pe ⊢
  have cL : ce.locals = s3.heap.objs.size := by subst hce; rfl
  generalize hH3 : upd H1 D (.lst []) = H3 at I3 I4 pg pt pe j0 fp3
  generalize hs4 : ({ s3 with heap := pushCells (s3.heap.push { cls := .type "dict", data := .dict #[] }) scope.names } : Shared) = s4 at I4 ⊢
  have k34 : ∀ b o, s3.heap.get? b = some o → s4.heap.get? b = some o := fun b o e => by rw [← hs4]; exact pushCells_keeps _ _ _ _ (Heap.get?_push_of_some _ e)
  have it4 : s4.heap.IsListIter it l 0 := it3.at fun o e => k34 it o e
  have I5 : Inv (XB X s3 H3 scope ce it p) [] (wipe σ (own.map (·.2))) H3 s4 := by
    have P3 := I3.pin p (List.mem_append_left _ hp)
    refine ⟨I4.ok.toTry _ _, I4.os, I4.bare, I4.base, I4.loc, I4.cell, I4.free, I4.freeC, fun q hq => ?_, I4.hok, I4.len⟩
    have eq : q = p := by simpa using (show q ∈ [p] ++ ([] : List (Addr × Obj)) from hq)
    subst eq
    refine ⟨k34 _ _ P3.1, P3.2.1, ?_, fun m => ?_, P3.2.2.2.2⟩
    · show q.1 ≠ ce.locals
      rw [cL]
      exact Nat.ne_of_lt (Heap.lt_size P3.1)
    · have m' := I3.stkSub q.1 m
      rw [List.mem_cons] at m'
      cases m' with
      | inl z => exact P3.2.2.1 z
      | inr z => exact P3.2.2.2.1 z
  have hotA : ∀ {σ' : L2.St} {H' : Hp} {s' : Shared} {pn : List (Addr × Obj)}, Inv (XB X s3 H3 scope ce it p) pn σ' H' s' → HotAt X.A p.1 s'.heap ∧ p.1 ≠ it ∧ it ∉ frs X.stack := fun {σ' H' s' pn} I' => by
    obtain ⟨hh, v1, e1, c1⟩ := hot
    refine ⟨⟨hh, p.2, v1, (I'.pin p (List.mem_append_left _ List.mem_cons_self)).1, e1, c1⟩, fun z => fp3.2.2.2.2.2 p (List.mem_append_left _ hp) z, fun m => ?_⟩
    have m' := I3.stkSub it m
    rw [List.mem_cons] at m'
    cases m' with
    | inl z => exact fp3.2.1 z
    | inr z => exact fp3.2.2.1 z
  have stat : ∀ {σ' : L2.St} {H' : Hp} {s' : Shared}, Inv (XB X s3 H3 scope ce it p) [] σ' H' s' → H' it = none → FpOk (XB X s3 H3 scope ce it p) [] H' it := fun {σ' H' s'} I' hn =>
    ⟨hn, (I'.ok.exf it List.mem_cons_self).1, (hotA I').2.2, .inl List.mem_cons_self, fun x c e => (I'.ok.exf it List.mem_cons_self).2 x c e, fun q hq => by
      have eq : q = p := by simpa using (show q ∈ [p] ++ ([] : List (Addr × Obj)) from hq)
      rw [eq]
      exact (hotA I').2.1⟩
  have nit : H3 it = none := fp3.1
  have loop : codeAny (model X.prog X.w) X.A (.compLoop (.ListComp elt [⟨tg, iter, ifs, 0⟩] scope pos) 0 (.ref it) (.ref D) ce) (compPost (model X.prog X.w) X.A X.xe none (EP X pins σ Q) (.ref D) s3.heap.objs.size) s4 := by
    refine compLoop_any (fun n s' => ∃ i H', n = xs.length - i ∧ i ≤ xs.length ∧ Inv (XB X s3 H3 scope ce it p) [] (wipe σ (own.map (·.2))) H' s' ∧ s'.heap.IsListIter it l i ∧ H' it = none ∧ J i H') ?_ (xs.length - 0) ⟨0, H3, rfl, Nat.zero_le _, I5, it4, nit, j0⟩
    rintro n s5 ⟨i, H5, en, hle, I5, st5, n5, w5⟩
    have q5 := jq i H5 w5
    obtain ⟨its5, rv5, p5, hz5⟩ := I5.list q5
    obtain ⟨f0, f1, f2, f3, f4, f5⟩ := stat I5 n5
    by_cases hlt : i < xs.length
    · have hx : xs[i]? = some xs[i] := List.getElem?_eq_getElem hlt
      obtain ⟨u, hu, ru⟩ := rv5.get hx
      refine wpAny_pyNext_list_item st5 p5.isList (x := u) (by simpa using hu) fun h6 st6 sb => ?_
      have I6 : Inv (XB X s3 H3 scope ce it p) [] (wipe σ (own.map (·.2))) H5 { s5 with heap := h6 } := I5.turned (t' := s5.toks) (fun b o hb e => (sb.2 b hb).trans e) f0 f1 f3 f4 f5
      obtain ⟨oi, ei, ci, di⟩ := id st6
      refine go_of (s := { s5 with heap := h6 }) ei ci di (by decide) ?_
      have I7 := I6.pinned (fp := [it]) (fun b hb => by rw [List.mem_singleton.mp hb]; exact stat I6 n5) (fun b hb => by rw [List.mem_singleton.mp hb]; exact ⟨oi, ei, fun v z => by rw [di] at z; cases z⟩)
      refine thnF (pg.run _ _ _ H5 xs[i] u _ I7 ru (jt i xs[i] H5 hx w5)) fun _ s8 ⟨σ8, H8, I8, hw8, q8⟩ => ?_
      refine thnF (pt.run _ s8 σ8 H8 _ I8 q8) fun b s9 ⟨H9, I9, q9⟩ => ?_
      have fin : ∀ {s' : Shared} {H' : Hp}, Inv (XB X s3 H3 scope ce it p) ([] ++ pinsAt [it] h6) σ8 H' s' → J (i + 1) H' → ∃ m, m < n ∧ ∃ i H', m = xs.length - i ∧ i ≤ xs.length ∧ Inv (XB X s3 H3 scope ce it p) [] (wipe σ (own.map (·.2))) H' s' ∧ s'.heap.IsListIter it l i ∧ H' it = none ∧ J i H' := fun {s' H'} I' nx => by
        have pin' := I'.pin (it, oi) (List.mem_append_right _ (List.mem_append_right _ (mem_pinsAt List.mem_cons_self ei)))
        have hl : (wipe σ (own.map (·.2))).length = σ8.length := by rw [← hw8, wipe_length]
        refine ⟨xs.length - (i + 1), by omega, i + 1, H', rfl, by omega, (I'.unpinned (pins := [])).weak hl (fun j v e => ?_), ⟨oi, pin'.1, ci, di⟩, pin'.2.1, nx⟩
        rw [← hw8] at e
        exact (wipe_some e).1
      cases b with
      | false => simp only [Bool.false_eq_true, if_false] at q9 ⊢; exact fin I9 q9
      | true =>
        simp only [if_true] at q9 ⊢
        refine thnF (pe.run _ s9 σ8 H9 _ I9 q9) fun z s10 ⟨yv, H10, I10, r10, acc, hD10, hz10, nx⟩ => ?_
        exact app_ok (X := XB X s3 H3 scope ce it p) I10 hD10 hz10 r10 fun s11 I11 => fin I11 nx
    · have hi' : i = xs.length := by omega
      have hl := rv5.length
      obtain ⟨a1, a2, a3⟩ := hotA I5
      refine list_endH a1 st5 p5.isList (by simp; omega) a2 fun h6 eb => ?_
      have I6 : Inv (XB X s3 H3 scope ce it p) [] (wipe σ (own.map (·.2))) H5 { s5 with heap := h6 } := I5.turned (t' := s5.toks) (fun b o hb e => eb b o hb e) f0 f1 f3 f4 f5
      have I7 : Inv X pins σ H5 { s5 with heap := h6 } := I3.call' (ch := [it]) I6.os I6.base I6.hok I6.bare fun b hb => by rw [List.mem_singleton.mp hb]; exact ⟨fp3.2.2.2.1, fp3.2.1, fp3.2.2.2.2.1, fp3.2.2.2.2.2⟩
      have nC : H5 s3.heap.objs.size = none := by have z : H5 ce.locals = none := I6.free; rw [cL] at z; exact z
      obtain ⟨m, hn, _⟩ := I6.loc
      have hn : h6.Ns ce.locals m := hn
      rw [cL] at hn
      obtain ⟨g0, g1, g2, g3, g4, g5⟩ := I3.fpOk (H' := H5) (Nat.le_refl _) nC
      rw [hi'] at w5
      exact ⟨m, hn, fun h'' sb => ⟨.ref D, H5, I7.turned (t' := s5.toks) (fun b o hb e => (sb.2 b hb).trans e) g0 g1 g3 g4 g5, rfl, jd H5 w5⟩⟩
  exact codeAny_compStart_list loop (wpAny_pyIter_listiter it4 loop)
end
end Pz

/-! Pz14: the word of an error, told while it is handled. -/
namespace Pz
open PySem PySem.Spec PyProof.Rows L2 HotX

theorem PE.le {X : Cx} {G : Gc} {cf : CF} {Wx : WX} {e : Expr} {ev ev' : Env → Store → Out D} (h : PE X e (tE G cf Wx ev)) (hl : ∀ env S, ev' env S ≠ .bad → ev env S = ev' env S) : PE X e (tE G cf Wx ev') :=
  h.im fun σ H Q ⟨W, H0, env, S, c, g⟩ => ⟨W, H0, env, S, c, by
    by_cases q : ev' env S = .bad
    · rw [q] at g; exact g.elim
    · rw [hl env S q]; exact g⟩
theorem PA.le {X : Cx} {G : Gc} {cf : CF} {Wx : WX} {es : List Expr} {ev ev' : Env → Store → Out (List D)} (h : PA X es (tA G cf Wx ev)) (hl : ∀ env S, ev' env S ≠ .bad → ev env S = ev' env S) : PA X es (tA G cf Wx ev') :=
  h.im fun σ H Q ⟨W, H0, env, S, c, g⟩ => ⟨W, H0, env, S, c, by
    by_cases q : ev' env S = .bad
    · rw [q] at g; exact g.elim
    · rw [hl env S q]; exact g⟩
theorem PSs.le {X : Cx} {G : Gc} {cf : CF} {Wx : WX} {ss : List Stmt} {ex ex' : Env → Store → SOut} (h : PSs X ss (tS G cf Wx ex)) (hl : ∀ env S, ex' env S ≠ .bad → ex env S = ex' env S) : PSs X ss (tS G cf Wx ex') :=
  h.im fun D σ H ⟨W0, H0, W, env, S, st, eo, g⟩ => ⟨W0, H0, W, env, S, st, eo, by
    by_cases q : ex' env S = .bad
    · rw [q] at g; exact g.elim
    · rw [hl env S q]; exact g⟩

structure HotE (G : Gc) (X : Cx) (p : Addr × Obj) (C : Addr) : Prop where
  hot : L2H.Hot1 X.A p
  mem : p ∈ X.pn
  zc : L2N.Zn (.ref C) none p.2
  fl : ∃ vs, p.2.data = .fields vs
  ex : ExcC X.K C
  KG : X.K = G.K
/-- the error's name -/
def cfE (a : Addr) : CF := fun _ v _ _ => v = .ref a
section
variable {X : Cx} {G : Gc} {Wx : WX} {p : Addr × Obj} {C : Addr}
theorem call_isEH (hc : HotE G X p C) : CallR X (.builtin "isinstance") (rIsE X.K C p.1) := by
  rintro pins s σ H xs us Q I r ⟨c, cv, b, rfl, hcv, e, q⟩
  cases r with
  | cons rx rr =>
    cases rr with
    | cons rt rr =>
      cases rr; cases rx
      obtain rfl := hcv _ rt
      have hget := (I.pin p (List.mem_append_left _ hc.mem)).1
      obtain ⟨vs, hv⟩ := hc.fl
      have hz := hc.zc
      have J : PySem.W.InstAt s.heap p.1 p.2 C none := by
        obtain ⟨a, oc, od, oda, osl⟩ := p
        obtain ⟨h1, h2, _⟩ := hz; dsimp only at h1 h2 hv hget ⊢; subst h1 h2 hv
        exact ⟨hget, rfl, rfl, trivial⟩
      have EC := hc.ex
      exact PySem.W.kia_one (PySem.W.handS_kitx_exc EC.hg EC.hk EC.hs EC.hd EC.ha EC.hn EC.ht EC.hm) I.kIn J e (fun z => nomatch z) fun tk => ⟨.bl b, H, I.kept (t' := tk) fun _ _ z => z, rfl, q⟩
def isClo : Env → Bool
  | some (.clo _ _) :: _ => true
  | _ => false
theorem isClo_get {W : Wd} {H0 H : Hp} {σ : L2.St} {env : Env} {S : Store} (h : Cur G (cfE p.1) W H0 σ H env S) (e : isClo env = true) : σ[0]? = some (some (.ref p.1)) := by
  cases env with
  | nil => cases e
  | cons a r =>
    rcases a with _ | sl
    · cases e
    · cases sl with
      | clo k cap =>
        obtain ⟨v, h1, W0, _, h2⟩ := h.env.get 0 (.clo k cap) rfl
        rw [h1, (show v = .ref p.1 from h2)]
      | _ => cases e
theorem re_isx {e x : Str} {C' : Addr} {b : Bool} {q q1 q2 pos : Pos} (hc : HotE G X p C) (hN : X.N[0]? = some e) (hv : Vis X.env.scope e) (he : (e == ("__debug__" : Str)) = false) (hecd : (e == ("__classdict__" : Str)) = false) (hg : Gl X "isinstance") (hm : X.mg "isinstance" = none)
    (hgx : Gl X x) (hmx : X.mg x = some (.ref C')) (hd : (x == ("__debug__" : Str)) = false) (hk : PySem.W.kitOne X.K (.ref C) (.ref C') = some b) :
    PE X (.Call (.Name "isinstance" q) [.Name e q1, .Name x q2] [] pos) (tE G (cfE p.1) Wx fun env S => if isClo env = true then .ok (.bl b) S else .bad) := by
  refine (pe_callB (call_isEH hc) hg hm (by decide +kernel) (pa_cons (pe_var hN hv he hecd) (pa_cons (pe_glob hgx hmx (v := .ref C') rfl hd) pa_nil rfl) rfl) (by decide) (by decide) rfl rfl).im fun σ H Q ⟨W, H0, env, S, h, g⟩ => ?_
  dsimp only at g
  split at g
  · rename_i hcl
    exact ⟨_, isClo_get h hcl, .ref C', .ref C', b, rfl, fun u r => r, hk, Go.ok h.hok g (.bl b)⟩
  · exact g.elim
def rowW (ev : Str) : Expr → Option (Str × Str)
  | .Tuple [.Constant (.str w) _ _, .Call (.Name f _) [.Name v _, .Name c _] [] _] _ _ => if f = "isinstance" ∧ v = ev then some (w, c) else none
  | _ => none
def rowsW (ev : Str) : List Expr → Option (List (Str × Str))
  | [] => some []
  | e :: es => (rowW ev e).bind fun r => (rowsW ev es).map fun rs => r :: rs
def rowD (q : Str × Bool) : D := .tup [.str q.1, .bl q.2]
inductive RowsOk (sc : Scope) (mg : Str → Option Value) (K : PySem.W.Frag) (C : Addr) : List (Str × Str) → List (Str × Bool) → Prop
  | nil : RowsOk sc mg K C [] []
  | cons {w x : Str} {C' : Addr} {b : Bool} {r : List (Str × Str)} {r' : List (Str × Bool)} (hgx : sc.names.lookup x = some .globalImplicit) (hmx : mg x = some (.ref C')) (hd : (x == ("__debug__" : Str)) = false) (hk : PySem.W.kitOne K (.ref C) (.ref C') = some b) (t : RowsOk sc mg K C r r') : RowsOk sc mg K C ((w, x) :: r) ((w, b) :: r')
/-- what the def's context has -/
structure ErrCx (G : Gc) (X : Cx) (p : Addr × Obj) (C : Addr) (e v w g : Str) : Prop where
  hot : HotE G X p C
  N : X.N = [e, v, w, g]
  nd : X.N.Nodup
  hv : Vis X.env.scope e
  hl : X.env.scope.names.lookup v = some .local
  hi : Gl X "isinstance"
  mi : X.mg "isinstance" = none
  db : ∀ n ∈ X.N, (n == ("__debug__" : Str)) = false ∧ (n == ("__classdict__" : Str)) = false
theorem row_pe {e v w g : Str} {ex : Expr} {wd x : Str} {C' : Addr} {b : Bool} (hc : ErrCx G X p C e v w g) (hr : rowW e ex = some (wd, x)) (hgx : Gl X x) (hmx : X.mg x = some (.ref C')) (hd : (x == ("__debug__" : Str)) = false) (hk : PySem.W.kitOne X.K (.ref C) (.ref C') = some b) :
    PE X ex (tE G (cfE p.1) Wx fun env S => if isClo env = true then .ok (rowD (wd, b)) S else .bad) ∧ plainE ex = true := by
  unfold rowW at hr
  split at hr
  · split at hr
    · rename_i hf
      obtain ⟨rfl, rfl⟩ := hf
      cases hr
      have hn : ∀ n ∈ X.N, (n == ("__debug__" : Str)) = false ∧ (n == ("__classdict__" : Str)) = false := hc.db
      rw [hc.N] at hn
      have h0 := hn _ List.mem_cons_self
      refine ⟨PE.le (re_tup (ra_cons (re_const pe_str fun _ => .str _) (ra_cons (re_isx hc.hot (by rw [hc.N]; rfl) hc.hv h0.1 h0.2 hc.hi hc.mi hgx hmx hd hk) ra_nil rfl) rfl)) fun env S q => ?_, rfl⟩
      by_cases hcl : isClo env = true
      · simp only [hcl, if_true, Out.bind_ok]; rfl
      · simp only [hcl, if_false] at q; exact absurd rfl q
    · cases hr
  · cases hr
theorem rows_pa {e v w g : Str} (hc : ErrCx G X p C e v w g) : ∀ {es : List Expr} {rs : List (Str × Str)} {bs : List (Str × Bool)}, rowsW e es = some rs → RowsOk X.env.scope X.mg X.K C rs bs →
    PA X es (tA G (cfE p.1) Wx fun env S => if isClo env = true then .ok (bs.map rowD) S else .bad)
  | [], rs, bs, h, k => by
    cases h; cases k
    refine PA.le ra_nil fun env S q => ?_
    by_cases hcl : isClo env = true
    · simp [hcl]
    · simp only [hcl] at q; exact absurd rfl q
  | ex :: es, rs, bs, h, k => by
    unfold rowsW at h
    obtain ⟨⟨wd, x⟩, h1, h2⟩ := Option.bind_eq_some_iff.mp h
    obtain ⟨rs', h3, rfl⟩ := Option.map_eq_some_iff.mp h2
    cases k with
    | cons hgx hmx hd hk t =>
      obtain ⟨k1, k2⟩ := row_pe (Wx := Wx) hc h1 hgx hmx hd hk
      refine PA.le (ra_cons k1 (rows_pa hc h3 t) (star_cons k2)) fun env S q => ?_
      by_cases hcl : isClo env = true
      · simp [hcl, Out.bind_ok]
      · simp only [hcl] at q; exact absurd rfl q
def goodW : List D → Option (List Str)
  | [] => some []
  | .tup [.str w, .bl b] :: r => (goodW r).map fun ws => if b = true then w :: ws else ws
  | _ => none
def joinB (ds : List D) : Option Str := (goodW ds).bind fun ws => if (ws.map (·.length)).sum + ws.length * 1 ≤ 16777216 ∧ ds.length ≤ 1000 then some (Txt.join " " ws) else none
theorem goodW_snoc : ∀ {ds : List D} {ws : List Str} {w : Str} {b : Bool}, goodW ds = some ws → goodW (ds ++ [.tup [.str w, .bl b]]) = some (if b = true then ws ++ [w] else ws)
  | [], ws, w, b, h => by cases h; cases b <;> rfl
  | d :: ds, ws, w, b, h => by
    unfold goodW at h
    split at h
    · exfalso; rename_i z; cases z
    · rename_i e
      cases e
      obtain ⟨us, h1, rfl⟩ := Option.map_eq_some_iff.mp h
      have ih := goodW_snoc (w := w) (b := b) h1
      show Option.map _ (goodW (_ ++ [_])) = _
      rw [ih]
      simp only [Option.map_some]
      split <;> split <;> rfl
    · cases h
theorem goodW_take : ∀ {ds : List D} {ws : List Str}, goodW ds = some ws → ∀ (i : Nat) (d : D), ds[i]? = some d → ∃ us w b, goodW (ds.take i) = some us ∧ us.length ≤ i ∧ d = .tup [.str w, .bl b]
  | [], ws, h, i, d, e => by simp at e
  | d0 :: ds, ws, h, i, d, e => by
    unfold goodW at h
    split at h
    · exfalso; rename_i z; cases z
    · rename_i e0
      cases e0
      obtain ⟨us, h1, rfl⟩ := Option.map_eq_some_iff.mp h
      cases i with
      | zero => cases e; exact ⟨[], _, _, rfl, Nat.le_refl _, rfl⟩
      | succ i =>
        obtain ⟨us', w, b, k1, k2, k3⟩ := goodW_take h1 i d e
        refine ⟨_, w, b, by rw [List.take_succ_cons]; unfold goodW; rw [k1]; rfl, ?_, k3⟩
        dsimp only
        split
        · rw [List.length_cons]; omega
        · omega
    · cases h
/-- " ".join([w for w, g in v if g]) -/
theorem re_join {e v w g : Str} {scope : Scope} {k3 k4 : Nat} {p1 p2 p3 p4 p5 p6 p7 p8 apos pos : Pos} (hc : ErrCx G X p C e v w g) (ok : BlkOk X.N X.env.scope scope [(w, 2), (g, 3)]) (hw : scope.names.lookup w = some .local) (hg : scope.names.lookup g = some .local) (hv : X.env.scope.names.lookup v = some .local) (hline : (apos.endLine == pos.line) = true) :
    PE X (.Call (.Attribute (.Constant (.str " ") k3 p1) "join" apos) [.ListComp (.Name w p2) [⟨.Tuple [.Name w p3, .Name g p4] k4 p5, .Name v p6, [.Name g p7], 0⟩] scope p8] [] pos)
      (tE G (cfE p.1) Wx fun env S => match env with | [some (.clo _ _), some (.val (.lst ds)), _, _] => (match joinB ds with | some z => .ok (.str z) S | none => .bad) | _ => .bad) := by
  have N := hc.N
  have hn : ∀ n ∈ X.N, (n == ("__debug__" : Str)) = false ∧ (n == ("__classdict__" : Str)) = false := hc.db
  have rw' : ∀ {x : Str}, scope.names.lookup x = some .local → (relS scope X.env.scope).names.lookup x = some .local := fun {x} h => lookup_relS_keep (by decide) h
  have nw := hn w (by rw [N]; simp)
  have ng := hn g (by rw [N]; simp)
  have nv := hn v (by rw [N]; simp)
  refine (pe_join pe_str (pe_lcH (ti := tVar 1) (g := gTup X.K 2 (gNames [2, 3])) (tt := tB (tVar 3)) (te := tVar 2) hc.hot.hot hc.hot.mem hc.nd (pe_var (by rw [N]; rfl) (.inl hv) nv.1 nv.2) ok (fun s H D cl it => ?_) (fun s H D cl it => ?_) (fun s H D cl it => ?_) (fun x => rfl)) rfl rfl hline).im fun σ H Q ⟨W, H0, env, S, h, g0⟩ => ?_
  · refine pg_tupH (a := p.1) ⟨p, rfl, hc.hot.hot, List.mem_cons_self⟩ ?_ rfl rfl
    exact gns_cons hc.nd (by rw [show (XB X s H scope (compEnvC scope cl D X.env) it p).N = X.N from rfl, N]; rfl) (.inl (rw' hw)) (.inr (rw' hw)) (gns_cons hc.nd (by rw [show (XB X s H scope (compEnvC scope cl D X.env) it p).N = X.N from rfl, N]; rfl) (.inl (rw' hg)) (.inr (rw' hg)) gns_nil rfl) rfl
  · exact pts_one (pt_val (pe_var (by rw [show (XB X s H scope (compEnvC scope cl D X.env) it p).N = X.N from rfl, N]; rfl) (.inl (rw' hg)) ng.1 ng.2) fun _ => rfl)
  · exact pe_var (by rw [show (XB X s H scope (compEnvC scope cl D X.env) it p).N = X.N from rfl, N]; rfl) (.inl (rw' hw)) nw.1 nw.2
  · dsimp only at g0
    split at g0
    · rename_i k cap ds c3 c4
      split at g0
      · rename_i z hz
        unfold joinB at hz
        obtain ⟨ws, hw1, hz⟩ := Option.bind_eq_some_iff.mp hz
        split at hz
        · rename_i hsz
          cases hz
          obtain ⟨vv, hv1, hv2⟩ := h.env.get 1 (.val (.lst ds)) rfl
          cases hv2 with
          | @lst l vs _ hl hds =>
            have hlH := h.hok.z _ _ hl
            refine ⟨⟨" ", rfl⟩, .ref l, hv1, l, vs, rfl, .inl (.inl hlH), fun D hD => ?_⟩
            have lne : l ≠ D := ne_of_none hlH hD
            have kp : ∀ {b : Addr} {o o' : HO}, H b = some o → upd H D o' b = some o := fun {b o o'} e => by rw [upd_ne (ne_of_none e hD)]; exact e
            refine ⟨fun i H' => ∃ us, goodW (ds.take i) = some us ∧ us.length ≤ i ∧ H' = upd H D (.lst (us.map V.str)), ⟨[], by simp [goodW], Nat.le_refl _, rfl⟩, ?_, ?_, ?_⟩
            · rintro i H' ⟨us, _, _, rfl⟩
              exact .inl (.inl (kp hlH))
            · rintro H' ⟨us, k1, _, rfl⟩
              rw [hds.length, List.take_of_length_le (Nat.le_refl _), hw1] at k1
              cases k1
              refine ⟨" ", D, ws, rfl, rfl, .inl (.inl (.inl upd_same)), hsz.1, ?_⟩
              exact g0 (.str (Txt.join " " ws)) W _ (Step.new h.hok hD) (.str _)
            · rintro i x H' hx ⟨us, k1, k2, rfl⟩
              obtain ⟨d, hd, dd⟩ := hds.getV hx
              obtain ⟨us', wd, b, q1, q2, rfl⟩ := goodW_take hw1 i d hd
              rw [k1] at q1
              cases q1
              have snoc : goodW (ds.take (i + 1)) = some (if b = true then us ++ [wd] else us) := by
                rw [List.take_add_one, hd]
                exact goodW_snoc k1
              have hi : i < ds.length := (List.getElem?_eq_some_iff.mp hd).1
              cases dd with
              | @tup t xs _ ht hxs =>
                cases hxs with
                | cons d1 t1 =>
                  cases t1 with
                  | cons d2 t2 =>
                    cases t2; cases d1; cases d2
                    have l4 : σ.length = 4 := h.env.len.symm
                    rcases σ with _ | ⟨s0, _ | ⟨s1, _ | ⟨s2, _ | ⟨s3, _ | ⟨s4, sr⟩⟩⟩⟩⟩ <;> first | (simp at l4; done) | skip
                    have hlen : us.length < sizeLine := Nat.lt_of_le_of_lt k2 (by have := hsz.2; exact small_line (n := i) (by omega))
                    refine ⟨t, [.str wd, .bl b], rfl, ?_, rfl, gNames_ok (is := [2, 3]) rfl ⟨rfl, ⟨_, rfl, b, rfl, ?_⟩⟩⟩
                    · rw [hc.hot.KG]; exact SqT.mono (fun a o e => kp (h.hok.z a o e)) ht
                    · cases b with
                      | true =>
                        rw [if_pos rfl]
                        refine ⟨_, rfl, us.map V.str, upd_same, by rw [List.length_map]; exact hlen, us ++ [wd], by rw [snoc, if_pos rfl], by rw [List.length_append]; simp; exact k2, ?_⟩
                        rw [List.map_append]
                        exact upd_upd
                      | false =>
                        rw [if_neg Bool.false_ne_true]
                        exact ⟨us, by rw [snoc, if_neg Bool.false_ne_true], Nat.le_succ_of_le k2, rfl⟩
        · cases hz
      · exact g0.elim
    · exact g0.elim

theorem RowsOk.split : ∀ {r rs : List (Str × Str)} {bs : List (Str × Bool)}, RowsOk X.env.scope X.mg X.K C (r ++ rs) bs → ∃ b1 b2, bs = b1 ++ b2 ∧ RowsOk X.env.scope X.mg X.K C r b1 ∧ RowsOk X.env.scope X.mg X.K C rs b2
  | [], rs, bs, h => ⟨[], bs, rfl, .nil, h⟩
  | (w, x) :: r, rs, bs, h => by
    cases h with
    | cons a b c d t =>
      obtain ⟨b1, b2, rfl, k1, k2⟩ := RowsOk.split t
      exact ⟨_, b2, rfl, .cons a b c d k1, k2⟩
/-- the def's text, behind its first row -/
def errSs (sc : Scope) (e v w g : Str) : List Stmt → Option (List (Str × Str))
  | [.Return (some (.Call (.Attribute (.Constant (.str sep) _ _) j apos) [.ListComp (.Name w1 _) [⟨.Tuple [.Name w2 _, .Name g1 _] _ _, .Name v1 _, [.Name g2 _], asy⟩] scope _] [] pos)) _] =>
    if (sep = " " ∧ j = "join" ∧ w1 = w ∧ w2 = w ∧ g1 = g ∧ g2 = g ∧ v1 = v ∧ asy = 0) ∧ (apos.endLine == pos.line) = true ∧ blkC [e, v, w, g] sc scope [(w, 2), (g, 3)] = true ∧ scope.names.lookup w = some .local ∧ scope.names.lookup g = some .local then some [] else none
  | .Assign [.Name v1 _] (.BinOp (.Name v2 _) .Add (.List rows _) _) _ :: ss => if v1 = v ∧ v2 = v then (rowsW e rows).bind fun r => (errSs sc e v w g ss).map fun rs => r ++ rs else none
  | _ => none
def errTop (sc : Scope) (e v w g : Str) : List Stmt → Option (List (Str × Str))
  | .Assign [.Name v1 _] (.List rows _) _ :: ss => if v1 = v then (rowsW e rows).bind fun r => (errSs sc e v w g ss).map fun rs => r ++ rs else none
  | _ => none
theorem joinB_len {ds : List D} {z : Str} (h : joinB ds = some z) : ds.length ≤ 1000 := by
  unfold joinB at h
  obtain ⟨ws, _, h⟩ := Option.bind_eq_some_iff.mp h
  split at h
  · rename_i k; exact k.2
  · cases h
theorem err_tail {sc : Scope} {e v w g : Str} (hc : ErrCx G X p C e v w g) (hs : X.env.scope = sc) : ∀ {ss : List Stmt} {rs : List (Str × Str)} {bs : List (Str × Bool)}, errSs sc e v w g ss = some rs → RowsOk X.env.scope X.mg X.K C rs bs →
    PSs X ss (tS G (cfE p.1) Wx fun env S => match env with | [some (.clo _ _), some (.val (.lst ds)), _, _] => (match joinB (ds ++ bs.map rowD) with | some z => .ret (.str z) S | none => .bad) | _ => .bad) := by
  intro ss
  induction ss with
  | nil => intro rs bs h _; cases h
  | cons st ss ih =>
    intro rs bs h k
    unfold errSs at h
    split at h
    · rename_i heq; cases heq
      split at h
      · rename_i hq
        obtain ⟨⟨a1, a2, a3, a4, a5, a6, a7, a8⟩, q1, q2, q3, q4⟩ := hq
        obtain rfl := a1.symm; obtain rfl := a2.symm; obtain rfl := a3.symm; obtain rfl := a4.symm; obtain rfl := a5.symm; obtain rfl := a6.symm; obtain rfl := a7.symm; obtain rfl := a8.symm
        cases h; cases k
        have ok := blkOk_by q2
        rw [← hs, ← hc.N] at ok
        refine PSs.le (ss_cons (ss_ret (re_join hc ok q3 q4 hc.hl q1)) ss_nil) fun env S nb => ?_
        skip
        split at nb
        · simp only [List.map_nil, List.append_nil] at nb ⊢
          split at nb
          · rename_i hz; first | rfl | (rw [hz]; rfl)
          · exact absurd rfl nb
        · exact absurd rfl nb
      · cases h
    · rename_i heq; cases heq
      split at h
      · rename_i hq
        obtain ⟨a1, a2⟩ := hq
        obtain rfl := a1.symm; obtain rfl := a2.symm
        obtain ⟨r, h1, h2⟩ := Option.bind_eq_some_iff.mp h
        obtain ⟨rs', h3, rfl⟩ := Option.map_eq_some_iff.mp h2
        obtain ⟨b1, b2, rfl, k1, k2⟩ := k.split
        have N1 : X.N[1]? = some v := by rw [hc.N]; rfl
        have hn := hc.db
        rw [hc.N] at hn
        have nv := hn _ (List.mem_cons_of_mem _ List.mem_cons_self)
        refine PSs.le (ss_cons (ss_asg hc.nd N1 (.inl hc.hl) (re_op op_addD (by rw [hc.hot.KG]; exact addD_ok) (re_var N1 (.inl hc.hl) nv.1 nv.2) (re_lst (rows_pa hc h1 k1))) rfl (.inr hc.hl)) (ih h3 k2)) fun env S nb => ?_
        skip
        split at nb
        · rename_i kk cap ds c3 c4
          split at nb
          · rename_i z hz
            have hl := joinB_len hz
            rw [List.length_append, List.map_append, List.length_append, List.length_map, List.length_map] at hl
            have e1 : binD .add (.lst ds) (.lst (b1.map rowD)) = some (.lst (ds ++ b1.map rowD)) := by
              unfold binD
              exact if_pos (Nat.le_of_lt (small_line (by rw [List.length_map]; omega)))
            have e2 : joinB ((ds ++ b1.map rowD) ++ b2.map rowD) = some z := by rw [List.append_assoc, ← List.map_append]; exact hz
            have e3 : isClo [some (.clo kk cap), some (.val (.lst ds)), c3, c4] = true := rfl
            have e4 : Env.val [some (.clo kk cap), some (.val (.lst ds)), c3, c4] 1 = some (.lst ds) := rfl
            have e5 : (b1.map rowD).length ≤ 1000 := by rw [List.length_map]; omega
            simp only [e3, e4, if_true, Out.ofO, Out.bind_ok, e5, e1, Out.st_ok]
            simp only [Env.put, List.length_cons, List.length_nil, List.set_cons_succ, List.set_cons_zero, SOut.bind_nxt]
            rw [List.map_append] at hz
            simp [List.map_append, hz]
          · exact absurd rfl nb
        · exact absurd rfl nb
      · cases h
    · cases h
theorem err_body {sc : Scope} {e v w g : Str} (hc : ErrCx G X p C e v w g) (hs : X.env.scope = sc) {ss : List Stmt} {rs : List (Str × Str)} {bs : List (Str × Bool)} (h : errTop sc e v w g ss = some rs) (k : RowsOk X.env.scope X.mg X.K C rs bs) :
    PSs X ss (tS G (cfE p.1) Wx fun env S => match env with | [some (.clo _ _), _, _, _] => (match joinB (bs.map rowD) with | some z => .ret (.str z) S | none => .bad) | _ => .bad) := by
  unfold errTop at h
  split at h
  · split at h
    · rename_i hq
      obtain rfl := hq.symm
      obtain ⟨r, h1, h2⟩ := Option.bind_eq_some_iff.mp h
      obtain ⟨rs', h3, rfl⟩ := Option.map_eq_some_iff.mp h2
      obtain ⟨b1, b2, rfl, k1, k2⟩ := k.split
      have N1 : X.N[1]? = some v := by rw [hc.N]; rfl
      refine PSs.le (ss_cons (ss_asg hc.nd N1 (.inl hc.hl) (re_lst (rows_pa hc h1 k1)) rfl (.inr hc.hl)) (err_tail hc hs h3 k2)) fun env S nb => ?_
      skip
      split at nb
      · rename_i kk cap c2 c3 c4
        split at nb
        · rename_i z hz
          have hl := joinB_len hz
          rw [List.map_append, List.length_append, List.length_map, List.length_map] at hl
          have e3 : isClo [some (.clo kk cap), c2, c3, c4] = true := rfl
          have e5 : (b1.map rowD).length ≤ 1000 := by rw [List.length_map]; omega
          rw [List.map_append] at hz
          simp only [e3, if_true, Out.bind_ok, e5, Out.st_ok]
          simp only [Env.put, List.length_cons, List.length_nil, List.set_cons_succ, List.set_cons_zero, SOut.bind_nxt]
          simp [hz, List.map_append]
        · exact absurd rfl nb
      · exact absurd rfl nb
    · cases h
  · cases h
end

/-- the def that tells an error's word -/
structure ErrFact (G : Gc) (P : Program) (w : World) (K : PySem.W.Frag) (mg : Str → Option Value) (base : Heap) (err : Nat → Option Str) (f : Addr) : Prop where
  ex : ∃ (fd : FuncData) (ev : Str), Binds K fd [ev] [] ∧ PySem.W.keepIn K (.ref f) = true ∧
    ∀ (A : Around) (outer : List PySem.Env) (s : Shared) (H : Hp) (args : Args) (p : Addr × Obj) (c : Nat) (C : Addr) (wd : Str) (W : Wd) (S : Store) (Q : VK) (E : XK), L2H.RoomH 1 A → L2H.Hot1 A p → L2H.PinOk outer H s p → Env0 P w K mg base A outer s H → BindsTo s fd args [(ev, .ref p.1)] →
      G.ca c = some C → L2N.Zn (.ref C) none p.2 → (∃ vs, p.2.data = .fields vs) → err c = some wd → Hok G W H S → (∀ W' H', Step G W H W' H' S → Q (.str wd) H') → codeAny (model P w) A (.call (.ref f) args) (CR (L2N.CX P w) outer P w H s Q E) s
theorem err_fact {G : Gc} {P : Program} {w : World} {K : PySem.W.Frag} {mg : Str → Option Value} {base : Heap} {err : Nat → Option Str} {f : Addr} {x qual e v wn g : Str} {pa : Arguments} {bd : List Stmt} {sc : Scope} {fd : FuncData} {rs : List (Str × Str)} (F : FunD K x qual pa bd sc [] [] f fd) (hb : Binds K fd [e] []) (S : FnScope [e, v, wn, g] [e] sc) (hK : K = G.K)
    (hl : sc.names.lookup v = some .local) (hi : sc.names.lookup ("isinstance" : Str) = some .globalImplicit) (mi : mg "isinstance" = none) (db : ∀ n ∈ [e, v, wn, g], (n == ("__debug__" : Str)) = false ∧ (n == ("__classdict__" : Str)) = false)
    (ht : errTop sc e v wn g bd = some rs) (hc : ∀ c C wd, G.ca c = some C → err c = some wd → ExcC K C ∧ ∃ bs, RowsOk sc mg K C rs bs ∧ joinB (bs.map rowD) = some wd) : ErrFact G P w K mg base err f := by
  refine ⟨fd, e, hb, F.kp, fun A outer s H args p c C wd W S' Q E hr hot hpin e0 hbt hca hz hf he hk hq => ?_⟩
  obtain ⟨oc, od, dV, kV, doc, pm, an, cdv, ct, osl, rfl, lk, hcd, _, _⟩ := F.ex
  obtain ⟨EC, bs, hbs, hj⟩ := hc c C wd hca he
  have KX : K.In s.heap := e0.mod.kin.keeps fun b o q => (e0.bs b o q).1
  have lim : s.heap.NoLimit := e0.mod.nolimit.keeps fun b o q => (e0.bs b o q).1
  have kinds : ∀ y ∈ [(e, Value.ref p.1)], sc.names.lookup y.1 = some .local ∨ (sc.names.lookup y.1 = some .cell ∧ ((cellsFrom (s.heap.objs.size + 1) sc.names []).lookup y.1).isSome = true) := fun y hy => by
    rw [List.mem_singleton.mp hy]
    cases S.par e List.mem_cons_self with
    | inl q => exact .inl q
    | inr q => exact .inr ⟨q, PySem.W.cellsFrom_some _ _ _ (.inl q)⟩
  refine codeAny_call_function hr.depth (KX _ _ lk) rfl S.co S.gen rfl (PySem.W.codeRec_of KX hcd) (hbt _ _ _ _ ?_)
  refine wpAny_newFunctionEnv_cells S.kind kinds fun env ee s1 xx => ?_
  subst ee
  refine ⟨lim.keeps xx.toInCall.keep, codeAny_func ?_⟩
  have I : Inv (L2H.cxH (L2N.CX P w) P w K mg base [e, v, wn, g] qual sc f cdv A outer s H E p) [] (L2.start [e, v, wn, g] [.ref p.1]) H s1 := L2H.inv_startH (ps := [e]) (us := [.ref p.1]) S hpin e0 rfl (.cons rfl .nil) xx
  have vis : Vis sc e := by
    cases S.par e List.mem_cons_self with
    | inl q => exact .inl q
    | inr q => exact .inr (.inl q)
  have ctx : ErrCx G (L2H.cxH (L2N.CX P w) P w K mg base [e, v, wn, g] qual sc f cdv A outer s H E p) p C e v wn g := ⟨⟨hot, List.mem_cons_self, hz, hf, EC, hK⟩, rfl, S.nd, vis, hl, hi, mi, db⟩
  have body := err_body (Wx := fun _ _ _ _ => False) ctx rfl ht hbs
  refine wpAny_mono (body.run [] s1 _ H { nx := fun _ _ => False, rt := Q } I ⟨W, H, W, [some (.clo 0 []), none, none, none], S', Step.refl hk, ⟨rfl, fun i sl q => ?_, fun i j ds ds' vv hij q1 q2 => ?_⟩, ?_⟩) (fun fl s' hs => ?_) fun er s' hs => hs
  · cases i with
    | zero => cases q; exact ⟨_, rfl, W, Wd.Le.refl W, rfl⟩
    | succ i =>
      exfalso
      rcases i with _ | _ | _ | i <;> cases q
  · exfalso
    rcases i with _ | _ | _ | _ | i <;> cases q1
  · dsimp only
    rw [hj]
    intro vv W' H' st' dv
    cases dv
    exact hq W' H' st'
  · cases fl with
    | ret u =>
      obtain ⟨vv, σ', H', J, rv, q⟩ := hs
      exact ⟨vv, H', J.os, J.bare, J.base, J.hok, rv, q⟩
    | next => obtain ⟨_, _, _, q⟩ := hs; exact q.elim
    | brk => obtain ⟨_, _, _, q⟩ := hs; exact False.elim q
    | cont => obtain ⟨_, _, _, q⟩ := hs; exact False.elim q
/-- return f(e), e the error that is handled -/
theorem suite_err {G : Gc} {X : Cx} {err : Nat → Option Str} {f : Addr} {n i : Nat} {x nm : Str} {p1 p2 pos pos' : Pos} (F : ErrFact G X.prog X.w X.K X.mg X.base err f) (hr : Room (n + 1) X.A) (hN : X.N[i]? = some nm) (hv : Vis X.env.scope nm) (hd : (nm == ("__debug__" : Str)) = false) (hcd : (nm == ("__classdict__" : Str)) = false)
    (hg : Gl X x) (hm : X.mg x = some (.ref f)) (hdb : (x == ("__debug__" : Str)) = false) (a : Addr) (oe : Obj) (cls : Value) (d : Option Addr) (pn : List (Addr × Obj)) (hz : L2N.Zn cls d oe) (hf : ∃ vs, oe.data = .fields vs) :
    PSs (X.suite a ((a, oe) :: pn)) [.Return (some (.Call (.Name x p1) [.Name nm p2] [] pos)) pos'] (tErr G err i a cls d) := by
  refine pss_one (PS.im (ps_ret (te := fun σ H Q => σ[i]? = some (some (.ref a)) ∧ H a = none ∧ d = none ∧ ∃ c C w W S, G.ca c = some C ∧ cls = .ref C ∧ err c = some w ∧ Hok G W H S ∧ ∀ W' H', Step G W H W' H' S → Q (.str w) H') ?_) fun En σ H h => h)
  constructor
  rintro pins s σ H Q I ⟨h1, h2, rfl, c, C, wd, W, S, hca, rfl, he, hk, hq⟩
  obtain ⟨fd, ev, hb, kp, run⟩ := F.ex
  refine wpAny_Call_Name_kw (ld_glob I hg hm ?_ hdb)
  refine PySem.W.callWith_K (h₀ := X.base) I.ok.mod.kin kp (thn ((pa_cons (X := X.suite a ((a, oe) :: pn)) (pe_var (pos := p2) hN hv hd hcd) pa_nil rfl).run pos pins s σ H (fun vs H1 => vs = [.ref a] ∧ H1 = H) I ⟨_, h1, rfl, rfl⟩) fun us s1 hu => ?_) rfl rfl
  obtain ⟨vs, H1, I1, r1, rfl, rfl⟩ := hu
  refine ⟨I1.kIn, ?_⟩
  cases r1 with
  | cons ra rb =>
    cases rb; cases ra
    have P1 := I1.pin (a, oe) (List.mem_append_left _ List.mem_cons_self)
    have hpin : L2H.PinOk X.stack H1 s1 (a, oe) := ⟨P1.1, P1.2.1, fun hm => (List.mem_cons.mp (I1.stkSub a hm)).elim P1.2.2.1 P1.2.2.2.1, P1.2.2.2.2⟩
    obtain ⟨vs0, hv0⟩ := hf
    have hot : L2H.Hot1 (X.suite a ((a, oe) :: pn)).A (a, oe) := ⟨rfl, vs0, hv0, hz.2.2 vs0 hv0⟩
    have room : L2H.RoomH 1 (X.suite a ((a, oe) :: pn)).A := ⟨by have := hr.dp; show X.A.depth + 3 * 1 + 5 < _; omega, by have := hr.un; show X.A.units + 16 * 1 + 200 < _; omega⟩
    have bt := hb s1 [.ref a] I1.kIn rfl
    refine wpAny_call (codeAny_mono (run _ X.stack s1 H1 ⟨[.ref a], []⟩ (a, oe) c C wd W S Q (fun _ _ _ => False) room hot hpin I1.env0 bt hca hz ⟨vs0, hv0⟩ he hk hq) fun r s' hs => ?_)
    cases r with
    | error er =>
      obtain ⟨_, _, _, _, _, _, _, _, _, _, _, _, z⟩ := hs
      exact z.elim
    | ok fl =>
      cases fl with
      | ret u => exact I1.after hs
      | next => exact False.elim hs
      | brk => exact False.elim hs
      | cont => exact False.elim hs
end Pz

/-! Pz15: sorted(set(xs)), xs a list of ints. -/
namespace Pz
open PySem PySem.Spec PyProof.Rows L2

section
variable {P : Program} {w : World} {A : Around} {E : Value → Shared → Prop} {s : Shared}
abbrev sob (w : World) : Obj := { cls := .type "set", dict := none, data := .set #[] 0 (.fresh 0 0 (!w.params.followText "set-order")) }
theorem set_of_list {l : Addr} {its : Array Value} (ns : List Int) {Q : Value → Shared → Prop} (hh : A.handled = none) (hl : s.heap.IsList l its) (hi : IntsAre its.toList ns) (hb : ns.length + 1 < scanBound)
    (h : ∀ (g : Heap) (tk c : Nat), SetR w g s.heap.objs.size (fun j => decide (j ∈ ns)) c → c ≤ ns.length → (∀ b o, s.heap.get? b = some o → g.get? b = some o) → Q (.ref s.heap.objs.size) { s with heap := g, toks := tk }) :
    wpAny (model P w) A (call (.type "set") [.ref l]) Q E s := by
  have sz : its.size = ns.length := by have q := IntsAre.length hi; rw [Array.length_toList] at q; exact q
  obtain ⟨c, tl, hmro⟩ := F.called_set.mro; have hmade := F.called_set.made; have hsub := F.called_set.sub
  refine wpAny_call (codeAny_of_tree ?_); show wpAny _ _ (callAny (.type "set") _) _ _ _
  refine wpAny_pure ⟨Code.quiet_builtin _ (by decide +kernel), codeAny_builtin F.entry_type_call ?_⟩; rw [Around.under_plain (weight_type_call_type "set" [.ref l] []) rfl]
  have h1 := F.called_set.notType; have h2 := F.called_set.canCreate; have hct := F.typeCall_set_1 (.ref l)
  repeat (any_goals (first | assumption | wp_step))
  refine codeAny_mono (code_set_led1 (.ref l) (E := E) (Q₁ := fun obj u => obj = .ref s.heap.objs.size ∧ u = { s with heap := s.heap.push (sob w) }) ⟨rfl, rfl⟩) fun r u hr => ?_
  cases r with
  | error e => exact hr
  | ok fl =>
    cases fl with
    | ret obj =>
      obtain ⟨rfl, rfl⟩ := hr
      have hS : (s.heap.push (sob w)).get? s.heap.objs.size = some (sob w) := Heap.get?_push_size _ rfl
      have hT : Shared.TypeIs { s with heap := s.heap.push (sob w) } (.ref s.heap.objs.size) "set" := ⟨_, hS, rfl⟩
      have hli := F.called_set.init.lookup; have hbi := F.called_set.init.bind (.ref s.heap.objs.size)
      repeat (any_goals (first | assumption | wp_step))
      refine codeAny_mono (codeAny_call_builtin (R := wants (fun r u => r = .none ∧ ∃ g tk c, u = { s with heap := g, toks := tk } ∧ SetR w g s.heap.objs.size (fun j => decide (j ∈ ns)) c ∧ c ≤ ns.length ∧ (∀ b o, s.heap.get? b = some o → g.get? b = some o)) E) F.called_set.init.plain F.entry_set_init (check_set_init_1 hT ?_)) fun r2 u2 hr2 => ?_
      · obtain ⟨⟨oc, od, odat, osl⟩, hol, hcl, nl, hdl⟩ := hl
        simp only at hcl hdl; subst hcl; subst hdl
        have hol' : (s.heap.push (sob w)).get? l = some { cls := .type "list", dict := od, data := .seq its nl, slots := osl } := Heap.get?_push_of_some _ hol
        have hsls := F.sub_list_set; have hslf := F.sub_list_frozenset; have hne : (Value.type "list" == Value.type "dict") = false := by decide
        have hl1 : (s.heap.push (sob w)).IsList l its := ⟨_, hol', rfl, nl, rfl⟩
        unfold Builtin.«set.__init__» noKeywords Builtin.Frozenset.updateFrom; generalize hPI : pyIter = PI
        wp_walk
        subst hPI; refine wpAny_pyIter_list hl1 ?_; refine wpAny_bind (wpAny_runValue ?_)
        have hlS : l < s.heap.objs.size := Heap.lt_size hol
        have h3 : A.in1.in1.in1.handled = none := by simp [hh]
        have hz1 : (s.heap.push (sob w)).objs.size = s.heap.objs.size + 1 := Heap.size_push ..
        have hneI : l ≠ (s.heap.push (sob w)).objs.size := by rw [Heap.size_push]; exact Nat.ne_of_lt (Nat.lt_succ_of_lt hlS)
        have hSf : s.heap.objs.size ∉ [(s.heap.push (sob w)).objs.size, l] := by rw [Heap.size_push]; simp only [List.mem_cons, List.mem_singleton, List.not_mem_nil, or_false, not_or]; exact ⟨Nat.ne_of_lt (Nat.lt_succ_self _), Nat.ne_of_gt hlS⟩
        have hval : ∀ (i : Nat) (v : Value), its[i]? = some v → ∃ k t, ns[i]? = some k ∧ v = .int k t := fun i v hv => by
          have hin : i < ns.length := by rw [← sz]; exact (Array.getElem?_eq_some_iff.mp hv).1
          obtain ⟨t, e⟩ := IntsAre.int_at hi i v (by rw [Array.getElem?_toList]; exact hv)
          exact ⟨ns[i], t, List.getElem?_eq_getElem hin, by rw [e, List.getD_eq_getElem?_getD, List.getElem?_eq_getElem hin] <;> rfl⟩
        refine set_update_ints ((Walks.list h3 _ l hneI its).toS) s.heap.objs.size hSf ns sz hb hval (its.size - 0) 0 _ (by omega) (Nat.zero_le _) ⟨⟨_, Heap.get?_push_size _ rfl, rfl, rfl⟩, (hl1.push _)⟩ ?k0 ?kR
        case k0 =>
          have hget : ((s.heap.push (sob w)).push { cls := .type "list_iterator", data := .fields #[.ref l, .int 0 0] }).get? s.heap.objs.size = some (sob w) := Heap.get?_push_of_some _ hS
          exact ⟨0, Nat.le_refl 0, setR_new_at hget⟩
        case kR =>
          intro u c' hm hc' hS'
          obtain ⟨g, g2, d2, tk2, os2⟩ := u
          obtain rfl : g2 = s.gens := hm.gens; obtain rfl : d2 = s.drawn := hm.drawn; obtain rfl : os2 = s.os := hm.os
          show wpAny _ _ _ _ _ _; refine wpAny_pure ?_; show wpAny _ _ (ret Value.none) _ _ _; rw [sz] at hc'
          refine wpAny_pure ⟨rfl, g, tk2, c', rfl, hS', hc', fun b o e => ?_⟩
          have b0 : b < s.heap.objs.size := Heap.lt_size e
          have b2 : b ≠ (s.heap.push (sob w)).objs.size := by rw [Heap.size_push]; exact Nat.ne_of_lt (Nat.lt_succ_of_lt b0)
          exact hm.heap b o (by simp only [List.mem_cons, List.mem_singleton, List.not_mem_nil, or_false, not_or]; exact ⟨Nat.ne_of_lt b0, b2⟩) (Heap.get?_push_of_some _ (Heap.get?_push_of_some _ e))
      · cases r2 with
        | error e => exact hr2
        | ok fl2 =>
          cases fl2 with
          | ret r =>
            obtain ⟨rfl, g, tk, c', rfl, k1, k2, k3⟩ := hr2
            have fin := h g tk c' k1 k2 k3
            repeat (any_goals (first | assumption | wp_step))
          | _ => exact hr2
    | _ => exact hr
end
section
variable {X : Cx} {G : Gc} {cf : CF} {Wx : WX} {a : Expr} {evA : Env → Store → Out D} {pos : Pos}
theorem call_setL (hc : X.calm = true) : CallR X (.type "set") (fun xs H Q => ∃ (l : Addr) (ns : List Int), xs = [.ref l] ∧ SqL X.K H l (ns.map V.int) ∧ ns.length < 60 ∧ ∀ p c, c ≤ ns.length → H p = none → Q (.ref p) (upd H p (SetO X.w p (fun j => decide (j ∈ ns)) c))) := by
  rintro pins s σ H xs us Q I r ⟨l, ns, rfl, hq, hl, q⟩
  rw [Vals.ref1 r]
  obtain ⟨its, rv, pl, hz⟩ := I.list hq
  refine set_of_list ns (I.ok.hd hc) pl.isList (ints_of_vals (by simpa using rv)) (by unfold scanBound; omega) fun g tk c R hcn k => ?_
  have hn : H s.heap.objs.size = none := I.hok.fresh (Nat.le_refl _)
  exact ⟨.ref _, _, I.laid (t' := tk) k (Nat.le_refl _) (setO_new R), rfl, q _ c hcn hn⟩
theorem insI_mem {k : Int} {n : Int} : ∀ {l : List Int}, k ∈ insI n l ↔ k = n ∨ k ∈ l
  | [] => by simp [insI]
  | m :: l => by
    unfold insI
    split
    · simp
    · split
      · rename_i h1 h2
        simp
        intro e
        omega
      · simp [insI_mem (l := l)]
        constructor
        · rintro (h | h | h)
          · exact .inr (.inl h)
          · exact .inl h
          · exact .inr (.inr h)
        · rintro (h | h | h)
          · exact .inr (.inl h)
          · exact .inl h
          · exact .inr (.inr h)
theorem insI_sorted {n : Int} : ∀ {l : List Int}, l.Pairwise (· < ·) → (insI n l).Pairwise (· < ·)
  | [], _ => by simp [insI]
  | m :: l, h => by
    rw [List.pairwise_cons] at h
    unfold insI
    split
    · rename_i h1
      refine List.pairwise_cons.mpr ⟨fun k hk => ?_, List.pairwise_cons.mpr h⟩
      rcases List.mem_cons.mp hk with rfl | hk
      · exact h1
      · exact Int.lt_trans h1 (h.1 k hk)
    · split
      · exact List.pairwise_cons.mpr h
      · rename_i h1 h2
        refine List.pairwise_cons.mpr ⟨fun k hk => ?_, insI_sorted h.2⟩
        rcases insI_mem.mp hk with rfl | hk
        · omega
        · exact h.1 k hk
theorem sortI_mem {k : Int} : ∀ {ns : List Int}, k ∈ sortI ns ↔ k ∈ ns
  | [] => by simp [sortI]
  | n :: ns => by
    show k ∈ insI n (sortI ns) ↔ _
    rw [insI_mem, sortI_mem, List.mem_cons]
theorem sortI_sorted : ∀ {ns : List Int}, (sortI ns).Pairwise (· < ·)
  | [] => by simp [sortI]
  | n :: ns => insI_sorted sortI_sorted
theorem sorted_uniq : ∀ {l m : List Int}, l.Pairwise (· < ·) → m.Pairwise (· < ·) → (∀ k, k ∈ l ↔ k ∈ m) → l = m
  | [], [], _, _, _ => rfl
  | [], b :: m, _, _, h => by have := (h b).mpr List.mem_cons_self; simp at this
  | a :: l, [], _, _, h => by have := (h a).mp List.mem_cons_self; simp at this
  | a :: l, b :: m, hl, hm, h => by
    rw [List.pairwise_cons] at hl hm
    have e : a = b := by
      have h1 := (h a).mp List.mem_cons_self
      have h2 := (h b).mpr List.mem_cons_self
      rcases List.mem_cons.mp h1 with e | h1
      · exact e
      · rcases List.mem_cons.mp h2 with e | h2
        · exact e.symm
        · have := hl.1 b h2; have := hm.1 a h1; omega
    subst e
    rw [sorted_uniq hl.2 hm.2 fun k => ?_]
    constructor
    · intro hk
      rcases List.mem_cons.mp ((h k).mp (List.mem_cons_of_mem _ hk)) with e | z
      · have := hl.1 k hk; omega
      · exact z
    · intro hk
      rcases List.mem_cons.mp ((h k).mpr (List.mem_cons_of_mem _ hk)) with e | z
      · have := hm.1 k hk; omega
      · exact z
theorem ints_dats {G : Gc} {W : Wd} : ∀ ns : List Int, Dats G W (ns.map V.int) (ns.map D.int)
  | [] => .nil
  | n :: ns => .cons (.int n) (ints_dats ns)
/-- sorted(set(xs)) -/
theorem re_sortedSet {p p2 pos2 : Pos} (hKG : X.K = G.K) (hc : X.calm = true) (hg : Gl X "sorted") (hm : X.mg "sorted" = none) (hg2 : Gl X "set") (hm2 : X.mg "set" = none) (ha : PE X a (tE G cf Wx evA)) (na : starEach [a] X.env = (false, eval a X.env) :: starEach [] X.env) :
    PE X (.Call (.Name "sorted" p) [.Call (.Name "set" p2) [a] [] pos2] [] pos) (tE G cf Wx fun env S => ((evA env S).bind fun d S => .ok [d] S).bind fun ds S => .ofO (primD .sortedSet ds) S) := by
  refine (pe_callB (cr_sortedSet (X := X) hc) hg hm (by decide +kernel) (pa_cons (pe_callTy (call_setL (X := X) hc) hg2 hm2 PyProof.Rows.boot_set (pa_cons ha pa_nil na) (by decide) (by decide) na rfl) pa_nil rfl) (by decide) (by decide) rfl rfl).im fun σ H Q ⟨W, H0, env, S, h, g⟩ => ?_
  have assoc : ((evA env S).bind fun d S => (.ok [d] S : Out (List D))).bind (fun ds S => Out.ofO (primD .sortedSet ds) S) = (evA env S).bind fun d S => Out.ofO (primD .sortedSet [d]) S := by cases evA env S <;> rfl
  dsimp only at g
  rw [assoc] at g
  refine tR.seq h g fun x W1 H1 S1 d s1 dx h1 g1 => ?_
  cases dx <;> first | (exact (show False from g1).elim) | skip
  rename_i l vs ds hl hds
  cases e : primD .sortedSet [.lst ds] with
  | none => rw [e] at g1; exact (show False from g1).elim
  | some r =>
    rw [e] at g1
    simp only [primD] at e
    obtain ⟨ns, e1, e2⟩ := Option.bind_eq_some_iff.mp e
    split at e2
    · rename_i h60
      cases e2
      have ed := ofInts_eq e1
      subst ed
      have ev := hds.ints
      subst ev
      refine ⟨l, ns, rfl, .inl (.inl (h1.hok.z _ _ hl)), h60, fun p c hcn hp => ?_⟩
      have st1 : Step G W1 H1 W1 (upd H1 p (SetO X.w p (fun j => decide (j ∈ ns)) c)) S1 := Step.new h1.hok hp
      refine ⟨p, _, c, rfl, upd_same, by omega, fun ms q hs hmem hlen hq => ?_⟩
      have em : ms = sortI ns := sorted_uniq hs sortI_sorted fun k => by rw [hmem, sortI_mem]; simp
      subst em
      have st2 := Step.newZ st1.ok (o := .lst ((sortI ns).map V.int)) hq (fun ps z => by cases z)
      exact g1 (.ref q) _ _ (st1.trans st2) (.lst (Wd.add_at _ _ _) (ints_dats _))
    · cases e2
end
end Pz

/-! Pz53: sorted(xs, key=sum), sorted(xs, key=len), xs a list of tuples. -/
namespace Pz
open PySem PySem.Spec PyProof.Rows L2
def byK (k : D → Int) (a b : D) : Bool := decide (k a ≤ k b)
theorem byK_total (k : D → Int) : PySem.W.TotalLe (byK k) where
  trans a b c h1 h2 := by simp only [byK, decide_eq_true_eq] at *; omega
  total a b := by simp only [byK, decide_eq_true_eq]; omega
theorem insBy_mem {k : D → Int} {a x : D} : ∀ {l : List D}, x ∈ insBy k a l ↔ x = a ∨ x ∈ l
  | [] => by simp [insBy]
  | b :: r => by
    unfold insBy
    split
    · simp
    · simp [insBy_mem (l := r)]
      constructor
      · rintro (h | h | h)
        · exact .inr (.inl h)
        · exact .inl h
        · exact .inr (.inr h)
      · rintro (h | h | h)
        · exact .inr (.inl h)
        · exact .inl h
        · exact .inr (.inr h)
theorem insBy_sorted {k : D → Int} {a : D} : ∀ {l : List D}, l.Pairwise (fun x y => byK k x y = true) → (insBy k a l).Pairwise (fun x y => byK k x y = true)
  | [], _ => by simp [insBy]
  | b :: r, h => by
    have h' := List.pairwise_cons.mp h
    unfold insBy
    split
    · rename_i h1
      refine List.pairwise_cons.mpr ⟨fun x hx => ?_, h⟩
      rcases List.mem_cons.mp hx with rfl | hx
      · simp [byK, h1]
      · have := h'.1 x hx
        simp only [byK, decide_eq_true_eq] at *; omega
    · rename_i h1
      refine List.pairwise_cons.mpr ⟨fun x hx => ?_, insBy_sorted h'.2⟩
      rcases insBy_mem.mp hx with rfl | hx
      · simp only [byK, decide_eq_true_eq]; omega
      · exact h'.1 x hx
theorem insBy_same {k : D → Int} {a c : D} : ∀ {l : List D}, (insBy k a l).filter (PySem.W.sameRank (byK k) c) = (a :: l).filter (PySem.W.sameRank (byK k) c)
  | [] => rfl
  | b :: r => by
    unfold insBy
    split
    · rfl
    · rename_i h1
      rw [List.filter_cons, insBy_same (l := r), List.filter_cons, List.filter_cons, List.filter_cons]
      by_cases p : PySem.W.sameRank (byK k) c a = true
      · have q : ¬ PySem.W.sameRank (byK k) c b = true := by
          simp only [PySem.W.sameRank, byK, Bool.and_eq_true, decide_eq_true_eq] at *
          omega
        simp [p, q]
      · simp [p]
theorem sortBy_sorted {k : D → Int} : ∀ {l : List D}, (sortBy k l).Pairwise (fun x y => byK k x y = true)
  | [] => by simp [sortBy]
  | a :: l => insBy_sorted (sortBy_sorted (l := l))
theorem sortBy_same {k : D → Int} {c : D} : ∀ {l : List D}, (sortBy k l).filter (PySem.W.sameRank (byK k) c) = l.filter (PySem.W.sameRank (byK k) c)
  | [] => rfl
  | a :: l => by
    show (insBy k a (sortBy k l)).filter _ = _
    rw [insBy_same, List.filter_cons, sortBy_same (l := l), ← List.filter_cons]
theorem sortBy_merge (k : D → Int) (l : List D) : sortBy k l = l.mergeSort (byK k) := PySem.W.sort_unique (byK_total k) sortBy_sorted fun _ => sortBy_same
theorem sortBy_mem {k : D → Int} {x : D} : ∀ {l : List D}, x ∈ sortBy k l ↔ x ∈ l
  | [] => by simp [sortBy]
  | a :: l => by
    show x ∈ insBy k a (sortBy k l) ↔ _
    rw [insBy_mem, sortBy_mem, List.mem_cons]
theorem insBy_len {k : D → Int} {a : D} : ∀ {l : List D}, (insBy k a l).length = l.length + 1
  | [] => rfl
  | b :: r => by
    unfold insBy
    split
    · rfl
    · rw [List.length_cons, insBy_len, List.length_cons]
theorem sortBy_len {k : D → Int} : ∀ {l : List D}, (sortBy k l).length = l.length
  | [] => rfl
  | a :: l => by
    show (insBy k a (sortBy k l)).length = _
    rw [insBy_len, sortBy_len]; rfl

/-- the key of a tuple; true: its sum, false: its length -/
def keyD (b : Bool) : D → Int := if b then sumK else lenK
def keyN (b : Bool) : String := if b then "sum" else "len"
def keyOk (b : Bool) (ys : List V) (k : Int) : Prop := if b then ∃ ns : List Int, ys = ns.map V.int ∧ k = ns.sum else k = ys.length
def leZ (b : Bool) (z w : V × D) : Bool := byK (keyD b) z.2 w.2
def rSortB (K : PySem.W.Frag) (b : Bool) : List V → Hp → VK → Prop := fun vs H Q => ∃ (a : Addr) (zs : List (V × D)), vs = [V.ref a] ∧ SqL K H a (zs.map (·.1)) ∧ zs.length ≤ 100000 ∧
  (∀ z ∈ zs, ∃ p ys, z.1 = V.ref p ∧ SqT K H p ys ∧ keyOk b ys (keyD b z.2)) ∧ ∀ p, H p = none → Q (.ref p) (upd H p (.lst ((zs.mergeSort (leZ b)).map (·.1))))
section
variable {prog : Program} {w : World} {A : Around} {s s₀ : Shared}
/-- a value, its tuple in a heap, its key -/
def RZ (b : Bool) (h : Heap) (v : Value) (z : V × D) : Prop := RelV z.1 v ∧ ∃ p its, v = .ref p ∧ IsTup h p its ∧ (if b then ∃ ns, IntsAre its.toList ns ∧ keyD b z.2 = ns.sum else keyD b z.2 = its.size ∧ its.size ≤ sizeLine)
theorem key_turn {b : Bool} {v : Value} {z : V × D} {h : Heap} {tk : Nat} (hh : A.handled = none) (r : RZ b s.heap v z) (k : ∀ a o, s.heap.get? a = some o → h.get? a = some o) :
    wpAny (model prog w) A (call (.builtin (keyN b)) [v]) (PySem.W.KeyPure (.int (keyD b z.2)) { s with heap := h, toks := tk }) (fun _ _ => False) { s with heap := h, toks := tk } := by
  obtain ⟨_, p, its, rfl, ⟨o, ho, hc, n, hd⟩, hk⟩ := r
  have ht : IsTup h p its := ⟨o, k _ _ ho, hc, n, hd⟩
  cases b with
  | true =>
    obtain ⟨ns, hi, e⟩ := hk
    refine sum_rawT (its := its.toList) hh (by simpa using ht) hi fun h' tk' t' k' => ?_
    rw [e]
    exact ⟨h', tk', rfl, k', .int _ _⟩
  | false =>
    obtain ⟨e, hz⟩ := hk
    have := sizeLine_eq
    refine len_tuple ht (by omega) ?_
    rw [e]
    exact ⟨h, _, rfl, fun _ _ q => q, .int _ _⟩
end
section
variable {X : Cx} {b : Bool}
theorem each_of_paired {h : Heap} : ∀ {zs : List (V × D)} {its : List Value}, Vals (zs.map (·.1)) its → (∀ v z, z ∈ zs → RelV z.1 v → RZ b h v z) → PySem.W.EachIs (RZ b h) its zs
  | [], its, r, _ => by cases r; exact .nil
  | z :: zs, its, r, f => by
    cases r with
    | cons r t => exact .cons (f _ z List.mem_cons_self r) (each_of_paired t fun v y hy => f v y (List.mem_cons_of_mem _ hy))
theorem vals_of_each {h : Heap} : ∀ {zs : List (V × D)} {its : List Value}, PySem.W.EachIs (RZ b h) its zs → Vals (zs.map (·.1)) its
  | [], its, r => by cases r; exact .nil
  | z :: zs, its, r => by
    cases r with
    | cons r t => exact .cons r.1 (vals_of_each t)
theorem run_sortB {pins : List (Addr × Obj)} {s : Shared} {σ : L2.St} {H : Hp} {xs : List V} {us : List Value} {Q : VK} (hc : X.calm = true) (hu : X.A.units + 65 < cLine) (I : Inv X pins σ H s) (r : Vals xs us) (h : rSortB X.K b xs H Q) :
    wpAny (model X.prog X.w) X.A (call (.builtin "sorted") us [(Str.ofString "key", .builtin (keyN b))]) (EP X pins σ Q) X.xe s := by
  obtain ⟨a, zs, rfl, hs, hl, hz, q⟩ := h
  obtain rfl := Vals.ref1 r
  obtain ⟨its, rv, pl, hsz⟩ := I.list hs
  have hsl := sizeLine_eq
  have each : PySem.W.EachIs (RZ b s.heap) its zs := each_of_paired rv fun v z hm rz => by
    obtain ⟨p, ys, e, ht, hk⟩ := hz z hm
    refine ⟨rz, ?_⟩
    rw [e] at rz
    cases rz
    obtain ⟨its2, rv2, hl2, hz2⟩ := I.tuple ht
    refine ⟨p, its2.toArray, rfl, hl2, ?_⟩
    cases b with
    | true =>
      obtain ⟨ns, rfl, ek⟩ := hk
      exact ⟨ns, by simpa using rv2.ints, ek⟩
    | false =>
      have hk : keyD false z.2 = ys.length := hk
      have := rv2.length
      refine ⟨by rw [hk]; simp [this], by simp; omega⟩
  refine PySem.W.sorted_key_data (b := false) (fun z : V × D => .int (keyD b z.2)) pl.isList each (PySem.W.AllAlike.of fun _ _ => by simp [PySem.W.alike]) (PySem.W.Sortable.others fun _ => And.intro (fun e => by cases e) (fun _ e => by cases e)) (by omega) (fun z _ => ?_) (ksk_s1 _ _) (fun _ => ksk_l1 _ _) (fun _ => ksk_t4 _ _) (fun v z hR _ h tk k => key_turn (by simp [I.ok.hd hc]) hR k) fun out c h' tk k fr hq hlen eo => ?_
  · simp [PyData.depth]; omega
  · have em : zs.mergeSort (PySem.W.dataLe false fun z : V × D => PyData.int (keyD b z.2)) = zs.mergeSort (leZ b) := by
      rw [PySem.W.dataLe_int]; rfl
    rw [em] at eo
    refine ⟨.ref _, upd H (s.heap.objs.size + 1) (.lst ((zs.mergeSort (leZ b)).map (·.1))), I.laid (t' := tk) k (Nat.le_succ _) ⟨?_, out, c, vals_of_each eo, hq⟩, rfl, q _ (I.hok.fresh (Nat.le_succ _))⟩
    rw [List.length_map, List.length_mergeSort]; omega
theorem pe_sortB {a : Expr} {ta : TA} {p p2 kp pos : Pos} (hc : X.calm = true) (hu : X.A.units + 65 < cLine) (hg : Gl X "sorted") (hm : X.mg "sorted" = none) (hg2 : Gl X (keyN b)) (hm2 : X.mg (keyN b) = none) (ha : PA X [a] ta) (na : starEach [a] X.env = (false, eval a X.env) :: starEach [] X.env) :
    PE X (.Call (.Name "sorted" p) [a] [⟨some "key", .Name (keyN b) p2, kp⟩] pos) (tCB (rSortB X.K b) ta) := by
  refine ⟨fun pins s σ H Q I h => ?_⟩
  refine wpAny_Call_Name_kw (ld_blt I hg hm (u := .builtin "sorted") (by decide +kernel) ?_ (by decide) (by decide))
  refine PyProof.Rows.callWith_kw (thn (ha.run pos pins s σ H _ I h) fun us s1 ⟨vs, H1, I1, r1, q1⟩ => ?_) (by rw [na]; rfl) (by rw [na]; rfl)
  show wpAny _ _ (evalAll ((do let v ← eval (.Name (keyN b) p2) X.env; standAt pos; pure v) :: [])) _ _ s1
  refine wpAny_evalAll_cons (wpAny_bind (ld_blt I1 hg2 hm2 (u := .builtin (keyN b)) (by cases b <;> decide +kernel) ?_ (by cases b <;> decide) (by cases b <;> decide)))
  refine wpAny_bind (wpAny_standAt (wpAny_pure (wpAny_evalAll_nil ?_)))
  exact run_sortB hc hu I1 r1 q1
end
section
variable {X : Cx} {G : Gc} {cf : CF} {Wx : WX} {a : Expr} {b : Bool}
def primB (b : Bool) : Prim := if b then .sortSum else .sortLen
theorem sortB_ok : PrimR G (primB b) (rSortB G.K b) := by
  intro W S vs ds d H Q hk hd e hq
  obtain ⟨l, rfl, hl⟩ : ∃ l : List D, ds = [.lst l] ∧ l.length ≤ 100000 ∧ (l.all fun d => if b then isIT d else isTp d) = true ∧ d = .lst (sortBy (keyD b) l) := by
    cases b <;> (
      rcases ds with _ | ⟨d1, _ | ⟨d2, r⟩⟩ <;> first | (exfalso; revert e; simp [primD, primB]; done) | skip
      cases d1 <;> first | (exfalso; revert e; simp [primD, primB]; done) | skip
      rename_i l
      simp only [primD, primB, Bool.false_eq_true, if_false, if_true] at e
      split at e
      · rename_i h
        rw [Bool.and_eq_true, Nat.ble_eq] at h
        cases e
        exact ⟨l, rfl, h.1, by simpa using h.2, rfl⟩
      · cases e)
  obtain ⟨hlen, hall, rfl⟩ := hl
  obtain ⟨v, rfl, dv⟩ := hd.one
  cases dv with
  | lst h hs =>
    rename_i p vs
    have hvl := hs.length
    have e1 : (vs.zip l).map (·.1) = vs := List.map_fst_zip (by omega)
    have e2 : (vs.zip l).map (·.2) = l := List.map_snd_zip (by omega)
    have dz : ∀ {vs : List V} {l : List D}, Dats G W vs l → ∀ z ∈ vs.zip l, Dat G W z.1 z.2 := by
      intro vs
      induction vs with
      | nil => intro l hs z hz; simp at hz
      | cons v vs ih =>
        intro l hs z hz
        cases hs with
        | cons h t =>
          rw [List.zip_cons_cons] at hz
          rcases List.mem_cons.mp hz with rfl | hz
          · exact h
          · exact ih t z hz
    refine ⟨p, vs.zip l, rfl, by rw [e1]; exact SqL.of (hk.z _ _ h), by rw [List.length_zip]; omega, fun z hz => ?_, fun q hn => ?_⟩
    · have dd := dz hs z hz
      have hi := List.all_eq_true.mp hall z.2 (List.of_mem_zip hz).2
      obtain ⟨zv, zd⟩ := z
      cases b with
      | true =>
        cases dd <;> first | (exfalso; revert hi; simp [isIT]; done) | skip
        rename_i p2 ys xs ht hy
        have hi' : (D.ofInts? xs).isSome = true := by simpa [isIT] using hi
        obtain ⟨ns, en⟩ := Option.isSome_iff_exists.mp hi'
        have ex := ofInts_eq en
        subst ex
        have ey := hy.ints
        subst ey
        refine ⟨p2, ns.map V.int, rfl, SqT.mono hk.z ht, ns, rfl, ?_⟩
        show sumK (D.tup (ns.map D.int)) = ns.sum
        simp [sumK, en]
      | false =>
        cases dd <;> first | (exfalso; revert hi; simp [isTp]; done) | skip
        rename_i p2 ys xs ht hy
        refine ⟨p2, ys, rfl, SqT.mono hk.z ht, ?_⟩
        show lenK (D.tup xs) = (ys.length : Int)
        simp [lenK, hy.length]
    · have st := Step.newZ hk (o := .lst (((vs.zip l).mergeSort (leZ b)).map (·.1))) hn (fun ps z => by cases z)
      refine hq _ _ _ st (.lst (W.add_at q _) ?_)
      have es : sortBy (keyD b) l = ((vs.zip l).mergeSort (leZ b)).map (·.2) := by
        have := PySem.W.sort_maps (r := leZ b) (s := byK (keyD b)) (fun z : V × D => z.2) (l := vs.zip l) (fun _ _ _ _ => rfl)
        rw [this, e2, sortBy_merge]
      rw [es]
      have all : ∀ z ∈ (vs.zip l).mergeSort (leZ b), Dat G W z.1 z.2 := fun z hz => dz hs z (List.mem_mergeSort.mp hz)
      have up : ∀ {zs : List (V × D)}, (∀ z ∈ zs, Dat G (W.add q (.lst (((vs.zip l).mergeSort (leZ b)).map (·.1)))) z.1 z.2) → Dats G (W.add q (.lst (((vs.zip l).mergeSort (leZ b)).map (·.1)))) (zs.map (·.1)) (zs.map (·.2)) := by
        intro zs
        induction zs with
        | nil => intro _; exact .nil
        | cons z zs ih => intro h; exact .cons (h z List.mem_cons_self) (ih fun y hy => h y (List.mem_cons_of_mem _ hy))
      exact up fun z hz => (all z hz).up st.le
  | _ => skip
theorem re_sortB {evs : Env → Store → Out (List D)} {p p2 kp pos : Pos} (hKG : X.K = G.K) (hc : X.calm = true) (hu : X.A.units + 65 < cLine) (hg : Gl X "sorted") (hm : X.mg "sorted" = none) (hg2 : Gl X (keyN b)) (hm2 : X.mg (keyN b) = none) (ha : PA X [a] (tA G cf Wx evs)) (na : starEach [a] X.env = (false, eval a X.env) :: starEach [] X.env) :
    PE X (.Call (.Name "sorted" p) [a] [⟨some "key", .Name (keyN b) p2, kp⟩] pos) (tE G cf Wx fun env S => (evs env S).bind fun ds S => .ofO (primD (primB b) ds) S) :=
  re_primA (by rw [hKG]; exact sortB_ok) (pe_sortB hc hu hg hm hg2 hm2 ha na)
end
end Pz

/-! Pz16: a text of the language matched with a text of the program. -/
namespace Pz
open PySem PySem.Spec PyProof.Rows L2

/-- what global names mean -/
structure Tb where
  fns : List (Str × Nat)
  cls : List (Str × Nat)
  cons : List (Str × Nat)
  bl : List Str
/-- a block's names -/
structure Ck where
  N : List Str
  sc : Scope
  fc : Str → Bool
  clo : Bool
  mkr : Bool
  qual : Str
abbrev LamE := Nat × LamR
def okB (b : Bool) : Option (List LamE) := if b = true then some [] else none
def both (a b : Option (List LamE)) : Option (List LamE) := a.bind fun x => b.map fun y => x ++ y
theorem okB_some {b : Bool} {ls : List LamE} (h : okB b = some ls) : b = true ∧ ls = [] := by
  unfold okB at h
  split at h
  · cases h; exact ⟨by assumption, rfl⟩
  · cases h
theorem both_some {a b : Option (List LamE)} {ls : List LamE} (h : both a b = some ls) : ∃ x y, a = some x ∧ b = some y ∧ ls = x ++ y := by
  unfold both at h
  obtain ⟨x, h1, h2⟩ := Option.bind_eq_some_iff.mp h
  obtain ⟨y, h3, rfl⟩ := Option.map_eq_some_iff.mp h2
  exact ⟨x, y, h1, h3, rfl⟩
def nDbg (x : Str) : Bool := !(x == ("__debug__" : Str)) && !(x == ("__classdict__" : Str)) && !(x == ("__name__" : Str))
def visN (sc : Scope) (x : Str) : Bool := match sc.names.lookup x with
  | some .local => true
  | some .cell => true
  | some .free => true
  | _ => false
def Ck.vis (ck : Ck) (i : Nat) (x : Str) : Bool := decide (ck.N[i]? = some x) && visN ck.sc x && nDbg x
def Ck.gl (ck : Ck) (x : Str) : Bool := decide (ck.sc.names.lookup x = some .globalImplicit) && nDbg x
def Ck.blt (ck : Ck) (T : Tb) (x : Str) : Bool := ck.gl x && T.bl.contains x
def Ck.sto (ck : Ck) (i : Nat) (x : Str) : Bool := decide (ck.N[i]? = some x) && (decide (ck.sc.names.lookup x = some .local) || (decide (ck.sc.names.lookup x = some .cell) && ck.fc x))
def Ck.blk (ck : Ck) (scope : Scope) : Ck := { ck with sc := relS scope ck.sc, fc := fun x => scope.names.lookup x == some .cell, clo := false }
def conB : Const → D → Bool
  | .none, .non => true
  | .bool b, .bl c => b == c
  | .int i, .int j => decide (i = j)
  | .str s, .str z => decide (s = z)
  | _, _ => false
def opOf : BOp → Operator
  | .add => .Add
  | .sub => .Sub
  | .mul => .Mult
  | .fdiv => .FloorDiv
  | .mod => .Mod
  | .pow => .Pow
def cmpOf : COp → CmpOp
  | .lt => .Lt
  | .le => .LtE
  | .gt => .Gt
  | .ge => .GtE
  | .eq => .Eq
  | .ne => .NotEq
  | .isN => .Is
  | .notN => .IsNot
  | .in_ => .In
  | .notIn => .NotIn
def opE : Operator → Operator → Bool
  | .Add, .Add => true
  | .Sub, .Sub => true
  | .Mult, .Mult => true
  | .FloorDiv, .FloorDiv => true
  | .Mod, .Mod => true
  | .Pow, .Pow => true
  | _, _ => false
def cmpE : CmpOp → CmpOp → Bool
  | .Lt, .Lt => true
  | .LtE, .LtE => true
  | .Gt, .Gt => true
  | .GtE, .GtE => true
  | .Eq, .Eq => true
  | .NotEq, .NotEq => true
  | .Is, .Is => true
  | .IsNot, .IsNot => true
  | .In, .In => true
  | .NotIn, .NotIn => true
  | _, _ => false
theorem opE_eq {a b : Operator} (h : opE a b = true) : a = b := by cases a <;> cases b <;> first | rfl | cases h
theorem cmpE_eq {a b : CmpOp} (h : cmpE a b = true) : a = b := by cases a <;> cases b <;> first | rfl | cases h
def noSet : Expr → Bool
  | .Set _ _ _ => false
  | _ => true
def noSlc : Expr → Bool
  | .Slice _ _ _ _ => false
  | _ => true
def noComp : Expr → Bool
  | .ListComp _ _ _ _ => false
  | .SetComp _ _ _ _ => false
  | .DictComp _ _ _ _ _ => false
  | _ => true
/-- a built-in's name and how many things it takes; kind: 0 a function, 1 a type -/
def primNm : Prim → Option (Str × Nat)
  | .len => some ("len", 1)
  | .abs => some ("abs", 1)
  | .max1 => some ("max", 1)
  | .min1 => some ("min", 1)
  | .max2 => some ("max", 2)
  | .min2 => some ("min", 2)
  | .sum => some ("sum", 1)
  | .all => some ("all", 1)
  | .any => some ("any", 1)
  | .tuple => some ("tuple", 1)
  | .list => some ("list", 1)
  | .int => some ("int", 1)
  | _ => none
/-- the names of two calls, one in the other -/
def primNm2 : Prim → Option (Str × Str)
  | .sortedSet => some ("sorted", "set")
  | .tupRange => some ("tuple", "range")
  | .listRange => some ("list", "range")
  | _ => none
/-- sorted with a key: the key's name -/
def primKw : Prim → Option Str
  | .sortSum => some "sum"
  | .sortLen => some "len"
  | _ => none
def tyNm : Ty → Str
  | .int => "int"
  | .bool => "bool"
  | .tuple => "tuple"
  | .str => "str"
  | .list => "list"
/-- what a loop's iterator is made of -/
def srcArgs (T : Tb) (ck : Ck) (k : SrcK) (t iter : Expr) : Option (List Expr) := match k with
  | .seq => if noSet iter = true then some [iter] else none
  | .range1 => match iter with
    | .Call (.Name f _) [x] [] _ => if f = "range" ∧ ck.blt T f = true then some [x] else none
    | _ => none
  | .range2 => match iter with
    | .Call (.Name f _) [x, y] [] _ => if f = "range" ∧ ck.blt T f = true then some [x, y] else none
    | _ => none
  | .zip => match t, iter with
    | .Tuple _ _ _, .Call (.Name f _) [x, y] [] _ => if f = "zip" ∧ ck.blt T f = true then some [x, y] else none
    | _, _ => none
  | .enum => match t, iter with
    | .Tuple _ _ _, .Call (.Name f _) [x] [] _ => if f = "enumerate" ∧ ck.blt T f = true then some [x] else none
    | _, _ => none
mutual
/-- targets -/
def mTg (ck : Ck) : Tg → Expr → Bool
  | .nm i, e => match e with
    | .Name x _ => ck.sto i x
    | _ => false
  | .tp ts, e => match e with
    | .Tuple es _ _ => mTgs ck ts es
    | _ => false
def mTgs (ck : Ck) : Tgs → List Expr → Bool
  | .nil, es => match es with
    | [] => true
    | _ => false
  | .cons t ts, es => match es with
    | e :: es => mTg ck t e && mTgs ck ts es
    | [] => false
end
def ownL (ck : Ck) (own : List Nat) : List (Str × Nat) := own.map fun i => ((ck.N[i]?).getD "", i)
def argNames (p : Arguments) : Option (List Str) := match p with
  | ⟨[], as, none, [], [], none, []⟩ => some (as.map fun a => a.arg)
  | _ => none
/-- a lambda that is made here -/
def lamOf (ck : Ck) (cis : List Nat) (params : Arguments) (body : Expr) (scope : Scope) : Option LamR := match argNames params with
  | some ps => if ck.mkr = true ∧ (scope.names.all fun y => (match y.2 with
      | .free => (match ck.sc.names.lookup y.1 with | some .cell => true | some .free => true | _ => false)
      | _ => true) && decide (scope.names.lookup y.1 = some y.2)) = true ∧ (cis.all fun i => match ck.N[i]? with
      | some n => scope.names.contains (n, .free)
      | none => false) = true then some ⟨ck.qual ++ "<lambda>", params, body, scope, ps, cis.map fun i => (ck.N[i]?).getD ""⟩ else none
  | none => none
mutual
def mE (T : Tb) (ck : Ck) : IE → Expr → Option (List LamE)
  | .var i, e => match e with
    | .Name x _ => okB (ck.vis i x)
    | _ => none
  | .con d, e => match e with
    | .Constant c _ _ => okB (conB c d)
    | _ => none
  | .glob k, e => match e with
    | .Name x _ => okB (ck.gl x && decide (T.cons.lookup x = some k))
    | _ => none
  | .fnv k, e => match e with
    | .Name x _ => okB (ck.gl x && decide (T.fns.lookup x = some k))
    | _ => none
  | .tup es, e => match e with
    | .Tuple xs _ _ => mEs T ck es xs
    | _ => none
  | .lst es, e => match e with
    | .List xs _ => mEs T ck es xs
    | _ => none
  | .cel es, e => match e with
    | .List xs _ => mEs T ck es xs
    | _ => none
  | .bin op a b, e => match e with
    | .BinOp x o y _ => if opE (opOf op) o = true then both (mE T ck a x) (mE T ck b y) else none
    | _ => none
  | .neg a, e => match e with
    | .UnaryOp .USub x _ => mE T ck a x
    | _ => none
  | .not a, e => match e with
    | .UnaryOp .Not x _ => mE T ck a x
    | _ => none
  | .cmp op a b, e => match e with
    | .Compare x [o] [y] _ => if cmpE (cmpOf op) o = true ∧ noSet y = true then both (mE T ck a x) (mE T ck b y) else none
    | _ => none
  | .cmp2 op op2 a b c, e => match e with
    | .Compare x [o, o2] [y, z] _ => if (cmpE (cmpOf op) o = true ∧ cmpE (cmpOf op2) o2 = true) ∧ noSet z = true then both (mE T ck a x) (both (mE T ck b y) (mE T ck c z)) else none
    | _ => none
  | .and es, e => match e with
    | .BoolOp .And xs _ => if xs.isEmpty = true then none else mEs T ck es xs
    | _ => none
  | .or es, e => match e with
    | .BoolOp .Or xs _ => if xs.isEmpty = true then none else mEs T ck es xs
    | _ => none
  | .ife c a b, e => match e with
    | .IfExp x y z _ => if tB c = true then both (mE T ck c x) (both (mE T ck a y) (mE T ck b z)) else none
    | _ => none
  | .idx a i, e => match e with
    | .Subscript x y _ => if noSlc y = true then both (mE T ck a x) (mE T ck i y) else none
    | _ => none
  | .slc a lo hi, e => match e with
    | .Subscript x (.Slice l h none _) _ => both (mE T ck a x) (both (mEs T ck lo l.toList) (mEs T ck hi h.toList))
    | _ => none
  | .rev a, e => match e with
    | .Subscript x (.Slice none none (some (.UnaryOp .USub (.Constant (.int 1) _ _) _)) _) _ => mE T ck a x
    | _ => none
  | .call k args, e => match e with
    | .Call (.Name f _) xs [] _ => if ck.gl f = true ∧ T.fns.lookup f = some k then mEs T ck args xs else none
    | _ => none
  | .callv i args, e => match e with
    | .Call (.Name f _) xs [] _ => if ck.vis i f = true ∧ xs.isEmpty = false then mEs T ck args xs else none
    | _ => none
  | .callc i args, e => match e with
    | .Call (.Name f _) xs [] _ => if ck.vis i f = true ∧ ck.clo = true then mEs T ck args xs else none
    | _ => none
  | .callL k args l caps, e => match e with
    | .Call (.Name f _) xs [] _ => if ck.gl f = true ∧ T.fns.lookup f = some k then mL T ck args xs l caps else none
    | _ => none
  | .prim p args, e => match primNm2 p with
    | some (f, f2) => match e with
      | .Call (.Name g _) [.Call (.Name g2 _) [x] [] _] [] _ => if (f = g ∧ f2 = g2) ∧ ck.blt T g = true ∧ ck.blt T g2 = true then mEs T ck args [x] else none
      | _ => none
    | none => match primKw p with
      | some f => match e with
        | .Call (.Name g _) [x] [⟨some kw, .Name g2 _, _⟩] _ => if (g = "sorted" ∧ kw = "key" ∧ g2 = f) ∧ ck.blt T g = true ∧ ck.blt T g2 = true then mEs T ck args [x] else none
        | _ => none
      | none => match primNm p with
        | some (f, n) => match e with
          | .Call (.Name g _) xs [] _ => if f = g ∧ ck.blt T g = true ∧ xs.length = n then mEs T ck args xs else none
          | _ => none
        | none => none
  | .isi a t, e => match e with
    | .Call (.Name g _) [x, .Name y _] [] _ => if (g = "isinstance" ∧ y = tyNm t) ∧ ck.blt T g = true ∧ ck.blt T y = true ∧ plainE x = true then mE T ck a x else none
    | _ => none
  | .lc own tg k srcs conds elt, e => match e with
    | .ListComp x [⟨t, iter, ifs, asy⟩] scope _ =>
      if (asy = 0 ∧ noSet iter = true) ∧ blkC ck.N ck.sc scope (ownL ck own) = true ∧ mTg (ck.blk scope) tg t = true ∧ ((tgVars tg).all fun i => own.contains i) = true ∧ tBs conds = true ∧ ifs.length ≤ 1 then
        match srcArgs T ck k t iter with
        | some xs => both (mEs T ck srcs xs) (both (mEs T (ck.blk scope) conds ifs) (mE T (ck.blk scope) elt x))
        | none => none
      else none
    | _ => none
  | .lc2 own vs1 tg k srcs tg1 k1 srcs1 elt, e => match e with
    | .ListComp x [⟨t, iter, [], asy⟩, ⟨t1, iter1, [], asy1⟩] scope _ =>
      if (asy = 0 ∧ asy1 = 0 ∧ noSet iter = true ∧ noSet iter1 = true) ∧ blkC ck.N ck.sc scope (ownL ck own) = true ∧ (mTg (ck.blk scope) tg t = true ∧ mTg (ck.blk scope) tg1 t1 = true) ∧ ((tgVars tg).all fun i => own.contains i) = true ∧ ((tgVars tg1).all fun i => vs1.contains i) = true ∧ (vs1.all fun i => own.contains i) = true then
        match srcArgs T ck k t iter with
        | some xs => match srcArgs T (ck.blk scope) k1 t1 iter1 with
          | some xs1 => both (mEs T ck srcs xs) (both (mEs T (ck.blk scope) srcs1 xs1) (mE T (ck.blk scope) elt x))
          | none => none
        | none => none
      else none
    | _ => none
  | .ownIx i ix, e => match e with
    | .Subscript (.Name x _) y _ => if ck.vis i x = true ∧ noSlc y = true then mE T ck ix y else none
    | _ => none
  | .ownLen i, e => match e with
    | .Call (.Name g _) [.Name x _] [] _ => okB (decide (g = "len") && ck.blt T g && ck.vis i x)
    | _ => none
  | .ownNil i, e => match e with
    | .Compare (.Name x _) [.Eq] [.List [] _] _ => okB (ck.vis i x)
    | _ => none
  | .ownSlc i lo hi, e => match e with
    | .Subscript (.Name x _) (.Slice l h none _) _ => if ck.vis i x = true then both (mEs T ck lo l.toList) (mEs T ck hi h.toList) else none
    | _ => none
def mEs (T : Tb) (ck : Ck) : IEs → List Expr → Option (List LamE)
  | .nil, es => match es with
    | [] => some []
    | _ => none
  | .cons a as, es => match es with
    | e :: es => if plainE e = true then both (mE T ck a e) (mEs T ck as es) else none
    | [] => none
/-- arguments, a lambda last -/
def mL (T : Tb) (ck : Ck) : IEs → List Expr → Nat → List Nat → Option (List LamE)
  | .nil, es, l, cis => match es with
    | [.Lambda params body scope _] => (lamOf ck cis params body scope).map fun L => [(l, L)]
    | _ => none
  | .cons a as, es, l, cis => match es with
    | e :: es => if plainE e = true then both (mE T ck a e) (mL T ck as es l cis) else none
    | [] => none
/-- what may stand as a test -/
def tB : IE → Bool
  | .not a => tB a
  | .and es => tBs es
  | .or es => tBs es
  | .ife _ _ _ => false
  | _ => true
def tBs : IEs → Bool
  | .nil => true
  | .cons a as => tB a && tBs as
end
end Pz

/-! Pz17: what is matched is run as the interpreter says: expressions. -/
namespace Pz
open PySem PySem.Spec PyProof.Rows L2

structure GlobOk (T : Tb) (G : Gc) (o : Orc) (n : Nat) (P : Program) (w : World) (K : PySem.W.Frag) (mg : Str → Option Value) (base : Heap) : Prop where
  fns : ∀ x k, T.fns.lookup x = some k → ∃ f, mg x = some (.ref f) ∧ G.fa k = some f
  fnf : ∀ k f, G.fa k = some f → FnFact G P w K mg base n (o.fn k) f
  cls : ∀ x c, T.cls.lookup x = some c → ∃ C, mg x = some (.ref C) ∧ G.ca c = some C ∧ ExcFact K C
  cons : ∀ x k, T.cons.lookup x = some k → ∃ u v d, mg x = some u ∧ RelV v u ∧ (∀ W, Dat G W v d) ∧ o.con k = some d
  bl : ∀ x ∈ T.bl, mg x = none
  lamf : ∀ k L, G.lam k = some L → LamFact G P w K mg base n (o.lam k) L
structure CkOk (T : Tb) (G : Gc) (o : Orc) (n : Nat) (cf : CF) (Wx : WX) (ck : Ck) (X : Cx) : Prop where
  N : X.N = ck.N
  nd : X.N.Nodup
  sc : X.env.scope = ck.sc
  KG : X.K = G.K
  calm : X.calm = true
  room : Room n X.A
  tk : L2N.Takes X Wx
  fc : ∀ x, ck.fc x = true → X.fn x = true
  gb : GlobOk T G o n X.prog X.w X.K X.mg X.base
  clo : ck.clo = true → X.ex = [] ∧ ∀ W v k cap, cf W v k cap → CloAt G X.s_0.heap X.H_0 (frs X.outer) W v k cap
  mkx : ck.mkr = true → ∃ c P, LamX.TabB X.base X.mg c P ∧ X.env.code = .ref c ∧ X.env.qual = ck.qual ∧ (P, X.env.qual ++ "<lambda>") ∈ G.T ∧ ∀ p ∈ G.T, p.1 = P → p.2 = X.env.qual ++ "<lambda>"
theorem takesN0 {X : Cx} : L2N.Takes X Wx0 := fun _ _ x => by
  obtain ⟨_, _, _, _, _, _, _, _, _, _, _, _, _, _, _, _, z⟩ := x
  exact z.elim
section
variable {T : Tb} {G : Gc} {o : Orc} {n : Nat} {cf : CF} {Wx : WX} {ck : Ck} {X : Cx}
theorem dbg3 {x : Str} (h : nDbg x = true) : (x == ("__debug__" : Str)) = false ∧ (x == ("__classdict__" : Str)) = false ∧ x ≠ "__name__" := by
  unfold nDbg at h
  simp only [Bool.and_eq_true, Bool.not_eq_true'] at h
  exact ⟨h.1.1, h.1.2, fun e => by have := h.2; rw [e] at this; simp at this⟩
theorem CkOk.vis {i : Nat} {x : Str} (c : CkOk T G o n cf Wx ck X) (h : ck.vis i x = true) : X.N[i]? = some x ∧ Vis X.env.scope x ∧ (x == ("__debug__" : Str)) = false ∧ (x == ("__classdict__" : Str)) = false := by
  unfold Ck.vis at h
  simp only [Bool.and_eq_true, decide_eq_true_eq] at h
  obtain ⟨⟨h1, h2⟩, h3⟩ := h
  refine ⟨by rw [c.N]; exact h1, ?_, (dbg3 h3).1, (dbg3 h3).2.1⟩
  rw [c.sc]
  unfold visN at h2
  split at h2
  · exact .inl (by assumption)
  · exact .inr (.inl (by assumption))
  · exact .inr (.inr (by assumption))
  · cases h2
theorem CkOk.gl {x : Str} (c : CkOk T G o n cf Wx ck X) (h : ck.gl x = true) : Gl X x ∧ (x == ("__debug__" : Str)) = false ∧ x ≠ "__name__" := by
  unfold Ck.gl at h
  simp only [Bool.and_eq_true, decide_eq_true_eq] at h
  exact ⟨by show X.env.scope.names.lookup x = _; rw [c.sc]; exact h.1, (dbg3 h.2).1, (dbg3 h.2).2.2⟩
theorem CkOk.bt {x : Str} (c : CkOk T G o n cf Wx ck X) (h : ck.blt T x = true) : Gl X x ∧ X.mg x = none ∧ (x == ("__debug__" : Str)) = false ∧ x ≠ "__name__" := by
  unfold Ck.blt at h
  simp only [Bool.and_eq_true] at h
  obtain ⟨h1, h2, h3⟩ := c.gl h.1
  exact ⟨h1, c.gb.bl x (by simpa using h.2), h2, h3⟩
theorem CkOk.sto {i : Nat} {x : Str} (c : CkOk T G o n cf Wx ck X) (h : ck.sto i x = true) : X.N[i]? = some x ∧ Loc X.env.scope x ∧ (X.fn x = true ∨ X.env.scope.names.lookup x = some .local) := by
  unfold Ck.sto at h
  simp only [Bool.and_eq_true, Bool.or_eq_true, decide_eq_true_eq] at h
  refine ⟨by rw [c.N]; exact h.1, ?_, ?_⟩
  · rw [c.sc]
    rcases h.2 with z | z
    · exact .inl z
    · exact .inr z.1
  · rcases h.2 with z | z
    · exact .inr (by rw [c.sc]; exact z)
    · exact .inl (c.fc x z.2)
theorem CkOk.blk (c : CkOk T G o n cf Wx ck X) (scope : Scope) (s : Shared) (H : Hp) (C : Addr) (cl : List (Str × Addr)) (fp : List Addr) : CkOk T G o n cf0 Wx0 (ck.blk scope) (X.blk s H scope (compEnvC scope cl C X.env) fp) where
  N := c.N
  nd := c.nd
  sc := by
    show relS scope X.env.scope = relS scope ck.sc
    rw [c.sc]
  KG := c.KG
  calm := c.calm
  room := c.room
  tk := takesN0
  fc := fun x h => h
  gb := c.gb
  clo := fun h => by cases h
  mkx := fun h => c.mkx h
theorem swaps0 {e : Expr} {t : Option Expr} {line : Nat} {env : PySem.Env} (h : noComp e = true) : swapsWith e t line env = pure false := by cases e <;> first | rfl | (cases h)
theorem folded0 {e : Expr} {env : PySem.Env} (h : noSet e = true) : ∀ x, foldedSetIterable e env x = pure x := by
  intro x
  cases e <;> first | rfl | (cases h)
theorem marks0 {e : Expr} {op : CmpOp} (h : noSet e = true) : behindInMarks op e = false := by cases e <;> first | rfl | (cases h)
theorem plainIx0 {e : Expr} (h : noSlc e = true) : PlainIx e := by
  intro a b
  cases e <;> first | rfl | (cases h)
theorem star1 {e : Expr} {env : PySem.Env} (h : plainE e = true) : starEach [e] env = (false, eval e env) :: starEach [] env := star_cons h
theorem asg1 {e : Expr} {es : List Expr} {env : PySem.Env} (h : plainE e = true) : (assignEach (e :: es) env).map (·.2) = assign e env :: (assignEach es env).map (·.2) := by cases e <;> first | rfl | (cases h)
theorem asgLen {env : PySem.Env} : ∀ {es : List Expr}, (assignEach es env).length = es.length
  | [] => rfl
  | e :: es => by
    have ih := asgLen (env := env) (es := es)
    cases e <;> (show _ + 1 = _ + 1; rw [ih])
theorem asgStar {env : PySem.Env} : ∀ {es : List Expr}, es.all plainE = true → (assignEach es env).findIdx? (·.1) = none
  | [], _ => rfl
  | e :: es, h => by
    rw [List.all_cons, Bool.and_eq_true] at h
    have ih := asgStar (env := env) h.2
    have e1 : assignEach (e :: es) env = (false, assign e env) :: assignEach es env := by cases e <;> first | rfl | (simp [plainE] at h)
    rw [e1, List.findIdx?_cons]
    simp [ih]

/-! ### targets -/
theorem mTgs_len : ∀ {ts : Tgs} {es : List Expr}, mTgs ck ts es = true → es.length = tgsLen ts ∧ es.all plainE = true
  | .nil, [], _ => ⟨rfl, rfl⟩
  | .nil, _ :: _, h => by simp [mTgs] at h
  | .cons t ts, [], h => by simp [mTgs] at h
  | .cons t ts, e :: es, h => by
    simp only [mTgs, Bool.and_eq_true] at h
    obtain ⟨k1, k2⟩ := mTgs_len h.2
    refine ⟨by rw [List.length_cons, k1]; rfl, ?_⟩
    rw [List.all_cons, k2, Bool.and_true]
    cases t <;> (simp only [mTg] at h; split at h <;> first | rfl | (simp at h))
mutual
theorem sTg (c : CkOk T G o n cf Wx ck X) : ∀ (t : Tg) {e : Expr}, mTg ck t e = true → PG X e (tG G t)
  | .nm i, e, h => by
    simp only [mTg] at h
    split at h
    · obtain ⟨k1, k2, k3⟩ := c.sto h
      exact rg_name c.nd k1 k2 k3
    · cases h
  | .tp ts, e, h => by
    simp only [mTg] at h
    split at h
    · obtain ⟨k1, k2⟩ := mTgs_len h
      exact rg_tup c.KG c.calm (sTgs c ts h) (by rw [asgLen, k1]) (asgStar k2)
    · cases h
theorem sTgs (c : CkOk T G o n cf Wx ck X) : ∀ (ts : Tgs) {es : List Expr}, mTgs ck ts es = true → PGs X es (tGs G ts)
  | .nil, es, h => by
    simp only [mTgs] at h
    split at h
    · exact rgs_nil
    · cases h
  | .cons t ts, es, h => by
    have hl := mTgs_len h
    simp only [mTgs] at h
    split at h
    · rw [Bool.and_eq_true] at h
      have hp := hl.2
      rw [List.all_cons, Bool.and_eq_true] at hp
      exact rgs_cons (sTg c t h.1) (sTgs c ts h.2) (asg1 hp.1)
    · cases h
end

/-! ### operators -/
theorem re_bin {op : BOp} {a b : Expr} {evA evB : Env → Store → Out D} {pos : Pos} (hKG : X.K = G.K) (ha : PE X a (tE G cf Wx evA)) (hb : PE X b (tE G cf Wx evB)) :
    PE X (.BinOp a (opOf op) b pos) (tE G cf Wx fun env S => (evA env S).bind fun x S => (evB env S).bind fun y S => .ofO (binD op x y) S) := by
  cases op with
  | add => exact re_op op_addD (by rw [hKG]; exact addD_ok) ha hb
  | sub => exact re_op op_sub subD_ok ha hb
  | mul => exact re_op op_mulD (by rw [hKG]; exact mulD_ok) ha hb
  | fdiv => exact re_op op_fdivW fdivD_ok ha hb
  | mod => exact re_op op_mod modD_ok ha hb
  | pow => exact re_op op_pow powD_ok ha hb
theorem cmp_rule (hKG : X.K = G.K) (hu : X.A.units + 65 < cLine) (op : COp) : ∃ r, OpR X (compareOp (cmpOf op)) r ∧ OpB G (fun x y => (cmpD op x y).map D.bl) r := by
  cases op with
  | lt => exact ⟨_, op_ltB, ltB_ok⟩
  | le => exact ⟨_, op_le, leB_ok⟩
  | gt => exact ⟨_, op_gt, gtB_ok⟩
  | ge => exact ⟨_, op_ge, geB_ok⟩
  | eq => exact ⟨_, op_eqB (by omega), by rw [hKG]; exact eqB_ok⟩
  | ne => exact ⟨_, op_neB (by omega), by rw [hKG]; exact neB_ok⟩
  | isN => exact ⟨_, op_isN, isB_ok⟩
  | notN => exact ⟨_, op_notN, notB_ok⟩
  | in_ => exact ⟨_, op_inB hu, by rw [hKG]; exact inB_ok⟩
  | notIn => exact ⟨_, op_ninB hu, by rw [hKG]; exact ninB_ok⟩
theorem CkOk.units (c : CkOk T G o n cf Wx ck X) : X.A.units + 65 < cLine := by have := c.room.un; omega
end
end Pz

/-! Pz18: what is matched is run as the interpreter says: expressions, all. -/
namespace Pz
open PySem PySem.Spec PyProof.Rows L2

section
variable {T : Tb} {G : Gc} {o : Orc} {n : Nat} {cf : CF} {Wx : WX} {ck : Ck} {X : Cx}
theorem re_primC (c : CkOk T G o n cf Wx ck X) {p : Prim} {f : Str} {k : Nat} {xs : List Expr} {pos p1 : Pos} {evs : Env → Store → Out (List D)} (hp : primNm p = some (f, k)) (hb : ck.blt T f = true) (hl : xs.length = k) (hx : xs.all plainE = true) (ha : PA X xs (tA G cf Wx evs)) :
    PE X (.Call (.Name f p1) xs [] pos) (tE G cf Wx fun env S => (evs env S).bind fun ds S => .ofO (primD p ds) S) := by
  obtain ⟨hg, hm, hd, hn⟩ := c.bt hb
  have hk : 0 < k := by cases p <;> simp [primNm] at hp <;> omega
  cases xs with
  | nil => simp at hl; omega
  | cons x xs =>
    rw [List.all_cons, Bool.and_eq_true] at hx
    have s1 := star_cons (es := xs) (env := X.env) hx.1
    have s2 := star_plain (pos := pos) (env := X.env) hx.2
    cases p <;> simp only [primNm, Option.some.injEq, Prod.mk.injEq] at hp <;> first | (cases hp; done) | skip
    all_goals obtain ⟨rfl, rfl⟩ := hp
    · exact re_primA (by rw [c.KG]; exact len_ok) (pe_callB call_len hg hm (by decide +kernel) ha hn hd s1 s2)
    · exact re_primA abs_ok (pe_callB call_abs hg hm (by decide +kernel) ha hn hd s1 s2)
    · exact re_primA (by rw [c.KG]; exact max1_ok) (pe_callB (cr_maxA c.calm) hg hm (by decide +kernel) ha hn hd s1 s2)
    · exact re_primA (by rw [c.KG]; exact min1_ok) (pe_callB (cr_min c.calm) hg hm (by decide +kernel) ha hn hd s1 s2)
    · exact re_primA max2_ok (pe_callB (call_max2 c.calm) hg hm (by decide +kernel) ha hn hd s1 s2)
    · exact re_primA min2_ok (pe_callB (call_min2 c.calm) hg hm (by decide +kernel) ha hn hd s1 s2)
    · exact re_primA (by rw [c.KG]; exact sum_ok) (pe_callB (cr_sumA c.calm) hg hm (by decide +kernel) ha hn hd s1 s2)
    · exact re_primA (by rw [c.KG]; exact all_ok) (pe_callB (cr_all c.calm) hg hm (by decide +kernel) ha hn hd s1 s2)
    · exact re_primA (by rw [c.KG]; exact any_ok) (pe_callB (cr_any c.calm) hg hm (by decide +kernel) ha hn hd s1 s2)
    · exact re_primA (by rw [c.KG]; exact tuple_ok) (pe_callTy call_tuple_of hg hm (by decide +kernel) ha hn hd s1 s2)
    · exact re_primA (by rw [c.KG]; exact list_ok) (pe_callTy call_list_of hg hm (by decide +kernel) ha hn hd s1 s2)
    · exact re_primA int_ok (pe_callTy call_int1 hg hm (by decide +kernel) ha hn hd s1 s2)
/-- one item of a list of texts -/
def OneP (o : Orc) (G : Gc) (cf : CF) (Wx : WX) (X : Cx) (es : IEs) (xs : List Expr) : Prop := ∀ a x, es = .cons a .nil → xs = [x] → PE X x (tE G cf Wx (evE o a)) ∧ (tB a = true → PT X x (tT G cf Wx (evT (evE o a))))
def SE (T : Tb) (G : Gc) (o : Orc) (n : Nat) (ie : IE) : Prop := ∀ {cf : CF} {Wx : WX} {ck : Ck} {X : Cx} {e : Expr} {ls : List LamE}, CkOk T G o n cf Wx ck X → mE T ck ie e = some ls → (∀ q ∈ ls, G.lam q.1 = some q.2) →
  PE X e (tE G cf Wx (evE o ie)) ∧ (tB ie = true → PT X e (tT G cf Wx (evT (evE o ie))))
structure SA (T : Tb) (G : Gc) (o : Orc) (n : Nat) (es : IEs) : Prop where
  args : ∀ {cf : CF} {Wx : WX} {ck : Ck} {X : Cx} {xs : List Expr} {ls : List LamE}, CkOk T G o n cf Wx ck X → mEs T ck es xs = some ls → (∀ q ∈ ls, G.lam q.1 = some q.2) →
    PA X xs (tA G cf Wx (evEs o es)) ∧ xs.all plainE = true ∧ OneP o G cf Wx X es xs
  bools : ∀ {cf : CF} {Wx : WX} {ck : Ck} {X : Cx} {xs : List Expr} {ls : List LamE}, CkOk T G o n cf Wx ck X → mEs T ck es xs = some ls → (∀ q ∈ ls, G.lam q.1 = some q.2) → xs ≠ [] → ∀ pos,
    PE X (.BoolOp .And xs pos) (tE G cf Wx (evAnd o es)) ∧ PE X (.BoolOp .Or xs pos) (tE G cf Wx (evOr o es)) ∧ (tBs es = true → PW X (.BoolOp .And xs pos) (tT G cf Wx (evT (evAnd o es))) ∧ PW X (.BoolOp .Or xs pos) (tT G cf Wx (evT (evOr o es))))
  lams : ∀ {cf : CF} {Wx : WX} {ck : Ck} {X : Cx} {xs : List Expr} {ls : List LamE} {l : Nat} {cis : List Nat}, CkOk T G o n cf Wx ck X → mL T ck es xs l cis = some ls → (∀ q ∈ ls, G.lam q.1 = some q.2) → PL X G cf Wx xs (evEs o es) l cis ∧ xs.all plainE = true ∧ xs ≠ []
theorem SE.simple {ie : IE} (h : ∀ {cf : CF} {Wx : WX} {ck : Ck} {X : Cx} {e : Expr} {ls : List LamE}, CkOk T G o n cf Wx ck X → mE T ck ie e = some ls → (∀ q ∈ ls, G.lam q.1 = some q.2) → PE X e (tE G cf Wx (evE o ie)) ∧ ∀ whole, isTrue e X.env whole = (do let v ← whole; standAt e.pos; holding [v] (truthy v))) : SE T G o n ie := fun c hm hl =>
  ⟨(h c hm hl).1, fun _ => ret_val (h c hm hl).1 (h c hm hl).2⟩
theorem se_var (i : Nat) : SE T G o n (.var i) := SE.simple fun c h hl => by
  simp only [mE] at h
  split at h
  · obtain ⟨h1, rfl⟩ := okB_some h
    obtain ⟨k1, k2, k3, k4⟩ := c.vis h1
    exact ⟨re_var k1 k2 k3 k4, fun _ => rfl⟩
  · cases h
theorem se_con (d : D) : SE T G o n (.con d) := SE.simple fun {cf Wx ck X e ls} c h hl => by
  simp only [mE] at h
  split at h
  · rename_i cc j p
    obtain ⟨h1, rfl⟩ := okB_some h
    unfold conB at h1
    split at h1
    · exact ⟨re_const pe_non fun _ => .non, fun _ => rfl⟩
    · have e := beq_iff_eq.mp h1
      subst e
      exact ⟨re_const pe_bl fun _ => .bl _, fun _ => rfl⟩
    · have e := of_decide_eq_true h1
      subst e
      exact ⟨re_const pe_int fun _ => .int _, fun _ => rfl⟩
    · have e := of_decide_eq_true h1
      subst e
      exact ⟨re_const pe_str fun _ => .str _, fun _ => rfl⟩
    · cases h1
  · cases h
theorem se_glob (k : Nat) : SE T G o n (.glob k) := SE.simple fun {cf Wx ck X e ls} c h hl => by
  simp only [mE] at h
  split at h
  · obtain ⟨h1, rfl⟩ := okB_some h
    rw [Bool.and_eq_true, decide_eq_true_eq] at h1
    obtain ⟨k1, k2, k3⟩ := c.gl h1.1
    obtain ⟨u, v, d, q1, q2, q3, q4⟩ := c.gb.cons _ _ h1.2
    refine ⟨?_, fun _ => rfl⟩
    show PE X _ (tE G cf Wx fun _ S => .ofO (o.con k) S)
    exact re_constO q4 (pe_glob k1 q1 q2 k2) q3
  · cases h
theorem se_fnv (k : Nat) : SE T G o n (.fnv k) := SE.simple fun {cf Wx ck X e ls} c h hl => by
  simp only [mE] at h
  split at h
  · obtain ⟨h1, rfl⟩ := okB_some h
    rw [Bool.and_eq_true, decide_eq_true_eq] at h1
    obtain ⟨k1, k2, k3⟩ := c.gl h1.1
    obtain ⟨f, q1, q2⟩ := c.gb.fns _ _ h1.2
    exact ⟨re_const (pe_glob (v := .ref f) k1 q1 rfl k2) fun _ => .fn q2, fun _ => rfl⟩
  · cases h
theorem se_tup {es : IEs} (h : SA T G o n es) : SE T G o n (.tup es) := SE.simple fun {cf Wx ck X e ls} c hm hl => by
  simp only [mE] at hm
  split at hm
  · exact ⟨re_tup (h.args c hm hl).1, fun _ => rfl⟩
  · cases hm
theorem se_lst {es : IEs} (h : SA T G o n es) : SE T G o n (.lst es) := SE.simple fun {cf Wx ck X e ls} c hm hl => by
  simp only [mE] at hm
  split at hm
  · exact ⟨re_lst (h.args c hm hl).1, fun _ => rfl⟩
  · cases hm
theorem se_cel {es : IEs} (h : SA T G o n es) : SE T G o n (.cel es) := SE.simple fun {cf Wx ck X e ls} c hm hl => by
  simp only [mE] at hm
  split at hm
  · exact ⟨re_cel (h.args c hm hl).1, fun _ => rfl⟩
  · cases hm
theorem in2 {a b : List LamE} {p : LamE → Prop} (h : ∀ q ∈ a ++ b, p q) : (∀ q ∈ a, p q) ∧ ∀ q ∈ b, p q := ⟨fun q hq => h q (List.mem_append_left _ hq), fun q hq => h q (List.mem_append_right _ hq)⟩
theorem se_bin {op : BOp} {a b : IE} (ha : SE T G o n a) (hb : SE T G o n b) : SE T G o n (.bin op a b) := SE.simple fun {cf Wx ck X e ls} c hm hl => by
  simp only [mE] at hm
  split at hm
  · split at hm
    · rename_i h1
      obtain ⟨x, y, k1, k2, rfl⟩ := both_some hm
      have e := opE_eq h1
      subst e
      exact ⟨re_bin c.KG (ha c k1 (in2 hl).1).1 (hb c k2 (in2 hl).2).1, fun _ => rfl⟩
    · cases hm
  · cases hm
theorem se_neg {a : IE} (ha : SE T G o n a) : SE T G o n (.neg a) := SE.simple fun {cf Wx ck X e ls} c hm hl => by
  simp only [mE] at hm
  split at hm
  · exact ⟨re_neg (ha c hm hl).1, fun _ => rfl⟩
  · cases hm
theorem se_not {a : IE} (ha : SE T G o n a) : SE T G o n (.not a) := fun {cf Wx ck X e ls} c hm hl => by
  simp only [mE] at hm
  split at hm
  · exact ⟨re_not (ha c hm hl).1, fun ht => ret_not ((ha c hm hl).2 (by simpa only [tB] using ht))⟩
  · cases hm
theorem se_cmp {op : COp} {a b : IE} (ha : SE T G o n a) (hb : SE T G o n b) : SE T G o n (.cmp op a b) := fun {cf Wx ck X e ls} c hm hl => by
  simp only [mE] at hm
  split at hm
  · split at hm
    · rename_i h1
      obtain ⟨x, y, k1, k2, rfl⟩ := both_some hm
      have e := cmpE_eq h1.1
      subst e
      obtain ⟨r, r1, r2⟩ := cmp_rule c.KG c.units op
      exact ⟨re_cmp r1 r2 (marks0 h1.2) (ha c k1 (in2 hl).1).1 (hb c k2 (in2 hl).2).1, fun _ => ret_cmp r1 r2 (marks0 h1.2) (ha c k1 (in2 hl).1).1 (hb c k2 (in2 hl).2).1⟩
    · cases hm
  · cases hm
theorem se_cmp2 {op op2 : COp} {a b d : IE} (ha : SE T G o n a) (hb : SE T G o n b) (hd : SE T G o n d) : SE T G o n (.cmp2 op op2 a b d) := fun {cf Wx ck X e ls} c hm hl => by
  simp only [mE] at hm
  split at hm
  · split at hm
    · rename_i h1
      obtain ⟨x, y, k1, k2, rfl⟩ := both_some hm
      obtain ⟨y, z, k4, k3, rfl⟩ := both_some k2
      have e := cmpE_eq h1.1.1
      subst e
      have e := cmpE_eq h1.1.2
      subst e
      obtain ⟨r, r1, r2⟩ := cmp_rule c.KG c.units op
      obtain ⟨r', r3, r4⟩ := cmp_rule c.KG c.units op2
      have l1 := in2 hl
      have l2 := in2 l1.2
      exact ⟨re_chain r1 r3 r2 r4 (ha c k1 l1.1).1 (hb c k4 l2.1).1 (hd c k3 l2.2).1 (marks0 h1.2), fun _ => ret_chain r1 r3 r2 r4 (ha c k1 l1.1).1 (hb c k4 l2.1).1 (hd c k3 l2.2).1 (marks0 h1.2)⟩
    · cases hm
  · cases hm
theorem se_and {es : IEs} (h : SA T G o n es) : SE T G o n (.and es) := fun {cf Wx ck X e ls} c hm hl => by
  simp only [mE] at hm
  split at hm
  · rename_i xs pos
    split at hm
    · cases hm
    · rename_i hne
      have hne' : xs ≠ [] := fun z => hne (by rw [z]; rfl)
      exact ⟨(h.bools c hm hl hne' pos).1, fun ht => ((h.bools c hm hl hne' pos).2.2 (by simpa only [tB] using ht)).1.pt⟩
  · cases hm
theorem se_or {es : IEs} (h : SA T G o n es) : SE T G o n (.or es) := fun {cf Wx ck X e ls} c hm hl => by
  simp only [mE] at hm
  split at hm
  · rename_i xs pos
    split at hm
    · cases hm
    · rename_i hne
      have hne' : xs ≠ [] := fun z => hne (by rw [z]; rfl)
      exact ⟨(h.bools c hm hl hne' pos).2.1, fun ht => ((h.bools c hm hl hne' pos).2.2 (by simpa only [tB] using ht)).2.pt⟩
  · cases hm
theorem se_ife {a b d : IE} (ha : SE T G o n a) (hb : SE T G o n b) (hd : SE T G o n d) : SE T G o n (.ife a b d) := fun {cf Wx ck X e ls} c hm hl => by
  simp only [mE] at hm
  split at hm
  · split at hm
    · rename_i h1
      obtain ⟨x, y, k1, k2, rfl⟩ := both_some hm
      obtain ⟨y, z, k4, k3, rfl⟩ := both_some k2
      have l1 := in2 hl
      have l2 := in2 l1.2
      exact ⟨re_ife ((ha c k1 l1.1).2 h1) (hb c k4 l2.1).1 (hd c k3 l2.2).1, fun ht => by simp [tB] at ht⟩
    · cases hm
  · cases hm
theorem se_idx {a i : IE} (ha : SE T G o n a) (hi : SE T G o n i) : SE T G o n (.idx a i) := SE.simple fun {cf Wx ck X e ls} c hm hl => by
  simp only [mE] at hm
  split at hm
  · split at hm
    · rename_i h1
      obtain ⟨x, y, k1, k2, rfl⟩ := both_some hm
      exact ⟨re_ix ix_seq (by rw [c.KG]; exact ixS_ok) (ha c k1 (in2 hl).1).1 (hi c k2 (in2 hl).2).1 (plainIx0 h1), fun _ => rfl⟩
    · cases hm
  · cases hm
theorem po_of {es : IEs} {x : Option Expr} {ls : List LamE} (h : SA T G o n es) (c : CkOk T G o n cf Wx ck X) (hm : mEs T ck es x.toList = some ls) (hl : ∀ q ∈ ls, G.lam q.1 = some q.2) : PO X x (tOp' G cf Wx fun env S => (evEs o es env S).bind fun l S => .ofO (optI l) S) := by
  cases x with
  | none =>
    cases es with
    | nil => exact ro_none
    | cons a es => simp [mEs] at hm
  | some x =>
    have k := h.args c hm hl
    cases es with
    | nil => simp [mEs] at hm
    | cons a es =>
      cases es with
      | nil =>
        have k1 := (k.2.2 a x rfl rfl).1
        have e : (fun (env : Env) S => (evEs o (.cons a .nil) env S).bind fun l S => (.ofO (optI l) S : Out (Option Int))) = fun env S => (evE o a env S).bind fun x S => match x with
          | .int i => .ok (some i) S
          | _ => .bad := by
          funext env S
          simp only [evEs]
          cases evE o a env S with
          | ok d S1 => cases d <;> rfl
          | exc c x S1 => rfl
          | bad => rfl
        rw [e]
        exact ro_some k1
      | cons b es =>
        exfalso
        simp only [mEs, Option.toList] at hm
        split at hm
        · obtain ⟨_, _, _, z, _⟩ := both_some hm
          cases z
        · cases hm
theorem se_slc {a : IE} {lo hi : IEs} (ha : SE T G o n a) (hlo : SA T G o n lo) (hhi : SA T G o n hi) : SE T G o n (.slc a lo hi) := SE.simple fun {cf Wx ck X e ls} c hm hl => by
  simp only [mE] at hm
  split at hm
  · obtain ⟨x, y, k1, k2, rfl⟩ := both_some hm
    obtain ⟨y, z, k4, k3, rfl⟩ := both_some k2
    have l1 := in2 hl
    have l2 := in2 l1.2
    exact ⟨re_slc c.KG (ha c k1 l1.1).1 (po_of hlo c k4 l2.1) (po_of hhi c k3 l2.2), fun _ => rfl⟩
  · cases hm
theorem se_rev {a : IE} (ha : SE T G o n a) : SE T G o n (.rev a) := SE.simple fun {cf Wx ck X e ls} c hm hl => by
  simp only [mE] at hm
  split at hm
  · exact ⟨re_rev (ha c hm hl).1, fun _ => rfl⟩
  · cases hm
theorem se_call {k : Nat} {es : IEs} (h : SA T G o n es) : SE T G o n (.call k es) := SE.simple fun {cf Wx ck X e ls} c hm hl => by
  simp only [mE] at hm
  split at hm
  · rename_i f p1 xs pos
    split at hm
    · rename_i h1
      obtain ⟨k1, k2, k3⟩ := c.gl h1.1
      obtain ⟨fa, q1, q2⟩ := c.gb.fns _ _ h1.2
      obtain ⟨a1, a2, _⟩ := h.args c hm hl
      refine ⟨?_, fun _ => rfl⟩
      cases xs with
      | nil =>
        cases es with
        | nil => exact re_call0 (c.gb.fnf _ _ q2) c.room c.tk k1 q1 k2
        | cons a es => simp [mEs] at hm
      | cons x xs => exact re_call (c.gb.fnf _ _ q2) c.room c.tk k1 q1 k2 a1 a2
    · cases hm
  · cases hm
theorem se_callv {i : Nat} {es : IEs} (h : SA T G o n es) : SE T G o n (.callv i es) := SE.simple fun {cf Wx ck X e ls} c hm hl => by
  simp only [mE] at hm
  split at hm
  · rename_i f p1 xs pos
    split at hm
    · rename_i h1
      obtain ⟨k1, k2, k3, k4⟩ := c.vis h1.1
      obtain ⟨a1, a2, _⟩ := h.args c hm hl
      refine ⟨?_, fun _ => rfl⟩
      cases xs with
      | nil => cases h1.2
      | cons x xs => exact re_callv c.gb.fnf c.room c.tk k1 k2 k3 k4 a1 a2
    · cases hm
  · cases hm
theorem se_callc {i : Nat} {es : IEs} (h : SA T G o n es) : SE T G o n (.callc i es) := SE.simple fun {cf Wx ck X e ls} c hm hl => by
  simp only [mE] at hm
  split at hm
  · rename_i f p1 xs pos
    split at hm
    · rename_i h1
      obtain ⟨k1, k2, k3, k4⟩ := c.vis h1.1
      obtain ⟨a1, a2, _⟩ := h.args c hm hl
      obtain ⟨z1, z2⟩ := c.clo h1.2
      refine ⟨?_, fun _ => rfl⟩
      cases xs with
      | nil =>
        cases es with
        | nil => exact re_callc0 c.gb.lamf c.room c.tk z1 z2 k1 k2 k3 k4
        | cons a es => simp [mEs] at hm
      | cons x xs => exact re_callc c.gb.lamf c.room c.tk z1 z2 k1 k2 k3 k4 a1 a2
    · cases hm
  · cases hm
theorem se_callL {k l : Nat} {es : IEs} {cis : List Nat} (h : SA T G o n es) : SE T G o n (.callL k es l cis) := SE.simple fun {cf Wx ck X e ls} c hm hl => by
  simp only [mE] at hm
  split at hm
  · rename_i f p1 xs pos
    split at hm
    · rename_i h1
      obtain ⟨k1, k2, k3⟩ := c.gl h1.1
      obtain ⟨fa, q1, q2⟩ := c.gb.fns _ _ h1.2
      obtain ⟨a1, a2, a3⟩ := h.lams c hm hl
      refine ⟨?_, fun _ => rfl⟩
      cases xs with
      | nil => exact absurd rfl a3
      | cons x xs => exact re_callL (c.gb.fnf _ _ q2) c.room c.tk k1 q1 k2 a1 a2
    · cases hm
  · cases hm
theorem se_prim {p : Prim} {es : IEs} (h : SA T G o n es) : SE T G o n (.prim p es) := SE.simple fun {cf Wx ck X e ls} c hm hl => by
  simp only [mE] at hm
  split at hm
  · rename_i f f2 hp
    split at hm
    · rename_i g p1 g2 p2 x pos2 pos
      split at hm
      · rename_i h1
        obtain ⟨⟨rfl, rfl⟩, b1, b2⟩ := h1
        refine ⟨?_, fun _ => rfl⟩
        obtain ⟨a1, a2, a3⟩ := h.args c hm hl
        obtain ⟨g1, m1, d1, n1⟩ := c.bt b1
        obtain ⟨g2, m2, d2, n2⟩ := c.bt b2
        rw [List.all_cons, Bool.and_eq_true] at a2
        cases es with
        | nil => simp [mEs] at hm
        | cons a es =>
          cases es with
          | cons b es =>
            exfalso
            simp only [mEs] at hm
            split at hm
            · obtain ⟨_, _, _, z, _⟩ := both_some hm
              cases z
            · cases hm
          | nil =>
            have ka := (a3 a x rfl rfl).1
            have ns := star1 (env := X.env) a2.1
            cases p <;> simp only [primNm2, Option.some.injEq, Prod.mk.injEq] at hp <;> first | (cases hp; done) | skip
            all_goals obtain ⟨rfl, rfl⟩ := hp
            · exact re_sortedSet c.KG c.calm g1 m1 g2 m2 ka ns
            · exact re_tupRange c.calm g1 m1 g2 m2 ka ns
            · exact re_listRange c.calm g1 m1 g2 m2 ka ns
      · cases hm
    · cases hm
  · split at hm
    · rename_i f hp
      split at hm
      · rename_i g p1 x kw g2 p2 kp pos
        split at hm
        · rename_i h1
          obtain ⟨⟨rfl, rfl, rfl⟩, b1, b2⟩ := h1
          refine ⟨?_, fun _ => rfl⟩
          obtain ⟨a1, a2, a3⟩ := h.args c hm hl
          obtain ⟨g1, m1, d1, n1⟩ := c.bt b1
          obtain ⟨g2, m2, d2, n2⟩ := c.bt b2
          rw [List.all_cons, Bool.and_eq_true] at a2
          have ns := star1 (env := X.env) a2.1
          cases p <;> simp only [primKw, Option.some.injEq] at hp <;> first | (cases hp; done) | skip
          all_goals obtain rfl := hp
          · exact re_sortB (b := true) c.KG c.calm c.units g1 m1 g2 m2 a1 ns
          · exact re_sortB (b := false) c.KG c.calm c.units g1 m1 g2 m2 a1 ns
        · cases hm
      · cases hm
    · split at hm
      · rename_i f k hp
        split at hm
        · rename_i g p1 xs pos
          split at hm
          · rename_i h1
            obtain ⟨rfl, b1, hlen⟩ := h1
            obtain ⟨a1, a2, a3⟩ := h.args c hm hl
            exact ⟨re_primC c hp b1 hlen a2 a1, fun _ => rfl⟩
          · cases hm
        · cases hm
      · cases hm
theorem ty_boot (t : Ty) : bootBuiltins (tyNm t) = some (.type t.name) := by cases t <;> decide +kernel
theorem se_isi {a : IE} {t : Ty} (ha : SE T G o n a) : SE T G o n (.isi a t) := SE.simple fun {cf Wx ck X e ls} c hm hl => by
  simp only [mE] at hm
  split at hm
  · split at hm
    · rename_i h1
      obtain ⟨⟨rfl, rfl⟩, b1, b2, hp⟩ := h1
      obtain ⟨g1, m1, d1, n1⟩ := c.bt b1
      obtain ⟨g2, m2, d2, n2⟩ := c.bt b2
      exact ⟨re_isi c.KG g1 m1 g2 m2 (ty_boot t) n2 d2 (ha c hm hl).1 (star_cons hp), fun _ => rfl⟩
    · cases hm
  · cases hm
theorem se_ownIx {i : Nat} {a : IE} (ha : SE T G o n a) : SE T G o n (.ownIx i a) := SE.simple fun {cf Wx ck X e ls} c hm hl => by
  simp only [mE] at hm
  split at hm
  · split at hm
    · rename_i h1
      obtain ⟨k1, k2, k3, k4⟩ := c.vis h1.1
      exact ⟨re_ownIx c.KG k1 k2 k3 k4 (ha c hm hl).1 (plainIx0 h1.2), fun _ => rfl⟩
    · cases hm
  · cases hm
theorem se_ownLen {i : Nat} : SE T G o n (.ownLen i) := SE.simple fun {cf Wx ck X e ls} c hm hl => by
  simp only [mE] at hm
  split at hm
  · obtain ⟨h1, rfl⟩ := okB_some hm
    simp only [Bool.and_eq_true, decide_eq_true_eq] at h1
    obtain ⟨⟨rfl, b1⟩, hv⟩ := h1
    obtain ⟨k1, k2, k3, k4⟩ := c.vis hv
    obtain ⟨g1, m1, d1, n1⟩ := c.bt b1
    exact ⟨re_ownLen g1 m1 k1 k2 k3 k4, fun _ => rfl⟩
  · cases hm
theorem se_ownSlc {i : Nat} {lo hi : IEs} (hlo : SA T G o n lo) (hhi : SA T G o n hi) : SE T G o n (.ownSlc i lo hi) := SE.simple fun {cf Wx ck X e ls} c hm hl => by
  simp only [mE] at hm
  split at hm
  · split at hm
    · rename_i h1
      obtain ⟨x, y, k1, k2, rfl⟩ := both_some hm
      obtain ⟨v1, v2, v3, v4⟩ := c.vis h1
      exact ⟨re_ownSlc v1 v2 v3 v4 (po_of hlo c k1 (in2 hl).1) (po_of hhi c k2 (in2 hl).2), fun _ => rfl⟩
    · cases hm
  · cases hm
theorem own_eq {i : Nat} {W : Wd} {H0 H : Hp} {σ : L2.St} {env : Env} {S : Store} {Q : VK} {v : V} {ds : List D} {r : Bool} (hKG : X.K = G.K) (h : Cur G cf W H0 σ H env S) (ev : SlOk G W cf H0 H v (.own ds)) (er : eqD (.lst ds) (.lst []) = some r) (hq : ∀ H', Step G W H W H' S → Q (.bl r) H') :
    ∀ p, H p = none → rEqB X.K v (.ref p) (upd H p (.lst [])) Q := by
  intro p hp
  obtain ⟨a, vs, rfl, h1, h2, h3, h4, h5⟩ := ev
  have st : Step G W H W (upd H p (.lst [])) S := Step.new h.hok hp
  have fin := hq _ st
  have ha : upd H p (.lst []) a = some (.lst vs) := by rw [upd_ne (ne_of_none h1 hp)]; exact h1
  rcases eqD_cases er with z | ⟨k1, k2, k3, k4, k5⟩
  · simp [scalD] at z
  · rw [D.isData] at k1
    refine .inr ⟨_, _, ?_, ?_, k3, k4, by rw [k5]; exact fin⟩
    · rw [D.toP, hKG]
      exact .lst (SqL.of ha) (Dats.dp st.ok.z ds _ h2 k1)
    · rw [D.toP, D.toPs, hKG]
      exact .lst (SqL.of upd_same) .nil
theorem se_ownNil {i : Nat} : SE T G o n (.ownNil i) := fun {cf Wx ck X e ls} c hm hl => by
  simp only [mE] at hm
  split at hm
  · obtain ⟨h1, rfl⟩ := okB_some hm
    obtain ⟨k1, k2, k3, k4⟩ := c.vis h1
    have hu : X.A.units + 64 < cLine := by have := c.units; omega
    refine ⟨(pe_cmpR (op_eqB hu) (pe_var k1 k2 k3 k4) (pe_lst pa_nil) rfl).im fun σ H Q ⟨W, H0, env, S, h, g⟩ => ?_, fun _ => (pt_cmpR (op_eqB hu) (pe_var k1 k2 k3 k4) (pe_lst pa_nil) rfl).im fun σ H Q ⟨W, H0, env, S, h, g⟩ => ?_⟩
    · simp only [evE] at g
      split at g
      · rename_i ds ed
        cases er : eqD (.lst ds) (.lst []) with
        | none => rw [er] at g; exact g.elim
        | some r =>
          rw [er] at g
          obtain ⟨v, e1, sl⟩ := h.env.get i _ ed
          exact ⟨v, e1, Nat.zero_le _, own_eq (i := i) c.KG h sl er fun H' st => g (.bl r) W H' st (.bl r)⟩
      · exact g.elim
    · unfold evT at g
      simp only [evE] at g
      split at g
      · rename_i ds ed
        cases er : eqD (.lst ds) (.lst []) with
        | none => rw [er] at g; exact g.elim
        | some r =>
          rw [er] at g
          obtain ⟨v, e1, sl⟩ := h.env.get i _ ed
          exact ⟨v, e1, Nat.zero_le _, own_eq (i := i) c.KG h sl er fun H' st => ⟨r, rfl, g r W H' st rfl⟩⟩
      · exact g.elim
  · cases hm
end
end Pz

/-! Pz19: comprehensions; all expressions. -/
namespace Pz
open PySem PySem.Spec PyProof.Rows L2

section
variable {T : Tb} {G : Gc} {o : Orc} {n : Nat} {cf : CF} {Wx : WX} {ck : Ck} {X : Cx}
theorem src_pi {k : SrcK} {srcs : IEs} {t iter : Expr} {xs : List Expr} {ls : List LamE} (hs : SA T G o n srcs) (c : CkOk T G o n cf Wx ck X) (ha : srcArgs T ck k t iter = some xs) (hm : mEs T ck srcs xs = some ls) (hl : ∀ q ∈ ls, G.lam q.1 = some q.2) :
    PI X t iter (tI G cf Wx (evI k (evEs o srcs))) := by
  obtain ⟨a1, a2, a3⟩ := hs.args c hm hl
  unfold srcArgs at ha
  split at ha
  · split at ha
    · cases ha
      cases srcs with
      | nil => simp [mEs] at hm
      | cons a es =>
        cases es with
        | cons b es =>
          exfalso
          simp only [mEs] at hm
          split at hm
          · obtain ⟨_, _, _, z, _⟩ := both_some hm
            cases z
          · cases hm
        | nil =>
          have e : evEs o (.cons a .nil) = fun env S => (evE o a env S).bind fun d S => .ok [d] S := by
            funext env S
            simp only [evEs]
            rfl
          rw [e]
          exact ri_seq c.KG (a3 a iter rfl rfl).1
    · cases ha
  · split at ha
    · split at ha
      · rename_i h1
        cases ha
        obtain ⟨rfl, b1⟩ := h1
        obtain ⟨g1, m1, d1, n1⟩ := c.bt b1
        rw [List.all_cons, Bool.and_eq_true] at a2
        exact ri_range1 g1 m1 a1 (star1 a2.1)
      · cases ha
    · cases ha
  · split at ha
    · split at ha
      · rename_i h1
        cases ha
        obtain ⟨rfl, b1⟩ := h1
        obtain ⟨g1, m1, d1, n1⟩ := c.bt b1
        rw [List.all_cons, List.all_cons, Bool.and_eq_true, Bool.and_eq_true] at a2
        exact ri_range2 g1 m1 a1 (by rw [star_cons a2.1, star1 a2.2.1]; rfl) (star1 a2.2.1)
      · cases ha
    · cases ha
  · split at ha
    · split at ha
      · rename_i h1
        cases ha
        obtain ⟨rfl, b1⟩ := h1
        obtain ⟨g1, m1, d1, n1⟩ := c.bt b1
        rw [List.all_cons, Bool.and_eq_true] at a2
        exact ri_zip c.KG g1 m1 a1 (star_cons a2.1) (star_plain a2.2)
      · cases ha
    · cases ha
  · split at ha
    · split at ha
      · rename_i h1
        cases ha
        obtain ⟨rfl, b1⟩ := h1
        obtain ⟨g1, m1, d1, n1⟩ := c.bt b1
        rw [List.all_cons, Bool.and_eq_true] at a2
        exact ri_enum c.KG g1 m1 a1 (star1 a2.1)
      · cases ha
    · cases ha
/-- the parts of a comprehension -/
theorem lc_parts {own : List Nat} {tg : Tg} {k : SrcK} {srcs conds : IEs} {elt : IE} {e : Expr} {ls : List LamE} (hs : SA T G o n srcs) (hc : SA T G o n conds) (he : SE T G o n elt) (c : CkOk T G o n cf Wx ck X) (hm : mE T ck (.lc own tg k srcs conds elt) e = some ls) (hl : ∀ q ∈ ls, G.lam q.1 = some q.2) :
    ∃ x t iter ifs scope pos, ∃ tt : TT, e = .ListComp x [⟨t, iter, ifs, 0⟩] scope pos ∧ PI X t iter (tI G cf Wx (evI k (evEs o srcs))) ∧ BlkOk X.N X.env.scope scope (ownL ck own) ∧ (∀ (s : Shared) (H : Hp) (C : Addr) (cl : List (Str × Addr)) (fp : List Addr), PG (X.blk s H scope (compEnvC scope cl C X.env) fp) t (tG G tg)) ∧
      (∀ (s : Shared) (H : Hp) (C : Addr) (cl : List (Str × Addr)) (fp : List Addr), PTs (X.blk s H scope (compEnvC scope cl C X.env) fp) ifs tt) ∧ (∀ σ H Q, tT G cf0 Wx0 (evT (evAnd o conds)) σ H Q → tt σ H Q) ∧
      (∀ (s : Shared) (H : Hp) (C : Addr) (cl : List (Str × Addr)) (fp : List Addr), PE (X.blk s H scope (compEnvC scope cl C X.env) fp) x (tE G cf0 Wx0 (evE o elt))) ∧ (∀ x, foldedSetIterable iter X.env x = pure x) ∧ (∀ i ∈ tgVars tg, i ∈ own) ∧ (ownL ck own).map (·.2) = own := by
  simp only [mE] at hm
  split at hm
  · rename_i x t iter ifs asy scope pos
    split at hm
    · rename_i h1
      obtain ⟨⟨rfl, h2⟩, h3, h4, h5, h6, h7⟩ := h1
      split at hm
      · rename_i xs hxs
        obtain ⟨l1, l2, k1, k2, rfl⟩ := both_some hm
        obtain ⟨l3, l4, k3, k4, rfl⟩ := both_some k2
        have q1 := in2 hl
        have q2 := in2 q1.2
        have cb := fun (s : Shared) (H : Hp) (C : Addr) (cl : List (Str × Addr)) (fp : List Addr) => c.blk scope s H C cl fp
        have parts : ∃ tt : TT, (∀ (s : Shared) (H : Hp) (C : Addr) (cl : List (Str × Addr)) (fp : List Addr), PTs (X.blk s H scope (compEnvC scope cl C X.env) fp) ifs tt) ∧ (∀ σ H Q, tT G cf0 Wx0 (evT (evAnd o conds)) σ H Q → tt σ H Q) := by
          cases ifs with
          | nil =>
            cases conds with
            | cons a es => simp [mEs] at k3
            | nil =>
              refine ⟨tYes, fun s H C cl fp => pts_nil, fun σ H Q q => ?_⟩
              obtain ⟨W, H0, env, S, h, g⟩ := q
              exact Go.ok h.hok (show Go G Wx0 RB W σ H (.ok true S) Q from g) rfl
          | cons b bs =>
            cases bs with
            | cons b2 bs => simp at h7
            | nil =>
              cases conds with
              | nil => simp [mEs] at k3
              | cons a es =>
                cases es with
                | cons a2 es =>
                  exfalso
                  simp only [mEs] at k3
                  split at k3
                  · obtain ⟨_, _, _, z, _⟩ := both_some k3
                    cases z
                  · cases k3
                | nil =>
                  simp only [tBs, Bool.and_true] at h6
                  refine ⟨tT G cf0 Wx0 (evT (evE o a)), fun s H C cl fp => pts_one (((hc.args (cb s H C cl fp) k3 q2.1).2.2 a b rfl rfl).2 h6), fun σ H Q q => ?_⟩
                  have e : evT (evAnd o (.cons a .nil)) = evT (evE o a) := by
                    funext env S
                    unfold evT
                    simp only [evAnd]
                    cases evE o a env S with
                    | ok d S1 =>
                      simp only [Out.bind_ok]
                      cases truth d <;> rfl
                    | exc c x S1 => rfl
                    | bad => rfl
                  rw [e] at q
                  exact q
        obtain ⟨tt, t1, t2⟩ := parts
        refine ⟨x, t, iter, ifs, scope, pos, tt, rfl, src_pi hs c hxs k1 q1.1, ?_, fun s H C cl fp => sTg (cb s H C cl fp) tg h4, t1, t2, fun s H C cl fp => (he (cb s H C cl fp) k4 q2.2).1, folded0 h2, fun i hi => ?_, ?_⟩
        · rw [c.N, c.sc]
          exact blkOk_by h3
        · rw [List.all_eq_true] at h5
          simpa using h5 i hi
        · unfold ownL
          rw [List.map_map]
          exact (List.map_congr_left fun i _ => rfl).trans (List.map_id _)
      · cases hm
    · cases hm
  · cases hm
theorem evE_lc {own : List Nat} {tg : Tg} {k : SrcK} {srcs conds : IEs} {elt : IE} : evE o (.lc own tg k srcs conds elt) = evLc own tg (evI k (evEs o srcs)) (evAnd o conds) (evE o elt) := by
  funext env S
  simp only [evE]
  unfold evLc evI
  cases evEs o srcs env S with
  | ok ds S1 =>
    simp only [Out.bind_ok]
    cases itemsD k ds with
    | some its => rfl
    | none => rfl
  | exc c x S1 => rfl
  | bad => rfl
theorem se_lc {own : List Nat} {tg : Tg} {k : SrcK} {srcs conds : IEs} {elt : IE} (hs : SA T G o n srcs) (hc : SA T G o n conds) (he : SE T G o n elt) : SE T G o n (.lc own tg k srcs conds elt) := SE.simple fun {cf Wx ck X e ls} c hm hl => by
  obtain ⟨x, t, iter, ifs, scope, pos, tt, rfl, p1, p2, p3, p4, p5, p6, p7, p8, p9⟩ := lc_parts hs hc he c hm hl
  refine ⟨?_, fun _ => rfl⟩
  rw [evE_lc]
  refine (pe_lc c.calm c.nd p1 p2 p3 p4 p6 p7).im fun σ H Q q => ?_
  rw [p9]
  exact lcD p8 p5 (fr_of (evLc_lst own tg _ _ _) q)
/-- the parts of a comprehension of two clauses -/
theorem lc2_parts {own vs1 : List Nat} {tg tg1 : Tg} {k k1 : SrcK} {srcs srcs1 : IEs} {elt : IE} {e : Expr} {ls : List LamE} (hs : SA T G o n srcs) (hs1 : SA T G o n srcs1) (he : SE T G o n elt) (c : CkOk T G o n cf Wx ck X) (hm : mE T ck (.lc2 own vs1 tg k srcs tg1 k1 srcs1 elt) e = some ls) (hl : ∀ q ∈ ls, G.lam q.1 = some q.2) :
    ∃ x t iter t1 iter1 scope pos, e = .ListComp x [⟨t, iter, [], 0⟩, ⟨t1, iter1, [], 0⟩] scope pos ∧ PI X t iter (tI G cf Wx (evI k (evEs o srcs))) ∧ BlkOk X.N X.env.scope scope (ownL ck own) ∧ (∀ i ∈ vs1, i ∈ (ownL ck own).map (·.2)) ∧ (∀ (s : Shared) (H : Hp) (C : Addr) (cl : List (Str × Addr)) (fp : List Addr), PG (X.blk s H scope (compEnvC scope cl C X.env) fp) t (tG G tg)) ∧
      (∀ (s : Shared) (H : Hp) (C : Addr) (cl : List (Str × Addr)) (fp : List Addr), PI (X.blk s H scope (compEnvC scope cl C X.env) fp) t1 iter1 (tI G cf0 Wx0 (evI k1 (evEs o srcs1)))) ∧ (∀ (s : Shared) (H : Hp) (C : Addr) (cl : List (Str × Addr)) (fp : List Addr), PG (X.blk s H scope (compEnvC scope cl C X.env) fp) t1 (tG G tg1)) ∧
      (∀ (s : Shared) (H : Hp) (C : Addr) (cl : List (Str × Addr)) (fp : List Addr), PE (X.blk s H scope (compEnvC scope cl C X.env) fp) x (tE G cf0 Wx0 (evE o elt))) ∧ (∀ x, foldedSetIterable iter X.env x = pure x) ∧ (∀ env x, foldedSetIterable iter1 env x = pure x) ∧ (∀ i ∈ tgVars tg, i ∈ own) ∧ (∀ i ∈ tgVars tg1, i ∈ vs1) ∧ (ownL ck own).map (·.2) = own := by
  simp only [mE] at hm
  split at hm
  · rename_i x t iter asy t1 iter1 asy1 scope pos
    split at hm
    · rename_i h1
      obtain ⟨⟨rfl, rfl, h2, h2'⟩, h3, ⟨h4, h4'⟩, h5, h5', h6⟩ := h1
      split at hm
      · rename_i xs hxs
        split at hm
        · rename_i xs1 hxs1
          obtain ⟨l1, l2, q1, q2, rfl⟩ := both_some hm
          obtain ⟨l3, l4, q3, q4, rfl⟩ := both_some q2
          have r1 := in2 hl
          have r2 := in2 r1.2
          have cb := fun (s : Shared) (H : Hp) (C : Addr) (cl : List (Str × Addr)) (fp : List Addr) => c.blk scope s H C cl fp
          have eo : (ownL ck own).map (·.2) = own := by
            unfold ownL
            rw [List.map_map]
            exact (List.map_congr_left fun i _ => rfl).trans (List.map_id _)
          rw [List.all_eq_true] at h5 h5' h6
          refine ⟨x, t, iter, t1, iter1, scope, pos, rfl, src_pi hs c hxs q1 r1.1, ?_, fun i hi => by rw [eo]; simpa using h6 i hi, fun s H C cl fp => sTg (cb s H C cl fp) tg h4, fun s H C cl fp => src_pi hs1 (cb s H C cl fp) hxs1 q3 r2.1, fun s H C cl fp => sTg (cb s H C cl fp) tg1 h4',
            fun s H C cl fp => (he (cb s H C cl fp) q4 r2.2).1, folded0 h2, fun env x => folded0 h2' x, fun i hi => by simpa using h5 i hi, fun i hi => by simpa using h5' i hi, eo⟩
          rw [c.N, c.sc]
          exact blkOk_by h3
        · cases hm
      · cases hm
    · cases hm
  · cases hm
theorem evE_lc2 {own vs1 : List Nat} {tg tg1 : Tg} {k k1 : SrcK} {srcs srcs1 : IEs} {elt : IE} : evE o (.lc2 own vs1 tg k srcs tg1 k1 srcs1 elt) = evLc2 own vs1 tg (evI k (evEs o srcs)) tg1 (evI k1 (evEs o srcs1)) (evE o elt) := by
  funext env S
  simp only [evE]
  unfold evLc2 evI
  cases evEs o srcs env S with
  | ok ds S1 =>
    simp only [Out.bind_ok]
    cases itemsD k ds with
    | some its =>
      show (Out.calm (compF _ its S1)).bind _ = (Out.calm (compF _ its S1)).bind _
      congr 2
      congr 1
      funext x S
      unfold turn2
      cases bindT tg x (env.blk own) with
      | none => rfl
      | some env1 =>
        show (evEs o srcs1 env1 S).bind _ = ((evEs o srcs1 env1 S).bind _).bind _
        cases evEs o srcs1 env1 S with
        | ok ds1 S2 =>
          simp only [Out.bind_ok]
          cases itemsD k1 ds1 with
          | some its1 => rfl
          | none => rfl
        | exc c x S2 => rfl
        | bad => rfl
    | none => rfl
  | exc c x S1 => rfl
  | bad => rfl
theorem se_lc2 {own vs1 : List Nat} {tg tg1 : Tg} {k k1 : SrcK} {srcs srcs1 : IEs} {elt : IE} (hs : SA T G o n srcs) (hs1 : SA T G o n srcs1) (he : SE T G o n elt) : SE T G o n (.lc2 own vs1 tg k srcs tg1 k1 srcs1 elt) := SE.simple fun {cf Wx ck X e ls} c hm hl => by
  obtain ⟨x, t, iter, t1, iter1, scope, pos, rfl, p1, p2, p3, p4, p5, p6, p7, p8, p9, p10, p11, p12⟩ := lc2_parts hs hs1 he c hm hl
  refine ⟨?_, fun _ => rfl⟩
  rw [evE_lc2]
  refine (pe_lc2 c.calm c.nd p1 p2 p3 p4 (fun _ _ _ _ _ => pts_nil) p5 p6 (fun _ _ _ _ _ => pts_nil) p7 p8 p9).im fun σ H Q q => ?_
  rw [p12]
  exact lcD2 p10 p11 (fr_of (evLc2_lst own vs1 tg _ tg1 _ _) q)
theorem sa_nil : SA T G o n .nil where
  args := fun {cf Wx ck X xs ls} c hm hl => by
    simp only [mEs] at hm
    split at hm
    · exact ⟨ra_nil, rfl, fun a x e => by cases e⟩
    · cases hm
  bools := fun {cf Wx ck X xs ls} c hm hl hne pos => by
    cases xs with
    | nil => exact absurd rfl hne
    | cons x xs => simp [mEs] at hm
  lams := fun {cf Wx ck X xs ls l cis} c hm hl => by
    simp only [mL] at hm
    split at hm
    · rename_i params body scope lpos
      obtain ⟨L, h1, rfl⟩ := Option.map_eq_some_iff.mp hm
      have hL : G.lam l = some L := hl (l, L) List.mem_cons_self
      unfold lamOf at h1
      split at h1
      · rename_i ps hps
        split at h1
        · rename_i hq
          obtain ⟨q1, q2, q3⟩ := hq
          cases h1
          obtain ⟨cA, P, m1, m2, m3, m4, m5⟩ := c.mkx q1
          refine ⟨pl_lam hL ⟨m1, m2, by rw [m3], m4, m5, ?_, fun y hy e => ?_, fun y hy => ?_, ?_, fun j nn e => ?_⟩, rfl, by simp⟩
          · unfold argNames at hps
            split at hps
            · simp only [defaultsOf, evalEach, evalEachOpt]
            · cases hps
          · rw [List.all_eq_true] at q2
            have := q2 y hy
            rw [e, Bool.and_eq_true] at this
            rw [c.sc]
            have t1 := this.1
            dsimp only at t1
            split at t1
            · exact .inl (by assumption)
            · exact .inr (by assumption)
            · cases t1
          · rw [List.all_eq_true] at q2
            have := q2 y hy
            rw [Bool.and_eq_true, decide_eq_true_eq] at this
            exact this.2
          · simp
          · dsimp only at e
            rw [List.getElem?_map] at e
            obtain ⟨i, e1, e2⟩ := Option.map_eq_some_iff.mp e
            rw [List.all_eq_true] at q3
            have := q3 i (List.mem_of_getElem? e1)
            split at this
            · rename_i n2 hn2
              rw [hn2] at e2
              have e2 : n2 = nn := e2
              subst e2
              exact ⟨i, e1, by rw [c.N]; exact hn2, by simpa using this⟩
            · cases this
        · cases h1
      · cases h1
    · cases hm
theorem sa_cons {a : IE} {as : IEs} (ha : SE T G o n a) (h : SA T G o n as) : SA T G o n (.cons a as) where
  args := fun {cf Wx ck X xs ls} c hm hl => by
    simp only [mEs] at hm
    split at hm
    · rename_i x xs
      split at hm
      · rename_i hp
        obtain ⟨l1, l2, k1, k2, rfl⟩ := both_some hm
        have q := in2 hl
        obtain ⟨a1, a2, a3⟩ := h.args c k2 q.2
        refine ⟨ra_cons (ha c k1 q.1).1 a1 (star_cons hp), by rw [List.all_cons, hp, a2]; rfl, fun b y e1 e2 => ?_⟩
        cases e1
        cases e2
        exact ha c k1 q.1
      · cases hm
    · cases hm
  bools := fun {cf Wx ck X xs ls} c hm hl hne pos => by
    simp only [mEs] at hm
    split at hm
    · rename_i x xs
      split at hm
      · rename_i hp
        obtain ⟨l1, l2, k1, k2, rfl⟩ := both_some hm
        have q := in2 hl
        have ka := ha c k1 q.1
        cases as with
        | nil =>
          cases xs with
          | cons y ys => simp [mEs] at k2
          | nil =>
            refine ⟨re_one ka.1, re_one ka.1, fun ht => ?_⟩
            simp only [tBs, Bool.and_true] at ht
            exact ⟨rew_one (ka.2 ht), rew_one (ka.2 ht)⟩
        | cons b bs =>
          cases xs with
          | nil => simp [mEs] at k2
          | cons y ys =>
            obtain ⟨b1, b2, b3⟩ := h.bools c k2 q.2 (by simp) pos
            refine ⟨re_and ka.1 b1, re_or ka.1 b2, fun ht => ?_⟩
            rw [tBs, Bool.and_eq_true] at ht
            exact ⟨rew_and (ka.2 ht.1) (b3 ht.2).1, rew_or (ka.2 ht.1) (b3 ht.2).2⟩
      · cases hm
    · cases hm
  lams := fun {cf Wx ck X xs ls l cis} c hm hl => by
    simp only [mL] at hm
    split at hm
    · rename_i x xs
      split at hm
      · rename_i hp
        obtain ⟨l1, l2, k1, k2, rfl⟩ := both_some hm
        have q := in2 hl
        obtain ⟨a1, a2, a3⟩ := h.lams c k2 q.2
        exact ⟨pl_cons (ha c k1 q.1).1 a1 hp, by rw [List.all_cons, hp, a2]; rfl, by simp⟩
      · cases hm
    · cases hm
mutual
theorem sE : ∀ ie : IE, SE T G o n ie
  | .var i => se_var i
  | .con d => se_con d
  | .glob k => se_glob k
  | .fnv k => se_fnv k
  | .tup es => se_tup (sA es)
  | .lst es => se_lst (sA es)
  | .cel es => se_cel (sA es)
  | .bin _ a b => se_bin (sE a) (sE b)
  | .neg a => se_neg (sE a)
  | .not a => se_not (sE a)
  | .cmp _ a b => se_cmp (sE a) (sE b)
  | .cmp2 _ _ a b d => se_cmp2 (sE a) (sE b) (sE d)
  | .and es => se_and (sA es)
  | .or es => se_or (sA es)
  | .ife a b d => se_ife (sE a) (sE b) (sE d)
  | .idx a i => se_idx (sE a) (sE i)
  | .slc a lo hi => se_slc (sE a) (sA lo) (sA hi)
  | .rev a => se_rev (sE a)
  | .call _ es => se_call (sA es)
  | .callv _ es => se_callv (sA es)
  | .callc _ es => se_callc (sA es)
  | .callL _ es _ _ => se_callL (sA es)
  | .prim _ es => se_prim (sA es)
  | .isi a _ => se_isi (sE a)
  | .lc _ _ _ srcs conds elt => se_lc (sA srcs) (sA conds) (sE elt)
  | .lc2 _ _ _ _ srcs _ _ srcs1 elt => se_lc2 (sA srcs) (sA srcs1) (sE elt)
  | .ownIx _ a => se_ownIx (sE a)
  | .ownLen _ => se_ownLen
  | .ownNil _ => se_ownNil
  | .ownSlc _ lo hi => se_ownSlc (sA lo) (sA hi)
theorem sA : ∀ es : IEs, SA T G o n es
  | .nil => sa_nil
  | .cons a as => sa_cons (sE a) (sA as)
end
end
end Pz

/-! Pz20: statements matched. -/
namespace Pz
open PySem PySem.Spec PyProof.Rows L2

/-- what tells errors: the class that is caught, the def that tells the word -/
structure Tb2 where
  base : List Str
  errf : List Str
def noTup : Expr → Bool
  | .Tuple _ _ _ => false
  | _ => true
/-- a tuple of constants -/
def foldB : Expr → Bool
  | .Tuple vs _ _ => vs.all (foldedForSure 8)
  | _ => false
def isTupE : Expr → Bool
  | .Tuple _ _ _ => true
  | _ => false
def isLcE : IE → Bool
  | .lc _ _ _ _ _ _ => true
  | .lc2 _ _ _ _ _ _ _ _ _ => true
  | _ => false
def isFrz : IS → Bool
  | .frz _ => true
  | _ => false
/-- what makes a new list -/
def frB : IE → Bool
  | .lst _ => true
  | .bin .add _ _ => true
  | .prim .list _ => true
  | _ => false
def Ck.swB (ck : Ck) (x : Str) (tl : Nat) : Expr → Bool
  | .ListComp _ _ scope pos => decide (ck.sc.kind = .function) && decide (ck.sc.names.lookup x = some .local) && (tl == pos.line) && !(scope.names.any fun (n, k) => n == x && (k == .local || k == .cell))
  | _ => false
def Ck.asgB (ck : Ck) (e : IE) (x : Str) (l : Nat) (v : Expr) : Bool := if isLcE e = true then ck.swB x l v else noComp v
def Ck.ownB (ck : Ck) (e : IE) (x : Str) (l : Nat) (v : Expr) : Bool := if isLcE e = true then ck.swB x l v else noComp v && frB e
def emptyL : List Expr → Nat → Bool
  | [], 0 => true
  | .List [] _ :: r, k + 1 => emptyL r k
  | _, _ => false
def mP (T : Tb) (ck : Ck) : IEs → List Expr → Nat → Option (List LamE)
  | .nil, vs, k => okB (emptyL vs k)
  | .cons a as, v :: vs, k => if plainE v = true then both (mE T ck a v) (mP T ck as vs k) else none
  | .cons _ _, [], _ => none
def nmsB (ck : Ck) : List Nat → List Expr → Bool
  | [], [] => true
  | i :: is, .Name x _ :: ts => ck.sto i x && decide (ck.sc.names.lookup x = some .local) && nmsB ck is ts
  | _, _ => false
def starB : Expr → Bool
  | .Starred _ _ => true
  | _ => false
/-- a, b = .. is stored from the right -/
def swpB (ck : Ck) (ts vs : List Expr) : Bool :=
  decide (ck.sc.kind = .function) && !(vs.all (foldedForSure 8)) && !(vs.all (constantsAlone 8)) && (match ts with
    | [.Name x p, .Name y q] => (q.line == p.line) && !(x == y)
    | [.Name x p, .Name y q, .Name z r] => (q.line == p.line) && (r.line == p.line) && !(x == y) && !(x == z) && !(y == z)
    | _ => false)
mutual
def mS (T : Tb) (U : Tb2) (ck : Ck) : IS → Stmt → Option (List LamE)
  | .asg i e, st => match st with
    | .Assign [.Name x p] v _ => if ck.sto i x = true ∧ ck.asgB e x p.line v = true then mE T ck e v else none
    | _ => none
  | .own i e, st => match st with
    | .Assign [.Name x p] v _ => if ck.sto i x = true ∧ ck.ownB e x p.line v = true then mE T ck e v else none
    | _ => none
  | .tasg t e, st => match st with
    | .Assign [tx] v _ => if isTupE tx = true ∧ mTg ck t tx = true ∧ noComp v = true ∧ (noTup v || foldB v) = true then mE T ck e v else none
    | _ => none
  | .par is js es, st => match st with
    | .Assign [.Tuple ts _ _] (.Tuple vs _ _) _ => if nmsB ck (is ++ js) ts = true ∧ ts.length = vs.length ∧ (swpB ck ts vs || (decide (4 ≤ ts.length) && decide (ts.length ≤ 100))) = true then mP T ck es vs js.length else none
    | _ => none
  | .app i e, st => match st with
    | .Expr (.Call (.Attribute (.Name x _) m apos) [v] [] cpos) _ => if ck.vis i x = true ∧ m = "append" ∧ plainE v = true ∧ (apos.endLine == cpos.line) = true then mE T ck e v else none
    | _ => none
  | .setx i ix e, st => match st with
    | .Assign [.Subscript (.Name x _) y _] v _ => if ck.vis i x = true ∧ noSlc y = true ∧ noComp v = true then both (mE T ck ix y) (mE T ck e v) else none
    | _ => none
  | .expr e, st => match st with
    | .Expr v _ => if noComp v = true then mE T ck e v else none
    | _ => none
  | .ret e, st => match st with
    | .Return (some v) _ => mE T ck e v
    | _ => none
  | .retn, st => match st with
    | .Return none _ => some []
    | _ => none
  | .pass, st => match st with
    | .Pass _ => some []
    | _ => none
  | .ife c a b, st => match st with
    | .If t as bs _ => if tB c = true then both (mE T ck c t) (both (mSs T U ck a as) (mSs T U ck b bs)) else none
    | _ => none
  | .for_ tg k srcs body, st => match st with
    | .For t iter bs [] _ => if noSet iter = true ∧ mTg ck tg t = true then (match srcArgs T ck k t iter with
      | some xs => both (mEs T ck srcs xs) (mSs T U ck body bs)
      | none => none) else none
    | _ => none
  | .while_ c body, st => match st with
    | .While t bs [] _ => if tB c = true then both (mE T ck c t) (mSs T U ck body bs) else none
    | _ => none
  | .raise c, st => match st with
    | .Raise (some (.Call (.Name x _) [.Constant (.str _) _ _] [] _)) none _ => okB (ck.gl x && decide (T.cls.lookup x = some c))
    | _ => none
  | .tryR i body, st => match st with
    | .Try bs [.ExceptHandler (some (.Name x _)) (some nm) [.Return (some (.Call (.Name f _) [.Name nm2 _] [] _)) _] _] [] [] _ =>
      if (nm2 = nm ∧ ck.vis i nm = true ∧ ck.sc.names.lookup nm = some .local) ∧ ck.gl x = true ∧ U.base.contains x = true ∧ ck.gl f = true ∧ U.errf.contains f = true then mSs T U ck body bs else none
    | _ => none
  | .frz _, _ => none
def mSs (T : Tb) (U : Tb2) (ck : Ck) : ISs → List Stmt → Option (List LamE)
  | .nil, sts => match sts with
    | [] => some []
    | _ => none
  | .cons s ss, sts => if isFrz s = true then mSs T U ck ss sts else match sts with
      | st :: sts => both (mS T U ck s st) (mSs T U ck ss sts)
      | [] => none
end

section
variable {T : Tb} {U : Tb2} {G : Gc} {o : Orc} {n : Nat} {cf : CF} {Wx : WX} {ck : Ck} {X : Cx}
structure SkOk (T : Tb) (U : Tb2) (G : Gc) (o : Orc) (n : Nat) (cf : CF) (Wx : WX) (ck : Ck) (X : Cx) : Prop where
  ck : CkOk T G o n cf Wx ck X
  pass : PassesOwn (model X.prog X.w) X.A X.env X.xe
  stk : X.stack = X.env :: X.outer
  frm : X.env.frame = some X.env.locals
  lvl : ∃ m, n = m + 1
  base : ∀ x ∈ U.base, ∃ cp, X.mg x = some cp ∧ ∀ c C, G.ca c = some C → PySem.W.exmOne X.K (.ref C) cp = some true
  errf : ∀ f ∈ U.errf, ∃ fa, X.mg f = some (.ref fa) ∧ ErrFact G X.prog X.w X.K X.mg X.base o.err fa
theorem SkOk.tr (c : SkOk T U G o n cf Wx ck X) (W : WX) (pn : List (Addr × Obj)) (xe : Value → Shared → Prop) (tk : L2N.Takes (X.tr pn xe) W) (hp : PassesOwn (model X.prog X.w) X.A X.env xe) : SkOk T U G o n cf W ck (X.tr pn xe) where
  ck := ⟨c.ck.N, c.ck.nd, c.ck.sc, c.ck.KG, c.ck.calm, c.ck.room, tk, c.ck.fc, c.ck.gb, c.ck.clo, c.ck.mkx⟩
  pass := hp
  stk := c.stk
  frm := c.frm
  lvl := c.lvl
  base := c.base
  errf := c.errf
theorem fnKind {env : PySem.Env} (h : env.scope.kind = .function) : env.blockKind = .function := by
  unfold Env.blockKind
  rw [h]
  rfl
theorem swapped2 {x y : Str} {px py pt pt2 : Pos} {kt k2 : Nat} {a b : Expr} {env : PySem.Env} (hk : env.blockKind = .function) (hx : env.kindOf x = some .local) (hy : env.kindOf y = some .local) (hl : py.line = px.line) (hxy : x ≠ y) (ha : plainE a = true) (hb : plainE b = true)
    (hf : [a, b].all (foldedForSure 8) = false) (hc : [a, b].all (constantsAlone 8) = false) : swappedStores [.Tuple [.Name x px, .Name y py] kt pt] (.Tuple [a, b] k2 pt2) env = pure (some [x, y]) := by
  have e1 : ([a, b].any fun | .Starred .. => true | _ => false) = false := by cases a <;> cases b <;> first | rfl | (cases ha; done) | (cases hb; done)
  have e2 : ([x, y] : List Str).eraseDups = [x, y] := by
    have : (y == x) = false := beq_eq_false_iff_ne.mpr (Ne.symm hxy)
    simp [List.eraseDups_cons, this]
  unfold swappedStores
  simp only [hk, hf, hc, e1, hx, hy, hl, Expr.pos, List.length_cons, List.length_nil, List.head?_cons, Option.map_some, Option.getD_some, List.filterMap_cons, List.filterMap_nil, beq_self_eq_true, Bool.and_self, if_true, e2]
  simp
  rintro (h | h)
  · cases a <;> first | (cases h; done) | (cases ha; done)
  · cases b <;> first | (cases h; done) | (cases hb; done)
theorem swapped3 {x y z : Str} {px py pz pt pt2 : Pos} {kt k2 : Nat} {a b c : Expr} {env : PySem.Env} (hk : env.blockKind = .function) (hx : env.kindOf x = some .local) (hy : env.kindOf y = some .local) (hz : env.kindOf z = some .local) (hl : py.line = px.line) (hl2 : pz.line = px.line) (hxy : x ≠ y) (hxz : x ≠ z) (hyz : y ≠ z)
    (ha : plainE a = true) (hb : plainE b = true) (hd : plainE c = true) (hf : [a, b, c].all (foldedForSure 8) = false) (hc : [a, b, c].all (constantsAlone 8) = false) : swappedStores [.Tuple [.Name x px, .Name y py, .Name z pz] kt pt] (.Tuple [a, b, c] k2 pt2) env = pure (some [x, y, z]) := by
  have e0 : ∀ {a : Expr}, plainE a = true → (match a with | .Starred .. => true | _ => false) = false := fun {a} h => by cases a <;> first | rfl | (cases h; done)
  have e1 : ([a, b, c].any fun | .Starred .. => true | _ => false) = false := by
    rw [List.any_cons, List.any_cons, List.any_cons, e0 ha, e0 hb, e0 hd]; rfl
  have e2 : ([x, y, z] : List Str).eraseDups = [x, y, z] := by
    have h1 : (y == x) = false := beq_eq_false_iff_ne.mpr (Ne.symm hxy)
    have h2 : (z == x) = false := beq_eq_false_iff_ne.mpr (Ne.symm hxz)
    have h3 : (z == y) = false := beq_eq_false_iff_ne.mpr (Ne.symm hyz)
    simp [List.eraseDups_cons, h1, h2, h3]
  unfold swappedStores
  simp only [hk, hf, hc, e1, hx, hy, hz, hl, hl2, Expr.pos, List.length_cons, List.length_nil, List.head?_cons, Option.map_some, Option.getD_some, List.filterMap_cons, List.filterMap_nil, beq_self_eq_true, Bool.and_self, if_true, e2]
  simp
  rintro (h | h | h)
  · cases a <;> first | (cases h; done) | (cases ha; done)
  · cases b <;> first | (cases h; done) | (cases hb; done)
  · cases c <;> first | (cases h; done) | (cases hd; done)
theorem swappedT {t v : Expr} {env : PySem.Env} (h : noTup v = true) : swappedStores [t] v env = pure none := by
  cases v <;> first | (cases h; done) | skip
  all_goals (cases t <;> rfl)
theorem swappedF {t v : Expr} {env : PySem.Env} (h : foldB v = true) : swappedStores [t] v env = pure none := by
  cases v <;> first | (cases h; done) | skip
  rename_i vs k p
  have h : vs.all (foldedForSure 8) = true := h
  unfold swappedStores
  cases t <;> simp [h]
  all_goals (repeat' split) <;> rfl
theorem swappedTF {t v : Expr} {env : PySem.Env} (h : (noTup v || foldB v) = true) : swappedStores [t] v env = pure none := by
  rw [Bool.or_eq_true] at h
  exact h.elim swappedT swappedF
theorem swappedN {ts vs : List Expr} {pt pt2 : Pos} {kt k2 : Nat} {env : PySem.Env} (h : 4 ≤ ts.length) : swappedStores [.Tuple ts kt pt] (.Tuple vs k2 pt2) env = pure none := by
  have e1 : (ts.length == 2) = false := by rw [beq_eq_false_iff_ne]; omega
  have e2 : (ts.length == 3) = false := by rw [beq_eq_false_iff_ne]; omega
  unfold swappedStores
  simp [e1, e2]
end
end Pz

/-! Pz21: statements run as the interpreter says. -/
namespace Pz
open PySem PySem.Spec PyProof.Rows L2

section
variable {T : Tb} {U : Tb2} {G : Gc} {o : Orc} {n wf : Nat} {cf : CF} {Wx : WX} {ck : Ck} {X : Cx}
theorem PS.le {st : Stmt} {ex ex' : Env → Store → SOut} (h : PS X st (tS G cf Wx ex)) (hl : ∀ env S, ex' env S ≠ .bad → ex env S = ex' env S) : PS X st (tS G cf Wx ex') :=
  h.im fun D σ H ⟨W0, H0, W, env, S, st, eo, g⟩ => ⟨W0, H0, W, env, S, st, eo, by
    by_cases q : ex' env S = .bad
    · rw [q] at g; exact g.elim
    · rw [hl env S q]; exact g⟩
def SSt (T : Tb) (U : Tb2) (G : Gc) (o : Orc) (n wf : Nat) (s : IS) : Prop := ∀ {cf : CF} {Wx : WX} {ck : Ck} {X : Cx} {st : Stmt} {ls : List LamE}, SkOk T U G o n cf Wx ck X → mS T U ck s st = some ls → (∀ q ∈ ls, G.lam q.1 = some q.2) → PS X st (tS G cf Wx (exS o wf s))
def SSs (T : Tb) (U : Tb2) (G : Gc) (o : Orc) (n wf : Nat) (ss : ISs) : Prop := ∀ {cf : CF} {Wx : WX} {ck : Ck} {X : Cx} {sts : List Stmt} {ls : List LamE}, SkOk T U G o n cf Wx ck X → mSs T U ck ss sts = some ls → (∀ q ∈ ls, G.lam q.1 = some q.2) → PSs X sts (tS G cf Wx (exSs o wf ss))
theorem sw_lc (c : CkOk T G o n cf Wx ck X) {x : Str} {p : Pos} {l : Nat} {e : Expr} (h : ck.swB x p.line e = true) : swapsWith e (some (.Name x p)) l X.env = pure true ∧ X.env.scope.names.lookup x = some .local := by
  unfold Ck.swB at h
  split at h
  · rename_i a b scope pos
    simp only [Bool.and_eq_true, decide_eq_true_eq] at h
    obtain ⟨⟨⟨h1, h2⟩, h3⟩, h4⟩ := h
    have k1 : X.env.blockKind = .function := fnKind (by rw [c.sc]; exact h1)
    have k2 : X.env.kindOf x = some .local := by show X.env.scope.names.lookup x = _; rw [c.sc]; exact h2
    refine ⟨?_, k2⟩
    show pure (X.env.blockKind == .function && X.env.kindOf x == some .local && p.line == pos.line && !(scope.names.any fun (n, k) => n == x && (k == .local || k == .cell))) = (pure true : Sem Bool)
    rw [k1, k2, h3, h4]
    rfl
  · cases h
theorem isLc_of {e : IE} (h : isLcE e = true) : (∃ own tg k srcs conds elt, e = .lc own tg k srcs conds elt) ∨ ∃ own vs1 tg k srcs tg1 k1 srcs1 elt, e = .lc2 own vs1 tg k srcs tg1 k1 srcs1 elt := by
  cases e <;> first | (cases h; done) | exact .inl ⟨_, _, _, _, _, _, rfl⟩ | exact .inr ⟨_, _, _, _, _, _, _, _, _, rfl⟩
theorem ss_asg' {i : Nat} {e : IE} : SSt T U G o n wf (.asg i e) := fun {cf Wx ck X st ls} c hm hl => by
  simp only [mS] at hm
  split at hm
  · rename_i x p v pos
    split at hm
    · rename_i h1
      obtain ⟨k1, k2, k3⟩ := c.ck.sto h1.1
      have h2 := h1.2
      unfold Ck.asgB at h2
      split at h2
      · rename_i hlc
        rcases isLc_of hlc with ⟨own, tg, k, srcs, conds, elt, rfl⟩ | ⟨own, vs1, tg, k, srcs, tg1, kk1, srcs1, elt, rfl⟩
        case inr =>
          obtain ⟨w1, w2⟩ := sw_lc (l := pos.line) c.ck h2
          obtain ⟨x1, t, iter, t1, iter1, scope, pos1, rfl, p1, p2, p3, p4, p5, p6, p7, p8, p9, p10, p11, p12⟩ := lc2_parts (sA srcs) (sA srcs1) (sE elt) c.ck hm hl
          refine (ps_setLc2 c.ck.calm c.ck.nd k1 w2 w1 p1 p2 p3 p4 (fun _ _ _ _ _ => pts_nil) p5 p6 (fun _ _ _ _ _ => pts_nil) p7 p8 p9).im fun D σ H q => ?_
          rw [p12]
          exact sgD (ev := evE o (.lc2 own vs1 tg k srcs tg1 kk1 srcs1 elt)) (fun σ H Q q => by rw [evE_lc2] at q; exact lcD2 p10 p11 (fr_of (evLc2_lst own vs1 tg _ tg1 _ _) q)) q
        obtain ⟨w1, w2⟩ := sw_lc (l := pos.line) c.ck h2
        obtain ⟨x1, t, iter, ifs, scope, pos1, tt, rfl, p1, p2, p3, p4, p5, p6, p7, p8, p9⟩ := lc_parts (sA srcs) (sA conds) (sE elt) c.ck hm hl
        refine (ps_setLc c.ck.calm c.ck.nd k1 w2 w1 p1 p2 p3 p4 p6 p7).im fun D σ H q => ?_
        rw [p9]
        exact sgD (ev := evE o (.lc own tg k srcs conds elt)) (fun σ H Q q => by rw [evE_lc] at q; exact lcD p8 p5 (fr_of (evLc_lst own tg _ _ _) q)) q
      · exact ss_asg c.ck.nd k1 k2 (sE e c.ck hm hl).1 (swaps0 h2) k3
    · cases hm
  · cases hm
abbrev ownS (ev : Env → Store → Out D) (i : Nat) : Env → Store → SOut := fun env S => (ev env S).st env fun d S => match d with | .lst ds => if i < env.length then .nxt (env.set i (some (.own ds))) S else .bad | _ => .bad
theorem sF {e : IE} {v : Expr} {ls : List LamE} {i : Nat} (c : CkOk T G o n cf Wx ck X) (hf : frB e = true) (hm : mE T ck e v = some ls) (hl : ∀ q ∈ ls, G.lam q.1 = some q.2) : ∃ ev, PE X v (tF G cf Wx ev) ∧ ∀ env S, ownS (evE o e) i env S ≠ .bad → ownS ev i env S = ownS (evE o e) i env S := by
  unfold frB at hf
  split at hf
  · rename_i es
    simp only [mE] at hm
    split at hm
    · exact ⟨_, rf_lst ((sA es).args c hm hl).1, fun _ _ _ => rfl⟩
    · cases hm
  · rename_i a b
    simp only [mE] at hm
    split at hm
    · split at hm
      · rename_i h1
        obtain ⟨x, y, k1, k2, rfl⟩ := both_some hm
        have eo := opE_eq h1
        subst eo
        refine ⟨_, rf_add (sE a c k1 (in2 hl).1).1 (sE b c k2 (in2 hl).2).1, fun env S nb => ?_⟩
        simp only [ownS, evE] at nb ⊢
        cases e1 : evE o a env S with
        | exc cc xx S1 => rfl
        | bad => rw [e1] at nb; exact absurd rfl nb
        | ok d1 S1 =>
          simp only [e1, Out.bind_ok] at nb ⊢
          cases e2 : evE o b env S1 with
          | exc cc xx S2 => rfl
          | bad => rw [e2] at nb; exact absurd rfl nb
          | ok d2 S2 =>
            simp only [e2, Out.bind_ok] at nb ⊢
            cases d1 <;> cases d2 <;> first | rfl | (exfalso; revert nb; simp [binD, Out.ofO]; done) | skip
            all_goals (exfalso; apply nb; unfold binD; first | rfl | (dsimp only; split <;> rfl))
      · cases hm
    · cases hm
  · rename_i args
    have hm0 := hm
    simp only [mE, primNm2, primKw, primNm] at hm
    split at hm
    · rename_i g p1 xs pos
      split at hm
      · rename_i h1
        obtain ⟨rfl, b1, hlen⟩ := h1
        obtain ⟨g1, m1, d1, n1⟩ := c.bt b1
        obtain ⟨a1, a2, a3⟩ := (sA args).args c hm hl
        rcases xs with _ | ⟨x, _ | ⟨y, r⟩⟩ <;> first | (simp at hlen; done) | skip
        rw [List.all_cons, Bool.and_eq_true] at a2
        exact ⟨_, rf_list (x := "list") (es := []) c.KG g1 m1 a1 (star1 a2.1), fun _ _ _ => rfl⟩
      · cases hm
    · cases hm
  · cases hf
theorem ss_own' {i : Nat} {e : IE} : SSt T U G o n wf (.own i e) := fun {cf Wx ck X st ls} c hm hl => by
  simp only [mS] at hm
  split at hm
  · rename_i x p v pos
    split at hm
    · rename_i h1
      obtain ⟨k1, k2, k3⟩ := c.ck.sto h1.1
      have h2 := h1.2
      unfold Ck.ownB at h2
      split at h2
      · rename_i hlc
        rcases isLc_of hlc with ⟨own, tg, k, srcs, conds, elt, rfl⟩ | ⟨own, vs1, tg, k, srcs, tg1, kk1, srcs1, elt, rfl⟩
        case inr =>
          obtain ⟨w1, w2⟩ := sw_lc (l := pos.line) c.ck h2
          obtain ⟨x1, t, iter, t1, iter1, scope, pos1, rfl, p1, p2, p3, p4, p5, p6, p7, p8, p9, p10, p11, p12⟩ := lc2_parts (sA srcs) (sA srcs1) (sE elt) c.ck hm hl
          refine (ps_setLc2 c.ck.calm c.ck.nd k1 w2 w1 p1 p2 p3 p4 (fun _ _ _ _ _ => pts_nil) p5 p6 (fun _ _ _ _ _ => pts_nil) p7 p8 p9).im fun D σ H q => ?_
          rw [p12]
          exact sgF (ev := evE o (.lc2 own vs1 tg k srcs tg1 kk1 srcs1 elt)) (fun σ H Q q => by rw [evE_lc2] at q; exact lcD2 p10 p11 q) q
        obtain ⟨w1, w2⟩ := sw_lc (l := pos.line) c.ck h2
        obtain ⟨x1, t, iter, ifs, scope, pos1, tt, rfl, p1, p2, p3, p4, p5, p6, p7, p8, p9⟩ := lc_parts (sA srcs) (sA conds) (sE elt) c.ck hm hl
        refine (ps_setLc c.ck.calm c.ck.nd k1 w2 w1 p1 p2 p3 p4 p6 p7).im fun D σ H q => ?_
        rw [p9]
        exact sgF (ev := evE o (.lc own tg k srcs conds elt)) (fun σ H Q q => by rw [evE_lc] at q; exact lcD p8 p5 q) q
      · rw [Bool.and_eq_true] at h2
        obtain ⟨ev, f1, f2⟩ := sF (i := i) c.ck h2.2 hm hl
        exact PS.le (ss_own c.ck.nd k1 k2 f1 (swaps0 h2.1) k3) f2
    · cases hm
  · cases hm
theorem ss_tasg' {t : Tg} {e : IE} : SSt T U G o n wf (.tasg t e) := fun {cf Wx ck X st ls} c hm hl => by
  simp only [mS] at hm
  split at hm
  · rename_i tx v pos
    split at hm
    · rename_i h1
      obtain ⟨h0, h1, h2, h3⟩ := h1
      have hp : plainE tx = true := by cases tx <;> first | rfl | (cases h0; done)
      exact ss_tasg (sE e c.ck hm hl).1 (sTg c.ck t h1) (swaps0 (t := some tx) h2) (swappedTF h3) (asg1 hp)
    · cases hm
  · cases hm
theorem emptyL_len : ∀ {vs : List Expr} {k : Nat}, emptyL vs k = true → vs.length = k ∧ vs.all plainE = true ∧ PA X vs (tP G cf Wx k fun _ S => .ok [] S)
  | [], 0, _ => ⟨rfl, rfl, rp_nil⟩
  | [], k + 1, h => by cases h
  | v :: vs, 0, h => by cases v <;> simp [emptyL] at h
  | v :: vs, k + 1, h => by
    unfold emptyL at h
    split at h
    · rename_i z; cases z
    · rename_i z1 z2
      cases z1
      cases z2
      obtain ⟨a1, a2, a3⟩ := emptyL_len h
      refine ⟨by rw [List.length_cons, a1], by rw [List.all_cons, a2]; rfl, rp_own a3 rfl⟩
    · cases h
theorem sP : ∀ (es : IEs) {vs : List Expr} {k : Nat} {ls : List LamE}, CkOk T G o n cf Wx ck X → mP T ck es vs k = some ls → (∀ q ∈ ls, G.lam q.1 = some q.2) → PA X vs (tP G cf Wx k (evEs o es)) ∧ vs.all plainE = true
  | .nil, vs, k, ls, c, hm, hl => by
    simp only [mP] at hm
    obtain ⟨h1, rfl⟩ := okB_some hm
    obtain ⟨a1, a2, a3⟩ := emptyL_len h1
    exact ⟨a3, a2⟩
  | .cons a as, [], k, ls, c, hm, hl => by simp [mP] at hm
  | .cons a as, v :: vs, k, ls, c, hm, hl => by
    simp only [mP] at hm
    split at hm
    · rename_i hp
      obtain ⟨l1, l2, k1, k2, rfl⟩ := both_some hm
      obtain ⟨a1, a2⟩ := sP as c k2 (in2 hl).2
      exact ⟨rp_cons (sE a c k1 (in2 hl).1).1 a1 (star_cons hp), by rw [List.all_cons, hp, a2]; rfl⟩
    · cases hm
theorem nms_gns (c : CkOk T G o n cf Wx ck X) : ∀ {is : List Nat} {ts : List Expr}, nmsB ck is ts = true → PGs X ts (gNames is) ∧ ts.length = is.length ∧ ts.all plainE = true
  | [], [], _ => ⟨gns_nil, rfl, rfl⟩
  | [], t :: ts, h => by cases t <;> simp [nmsB] at h
  | i :: is, [], h => by simp [nmsB] at h
  | i :: is, t :: ts, h => by
    unfold nmsB at h
    split at h
    · rename_i z; cases z
    · rename_i z1 z2
      cases z1
      cases z2
      simp only [Bool.and_eq_true, decide_eq_true_eq] at h
      obtain ⟨a1, a2, a3⟩ := nms_gns c h.2
      obtain ⟨k1, k2, k3⟩ := c.sto h.1.1
      exact ⟨gns_cons c.nd k1 k2 k3 a1 rfl, by rw [List.length_cons, a2]; rfl, by rw [List.all_cons, a3]; rfl⟩
    · cases h
theorem nms_loc (c : CkOk T G o n cf Wx ck X) {i : Nat} {is : List Nat} {x : Str} {p : Pos} {ts : List Expr} (h : nmsB ck (i :: is) (.Name x p :: ts) = true) : X.N[i]? = some x ∧ X.env.scope.names.lookup x = some .local ∧ nmsB ck is ts = true := by
  unfold nmsB at h
  simp only [Bool.and_eq_true, decide_eq_true_eq] at h
  exact ⟨(c.sto h.1.1).1, by rw [c.sc]; exact h.1.2, h.2⟩
theorem ne_ix (c : CkOk T G o n cf Wx ck X) {i j : Nat} {x y : Str} (h1 : X.N[i]? = some x) (h2 : X.N[j]? = some y) (h : x ≠ y) : i ≠ j := fun z => by
  rw [z, h2] at h1
  exact h (Option.some.inj h1).symm
theorem ss_par' {is js : List Nat} {es : IEs} : SSt T U G o n wf (.par is js es) := fun {cf Wx ck X st ls} c hm hl => by
  simp only [mS] at hm
  split at hm
  · rename_i ts kt pt vs k2 pt2 pos
    split at hm
    · rename_i h1
      obtain ⟨h1, h2, h3⟩ := h1
      obtain ⟨a1, a2⟩ := sP es c.ck hm hl
      obtain ⟨g1, g2, g3⟩ := nms_gns c.ck h1
      rw [Bool.or_eq_true] at h3
      rcases h3 with h3 | h3
      · unfold swpB at h3
        simp only [Bool.and_eq_true, decide_eq_true_eq, Bool.not_eq_true'] at h3
        obtain ⟨⟨⟨q1, q2⟩, q3⟩, q4⟩ := h3
        have kind : X.env.blockKind = .function := fnKind (by rw [c.ck.sc]; exact q1)
        split at q4
        · rename_i x px y py
          simp only [Bool.and_eq_true, Bool.not_eq_true', beq_eq_false_iff_ne, beq_iff_eq] at q4
          rcases vs with _ | ⟨a, _ | ⟨b, _ | ⟨d, r⟩⟩⟩ <;> first | (simp at h2; done) | skip
          generalize hij : is ++ js = ids at h1 g2
          rcases ids with _ | ⟨i, _ | ⟨j, _ | ⟨l, r⟩⟩⟩ <;> first | (simp at g2; done) | skip
          obtain ⟨n1, l1, h1'⟩ := nms_loc c.ck h1
          obtain ⟨n2, l2, _⟩ := nms_loc c.ck h1'
          rw [List.all_cons, List.all_cons, Bool.and_eq_true, Bool.and_eq_true] at a2
          exact ss_par2 hij c.ck.calm c.ck.nd n1 n2 (ne_ix c.ck n1 n2 q4.2) l1 l2 a1 (swapped2 kind l1 l2 q4.1 q4.2 a2.1 a2.2.1 q2 q3) rfl
        · rename_i x px y py z pz
          simp only [Bool.and_eq_true, Bool.not_eq_true', beq_eq_false_iff_ne, beq_iff_eq] at q4
          obtain ⟨⟨⟨⟨e1, e2⟩, e3⟩, e4⟩, e5⟩ := q4
          rcases vs with _ | ⟨a, _ | ⟨b, _ | ⟨d, _ | ⟨e, r⟩⟩⟩⟩ <;> first | (simp at h2; done) | skip
          generalize hij : is ++ js = ids at h1 g2
          rcases ids with _ | ⟨i, _ | ⟨j, _ | ⟨l, _ | ⟨m, r⟩⟩⟩⟩ <;> first | (simp at g2; done) | skip
          obtain ⟨n1, l1, h1'⟩ := nms_loc c.ck h1
          obtain ⟨n2, l2, h1''⟩ := nms_loc c.ck h1'
          obtain ⟨n3, l3, _⟩ := nms_loc c.ck h1''
          rw [List.all_cons, List.all_cons, List.all_cons, Bool.and_eq_true, Bool.and_eq_true, Bool.and_eq_true] at a2
          exact ss_par3 hij c.ck.calm c.ck.nd n1 n2 n3 (ne_ix c.ck n1 n2 e3) (ne_ix c.ck n1 n3 e4) (ne_ix c.ck n2 n3 e5) l1 l2 l3 a1 (swapped3 kind l1 l2 l3 e1 e2 e3 e4 e5 a2.1 a2.2.1 a2.2.2.1 q2 q3) rfl
        · cases q4
      · rw [Bool.and_eq_true, decide_eq_true_eq, decide_eq_true_eq] at h3
        exact ss_parT c.ck.KG c.ck.calm a1 g1 (by rw [← g2]; exact h3.2) (by rw [asgLen, g2]) (asgStar g3) rfl (swappedN h3.1) rfl
    · cases hm
  · cases hm
end
end Pz

/-! Pz22: all statements; defs. -/
namespace Pz
open PySem PySem.Spec PyProof.Rows L2

section
variable {T : Tb} {U : Tb2} {G : Gc} {o : Orc} {n wf : Nat} {cf : CF} {Wx : WX} {ck : Ck} {X : Cx}
theorem ss_app' {i : Nat} {e : IE} : SSt T U G o n wf (.app i e) := fun {cf Wx ck X st ls} c hm hl => by
  simp only [mS] at hm
  split at hm
  · rename_i x p1 m apos v cpos pos
    split at hm
    · rename_i h1
      obtain ⟨hv, rfl, hp, hln⟩ := h1
      obtain ⟨k1, k2, k3, k4⟩ := c.ck.vis hv
      have hs := star1 (env := X.env) hp
      exact ss_app c.ck.KG k1 k2 k3 k4 (sE e c.ck hm hl).1 rfl (by rw [hs]; rfl) hln hs rfl
    · cases hm
  · cases hm
theorem ss_setx' {i : Nat} {ix e : IE} : SSt T U G o n wf (.setx i ix e) := fun {cf Wx ck X st ls} c hm hl => by
  simp only [mS] at hm
  split at hm
  · rename_i x p1 y tpos v pos
    split at hm
    · rename_i h1
      obtain ⟨hv, hy, hc⟩ := h1
      obtain ⟨l1, l2, q1, q2, rfl⟩ := both_some hm
      obtain ⟨k1, k2, k3, k4⟩ := c.ck.vis hv
      exact ss_setx k1 k2 k3 k4 (sE e c.ck q2 (in2 hl).2).1 (sE ix c.ck q1 (in2 hl).1).1 (fun v => by cases y <;> first | rfl | (cases hy)) (show swapsWithSole _ _ _ _ = _ from swaps0 (t := some (.Subscript (.Name x p1) y tpos)) (line := pos.line) (env := X.env) hc) (by cases v <;> rfl)
    · cases hm
  · cases hm
theorem ss_expr' {e : IE} : SSt T U G o n wf (.expr e) := fun {cf Wx ck X st ls} c hm hl => by
  simp only [mS] at hm
  split at hm
  · split at hm
    · rename_i h1
      exact ss_expr (sE e c.ck hm hl).1 (swaps0 h1)
    · cases hm
  · cases hm
theorem ss_ret' {e : IE} : SSt T U G o n wf (.ret e) := fun {cf Wx ck X st ls} c hm hl => by
  simp only [mS] at hm
  split at hm
  · exact ss_ret (sE e c.ck hm hl).1
  · cases hm
theorem ss_retn' : SSt T U G o n wf .retn := fun {cf Wx ck X st ls} c hm hl => by
  simp only [mS] at hm
  split at hm
  · exact ss_retn
  · cases hm
theorem ss_pass' : SSt T U G o n wf .pass := fun {cf Wx ck X st ls} c hm hl => by
  simp only [mS] at hm
  split at hm
  · exact ss_pass
  · cases hm
theorem ss_ife' {e : IE} {a b : ISs} (ha : SSs T U G o n wf a) (hb : SSs T U G o n wf b) : SSt T U G o n wf (.ife e a b) := fun {cf Wx ck X st ls} c hm hl => by
  simp only [mS] at hm
  split at hm
  · split at hm
    · rename_i h1
      obtain ⟨l1, l2, q1, q2, rfl⟩ := both_some hm
      obtain ⟨l3, l4, q3, q4, rfl⟩ := both_some q2
      have r1 := in2 hl
      have r2 := in2 r1.2
      exact ss_if ((sE e c.ck q1 r1.1).2 h1) (ha c q3 r2.1) (hb c q4 r2.2)
    · cases hm
  · cases hm
theorem ss_for' {tg : Tg} {k : SrcK} {srcs : IEs} {body : ISs} (hb : SSs T U G o n wf body) : SSt T U G o n wf (.for_ tg k srcs body) := fun {cf Wx ck X st ls} c hm hl => by
  simp only [mS] at hm
  split at hm
  · rename_i t iter bs pos
    split at hm
    · rename_i h1
      split at hm
      · rename_i xs hxs
        obtain ⟨l1, l2, q1, q2, rfl⟩ := both_some hm
        have r1 := in2 hl
        refine PS.le (ss_for c.pass c.ck.calm (src_pi (sA srcs) c.ck hxs q1 r1.1) (sTg c.ck tg h1.2) (hb c q2 r1.2) (folded0 h1.1)) fun env S _ => ?_
        simp only [exS, evI]
        cases evEs o srcs env S with
        | ok ds S1 =>
          simp only [Out.bind_ok, Out.st_ok]
          cases itemsD k ds <;> rfl
        | exc cc x S1 => rfl
        | bad => rfl
      · cases hm
    · cases hm
  · cases hm
theorem ss_while' {e : IE} {body : ISs} (hb : SSs T U G o n wf body) : SSt T U G o n wf (.while_ e body) := fun {cf Wx ck X st ls} c hm hl => by
  simp only [mS] at hm
  split at hm
  · split at hm
    · rename_i h1
      obtain ⟨l1, l2, q1, q2, rfl⟩ := both_some hm
      have r1 := in2 hl
      exact ss_while c.pass ((sE e c.ck q1 r1.1).2 h1) (hb c q2 r1.2)
    · cases hm
  · cases hm
theorem ss_raise' {k : Nat} : SSt T U G o n wf (.raise k) := fun {cf Wx ck X st ls} c hm hl => by
  simp only [mS] at hm
  split at hm
  · obtain ⟨h1, rfl⟩ := okB_some hm
    rw [Bool.and_eq_true, decide_eq_true_eq] at h1
    obtain ⟨k1, k2, k3⟩ := c.ck.gl h1.1
    obtain ⟨C, q1, q2, q3⟩ := c.ck.gb.cls _ _ h1.2
    exact ss_raise q3 q2 c.ck.calm c.ck.tk k1 q1 k2
  · cases hm
theorem ss_tryR' {i : Nat} {body : ISs} (hb : SSs T U G o n wf body) : SSt T U G o n wf (.tryR i body) := fun {cf Wx ck X st ls} c hm hl => by
  simp only [mS] at hm
  split at hm
  · rename_i bs x xp nm f fp nm2 np cp rp hp pos
    split at hm
    · rename_i h1
      obtain ⟨⟨rfl, hv, hloc⟩, gx, bx, gf, ef⟩ := h1
      obtain ⟨k1, k2, k3, k4⟩ := c.ck.vis hv
      obtain ⟨a1, a2, a3⟩ := c.ck.gl gx
      obtain ⟨b1, b2, b3⟩ := c.ck.gl gf
      obtain ⟨cp', m1, m2⟩ := c.base x (by simpa using bx)
      obtain ⟨fa, m3, m4⟩ := c.errf f (by simpa using ef)
      obtain ⟨m, hm'⟩ := c.lvl
      have hroom : Room (m + 1) X.A := by rw [← hm']; exact c.ck.room
      exact ss_tryR c.stk c.frm c.ck.nd k1 (by show X.env.scope.names.lookup _ = _; rw [c.ck.sc]; exact hloc) ⟨a1, a2, .inl m1⟩ c.ck.tk m2 (fun W pn xe tk hp => hb (c.tr W pn xe tk hp) hm hl) (suite_err m4 hroom k1 k2 k3 k4 b1 m3 b2)
    · cases hm
  · cases hm
theorem sss_nil : SSs T U G o n wf .nil := fun {cf Wx ck X sts ls} c hm hl => by
  simp only [mSs] at hm
  split at hm
  · exact ss_nil
  · cases hm
theorem sss_cons {s : IS} {ss : ISs} (h1 : SSt T U G o n wf s) (h2 : SSs T U G o n wf ss) : SSs T U G o n wf (.cons s ss) := fun {cf Wx ck X sts ls} c hm hl => by
  simp only [mSs] at hm
  split at hm
  · rename_i hf
    cases s <;> first | (cases hf; done) | skip
    rename_i i
    exact PSs.le (ss_frz (i := i) (h2 c hm hl)) fun env S _ => rfl
  · split at hm
    · obtain ⟨l1, l2, q1, q2, rfl⟩ := both_some hm
      exact ss_cons (h1 c q1 (in2 hl).1) (h2 c q2 (in2 hl).2)
    · cases hm
mutual
theorem sS : ∀ s : IS, SSt T U G o n wf s
  | .asg _ _ => ss_asg'
  | .own _ _ => ss_own'
  | .tasg _ _ => ss_tasg'
  | .par _ _ _ => ss_par'
  | .app _ _ => ss_app'
  | .setx _ _ _ => ss_setx'
  | .expr _ => ss_expr'
  | .ret _ => ss_ret'
  | .retn => ss_retn'
  | .pass => ss_pass'
  | .ife _ a b => ss_ife' (sSs a) (sSs b)
  | .for_ _ _ _ body => ss_for' (sSs body)
  | .while_ _ body => ss_while' (sSs body)
  | .raise _ => ss_raise'
  | .tryR _ body => ss_tryR' (sSs body)
  | .frz _ => fun c hm hl => by simp [mS] at hm
theorem sSs : ∀ ss : ISs, SSs T U G o n wf ss
  | .nil => sss_nil
  | .cons s ss => sss_cons (sS s) (sSs ss)
end
end

/-! ### defs -/
theorem start_get {N : List Str} {vs : List V} {i : Nat} (h : i < vs.length) : (L2.start N vs)[i]? = (vs[i]?).map some := by
  unfold L2.start
  rw [List.getElem?_append_left (by simpa using h), List.getElem?_map]
theorem start_len {N : List Str} {vs : List V} (h : vs.length ≤ N.length) : (L2.start N vs).length = N.length := by
  unfold L2.start
  rw [List.length_append, List.length_map, List.length_replicate]
  omega
theorem start_ok {G : Gc} {W : Wd} {H : Hp} {s : Shared} {outer : List PySem.Env} {N : List Str} {vs : List V} {ds : List D} {c : Option (Nat × List D)} {fn : Fn} (ha : ArgsAt G s.heap H (frs outer) W vs ds c) (hn : fn.n = N.length) (hp : fn.np ≤ fn.n) (hl : ds.length + cn c = fn.np) :
    EnvOk G W (CloAt G s.heap H (frs outer)) H H (L2.start N vs) (startE fn ds c) := by
  have hv : vs.length = fn.np := by
    rw [← hl]
    cases c with
    | none => exact ha.length
    | some kc =>
      obtain ⟨vs0, vc, rfl, h0, _⟩ := ha
      rw [List.length_append, h0.length]; rfl
  have pre : ∀ (i : Nat) (sl : Sl), (startE fn ds c)[i]? = some (some sl) → i < fn.np ∧ ((∃ d, sl = .val d ∧ ds[i]? = some d ∧ i < ds.length) ∨ ∃ kc, c = some kc ∧ i = ds.length ∧ sl = .clo kc.1 kc.2) := by
    intro i sl e
    unfold startE at e
    by_cases h1 : i < ds.length
    · rw [List.append_assoc, List.getElem?_append_left (by simpa using h1), List.getElem?_map] at e
      obtain ⟨d, e1, e2⟩ := Option.map_eq_some_iff.mp e
      cases e2
      refine ⟨by have : ds.length ≤ fn.np := by omega
                 omega, .inl ⟨d, rfl, e1, h1⟩⟩
    · rw [List.append_assoc, List.getElem?_append_right (by simpa using Nat.le_of_not_lt h1), List.length_map] at e
      cases c with
      | none =>
        exfalso
        rw [List.nil_append, List.getElem?_replicate] at e
        split at e <;> cases e
      | some kc =>
        have e : ([some (Sl.clo kc.1 kc.2)] ++ List.replicate (fn.n - fn.np) none)[i - ds.length]? = some (some sl) := e
        cases q : i - ds.length with
        | zero =>
          rw [q] at e
          cases e
          have : i = ds.length := by omega
          refine ⟨?_, .inr ⟨kc, rfl, this, rfl⟩⟩
          have hl : ds.length + 1 = fn.np := hl
          omega
        | succ j =>
          exfalso
          rw [q] at e
          have e : (List.replicate (fn.n - fn.np) (none : Option Sl))[j]? = some (some sl) := e
          rw [List.getElem?_replicate] at e
          split at e <;> cases e
  refine ⟨?_, fun i sl e => ?_, fun i j x y v hij e1 e2 => ?_⟩
  · rw [start_len (by omega)]
    unfold startE
    rw [List.length_append, List.length_append, List.length_map, List.length_replicate]
    cases c with
    | none => simp only [cn] at hl; simp only [List.length_nil]; omega
    | some kc => simp only [cn] at hl; simp only [List.length_cons, List.length_nil]; omega
  · obtain ⟨h1, h2⟩ := pre i sl e
    rw [start_get (by omega)]
    cases c with
    | none =>
      rcases h2 with ⟨d, rfl, e1, _⟩ | ⟨kc, z, _⟩
      · obtain ⟨v, q1, q2⟩ := Dats.get ha e1
        exact ⟨v, by rw [q1]; rfl, q2⟩
      · cases z
    | some kc =>
      obtain ⟨vs0, vc, rfl, h0, hc⟩ := ha
      rcases h2 with ⟨d, rfl, e1, hi⟩ | ⟨kc', z, rfl, rfl⟩
      · obtain ⟨v, q1, q2⟩ := h0.get e1
        exact ⟨v, by rw [List.getElem?_append_left (by rw [h0.length]; exact hi), q1]; rfl, q2⟩
      · cases z
        refine ⟨vc, ?_, W, Wd.Le.refl W, hc⟩
        rw [List.getElem?_append_right (by rw [h0.length]; exact Nat.le_refl _), h0.length, Nat.sub_self]
        rfl
  · exfalso
    obtain ⟨_, h2⟩ := pre i _ e1
    rcases h2 with ⟨d, z, _⟩ | ⟨kc, _, _, z⟩ <;> cases z
/-- what a def of the table keeps -/
structure DefOk (T : Tb) (U : Tb2) (G : Gc) (K : PySem.W.Frag) (mg : Str → Option Value) (base : Heap) (fn : Fn) (f : Addr) (mkr : Bool) (ls : List LamE) : Prop where
  ex : ∃ (x qual : Str) (pa : Arguments) (bd : List Stmt) (sc : Scope) (fd : FuncData) (N ps : List Str), FunD K x qual pa bd sc [] [] f fd ∧ Binds K fd ps [] ∧ FnScope N ps sc ∧ (pa.args.map fun a => a.arg) = ps ∧ fn.n = N.length ∧ fn.np = ps.length ∧ fn.trim = false ∧ mSs T U ⟨N, sc, fun _ => true, fn.clo, mkr, qual ++ ".<locals>."⟩ fn.body bd = some ls ∧
    (mkr = true → ∀ oc od cdv osl, K.lookup f = some ⟨oc, od, .func fd, osl⟩ → fd.code = cdv → ∃ c P, LamX.TabB base mg c P ∧ cdv = .ref c ∧ (P, qual ++ ".<locals>." ++ "<lambda>") ∈ G.T ∧ ∀ p ∈ G.T, p.1 = P → p.2 = qual ++ ".<locals>." ++ "<lambda>")
theorem FnFact.none {G : Gc} {P : Program} {w : World} {K : PySem.W.Frag} {mg : Str → Option Value} {base : Heap} {n : Nat} {f : Addr} {r : FnR'} (hr : ∀ ds c S, r ds c S = .bad) (h : ∃ (fd : FuncData) (ps : List Str), Binds K fd ps [] ∧ PySem.W.keepIn K (.ref f) = true ∧ (∃ oc od osl, K.lookup f = some ⟨oc, od, .func fd, osl⟩) ∧ (fd.params.args.map fun a => a.arg) = ps) : FnFact G P w K mg base n r f := by
  obtain ⟨fd, ps, h1, h2, h3⟩ := h
  refine ⟨fd, ps, fun A outer s H args us vs Q E _ _ _ _ _ ⟨W, S, ds, c, _, _, g⟩ => ?_, h1, h2, fun ds c S _ => hr ds c S, h3⟩
  rw [hr] at g
  exact g.elim
theorem fn_fact {T : Tb} {U : Tb2} {G : Gc} {P : Program} {w : World} {K : PySem.W.Frag} {mg : Str → Option Value} {base : Heap} {o : Orc} {n wf : Nat} {fn : Fn} {f : Addr} {mkr : Bool} {ls : List LamE} (D : DefOk T U G K mg base fn f mkr ls) (hl : ∀ q ∈ ls, G.lam q.1 = some q.2) (hK : K = G.K)
    (gb : GlobOk T G o (n + 1) P w K mg base) (hbase : ∀ x ∈ U.base, ∃ cp, mg x = some cp ∧ ∀ c C, G.ca c = some C → PySem.W.exmOne K (.ref C) cp = some true) (herr : ∀ x ∈ U.errf, ∃ fa, mg x = some (.ref fa) ∧ ErrFact G P w K mg base o.err fa) :
    FnFact G P w K mg base (n + 2) (fun ds c S => runF o wf fn ds c S) f := by
  obtain ⟨x, qual, pa, bd, sc, fd, N, ps, F, hb, S, hpa, hn, hp, ht, hm, hmk⟩ := D.ex
  obtain ⟨oc, od, dV, kV, doc, pm, an, cdv, ct, osl, rfl, lk, hcd, _, _⟩ := F.ex
  have hpl : ps.length ≤ N.length := by have := congrArg List.length S.pre; rw [List.length_take] at this; omega
  refine ⟨_, ps, fun A outer s H args us vs Q E hr e0 hbt rv hlv sp => ?_, hb, F.kp, fun ds c S' hne => ?_, ⟨oc, od, osl, lk⟩, hpa⟩
  · obtain ⟨W, S', ds, c, hk, ha, g⟩ := sp
    refine LamX.run_ofS (k := n + 1) lk hcd S hr e0 hbt rv hlv fun hr' => ?_
    have gr : (ds.length + cn c = fn.np ∧ c.isSome = fn.clo) := by
      by_cases q : (ds.length + cn c = fn.np ∧ c.isSome = fn.clo)
      · exact q
      · exfalso
        have e : runF o wf fn ds c S' = .bad := by unfold runF; rw [if_neg q]
        dsimp only at g
        rw [e] at g
        exact g
    have er : runF o wf fn ds c S' = (exSs o wf fn.body (startE fn ds c) S').out := by
      unfold runF
      rw [if_pos gr, ht]
      rfl
    dsimp only at g
    rw [er] at g
    have ctx : SkOk T U G o (n + 1) (CloAt G s.heap H (frs outer)) (fun cls d _ H => E cls d H) ⟨N, sc, fun _ => true, fn.clo, mkr, qual ++ ".<locals>."⟩ (cxOf (L2N.CX P w) P w K mg base N qual sc f cdv A outer s H E) := by
      refine ⟨⟨rfl, S.nd, rfl, hK, rfl, hr', L2N.takes_of rfl rfl rfl rfl, fun _ _ => rfl, gb, fun _ => ⟨rfl, fun _ _ _ _ h => h⟩, fun hq => ?_⟩, passes_of rfl, rfl, rfl, ⟨n, rfl⟩, hbase, herr⟩
      obtain ⟨c, P', t1, t2, t3, t4⟩ := hmk hq _ _ _ _ lk rfl
      exact ⟨c, P', t1, t2, rfl, t3, t4⟩
    refine ⟨_, sSs (wf := wf) fn.body ctx hm hl, W, H, W, startE fn ds c, S', Step.refl hk, start_ok ha hn (by omega) ?_, ?_⟩
    · exact gr.1
    · revert g
      cases exSs o wf fn.body (startE fn ds c) S' with
      | nxt env S2 => exact fun g σ' W' H' _ st' _ => g .non W' H' st' .non
      | ret d S2 => exact fun g => g
      | exc cc xx env S2 => exact fun g cls dO σ' W' H' st' _ ex => g cls dO W' H' st' ex
      | bad => exact fun g => g
  · show runF o wf fn ds c S' = .bad
    unfold runF
    rw [if_neg]
    intro q
    apply hne
    rw [← hp, ← q.1]
end Pz

/-! Pz23: plain parameters bound. -/
namespace Pz
open PySem PySem.Spec PyProof.Rows L2

theorem fm_congr {A B : Type} {f g : A → Option B} : ∀ {l : List A}, (∀ a ∈ l, f a = g a) → l.filterMap f = l.filterMap g
  | [], _ => rfl
  | a :: l, h => by rw [List.filterMap_cons, List.filterMap_cons, h a List.mem_cons_self, fm_congr fun b hb => h b (List.mem_cons_of_mem _ hb)]
theorem zip_find : ∀ {ps : List Str} {us : List Value}, ps.Nodup → us.length = ps.length → (ps.filterMap fun n => ((ps.zip us).lookup n).map fun v => (n, v)) = ps.zip us
  | [], us, _, h => by
    cases us with
    | nil => rfl
    | cons u us => cases h
  | p :: ps, us, nd, h => by
    cases us with
    | nil => cases h
    | cons u us =>
      rw [List.nodup_cons] at nd
      have ih := zip_find nd.2 (us := us) (by simpa using h)
      rw [List.zip_cons_cons, List.filterMap_cons]
      have e : (((p, u) :: ps.zip us).lookup p) = some u := by simp [List.lookup_cons]
      rw [e]
      show (p, u) :: _ = _
      congr 1
      refine Eq.trans (fm_congr fun n hn => ?_) ih
      have : (n == p) = false := beq_eq_false_iff_ne.mpr fun z => nd.1 (z ▸ hn)
      rw [List.lookup_cons, this]
theorem zip_all {ps : List Str} {us : List Value} (nd : ps.Nodup) (h : us.length = ps.length) : (ps.filter fun n => ((ps.zip us).lookup n).isNone) = [] := by
  rw [List.filter_eq_nil_iff]
  intro n hn
  obtain ⟨i, hi, e⟩ := List.getElem_of_mem hn
  have hi' : i < us.length := by omega
  have m : (n, us[i]) ∈ ps.zip us := by
    refine List.mem_of_getElem? (i := i) ?_
    rw [List.getElem?_zip_eq_some]
    exact ⟨by rw [List.getElem?_eq_getElem hi, e], List.getElem?_eq_getElem hi'⟩
  have nd' : ((ps.zip us).map Prod.fst).Nodup := by rw [List.map_fst_zip (by omega)]; exact nd
  rw [lookup_nd nd' m]
  simp
theorem bind_plain {fd : FuncData} {as : List Arg} {us : List Value} (hp : fd.params = ⟨[], as, none, [], [], none, []⟩) (hd : fd.defaults = .none) (nd : (as.map fun a => a.arg).Nodup) (hl : us.length = (as.map fun a => a.arg).length) :
    bindArgs fd ⟨us, []⟩ = pure ((as.map fun a => a.arg).zip us) := by
  unfold bindArgs
  rw [hp, hd]
  have h1 := zip_find nd hl
  have h2 := zip_all nd hl
  generalize hps : (as.map fun a => a.arg) = ps at *
  have hps' : List.map (fun x => x.arg) as = ps := hps
  simp only [hps', List.map_nil, List.nil_append, List.append_nil, seqItems?, List.forIn_nil, pure_bind, Option.getD_none, List.length_nil, Nat.zero_sub, List.drop_zero, Nat.sub_zero, List.take_length, h2, h1, List.isEmpty_nil, Bool.not_true, if_false, List.drop_length, List.zip_nil_right]
  simp [hl, h1, h2]
  rfl
end Pz

/-! Pz24: a whole program by its defs; the law. -/
namespace Pz
open PySem PySem.Spec PyProof.Rows L2

/-! ### constants -/
mutual
def conD (K : PySem.W.Frag) : D → Value → Bool
  | .int i, u => match u with
    | .int j _ => decide (i = j)
    | _ => false
  | .str s, u => match u with
    | .str z _ => decide (s = z)
    | _ => false
  | .tup ds, u => match u with
    | .ref a => match K.lookup a with
      | some ⟨.type c, _, .seq its _, _⟩ => decide (c = "tuple") && decide (its.size ≤ 1000) && conDs K ds its.toList
      | _ => false
    | _ => false
  | _, _ => false
def conDs (K : PySem.W.Frag) : List D → List Value → Bool
  | [], us => match us with
    | [] => true
    | _ => false
  | d :: ds, us => match us with
    | u :: us => conD K d u && conDs K ds us
    | [] => false
end
mutual
theorem conD_ok {K : PySem.W.Frag} {G : Gc} (hK : K = G.K) : ∀ (d : D) {u : Value}, conD K d u = true → ∃ v, RelV v u ∧ ∀ W, Dat G W v d
  | .int i, u, h => by
    simp only [conD] at h
    split at h
    · rename_i j t
      have e := of_decide_eq_true h
      subst e
      exact ⟨.int i, ⟨t, rfl⟩, fun _ => .int i⟩
    · cases h
  | .str s, u, h => by
    simp only [conD] at h
    split at h
    · rename_i z t
      have e := of_decide_eq_true h
      subst e
      exact ⟨.str s, ⟨t, rfl⟩, fun _ => .str s⟩
    · cases h
  | .tup ds, u, h => by
    simp only [conD] at h
    split at h
    · rename_i a
      split at h
      · rename_i c od its n sl hk
        simp only [Bool.and_eq_true, decide_eq_true_eq] at h
        obtain ⟨⟨rfl, hz⟩, hd⟩ := h
        obtain ⟨vs, r, dd⟩ := conDs_ok hK ds hd
        refine ⟨.ref a, rfl, fun W => .tup (.inr ⟨_, its, n, by rw [← hK]; exact hk, rfl, rfl, Nat.le_of_lt (small_line (by omega)), r⟩) (dd W)⟩
      · cases h
    · cases h
  | .non, u, h => by simp [conD] at h
  | .bl _, u, h => by simp [conD] at h
  | .lst _, u, h => by simp [conD] at h
  | .ref _, u, h => by simp [conD] at h
  | .fn _, u, h => by simp [conD] at h
  | .ty _, u, h => by simp [conD] at h
  | .scr _, u, h => by simp [conD] at h
theorem conDs_ok {K : PySem.W.Frag} {G : Gc} (hK : K = G.K) : ∀ (ds : List D) {us : List Value}, conDs K ds us = true → ∃ vs, Vals vs us ∧ ∀ W, Dats G W vs ds
  | [], us, h => by
    simp only [conDs] at h
    split at h
    · exact ⟨[], .nil, fun _ => .nil⟩
    · cases h
  | d :: ds, us, h => by
    simp only [conDs] at h
    split at h
    · rw [Bool.and_eq_true] at h
      obtain ⟨v, r, k⟩ := conD_ok hK d h.1
      obtain ⟨vs, r2, k2⟩ := conDs_ok hK ds h.2
      exact ⟨v :: vs, .cons r r2, fun W => .cons (k W) (k2 W)⟩
    · cases h
end

/-! ### the program's description -/
structure DefS where
  name : Str
  st : Stmt
  N : List Str
  fn : Fn
  mkr : Bool
structure ErrS where
  name : Str
  st : Stmt
  e : Str
  v : Str
  w : Str
  g : Str
structure Spec where
  defs : List DefS
  clss : List Str
  cons : List (Str × D)
  bl : List Str
  lams : List Lam
  errs : List Str
  err : ErrS
  base : Str
def ixs (l : List Str) : List (Str × Nat) := l.zipIdx
def Spec.T (p : Spec) : Tb := ⟨ixs (p.defs.map fun d => d.name), ixs p.clss, ixs (p.cons.map fun q => q.1), p.bl⟩
def Spec.U (p : Spec) : Tb2 := ⟨[p.base], [p.err.name]⟩
def Spec.prog (p : Spec) : Prog := ⟨(p.defs.map fun d => d.fn).toArray, p.lams.toArray, (p.cons.map fun q => q.2).toArray, p.errs.toArray⟩
def lq (x : Str) : Str := x ++ ".<locals>." ++ "<lambda>"
def defLs (T : Tb) (U : Tb2) (d : DefS) : Option (List LamE) := mSs T U ⟨d.N, defScope d.st, fun _ => true, d.fn.clo, d.mkr, d.name ++ ".<locals>."⟩ d.fn.body (defBody d.st)
def allLs (T : Tb) (U : Tb2) : List DefS → Option (List LamE)
  | [] => some []
  | d :: r => both (defLs T U d) (allLs T U r)
def fnScB (N ps : List Str) (sc : Scope) : Bool := decide (sc.kind = .function) && !sc.isCoroutine && !sc.isGenerator && decide N.Nodup && decide (N.take ps.length = ps) &&
  (ps.all fun x => decide (sc.names.lookup x = some .local) || decide (sc.names.lookup x = some .cell)) && (sc.names.all fun y => !decide (y.2 = .free))
theorem fnScB_ok {N ps : List Str} {sc : Scope} (h : fnScB N ps sc = true) : FnScope N ps sc := by
  unfold fnScB at h
  simp only [Bool.and_eq_true, Bool.not_eq_true', decide_eq_true_eq, List.all_eq_true, Bool.or_eq_true, decide_eq_false_iff_not] at h
  obtain ⟨⟨⟨⟨⟨⟨h1, h2⟩, h3⟩, h4⟩, h5⟩, h6⟩, h7⟩ := h
  exact ⟨h1, h2, h3, h4, h5, h6, h7⟩
def DefS.ok (d : DefS) : Bool := fnScB d.N (d.N.take d.fn.np) (defScope d.st) && decide (d.fn.n = d.N.length) && decide (d.fn.np ≤ d.N.length) && !d.fn.trim && decide (argNames (defArgs d.st) = some (d.N.take d.fn.np))
def lamB (L : LamR) : Bool := decide (L.scope.kind = .function) && !L.scope.isCoroutine && !L.scope.isGenerator && (L.scope.names.all fun y => !decide (y.2 = .cell) && (!decide (y.2 = .local) || L.ps.contains y.1)) && (L.ps.all fun x => decide (L.scope.names.lookup x = some .local)) &&
  (L.caps.all fun x => decide (L.scope.names.lookup x = some .free)) && decide (L.ps ++ L.caps).Nodup && decide (argNames L.params = some L.ps)
def lamsB (T : Tb) (ls : List LamE) (lams : List Lam) : Bool := ls.all fun q => lamB q.2 && (match lams[q.1]? with
  | some l => decide (l.np = q.2.ps.length) && decide (l.nc = q.2.caps.length) && (match mE T ⟨q.2.ps ++ q.2.caps, q.2.scope, fun _ => false, false, false, ""⟩ l.body q.2.body with
    | some [] => true
    | _ => false)
  | none => false)
/-- all that is to hold of the text alone -/
def Spec.ok (p : Spec) : Bool := p.defs.all DefS.ok && decide (p.defs.map fun d => d.name).Nodup && (match allLs p.T p.U p.defs with
  | some ls => decide (ls.map fun q => q.1).Nodup && lamsB p.T ls p.lams
  | none => false) && fnScB [p.err.e, p.err.v, p.err.w, p.err.g] [p.err.e] (defScope p.err.st) && decide ((defScope p.err.st).names.lookup p.err.v = some .local) && decide ((defScope p.err.st).names.lookup ("isinstance" : Str) = some .globalImplicit) &&
  ([p.err.e, p.err.v, p.err.w, p.err.g].all nDbg) && decide (argNames (defArgs p.err.st) = some [p.err.e]) && p.bl.contains "isinstance" && decide (p.errs.length = p.clss.length) && (errTop (defScope p.err.st) p.err.e p.err.v p.err.w p.err.g (defBody p.err.st)).isSome
def Spec.ls (p : Spec) : List LamE := (allLs p.T p.U p.defs).getD []
def Spec.tf (p : Spec) : List He.Defn := (p.defs.filter fun d => d.mkr).map fun d => (d.name, none)
def DefS.dd (d : DefS) : He.DefD := ⟨(d.name, none), d.name, d.name, defArgs d.st, defBody d.st, defScope d.st, [], []⟩
def Spec.fn (p : Spec) : List He.DefD := p.defs.map DefS.dd ++ [⟨(p.err.name, none), p.err.name, p.err.name, defArgs p.err.st, defBody p.err.st, defScope p.err.st, [], []⟩]
def excCB (K : PySem.W.Frag) (D : Addr) : Bool := decide (PySem.W.findIn K (.ref D) "__getattribute__" = some (some (.builtin "BaseException.__getattribute__"))) && decide (PySem.W.findIn K (.ref D) "__getattr__" = some none) && decide (PySem.W.subIn K (.ref D) (.type "BaseException") = some true) &&
  PySem.W.hasDictIn K D && decide (PySem.W.findIn K (.ref D) "__class__" = some (some (.builtin "object.__class__"))) && decide (PySem.W.specialIn K (.builtin "object.__class__") "__get__" = some (some (.builtin "getset_descriptor.__get__"))) && decide (PySem.W.takesIn K (.builtin "object.__class__") = some true) && decide (PySem.W.mroIn K D (.type "object") = some true)
def bitsOf (K : PySem.W.Frag) (sc : Scope) (C : Addr) : List (Str × Str) → Option (List (Str × Bool))
  | [] => some []
  | (w, x) :: r => if decide (sc.names.lookup x = some .globalImplicit) && nDbg x && (He.Fa.glo x).ok K then (PySem.W.kitOne K (.ref C) (.ref (He.ga K x))).bind fun b => (bitsOf K sc C r).map fun bs => (w, b) :: bs else none
/-- all that is to hold of what the top leaves -/
def Spec.ex (p : Spec) (K : PySem.W.Frag) : Bool := (p.defs.all fun d => (He.Fa.glo d.name).ok K) && (He.Fa.glo p.err.name).ok K && (He.Fa.glo p.base).ok K && (p.clss.all fun x => (He.Fa.glo x).ok K && (He.Fa.exc x).ok K && (He.Fa.exm x p.base true).ok K && excCB K (He.ga K x)) &&
  (p.bl.all fun x => (He.Fa.free x).ok K) && (p.cons.all fun q => match PySem.W.nsIn K mainGlobals q.1 with
    | some (some u) => conD K q.2 u
    | _ => false) && ((p.clss.zip p.errs).all fun q => decide (((errTop (defScope p.err.st) p.err.e p.err.v p.err.w p.err.g (defBody p.err.st)).bind fun rs => (bitsOf K (defScope p.err.st) (He.ga K q.1) rs).bind fun bs => joinB (bs.map rowD)) = some q.2)) &&
  decide ((p.defs.map fun d => He.ga K d.name).Nodup) && decide ((p.clss.map fun x => He.ga K x).Nodup) && decide ((p.tf.map fun q => (He.cT K q).2).Nodup)
def Spec.G (p : Spec) (K : PySem.W.Frag) : Gc where
  K := K
  fa := fun k => (p.defs[k]?).map fun d => He.ga K d.name
  ca := fun c => (p.clss[c]?).map fun x => He.ga K x
  T := p.tf.map fun q => ((He.cT K q).2, lq q.1)
  lam := fun k => p.ls.lookup k
end Pz

/-! Pz25: a whole program keeps what its interpreter says. -/
namespace Pz
open PySem PySem.Spec PyProof.Rows L2

theorem ixs_get {l : List Str} {x : Str} {k : Nat} (h : (ixs l).lookup x = some k) : l[k]? = some x := by
  have m := PySem.mem_of_lookup h
  unfold ixs at m
  exact (List.mk_mem_zipIdx_iff_getElem?.mp m)
theorem lookupN {B : Type} {x : Nat} {u : B} : ∀ {l : List (Nat × B)}, (l.map Prod.fst).Nodup → (x, u) ∈ l → l.lookup x = some u
  | (y, w) :: r, nd, m => by
    rw [List.map_cons, List.nodup_cons] at nd
    rw [List.lookup_cons]
    rcases List.mem_cons.mp m with e | m
    · cases e; simp
    · have : x ≠ y := fun q => nd.1 (q ▸ List.mem_map.mpr ⟨_, m, rfl⟩)
      rw [beq_eq_false_iff_ne.mpr this]
      exact lookupN nd.2 m
theorem lookupN_mem {B : Type} {x : Nat} {u : B} : ∀ {l : List (Nat × B)}, l.lookup x = some u → (x, u) ∈ l
  | [], h => by cases h
  | (y, w) :: r, h => by
    rw [List.lookup_cons] at h
    split at h
    · rename_i e
      cases h
      rw [beq_iff_eq.mp e]
      exact List.mem_cons_self
    · exact List.mem_cons_of_mem _ (lookupN_mem h)
theorem nodup_inj {A B : Type} {f : A → B} : ∀ {l : List A}, (l.map f).Nodup → ∀ a ∈ l, ∀ b ∈ l, f a = f b → a = b
  | x :: l, nd, a, ha, b, hb, e => by
    rw [List.map_cons, List.nodup_cons] at nd
    rcases List.mem_cons.mp ha with ea | ha'
    · rcases List.mem_cons.mp hb with eb | hb'
      · rw [ea, eb]
      · rw [ea] at e
        exact absurd (List.mem_map.mpr ⟨b, hb', e.symm⟩) nd.1
    · rcases List.mem_cons.mp hb with eb | hb'
      · rw [eb] at e
        exact absurd (List.mem_map.mpr ⟨a, ha', e⟩) nd.1
      · exact nodup_inj nd.2 a ha' b hb' e
theorem allLs_mem {T : Tb} {U : Tb2} : ∀ {ds : List DefS} {ls : List LamE}, allLs T U ds = some ls → ∀ d ∈ ds, ∃ l, defLs T U d = some l ∧ ∀ q ∈ l, q ∈ ls
  | d0 :: ds, ls, h, d, hd => by
    simp only [allLs] at h
    obtain ⟨x, y, h1, h2, rfl⟩ := both_some h
    rcases List.mem_cons.mp hd with rfl | hd
    · exact ⟨x, h1, fun q hq => List.mem_append_left _ hq⟩
    · obtain ⟨l, k1, k2⟩ := allLs_mem h2 d hd
      exact ⟨l, k1, fun q hq => List.mem_append_right _ (k2 q hq)⟩
theorem argNames_eq {p : Arguments} {ps : List Str} (h : argNames p = some ps) : ∃ as, p = ⟨[], as, none, [], [], none, []⟩ ∧ (as.map fun a => a.arg) = ps := by
  unfold argNames at h
  split at h
  · cases h; exact ⟨_, rfl, rfl⟩
  · cases h
theorem argArgs {p : Arguments} {ps : List Str} (h : argNames p = some ps) : (p.args.map fun a => a.arg) = ps := by
  obtain ⟨as, rfl, e⟩ := argNames_eq h
  exact e
theorem lamB_ok {L : LamR} (h : lamB L = true) : LamOk L := by
  unfold lamB at h
  simp only [Bool.and_eq_true, Bool.not_eq_true', decide_eq_true_eq, List.all_eq_true, Bool.or_eq_true, decide_eq_false_iff_not] at h
  obtain ⟨⟨⟨⟨⟨⟨⟨h1, h2⟩, h3⟩, h4⟩, h5⟩, h6⟩, h7⟩, h8⟩ := h
  obtain ⟨as, e1, e2⟩ := argNames_eq h8
  refine ⟨h1, h2, h3, fun y hy => ⟨(h4 y hy).1, fun e => ?_⟩, h5, h6, h7, fun cl pm cv ctv us hl => ?_⟩
  · rcases (h4 y hy).2 with z | z
    · exact absurd e z
    · simpa using z
  · rw [← e2]
    exact bind_plain (fd := PySem.W.kla_fn "<lambda>" L.qual L.params L.body L.scope cl pm cv ctv) e1 rfl (by rw [e2]; exact (List.nodup_append.mp h7).1) (by rw [e2]; exact hl)
structure SpecAt (p : Spec) (K : PySem.W.Frag) (mg : Str → Option Value) (base : Heap) : Prop where
  ok : p.ok = true
  ex : p.ex K = true
  KX : K.In base
  ns : base.Ns mainGlobals mg
  fn : ∀ d ∈ p.fn, ∃ fd, FunD K d.name d.qual d.params d.body d.scope [] [] (He.fAd K d.at_) fd
  tb : ∀ q ∈ p.tf, LamX.TabB base mg (He.cT K q).1 (He.cT K q).2
section
variable {p : Spec} {K : PySem.W.Frag} {mg : Str → Option Value} {base : Heap} {P : Program} {w : World} {wf : Nat}
theorem SpecAt.parts (c : SpecAt p K mg base) : p.defs.all DefS.ok = true ∧ allLs p.T p.U p.defs = some p.ls ∧ (p.ls.map fun q => q.1).Nodup ∧ lamsB p.T p.ls p.lams = true ∧ p.errs.length = p.clss.length := by
  have h := c.ok
  unfold Spec.ok at h
  simp only [Bool.and_eq_true, decide_eq_true_eq] at h
  obtain ⟨⟨⟨⟨⟨⟨⟨⟨⟨⟨h1, h2⟩, h3⟩, h4⟩, h5⟩, h6⟩, h7⟩, h8⟩, h9⟩, h10⟩, h11⟩ := h
  split at h3
  · rename_i ls e
    have e2 : p.ls = ls := by unfold Spec.ls; rw [e]; rfl
    rw [Bool.and_eq_true, decide_eq_true_eq] at h3
    exact ⟨h1, by rw [e2]; exact e, by rw [e2]; exact h3.1, by rw [e2]; exact h3.2, h10⟩
  · cases h3
theorem SpecAt.exs (c : SpecAt p K mg base) : (∀ d ∈ p.defs, mg d.name = some (.ref (He.ga K d.name))) ∧ mg p.err.name = some (.ref (He.ga K p.err.name)) ∧ mg p.base = some (.ref (He.ga K p.base)) ∧
    (∀ x ∈ p.clss, mg x = some (.ref (He.ga K x)) ∧ ExcFact K (He.ga K x) ∧ PySem.W.exmOne K (.ref (He.ga K x)) (.ref (He.ga K p.base)) = some true ∧ ExcC K (He.ga K x)) ∧ (∀ x ∈ p.bl, mg x = none) ∧
    (∀ q ∈ p.cons, ∃ u, mg q.1 = some u ∧ conD K q.2 u = true) ∧ (∀ q ∈ p.clss.zip p.errs, ((errTop (defScope p.err.st) p.err.e p.err.v p.err.w p.err.g (defBody p.err.st)).bind fun rs => (bitsOf K (defScope p.err.st) (He.ga K q.1) rs).bind fun bs => joinB (bs.map rowD)) = some q.2) ∧
    (p.tf.map fun q => (He.cT K q).2).Nodup := by
  have h := c.ex
  unfold Spec.ex at h
  simp only [Bool.and_eq_true, decide_eq_true_eq, List.all_eq_true] at h
  obtain ⟨⟨⟨⟨⟨⟨⟨⟨⟨h1, h2⟩, h3⟩, h4⟩, h5⟩, h6⟩, h7⟩, h8⟩, h9⟩, h10⟩ := h
  refine ⟨fun d hd => He.glo_ok c.KX c.ns (h1 d hd), He.glo_ok c.KX c.ns h2, He.glo_ok c.KX c.ns h3, fun x hx => ?_, fun x hx => He.free_ok c.KX c.ns (h5 x hx), fun q hq => ?_, h7, h10⟩
  · obtain ⟨⟨⟨k1, k2⟩, k3⟩, k4⟩ := h4 x hx
    obtain ⟨e1, e2, e3, e4⟩ := He.exc_ok k2
    unfold excCB at k4
    simp only [Bool.and_eq_true, decide_eq_true_eq] at k4
    obtain ⟨⟨⟨⟨⟨⟨⟨a1, a2⟩, a3⟩, a4⟩, a5⟩, a6⟩, a7⟩, a8⟩ := k4
    exact ⟨He.glo_ok c.KX c.ns k1, ⟨e1, e2, e3, e4⟩, He.exm_ok k3, ⟨a1, a2, a3, a4, a5, a6, a7, a8⟩⟩
  · have := h6 q hq
    split at this
    · rename_i u e
      exact ⟨u, PySem.W.mg_of c.KX c.ns e, this⟩
    · cases this
theorem SpecAt.binds {d : DefS} (c : SpecAt p K mg base) (hd : d.ok = true) {fd : FuncData} {f : Addr} (F : FunD K d.name d.name (defArgs d.st) (defBody d.st) (defScope d.st) [] [] f fd) : Binds K fd (d.N.take d.fn.np) [] := by
  unfold DefS.ok at hd
  simp only [Bool.and_eq_true, Bool.not_eq_true', decide_eq_true_eq] at hd
  obtain ⟨⟨⟨⟨h1, h2⟩, h3⟩, h4⟩, h5⟩ := hd
  obtain ⟨as, e1, e2⟩ := argNames_eq h5
  have S := fnScB_ok h1
  refine F.bindsN fun kV doc pm an cdv ct us hl => ?_
  rw [← e2]
  exact bind_plain (fd := PySem.W.fnOf d.name d.name (defArgs d.st) (defBody d.st) (defScope d.st) .none kV doc pm an cdv ct) e1 rfl (by rw [e2]; exact S.nd.sublist (List.take_sublist _ _)) (by rw [e2]; exact hl)
theorem SpecAt.defOk (c : SpecAt p K mg base) {k : Nat} {d : DefS} (hk : p.defs[k]? = some d) : ∃ ls, DefOk p.T p.U (p.G K) K mg base d.fn (He.ga K d.name) d.mkr ls ∧ ∀ q ∈ ls, (p.G K).lam q.1 = some q.2 := by
  have hd := List.mem_of_getElem? hk
  obtain ⟨a1, a2, a3, a4, a5⟩ := c.parts
  have dok := List.all_eq_true.mp a1 d hd
  obtain ⟨ls, l1, l2⟩ := allLs_mem a2 d hd
  obtain ⟨fd, F⟩ := c.fn d.dd (List.mem_append_left _ (List.mem_map.mpr ⟨d, hd, rfl⟩))
  have F : FunD K d.name d.name (defArgs d.st) (defBody d.st) (defScope d.st) [] [] (He.ga K d.name) fd := F
  have hb := c.binds dok F
  unfold DefS.ok at dok
  simp only [Bool.and_eq_true, Bool.not_eq_true', decide_eq_true_eq] at dok
  obtain ⟨⟨⟨⟨h1, h2⟩, h3⟩, h4⟩, h5⟩ := dok
  refine ⟨ls, ⟨d.name, d.name, defArgs d.st, defBody d.st, defScope d.st, fd, d.N, d.N.take d.fn.np, F, hb, fnScB_ok h1, argArgs h5, h2, by rw [List.length_take]; omega, h4, l1, fun hm oc od cdv osl lk e => ?_⟩, fun q hq => lookupN a3 (l2 q hq)⟩
  have mt : ((d.name, none) : He.Defn) ∈ p.tf := by
    unfold Spec.tf
    exact List.mem_map.mpr ⟨d, List.mem_filter.mpr ⟨hd, hm⟩, rfl⟩
  obtain ⟨oc', od', dV, kV, doc, pm, an, cdv', ct, osl', rfl, lk', hcd, _, _⟩ := F.ex
  obtain ⟨cc, ec⟩ := He.codeIn_ref hcd
  have e' : cdv' = cdv := e
  have eo : He.codeOf K (d.name, none) = cc := He.codeOf_eq (p := (d.name, none)) lk' ec
  refine ⟨(He.cT K (d.name, none)).1, (He.cT K (d.name, none)).2, c.tb _ mt, ?_, List.mem_map.mpr ⟨_, mt, rfl⟩, fun q hq eq => ?_⟩
  · rw [← e', ec]
    show Value.ref cc = .ref (He.codeOf K (d.name, none))
    rw [eo]
  · obtain ⟨r, hr, rfl⟩ := List.mem_map.mp hq
    have := nodup_inj c.exs.2.2.2.2.2.2.2 r hr _ mt eq
    rw [this]
    rfl
theorem bitsOf_ok {sc : Scope} {C : Addr} (KX : K.In base) (ns : base.Ns mainGlobals mg) : ∀ {rs : List (Str × Str)} {bs : List (Str × Bool)}, bitsOf K sc C rs = some bs → RowsOk sc mg K C rs bs
  | [], bs, h => by cases h; exact .nil
  | (wd, x) :: r, bs, h => by
    unfold bitsOf at h
    split at h
    · rename_i hq
      simp only [Bool.and_eq_true, decide_eq_true_eq] at hq
      obtain ⟨b, h1, h2⟩ := Option.bind_eq_some_iff.mp h
      obtain ⟨bs', h3, rfl⟩ := Option.map_eq_some_iff.mp h2
      exact .cons hq.1.1 (He.glo_ok KX ns hq.2) (dbg3 hq.1.2).1 h1 (bitsOf_ok KX ns h3)
    · cases h
theorem SpecAt.err (c : SpecAt p K mg base) : ErrFact (p.G K) P w K mg base (fun k => p.prog.errs[k]?) (He.ga K p.err.name) := by
  have h := c.ok
  unfold Spec.ok at h
  simp only [Bool.and_eq_true, decide_eq_true_eq, List.all_eq_true] at h
  obtain ⟨⟨⟨⟨⟨⟨⟨⟨⟨⟨h1, h2⟩, h3⟩, h4⟩, h5⟩, h6⟩, h7⟩, h8⟩, h9⟩, h10⟩, h11⟩ := h
  obtain ⟨x1, x2, x3, x4, x5, x6, x7, x8⟩ := c.exs
  obtain ⟨fd, F⟩ := c.fn _ (List.mem_append_right _ List.mem_cons_self)
  have F : FunD K p.err.name p.err.name (defArgs p.err.st) (defBody p.err.st) (defScope p.err.st) [] [] (He.ga K p.err.name) fd := F
  obtain ⟨as, e1, e2⟩ := argNames_eq h8
  obtain ⟨rs, hrs⟩ := Option.isSome_iff_exists.mp h11
  have hb : Binds K fd [p.err.e] [] := F.bindsN fun kV doc pm an cdv ct us hl => by
    rw [← e2]
    exact bind_plain (fd := PySem.W.fnOf p.err.name p.err.name (defArgs p.err.st) (defBody p.err.st) (defScope p.err.st) .none kV doc pm an cdv ct) e1 rfl (by rw [e2]; simp) (by rw [e2]; exact hl)
  refine err_fact F hb (fnScB_ok h4) rfl h5 h6 (x5 _ (by simpa using h9)) (fun n hn => ⟨(dbg3 (h7 n hn)).1, (dbg3 (h7 n hn)).2.1⟩) hrs fun k C wd hC hw => ?_
  obtain ⟨x, hx, rfl⟩ := Option.map_eq_some_iff.mp hC
  have hw : p.errs[k]? = some wd := by
    have hw' : p.errs.toArray[k]? = some wd := hw
    simpa using hw'
  have mz : (x, wd) ∈ p.clss.zip p.errs := List.mem_of_getElem? (i := k) (by rw [List.getElem?_zip_eq_some]; exact ⟨hx, hw⟩)
  have hz := x7 _ mz
  rw [hrs] at hz
  obtain ⟨bs, hb1, hb2⟩ := Option.bind_eq_some_iff.mp (show ((bitsOf K (defScope p.err.st) (He.ga K x) rs).bind fun bs => joinB (bs.map rowD)) = some wd from hz)
  exact ⟨(x4 x (List.mem_of_getElem? hx)).2.2.2, bs, bitsOf_ok c.KX c.ns hb1, hb2⟩
theorem SpecAt.glob (c : SpecAt p K mg base) : ∀ n, GlobOk p.T (p.G K) (orc p.prog wf n) (n + 1) P w K mg base := by
  obtain ⟨x1, x2, x3, x4, x5, x6, x7, x8⟩ := c.exs
  obtain ⟨a1, a2, a3, a4, a5⟩ := c.parts
  have fns : ∀ x k, p.T.fns.lookup x = some k → ∃ f, mg x = some (.ref f) ∧ (p.G K).fa k = some f := fun x k h => by
    have := ixs_get h
    rw [List.getElem?_map] at this
    obtain ⟨d, hd, rfl⟩ := Option.map_eq_some_iff.mp this
    exact ⟨_, x1 d (List.mem_of_getElem? hd), by show (p.defs[k]?).map _ = _; rw [hd]; rfl⟩
  have cls : ∀ x k, p.T.cls.lookup x = some k → ∃ C, mg x = some (.ref C) ∧ (p.G K).ca k = some C ∧ ExcFact K C := fun x k h => by
    have hx := ixs_get h
    obtain ⟨k1, k2, _⟩ := x4 x (List.mem_of_getElem? hx)
    exact ⟨_, k1, by show (p.clss[k]?).map _ = _; rw [hx]; rfl, k2⟩
  have cons : ∀ (o : Orc), o.con = (fun k => p.prog.cons[k]?) → ∀ x k, p.T.cons.lookup x = some k → ∃ u v d, mg x = some u ∧ RelV v u ∧ (∀ W, Dat (p.G K) W v d) ∧ o.con k = some d := fun o ho x k h => by
    have hx := ixs_get h
    rw [List.getElem?_map] at hx
    obtain ⟨q, hq, rfl⟩ := Option.map_eq_some_iff.mp hx
    obtain ⟨u, hu, hc⟩ := x6 q (List.mem_of_getElem? hq)
    obtain ⟨v, r, dd⟩ := conD_ok (G := p.G K) rfl q.2 hc
    refine ⟨u, v, q.2, hu, r, dd, ?_⟩
    rw [ho]
    show (p.cons.map fun q => q.2).toArray[k]? = _
    simp [hq]
  have defs : ∀ k f, (p.G K).fa k = some f → ∃ d, p.defs[k]? = some d ∧ f = He.ga K d.name := fun k f h => by
    obtain ⟨d, hd, rfl⟩ := Option.map_eq_some_iff.mp h
    exact ⟨d, hd, rfl⟩
  have lams : ∀ k L, (p.G K).lam k = some L → ∃ l, p.lams[k]? = some l ∧ LamOk L ∧ l.np = L.ps.length ∧ l.nc = L.caps.length ∧ mE p.T ⟨L.ps ++ L.caps, L.scope, fun _ => false, false, false, ""⟩ l.body L.body = some [] := fun k L h => by
    have m := lookupN_mem h
    have q := List.all_eq_true.mp a4 _ m
    rw [Bool.and_eq_true] at q
    obtain ⟨q1, q2⟩ := q
    split at q2
    · rename_i l hl
      simp only [Bool.and_eq_true, decide_eq_true_eq] at q2
      obtain ⟨⟨b1, b2⟩, b3⟩ := q2
      split at b3
      · rename_i hm
        exact ⟨l, hl, lamB_ok q1, b1, b2, hm⟩
      · cases b3
    · cases q2
  intro n
  induction n with
  | zero =>
    refine ⟨fns, fun k f h => ?_, cls, cons _ rfl, x5, fun k L h => ?_⟩
    · obtain ⟨d, hd, rfl⟩ := defs k f h
      obtain ⟨ls, D, _⟩ := c.defOk hd
      obtain ⟨x, qual, pa, bd, sc, fd, N, ps, F, hb, _, hpa, _⟩ := D.ex
      obtain ⟨oc, od, dV, kV, doc, pm, an, cdv, ct, osl, rfl, lk, _⟩ := F.ex
      exact FnFact.none (fun _ _ _ => rfl) ⟨_, ps, hb, F.kp, ⟨oc, od, osl, lk⟩, hpa⟩
    · intro A outer s H W S us vs ds cap f c' pm ctv cl Q E _ _ _ _ _ _ g
      exact g.elim
  | succ n ih =>
    have base1 : ∀ x ∈ p.U.base, ∃ cp, mg x = some cp ∧ ∀ c C, (p.G K).ca c = some C → PySem.W.exmOne K (.ref C) cp = some true := fun x hx => by
      have e : x = p.base := by simpa using (show x ∈ [p.base] from hx)
      subst e
      refine ⟨_, x3, fun k C hC => ?_⟩
      obtain ⟨y, hy, rfl⟩ := Option.map_eq_some_iff.mp hC
      exact (x4 y (List.mem_of_getElem? hy)).2.2.1
    have err1 : ∀ x ∈ p.U.errf, ∃ fa, mg x = some (.ref fa) ∧ ErrFact (p.G K) P w K mg base (orc p.prog wf n).err fa := fun x hx => by
      have e : x = p.err.name := by simpa using (show x ∈ [p.err.name] from hx)
      subst e
      refine ⟨_, x2, ?_⟩
      have e : (orc p.prog wf n).err = fun k => p.prog.errs[k]? := by cases n <;> rfl
      rw [e]
      exact c.err
    refine ⟨fns, fun k f h => ?_, cls, cons _ rfl, x5, fun k L h => ?_⟩
    · obtain ⟨d, hd, rfl⟩ := defs k f h
      obtain ⟨ls, D, hl⟩ := c.defOk hd
      have e : (orc p.prog wf (n + 1)).fn k = fun args cc S => runF (orc p.prog wf n) wf d.fn args cc S := by
        funext args cc S
        have e1 : p.prog.fns[k]? = some d.fn := by
          show (p.defs.map fun d => d.fn).toArray[k]? = _
          simp [hd]
        show (match p.prog.fns[k]? with | some f => runF (orc p.prog wf n) wf f args cc S | none => .bad) = _
        rw [e1]
      rw [e]
      exact fn_fact D hl rfl ih base1 err1
    · obtain ⟨l, hl, ok, e1, e2, hm⟩ := lams k L h
      refine lam_fact (n := n + 1) (ev := evE (orc p.prog wf n) l.body) ok (fun cap ds S => ?_) fun A outer s H E f c' cl hr => ?_
      · have e3 : p.prog.lams[k]? = some l := by
          show p.lams.toArray[k]? = _
          simp [hl]
        show (match p.prog.lams[k]? with | some l => if ds.length = l.np ∧ cap.length = l.nc then evE (orc p.prog wf n) l.body ((ds ++ cap).map fun d => some (.val d)) S else .bad | none => .bad) = _
        rw [e3]
        show (if ds.length = l.np ∧ cap.length = l.nc then _ else _) = _
        rw [e1, e2]
      · have ctx : CkOk p.T (p.G K) (orc p.prog wf n) (n + 1) cf0 (fun cls d _ H => E cls d H) ⟨L.ps ++ L.caps, L.scope, fun _ => false, false, false, ""⟩ (lamC P w K mg base A outer s H E L f c' cl) :=
          ⟨rfl, ok.nd, rfl, rfl, rfl, hr, takes_lam, (fun _ h => Bool.noConfusion (show false = true from h)), ih, (fun h => Bool.noConfusion (show false = true from h)), (fun h => Bool.noConfusion (show false = true from h))⟩
        exact (sE l.body ctx hm (fun q hq => by cases hq)).1
end
end Pz

/-! Pz26: the law. -/
namespace Pz
open PySem PySem.Spec PyProof.Rows L2

theorem wd_scr {G : Gc} {H : Hp} {a : Addr} {ns : List Int} (hT : ∀ q ∈ G.T, H q.1 = some (.tbl #[])) (hS : SqL G.K H a (ns.map V.int)) : ∃ W, Hok G W H [] ∧ Dat G W (.ref a) (.scr ns) := by
  have tabs : LamX.Tabs G.T H := fun q hq => .nil (hT q hq)
  have mkW : ∀ Z : Hp, (∀ b o, Z b = some o → H b = some o) → (∀ b ps, Z b ≠ some (.tbl ps)) → Hok G ⟨Z, []⟩ H [] := fun Z h1 h2 => ⟨h1, h2, rfl, .nil, fun n b so e => by simp at e, tabs⟩
  rcases hS with h | h
  · have key : ∀ o, H a = some o → (∀ ps, o ≠ .tbl ps) → ∃ W, Hok G W H [] ∧ W.Z a = some o := fun o e nt => by
      refine ⟨⟨fun b => if b = a then some o else none, []⟩, mkW _ (fun b u z => ?_) (fun b ps z => ?_), if_pos rfl⟩
      · by_cases hb : b = a
        · rw [if_pos hb] at z; cases z; rw [hb]; exact e
        · rw [if_neg hb] at z; cases z
      · by_cases hb : b = a
        · rw [if_pos hb] at z; exact nt ps (Option.some.inj z)
        · rw [if_neg hb] at z; cases z
    rcases h with h | ⟨u, h⟩
    · obtain ⟨W, k1, k2⟩ := key _ h fun ps z => by cases z
      exact ⟨W, k1, .scr (.inl (.inl k2))⟩
    · obtain ⟨W, k1, k2⟩ := key _ h fun ps z => by cases z
      exact ⟨W, k1, .scr (.inl (.inr ⟨u, k2⟩))⟩
  · exact ⟨⟨fun _ => none, []⟩, mkW _ (fun b o z => by cases z) (fun b ps z => by cases z), .scr (.inr h)⟩
theorem law_at {p : Spec} {l : PySem.W.OpenLaw} {w : World} {K : PySem.W.Frag} {mg : Str → Option Value} {fa : Addr} {h : Heap} {kL N wf : Nat} {d : DefS} {x : Str} (hok : p.ok = true) (hk : p.defs[kL]? = some d) (hx : d.N.take d.fn.np = [x])
    (run : ∀ ns : List Int, ns.length ≤ 63 → (∀ z ∈ ns, Builtin.Int.intBits z ≤ 1048576) → ∃ S, (orc p.prog wf N).fn kL [.scr ns] none [] = .ok (.bl true) S)
    (KX : K.In h) (hns : h.Ns mainGlobals mg) (hfa : mg d.name = some (.ref fa)) (c : He.SaysX [] p.fn [] p.tf p.ex w h K) : LamX.LawAtS l w K (L2N.CX l.prog w) (N + 1) 63 x mg fa h := by
  have hd := List.mem_of_getElem? hk
  have dok := List.all_eq_true.mp (show p.defs.all DefS.ok = true from by
    have h := hok
    unfold Spec.ok at h
    simp only [Bool.and_eq_true] at h
    exact h.1.1.1.1.1.1.1.1.1.1) d hd
  have fns : ∀ d ∈ p.fn, ∃ fd, FunD K d.name d.qual d.params d.body d.scope [] [] (He.fAd K d.at_) fd := fun q hq => by
    obtain ⟨fd, F⟩ := He.SaysD.defs c.t.d hq
    have e1 : q.dvs K = [] ∧ q.kws K = [] := by
      unfold Spec.fn at hq
      rcases List.mem_append.mp hq with hq | hq
      · obtain ⟨r, _, rfl⟩ := List.mem_map.mp hq
        exact ⟨rfl, rfl⟩
      · rw [List.mem_singleton.mp hq]
        exact ⟨rfl, rfl⟩
    rw [e1.1, e1.2] at F
    exact ⟨fd, F⟩
  obtain ⟨fd, F⟩ := fns d.dd (List.mem_append_left _ (List.mem_map.mpr ⟨d, hd, rfl⟩))
  have F : FunD K d.name d.name (defArgs d.st) (defBody d.st) (defScope d.st) [] [] (He.ga K d.name) fd := F
  have at_ : ∀ base : Heap, K.In base → base.Ns mainGlobals mg → (∀ q ∈ p.tf.map (He.cT K), LamX.TabB base mg q.1 q.2) → SpecAt p K mg base := fun base h1 h2 h3 => ⟨hok, c.more, h1, h2, fns, fun q hq => h3 _ (List.mem_map.mpr ⟨q, hq, rfl⟩)⟩
  have efa : fa = He.ga K d.name := by
    have h1 : (He.Fa.glo d.name).ok K = true := by
      have h := c.more
      unfold Spec.ex at h
      simp only [Bool.and_eq_true, List.all_eq_true] at h
      exact h.1.1.1.1.1.1.1.1.1 d hd
    have h2 := He.glo_ok KX hns h1
    rw [hfa] at h2
    cases h2
    rfl
  subst efa
  have bt : ∀ (s : Shared) (us : List Value), us.length = 1 → BindsTo s fd ⟨us, []⟩ ([x].zip us) := fun s us hl => by
    unfold DefS.ok at dok
    simp only [Bool.and_eq_true, Bool.not_eq_true', decide_eq_true_eq] at dok
    obtain ⟨⟨⟨⟨h1, h2⟩, h3⟩, h4⟩, h5⟩ := dok
    obtain ⟨as, e1, e2⟩ := argNames_eq h5
    rw [hx] at e2
    refine F.bindsA (ps := [x]) (fun kV doc pm an cdv ct us hl => ?_) s us hl
    rw [← e2]
    exact bind_plain (fd := PySem.W.fnOf d.name d.name (defArgs d.st) (defBody d.st) (defScope d.st) .none kV doc pm an cdv ct) e1 rfl (by rw [e2]; simp) (by rw [e2]; exact hl)
  refine ⟨fd, p.tf.map (He.cT K), fun vs H Q _ => ∃ (a : Addr) (ns : List Int), vs = [.ref a] ∧ SqL K H a (ns.map V.int) ∧ ns.length ≤ 63 ∧ (∀ z ∈ ns, Builtin.Int.intBits z ≤ 1048576) ∧ (∀ q ∈ p.tf.map (He.cT K), H q.2 = some (.tbl #[])) ∧ ∀ H', Q (.bl true) H',
    fun q hq => ?_, fun q hq => ?_, fun q hq => ?_, fun s u => bt s [u] rfl, fun H a ns hl hb hT hS => ⟨a, ns, rfl, hS, hl, hb, hT, fun _ => rfl⟩, fun base h1 h2 h3 => ⟨fun vs H Q E ⟨a, ns, e, _⟩ => by rw [e]; rfl, fun A outer s H args us vs Q E hr e0 hbt rv sp => ?_⟩⟩
  · obtain ⟨r, hr, rfl⟩ := List.mem_map.mp hq
    exact c.empty r hr
  · obtain ⟨r, hr, rfl⟩ := List.mem_map.mp hq
    exact c.out r hr
  · obtain ⟨r, hr, rfl⟩ := List.mem_map.mp hq
    exact PySem.W.codeHd_of_K KX (c.hd r hr)
  · obtain ⟨a, ns, rfl, hS, hl, hb, hT, hQ⟩ := sp
    have G1 := (at_ base h1 h2 h3).glob (P := l.prog) (w := w) (wf := wf) N
    obtain ⟨fd', ps, R, hB, _, hlen, ⟨oc', od', osl', lk'⟩, hpa⟩ := (G1.fnf kL (He.ga K d.name) (by show (p.defs[kL]?).map _ = _; rw [hk]; rfl)).ex
    obtain ⟨S, hrun⟩ := run ns hl hb
    have hps : ps.length = 1 := by
      by_cases q : ([D.scr ns] : List D).length + cn none = ps.length
      · exact q.symm
      · have := hlen [.scr ns] none [] q
        rw [hrun] at this
        cases this
    obtain ⟨W, hok', hdat⟩ := wd_scr (G := p.G K) (ns := ns) (fun q hq => by
      obtain ⟨r, hr, rfl⟩ := List.mem_map.mp hq
      exact hT _ (List.mem_map.mpr ⟨r, hr, rfl⟩)) hS
    have efd : fd' = fd := by
      obtain ⟨oc, od, dV, kV, doc, pm, an, cdv, ct, osl, e1, lk, _⟩ := F.ex
      rw [lk] at lk'
      have e2 := congrArg Obj.data (Option.some.inj lk')
      injection e2 with e2
      exact e2.symm
    subst efd
    have eps : ps = [x] := by
      unfold DefS.ok at dok
      simp only [Bool.and_eq_true, Bool.not_eq_true', decide_eq_true_eq] at dok
      have h5 := argArgs dok.2
      rw [hx] at h5
      obtain ⟨oc, od, dV, kV, doc, pm, an, cdv, ct, osl, e1, lk, _⟩ := F.ex
      rw [← hpa, e1]
      exact h5
    subst eps
    refine R A outer s H args us [.ref a] Q E hr e0 hbt rv rfl ⟨W, [], [.scr ns], none, hok', .cons hdat .nil, ?_⟩
    rw [hrun]
    intro v W' H' _ dv
    cases dv
    exact hQ H'
end Pz

/-! Pz27: the interpreter in plain terms. -/
namespace Pz
open PySem PySem.Spec PyProof.Rows L2

theorem compL_ok {f : D → Store → Out (Option D)} {g : D → Option D} {S : Store} : ∀ {xs : List D}, (∀ x ∈ xs, f x S = .ok (g x) S) → compL f xs S = .ok (xs.filterMap g) S
  | [], _ => rfl
  | x :: xs, h => by
    rw [compL, h x List.mem_cons_self, Out.bind_ok, compL_ok fun y hy => h y (List.mem_cons_of_mem _ hy), Out.bind_ok, List.filterMap_cons]
    cases g x <;> rfl
/-- a state that each turn keeps -/
theorem forL_ind {tg : Tg} {body : Env → Store → SOut} {I : List D → Env → Store → Prop} (h : ∀ x xs env S, I (x :: xs) env S → ∃ env1 env2 S2, bindT tg x env = some env1 ∧ body env1 S = .nxt env2 S2 ∧ I xs env2 S2) :
    ∀ {xs : List D} {env : Env} {S : Store}, I xs env S → ∃ env' S', forL tg body xs env S = .nxt env' S' ∧ I [] env' S'
  | [], env, S, k => ⟨env, S, rfl, k⟩
  | x :: xs, env, S, k => by
    obtain ⟨env1, env2, S2, h1, h2, h3⟩ := h x xs env S k
    obtain ⟨env', S', h4, h5⟩ := forL_ind h h3
    refine ⟨env', S', ?_, h5⟩
    rw [forL, h1]
    show (body env1 S).bind _ = _
    rw [h2]
    exact h4
/-- a comprehension whose parts leave the store alone -/
theorem lc_ok {o : Orc} {own : List Nat} {tg : Tg} {k : SrcK} {srcs conds : IEs} {elt : IE} {env : Env} {S S1 : Store} {ds its : List D} {g : D → Option D} (h1 : evEs o srcs env S = .ok ds S1) (h2 : itemsD k ds = some its)
    (h3 : ∀ x ∈ its, turnF own tg (evAnd o conds) (evE o elt) env x S1 = .ok (g x) S1) (h4 : its.length ≤ 1000000) : evE o (.lc own tg k srcs conds elt) env S = .ok (.lst (its.filterMap g)) S1 := by
  rw [evE_lc]
  unfold evLc evI
  rw [h1, Out.bind_ok, h2, Out.ofO_some, Out.bind_ok, compL_ok h3, Out.calm_ok, Out.bind_ok, if_pos (Nat.le_trans (List.length_filterMap_le _ _) h4)]
theorem turn_nm {o : Orc} {own : List Nat} {i : Nat} {conds : IEs} {elt : IE} {env : Env} {x : D} {S : Store} {b : Bool} {d : D} (hi : i < env.length) (hc : evAnd o conds ((env.blk own).put i x) S = .ok (.bl b) S) (he : b = true → evE o elt ((env.blk own).put i x) S = .ok d S) :
    turnF own (.nm i) (evAnd o conds) (evE o elt) env x S = .ok (if b = true then some d else none) S := by
  unfold turnF
  rw [bindT, if_pos (by rw [blk_len]; exact hi)]
  show ((evAnd o conds ((env.blk own).put i x) S).bind _) = _
  rw [hc, Out.bind_ok]
  cases b with
  | true =>
    show ((evE o elt ((env.blk own).put i x) S).map some) = _
    rw [he rfl]
    rfl
  | false => rfl
theorem evAnd_nil {o : Orc} {env : Env} {S : Store} : evAnd o .nil env S = .ok (.bl true) S := by simp only [evAnd]
theorem cut_from {A : Type} (xs : List A) (k : Nat) : cutL xs (some (k : Int)) none = xs.drop k := by
  unfold cutL
  rw [HT.sIx_nat, HT.sIx_none]
  by_cases h : k ≤ xs.length
  · rw [Nat.min_eq_left h, List.take_of_length_le (by rw [List.length_drop]; exact Nat.le_refl _)]
  · rw [Nat.min_eq_right (by omega), List.drop_of_length_le (Nat.le_refl _), List.drop_of_length_le (by omega)]
    simp
theorem cut_to {A : Type} (xs : List A) (k : Nat) : cutL xs none (some (k : Int)) = xs.take k := by
  unfold cutL
  rw [HT.sIx_nat, HT.sIx_none, List.drop_zero, Nat.sub_zero]
  by_cases h : k ≤ xs.length
  · rw [Nat.min_eq_left h]
  · rw [Nat.min_eq_right (by omega), List.take_of_length_le (Nat.le_refl _), List.take_of_length_le (by omega)]
theorem cut_both {A : Type} (xs : List A) (j k : Nat) : cutL xs (some (j : Int)) (some (k : Int)) = (xs.drop j).take (k - j) := by
  unfold cutL
  rw [HT.sIx_nat, HT.sIx_nat]
  apply List.ext_getElem?
  intro i
  rw [List.getElem?_take, List.getElem?_take, List.getElem?_drop, List.getElem?_drop]
  by_cases h1 : j ≤ xs.length
  · rw [Nat.min_eq_left h1]
    by_cases h2 : k ≤ xs.length
    · rw [Nat.min_eq_left h2]
    · rw [Nat.min_eq_right (by omega)]
      split
      · rw [if_pos (by omega)]
      · split
        · rw [List.getElem?_eq_none (by omega)]
        · rfl
  · have e1 : min j xs.length = xs.length := Nat.min_eq_right (by omega)
    have e2 := Nat.min_le_right k xs.length
    rw [e1, if_neg (by omega)]
    split
    · rw [List.getElem?_eq_none (by omega)]
    · rfl

/-! ### small data -/
def sm : Nat → D → Bool
  | k, .non => true
  | k, .bl _ => true
  | k, .int _ => true
  | k, .str s => PyData.strOk s
  | 0, _ => false
  | k + 1, .tup ds => decide (ds.length ≤ 200) && ds.all (sm k)
  | k + 1, .lst ds => decide (ds.length ≤ 200) && ds.all (sm k)
  | _ + 1, _ => false
theorem areData_all : ∀ {ds : List D}, D.areData ds = ds.all D.isData
  | [] => rfl
  | d :: ds => by rw [D.areData, List.all_cons, areData_all]
theorem toPs_map : ∀ {ds : List D}, D.toPs ds = ds.map D.toP
  | [] => rfl
  | d :: ds => by rw [D.toPs, List.map_cons, toPs_map]
theorem lay_all : ∀ {ps : List PyData}, PyData.canLayAll0 ps = ps.all PyData.canLay0
  | [] => rfl
  | d :: ds => by rw [PyData.canLayAll0, List.all_cons, lay_all]
theorem depth_all {n : Nat} : ∀ {ps : List PyData}, (∀ p ∈ ps, p.depth ≤ n) → PyData.depthAll ps ≤ n
  | [], _ => by rw [PyData.depthAll]; exact Nat.zero_le _
  | p :: ps, h => by
    rw [PyData.depthAll]
    have h1 := h p List.mem_cons_self
    have h2 := depth_all fun q hq => h q (List.mem_cons_of_mem _ hq)
    omega
theorem sm_ok : ∀ {k : Nat} {d : D}, sm k d = true → d.isData = true ∧ d.toP.canLay0 = true ∧ d.toP.depth ≤ k
  | k, .non, _ => by simp [D.isData, D.toP, PyData.canLay0, PyData.depth]
  | k, .bl _, _ => by simp [D.isData, D.toP, PyData.canLay0, PyData.depth]
  | k, .int _, _ => by simp [D.isData, D.toP, PyData.canLay0, PyData.depth]
  | k, .str s, h => by
    have h : PyData.strOk s = true := by cases k <;> exact h
    simp [D.isData, D.toP, PyData.canLay0, PyData.depth, h]
  | 0, .tup _, h => by cases h
  | 0, .lst _, h => by cases h
  | k + 1, .tup ds, h => by
    simp only [sm, Bool.and_eq_true, List.all_eq_true] at h
    have ih := fun d hd => sm_ok (h.2 d hd)
    rw [D.isData, D.toP, PyData.canLay0, PyData.depth, areData_all, lay_all, toPs_map]
    refine ⟨by rw [List.all_eq_true]; exact fun d hd => (ih d hd).1, by rw [List.all_map, List.all_eq_true]; exact fun d hd => (ih d hd).2.1, Nat.succ_le_succ (depth_all fun p hp => ?_)⟩
    obtain ⟨d, hd, rfl⟩ := List.mem_map.mp hp
    exact (ih d hd).2.2
  | k + 1, .lst ds, h => by
    simp only [sm, Bool.and_eq_true, List.all_eq_true] at h
    have ih := fun d hd => sm_ok (h.2 d hd)
    rw [D.isData, D.toP, PyData.canLay0, PyData.depth, areData_all, lay_all, toPs_map]
    refine ⟨by rw [List.all_eq_true]; exact fun d hd => (ih d hd).1, by rw [List.all_map, List.all_eq_true]; exact fun d hd => (ih d hd).2.1, Nat.succ_le_succ (depth_all fun p hp => ?_)⟩
    obtain ⟨d, hd, rfl⟩ := List.mem_map.mp hp
    exact (ih d hd).2.2
  | k, .ref _, h => by cases k <;> cases h
  | k, .fn _, h => by cases k <;> cases h
  | k, .ty _, h => by cases k <;> cases h
  | k, .scr _, h => by cases k <;> cases h
theorem sm_shaped {k : Nat} {d : D} (h : sm k d = true) (hk : k ≤ 64) : SeqAt.shaped d.toP = true := by
  obtain ⟨_, h1, h2⟩ := sm_ok h
  unfold SeqAt.shaped
  rw [h1, Bool.true_and, decide_eq_true_eq]
  omega
theorem sm_up : ∀ {k j : Nat} {d : D}, sm k d = true → k ≤ j → sm j d = true
  | k, j, .non, _, _ => by cases j <;> rfl
  | k, j, .bl _, _, _ => by cases j <;> rfl
  | k, j, .int _, _, _ => by cases j <;> rfl
  | k, j, .str s, h, _ => by
    have h : PyData.strOk s = true := by cases k <;> exact h
    cases j <;> exact h
  | 0, _, .tup _, h, _ => by cases h
  | 0, _, .lst _, h, _ => by cases h
  | k + 1, 0, _, _, hj => absurd hj (by omega)
  | k + 1, j + 1, .tup ds, h, hj => by
    simp only [sm, Bool.and_eq_true, List.all_eq_true] at h ⊢
    exact ⟨h.1, fun d hd => sm_up (h.2 d hd) (by omega)⟩
  | k + 1, j + 1, .lst ds, h, hj => by
    simp only [sm, Bool.and_eq_true, List.all_eq_true] at h ⊢
    exact ⟨h.1, fun d hd => sm_up (h.2 d hd) (by omega)⟩
  | k, _, .ref _, h, _ => by cases k <;> cases h
  | k, _, .fn _, h, _ => by cases k <;> cases h
  | k, _, .ty _, h, _ => by cases k <;> cases h
  | k, _, .scr _, h, _ => by cases k <;> cases h
/-- the values' own test of equality -/
def peq (a b : D) : Bool := PyData.eqv a.toP b.toP
theorem scal_peq {a b : D} {r : Bool} (h : scalD a b = some r) : a.isData = true → b.isData = true → peq a b = r := by
  unfold peq
  cases a <;> cases b <;> simp [scalD] at h <;> first | (simp [D.isData, D.toP, PyData.eqv, h]; done) | (subst h; simp only [D.isData, D.toP, PyData.eqv]; intro _ _; apply Bool.eq_iff_iff.mpr; simp)
theorem eqD_sm {k j : Nat} {a b : D} (ha : sm k a = true) (hb : sm j b = true) (hk : k ≤ 64) (hj : j ≤ 64) : eqD a b = some (peq a b) := by
  unfold eqD
  split
  · rename_i r h
    rw [scal_peq h (sm_ok ha).1 (sm_ok hb).1]
  · rw [if_pos ⟨(sm_ok ha).1, (sm_ok hb).1, sm_shaped ha hk, sm_shaped hb hj⟩]
    rfl
theorem peq_self {k : Nat} {a : D} (ha : sm k a = true) : peq a a = true := SeqAt.eqv_refl _ (sm_ok ha).2.1

/-! ### steps, by the things' forms -/
section
variable {S : Store} {ds es : List D} {i j : Int} {s z : Str} {b : Bool} {d x : D} {env : Env} {o : Orc} {wf : Nat}
@[simp] theorem len_tup : primD .len [.tup ds] = some (.int ds.length) := rfl
@[simp] theorem len_lst : primD .len [.lst ds] = some (.int ds.length) := rfl
@[simp] theorem len_scr {ns : List Int} : primD .len [.scr ns] = some (.int ns.length) := rfl
@[simp] theorem abs_int : primD .abs [.int i] = some (.int (if i < 0 then -i else i)) := rfl
@[simp] theorem int_int : primD .int [.int i] = some (.int i) := rfl
@[simp] theorem tup_lst : primD .tuple [.lst ds] = some (.tup ds) := rfl
@[simp] theorem tup_tup : primD .tuple [.tup ds] = some (.tup ds) := rfl
@[simp] theorem lst_tup : primD .list [.tup ds] = some (.lst ds) := rfl
@[simp] theorem lst_lst : primD .list [.lst ds] = some (.lst ds) := rfl
@[simp] theorem max2_int : primD .max2 [.int i, .int j] = some (.int (if j > i then j else i)) := rfl
@[simp] theorem min2_int : primD .min2 [.int i, .int j] = some (.int (if j < i then j else i)) := rfl
theorem ofBls_mapF {f : D → Bool} : ∀ {ds : List D}, D.ofBls? (ds.map fun d => D.bl (f d)) = some (ds.map f)
  | [] => rfl
  | d :: ds => by
    rw [List.map_cons, D.ofBls?, ofBls_mapF]
    rfl
theorem all_map {f : D → Bool} : primD .all [.lst (ds.map fun d => D.bl (f d))] = some (.bl (ds.all f)) := by
  show (D.ofBls? _).map _ = _
  rw [ofBls_mapF]
  simp [List.all_map, Function.comp_def]
@[simp] theorem lt_int : cmpD .lt (.int i) (.int j) = some (decide (i < j)) := rfl
@[simp] theorem le_int : cmpD .le (.int i) (.int j) = some (decide (i ≤ j)) := rfl
@[simp] theorem gt_int : cmpD .gt (.int i) (.int j) = some (decide (j < i)) := rfl
@[simp] theorem ge_int : cmpD .ge (.int i) (.int j) = some (decide (j ≤ i)) := rfl
@[simp] theorem eq_int : cmpD .eq (.int i) (.int j) = some (i == j) := rfl
@[simp] theorem ne_int : cmpD .ne (.int i) (.int j) = some (!(i == j)) := rfl
@[simp] theorem eq_str : cmpD .eq (.str s) (.str z) = some (decide (s = z)) := rfl
@[simp] theorem ne_str : cmpD .ne (.str s) (.str z) = some (!decide (s = z)) := rfl
@[simp] theorem truth_bl : truth (.bl b) = some b := rfl
@[simp] theorem ty_int {t : Ty} : tyB (.int i) t = some (decide (t = .int)) := rfl
@[simp] theorem ty_bl {t : Ty} : tyB (.bl b) t = some (decide (t = .bool) || decide (t = .int)) := rfl
@[simp] theorem ty_str {t : Ty} : tyB (.str s) t = some (decide (t = .str)) := rfl
@[simp] theorem ty_tup {t : Ty} : tyB (.tup ds) t = some (decide (t = .tuple)) := rfl
@[simp] theorem ty_lst {t : Ty} : tyB (.lst ds) t = some (decide (t = .list)) := rfl
@[simp] theorem ty_non {t : Ty} : tyB .non t = some false := rfl
@[simp] theorem add_int : binD .add (.int i) (.int j) = some (.int (i + j)) := rfl
@[simp] theorem sub_int : binD .sub (.int i) (.int j) = some (.int (i - j)) := rfl
@[simp] theorem ix_tup0 : ixS S (.tup (x :: ds)) (.int 0) = some x := by
  show atI (x :: ds) (0 : Int) = some x
  simp [atI, ixN]
@[simp] theorem ix_tup1 : ixS S (.tup (x :: d :: ds)) (.int 1) = some d := by
  show atI (x :: d :: ds) (1 : Int) = some d
  have h : (1 : Int) < ((ds.length : Int) + 1 + 1) := by omega
  simp [atI, ixN, h]
@[simp] theorem ix_lst0 : ixS S (.lst (x :: ds)) (.int 0) = some x := by
  show atI (x :: ds) (0 : Int) = some x
  simp [atI, ixN]
@[simp] theorem slc_from {k : Nat} : slcD (.tup ds) (some (k : Int)) none = some (.tup (ds.drop k)) := by
  show some (D.tup (cutL ds _ _)) = _
  rw [cut_from]
@[simp] theorem st_out_ret : (SOut.ret d S).out = .ok d S := rfl
@[simp] theorem st_out_nxt : (SOut.nxt env S).out = .ok .non S := rfl
@[simp] theorem st_out_exc {c : Nat} {xs : List (Str × D)} : (SOut.exc c xs env S).out = .exc c xs S := rfl
@[simp] theorem val_0 : Env.val (some (.val d) :: env) 0 = some d := rfl
@[simp] theorem val_s {sl : Option Sl} {k : Nat} : Env.val (sl :: env) (k + 1) = Env.val env k := rfl
@[simp] theorem put_0 {sl : Option Sl} : Env.put (sl :: env) 0 d = some (.val d) :: env := rfl
@[simp] theorem put_s {sl : Option Sl} {k : Nat} : Env.put (sl :: env) (k + 1) d = sl :: Env.put env k d := rfl
@[simp] theorem trunc_some {A : Type} {a : A} : (Out.ofO (some a) S).st env = fun f => f a S := rfl
theorem val_put_eq {env : Env} {k : Nat} (h : k < env.length) : (env.put k d).val k = some d := by
  unfold Env.val Env.put
  rw [List.getElem?_set_self h]
theorem val_put_ne {env : Env} {k m : Nat} (h : k ≠ m) : (env.put k d).val m = env.val m := by
  unfold Env.val Env.put
  rw [List.getElem?_set_ne h]
theorem fold_out {m : Nat} : ∀ {own : List Nat} {env : Env}, m ∉ own → (own.foldr (fun i (e : Env) => e.set i none) env)[m]? = env[m]?
  | [], env, _ => rfl
  | k :: own, env, h => by
    have hk : k ≠ m := fun z => h (by rw [z]; exact List.mem_cons_self)
    rw [List.foldr_cons, List.getElem?_set_ne hk]
    exact fold_out fun z => h (List.mem_cons_of_mem _ z)
theorem val_blk {env : Env} {own : List Nat} {m : Nat} (h : m ∉ own) : (env.blk own).val m = env.val m := by
  unfold Env.val Env.blk
  rw [List.getElem?_map, fold_out h]
  rcases env[m]? with _ | (_ | sl)
  · rfl
  · rfl
  · cases sl <;> rfl
end
/-- found = found + f(one), item by item -/
theorem for_cat {body : Env → Store → SOut} {a i : Nat} {g : D → List D} {S : Store} {m : Nat} (hai : a ≠ i) (P : Env → Prop) (hP : ∀ env d, P env → P (env.put i d)) (hP2 : ∀ env d, P env → P (env.put a d))
    (hl : ∀ env, P env → a < env.length ∧ i < env.length) : ∀ {xs : List D} {env : Env} {acc : List D}, (∀ x ∈ xs, ∀ env acc, P env → env.val i = some x → env.val a = some (.lst acc) → acc.length ≤ m → body env S = .nxt (env.put a (.lst (acc ++ g x))) S) →
      P env → env.val a = some (.lst acc) → (acc ++ xs.flatMap g).length ≤ m → ∃ env', forL (.nm i) body xs env S = .nxt env' S ∧ P env' ∧ env'.val a = some (.lst (acc ++ xs.flatMap g))
  | [], env, acc, _, p, v, _ => ⟨env, rfl, p, by simpa using v⟩
  | x :: xs, env, acc, h, p, v, hm => by
    have hh := hl env p
    have p1 := hP env x p
    have v1 : (env.put i x).val a = some (.lst acc) := by rw [val_put_ne (Ne.symm hai)]; exact v
    have b1 := h x List.mem_cons_self (env.put i x) acc p1 (val_put_eq hh.2) v1 (by rw [List.length_append] at hm; omega)
    have p2 := hP2 (env.put i x) (.lst (acc ++ g x)) p1
    have v2 : ((env.put i x).put a (.lst (acc ++ g x))).val a = some (.lst (acc ++ g x)) := val_put_eq (hl _ p1).1
    obtain ⟨env', k1, k2, k3⟩ := for_cat hai P hP hP2 hl (xs := xs) (fun y hy => h y (List.mem_cons_of_mem _ hy)) p2 v2 (by rw [List.append_assoc]; simpa [List.flatMap_cons] using hm)
    refine ⟨env', ?_, k2, by rw [k3, List.flatMap_cons, List.append_assoc]⟩
    rw [forL, bindT, if_pos hh.2]
    show (body (env.put i x) S).bind _ = _
    rw [b1]
    exact k1
end Pz

/-! Pz28: the interpreter step by step, as rewriting. -/
namespace Pz
open PySem PySem.Spec PyProof.Rows L2

/-- branch by a truth -/
def br {A : Type} (o : Option Bool) (a b c : A) : A := match o with
  | some true => a
  | some false => b
  | none => c
section
variable {A B : Type} {o : Orc} {wf : Nat} {env : Env} {S : Store}
@[simp] theorem br_none {a b c : A} : br none a b c = c := rfl
@[simp] theorem br_some {x : Bool} {a b c : A} : br (some x) a b c = if x = true then a else b := by cases x <;> rfl
@[simp] theorem bind_ite {p : Prop} [Decidable p] {r s : Out A} {f : A → Store → Out B} : (if p then r else s).bind f = if p then r.bind f else s.bind f := by split <;> rfl
@[simp] theorem map_ite {p : Prop} [Decidable p] {r s : Out A} {f : A → B} : Out.map f (if p then r else s) = if p then r.map f else s.map f := by split <;> rfl
@[simp] theorem ofO_ite {p : Prop} [Decidable p] {r s : Option A} : Out.ofO (if p then r else s) S = if p then Out.ofO r S else Out.ofO s S := by split <;> rfl
@[simp] theorem st_ite {p : Prop} [Decidable p] {r s : Out A} {f : A → Store → SOut} : (if p then r else s).st env f = if p then r.st env f else s.st env f := by split <;> rfl
@[simp] theorem sbind_ite {p : Prop} [Decidable p] {r s : SOut} {f : Env → Store → SOut} : (if p then r else s).bind f = if p then r.bind f else s.bind f := by split <;> rfl
@[simp] theorem out_ite {p : Prop} [Decidable p] {r s : SOut} : (if p then r else s).out = if p then r.out else s.out := by split <;> rfl
@[simp] theorem map_oite {p : Prop} [Decidable p] {r s : Option A} {f : A → B} : Option.map f (if p then r else s) = if p then r.map f else s.map f := by split <;> rfl
@[simp] theorem ite_and_bl {p : Prop} [Decidable p] {y : Bool} : (if p then Out.ok (D.bl y) S else Out.ok (D.bl false) S) = .ok (.bl (decide p && y)) S := by by_cases h : p <;> simp [h]
@[simp] theorem ite_or_bl {p : Prop} [Decidable p] {y : Bool} : (if p then Out.ok (D.bl true) S else Out.ok (D.bl y) S) = .ok (.bl (decide p || y)) S := by by_cases h : p <;> simp [h]
@[simp] theorem ite_bl {p : Prop} [Decidable p] : (if p then Out.ok (D.bl true) S else Out.ok (D.bl false) S) = .ok (.bl (decide p)) S := by by_cases h : p <;> simp [h]
@[simp] theorem ite_blf {p : Prop} [Decidable p] {y : Bool} : (if p then Out.ok (D.bl false) S else Out.ok (D.bl y) S) = .ok (.bl (!decide p && y)) S := by by_cases h : p <;> simp [h]
@[simp] theorem calm_exc {c : Nat} {x : List (Str × D)} : (Out.exc c x S : Out A).calm = .bad := rfl
@[simp] theorem calm_bad : (Out.bad : Out A).calm = .bad := rfl

@[simp] theorem x_var {i : Nat} : evE o (.var i) env S = .ofO (env.val i) S := by simp only [evE]
@[simp] theorem x_con {d : D} : evE o (.con d) env S = .ok d S := by simp only [evE]
@[simp] theorem x_glob {k : Nat} : evE o (.glob k) env S = .ofO (o.con k) S := by simp only [evE]
@[simp] theorem x_fnv {k : Nat} : evE o (.fnv k) env S = .ok (.fn k) S := by simp only [evE]
@[simp] theorem x_tup {es : IEs} : evE o (.tup es) env S = (evEs o es env S).bind fun ds S => if ds.length ≤ 1000 then .ok (.tup ds) S else .bad := by simp only [evE]
@[simp] theorem x_lst {es : IEs} : evE o (.lst es) env S = (evEs o es env S).bind fun ds S => if ds.length ≤ 1000 then .ok (.lst ds) S else .bad := by simp only [evE]
@[simp] theorem x_cel {es : IEs} : evE o (.cel es) env S = (evEs o es env S).bind fun ds S => if ds.length ≤ 1000 then .ok (.ref S.length) (S ++ [.lst ds]) else .bad := by simp only [evE]
@[simp] theorem x_bin {op : BOp} {a b : IE} : evE o (.bin op a b) env S = (evE o a env S).bind fun x S => (evE o b env S).bind fun y S => .ofO (binD op x y) S := by simp only [evE]
def negO (d : D) (S : Store) : Out D := match d with
  | .int i => .ok (.int (-i)) S
  | _ => .bad
@[simp] theorem negO_int {i : Int} : negO (.int i) S = .ok (.int (-i)) S := rfl
@[simp] theorem x_neg {a : IE} : evE o (.neg a) env S = (evE o a env S).bind fun x S => negO x S := by
  simp only [evE]; rfl
def revO (d : D) (S : Store) : Out D := match d with
  | .lst ds => .ok (.lst ds.reverse) S
  | _ => .bad
@[simp] theorem revO_lst {ds : List D} : revO (.lst ds) S = .ok (.lst ds.reverse) S := rfl
@[simp] theorem x_rev {a : IE} : evE o (.rev a) env S = (evE o a env S).bind fun x S => revO x S := by
  simp only [evE]; rfl
@[simp] theorem x_not {a : IE} : evE o (.not a) env S = (evE o a env S).bind fun x S => .ofO ((truth x).map fun b => .bl (!b)) S := by simp only [evE]
@[simp] theorem x_cmp {op : COp} {a b : IE} : evE o (.cmp op a b) env S = (evE o a env S).bind fun x S => (evE o b env S).bind fun y S => .ofO ((cmpD op x y).map D.bl) S := by simp only [evE]
@[simp] theorem x_cmp2 {op op2 : COp} {a b c : IE} : evE o (.cmp2 op op2 a b c) env S = (evE o a env S).bind fun x S => (evE o b env S).bind fun y S => br (cmpD op x y) ((evE o c env S).bind fun z S => .ofO ((cmpD op2 y z).map D.bl) S) (.ok (.bl false) S) .bad := by
  simp only [evE]; rfl
@[simp] theorem x_and {es : IEs} : evE o (.and es) env S = evAnd o es env S := by simp only [evE]
@[simp] theorem x_or {es : IEs} : evE o (.or es) env S = evOr o es env S := by simp only [evE]
@[simp] theorem x_ife {c a b : IE} : evE o (.ife c a b) env S = (evE o c env S).bind fun x S => br (truth x) (evE o a env S) (evE o b env S) .bad := by
  simp only [evE]; rfl
@[simp] theorem x_idx {a i : IE} : evE o (.idx a i) env S = (evE o a env S).bind fun x S => (evE o i env S).bind fun y S => .ofO (ixS S x y) S := by simp only [evE]
@[simp] theorem x_slc {a : IE} {lo hi : IEs} : evE o (.slc a lo hi) env S = (evE o a env S).bind fun x S => ((evEs o lo env S).bind fun l S => .ofO (optI l) S).bind fun l S => ((evEs o hi env S).bind fun l S => .ofO (optI l) S).bind fun h S => .ofO (slcD x l h) S := by simp only [evE]
@[simp] theorem x_call {k : Nat} {args : IEs} : evE o (.call k args) env S = (evEs o args env S).bind fun ds S => o.fn k ds none S := by simp only [evE]
@[simp] theorem x_prim {p : Prim} {args : IEs} : evE o (.prim p args) env S = (evEs o args env S).bind fun ds S => .ofO (primD p ds) S := by simp only [evE]
@[simp] theorem x_isi {a : IE} {t : Ty} : evE o (.isi a t) env S = (evE o a env S).bind fun x S => .ofO ((tyB x t).map D.bl) S := by simp only [evE]
@[simp] theorem x_nil : evEs o .nil env S = .ok [] S := by simp only [evEs]
@[simp] theorem x_cons {e : IE} {es : IEs} : evEs o (.cons e es) env S = (evE o e env S).bind fun d S => (evEs o es env S).bind fun ds S => .ok (d :: ds) S := by simp only [evEs]
@[simp] theorem x_and0 : evAnd o .nil env S = .ok (.bl true) S := by simp only [evAnd]
@[simp] theorem x_and1 {e : IE} : evAnd o (.cons e .nil) env S = (evE o e env S).bind fun d S => .ofO ((truth d).map D.bl) S := by simp only [evAnd]
@[simp] theorem x_and2 {e f : IE} {es : IEs} : evAnd o (.cons e (.cons f es)) env S = (evE o e env S).bind fun d S => br (truth d) (evAnd o (.cons f es) env S) (.ok (.bl false) S) .bad := by
  simp only [evAnd]; rfl
@[simp] theorem x_or0 : evOr o .nil env S = .ok (.bl false) S := by simp only [evOr]
@[simp] theorem x_or1 {e : IE} : evOr o (.cons e .nil) env S = (evE o e env S).bind fun d S => .ofO ((truth d).map D.bl) S := by simp only [evOr]
@[simp] theorem x_or2 {e f : IE} {es : IEs} : evOr o (.cons e (.cons f es)) env S = (evE o e env S).bind fun d S => br (truth d) (.ok (.bl true) S) (evOr o (.cons f es) env S) .bad := by
  simp only [evOr]; rfl
/-- one turn of a comprehension -/
def turnO (o : Orc) (tg : Tg) (conds : IEs) (elt : IE) (env : Env) (x : D) (S : Store) : Out (Option D) := (Out.ofO (bindT tg x env) S).bind fun env' S => (evAnd o conds env' S).bind fun b S => br (truth b) ((evE o elt env' S).map some) (.ok none S) .bad
@[simp] theorem x_lc {own : List Nat} {tg : Tg} {k : SrcK} {srcs conds : IEs} {elt : IE} : evE o (.lc own tg k srcs conds elt) env S = (evEs o srcs env S).bind fun ds S => (Out.ofO (itemsD k ds) S).bind fun its S => ((compL (fun x S => turnO o tg conds elt (env.blk own) x S) its S).calm).bind fun ys S => if ys.length ≤ 1000000 then .ok (.lst ys) S else .bad := by
  simp only [evE]
  congr 1
  funext ds S
  cases itemsD k ds with
  | none => rfl
  | some its =>
    show (Out.calm (compL _ its S)).bind _ = (Out.calm (compL _ its S)).bind _
    congr 2
    congr 1
    funext x S
    unfold turnO
    cases bindT tg x (env.blk own) with
    | none => rfl
    | some env' => rfl
@[simp] theorem bindT_nm {i : Nat} {x : D} : bindT (.nm i) x env = if i < env.length then some (env.put i x) else none := by simp only [bindT]
@[simp] theorem blk_nil : Env.blk env [] = env.map fun | some (.val d) => some (.val d) | _ => none := rfl
def strip : Option Sl → Option Sl
  | some (.val d) => some (.val d)
  | _ => none
def forget (env : Env) (own : List Nat) : Env := own.foldr (fun i (e : Env) => e.set i none) env
@[simp] theorem forget_nil : forget env [] = env := rfl
@[simp] theorem forget_cons {i : Nat} {own : List Nat} : forget env (i :: own) = (forget env own).set i none := rfl
theorem blk_def {own : List Nat} : Env.blk env own = (forget env own).map strip := by
  rfl
@[simp] theorem strip_val {d : D} : strip (some (.val d)) = some (.val d) := rfl
@[simp] theorem strip_none : strip none = none := rfl
@[simp] theorem strip_own {ds : List D} : strip (some (.own ds)) = none := rfl
@[simp] theorem strip_clo {k : Nat} {ds : List D} : strip (some (.clo k ds)) = none := rfl

@[simp] theorem y_nil : exSs o wf .nil env S = .nxt env S := by simp only [exSs]
@[simp] theorem y_cons {s : IS} {ss : ISs} : exSs o wf (.cons s ss) env S = (exS o wf s env S).bind fun env S => exSs o wf ss env S := by simp only [exSs]
@[simp] theorem y_asg {i : Nat} {e : IE} : exS o wf (.asg i e) env S = (evE o e env S).st env fun d S => if i < env.length then .nxt (env.put i d) S else .bad := by simp only [exS]
@[simp] theorem y_expr {e : IE} : exS o wf (.expr e) env S = (evE o e env S).st env fun _ S => .nxt env S := by simp only [exS]
@[simp] theorem y_ret {e : IE} : exS o wf (.ret e) env S = (evE o e env S).st env fun d S => .ret d S := by simp only [exS]
@[simp] theorem y_retn : exS o wf .retn env S = .ret .non S := by simp only [exS]
@[simp] theorem y_pass : exS o wf .pass env S = .nxt env S := by simp only [exS]
@[simp] theorem y_raise {c : Nat} : exS o wf (.raise c) env S = .exc c [] env S := by simp only [exS]
@[simp] theorem y_ife {c : IE} {a b : ISs} : exS o wf (.ife c a b) env S = (evE o c env S).st env fun d S => br (truth d) (exSs o wf a env S) (exSs o wf b env S) .bad := by
  simp only [exS]; rfl
@[simp] theorem y_tasg {t : Tg} {e : IE} : exS o wf (.tasg t e) env S = (evE o e env S).st env fun d S => (Out.ofO (bindT t d env) S).st env fun env' S => .nxt env' S := by
  simp only [exS]
  congr 1
  funext d S
  cases bindT t d env <;> rfl
@[simp] theorem y_par {is js : List Nat} {es : IEs} : exS o wf (.par is js es) env S = (evEs o es env S).st env fun ds S => (Out.ofO ((putAll is ds env).bind (putOwn js)) S).st env fun env' S => .nxt env' S := by
  simp only [exS]
  congr 1
  funext d S
  cases (putAll is d env).bind (putOwn js) <;> rfl
@[simp] theorem y_for {t : Tg} {k : SrcK} {srcs : IEs} {body : ISs} : exS o wf (.for_ t k srcs body) env S = (evEs o srcs env S).st env fun ds S => (Out.ofO (itemsD k ds) S).st env fun its S => forL t (fun env S => exSs o wf body env S) its env S := by
  simp only [exS]
  congr 1
  funext d S
  cases itemsD k d <;> rfl
@[simp] theorem y_while {c : IE} {body : ISs} : exS o wf (.while_ c body) env S = whileL (fun env S => evE o c env S) (fun env S => exSs o wf body env S) wf env S := by simp only [exS]
@[simp] theorem putAll_nil : putAll [] [] env = some env := by simp only [putAll]
@[simp] theorem putAll_cons {i : Nat} {is : List Nat} {d : D} {ds : List D} : putAll (i :: is) (d :: ds) env = if i < env.length then putAll is ds (env.put i d) else none := by simp only [putAll]
@[simp] theorem putOwn_nil : putOwn [] env = some env := by simp only [putOwn]
@[simp] theorem putOwn_cons {i : Nat} {is : List Nat} : putOwn (i :: is) env = if i < env.length then putOwn is (env.set i (some (.own []))) else none := by simp only [putOwn]
def ownSt (i : Nat) (env : Env) (d : D) (S : Store) : SOut := match d with
    | .lst ds => if i < env.length then .nxt (env.set i (some (.own ds))) S else .bad
    | _ => .bad
@[simp] theorem ownSt_lst {i : Nat} {ds : List D} : ownSt i env (.lst ds) S = if i < env.length then .nxt (env.set i (some (.own ds))) S else .bad := rfl
@[simp] theorem y_own {i : Nat} {e : IE} : exS o wf (.own i e) env S = (evE o e env S).st env fun d S => ownSt i env d S := by
  simp only [exS]; rfl
@[simp] theorem len_put {i : Nat} {d : D} : (env.put i d).length = env.length := by simp [Env.put]
@[simp] theorem optI0 : optI [] = some none := rfl
@[simp] theorem optI1 {i : Int} : optI [.int i] = some (some i) := rfl
@[simp] theorem for_nil {tg : Tg} {body : Env → Store → SOut} : forL tg body [] env S = .nxt env S := rfl
@[simp] theorem slc_tup {ds : List D} {lo hi : Option Int} : slcD (.tup ds) lo hi = some (.tup (cutL ds lo hi)) := rfl
@[simp] theorem slc_lst {ds : List D} {lo hi : Option Int} : slcD (.lst ds) lo hi = some (.lst (cutL ds lo hi)) := rfl
@[simp] theorem cut_1 {x : A} {xs : List A} : cutL (x :: xs) (some 1) none = xs := cut_from (x :: xs) 1
@[simp] theorem cut_2 {x : A} {xs : List A} : cutL (x :: xs) (some 2) none = xs.drop 1 := cut_from (x :: xs) 2
@[simp] theorem items_tup {ds : List D} : itemsD .seq [.tup ds] = some ds := rfl
@[simp] theorem items_lst {ds : List D} : itemsD .seq [.lst ds] = some ds := rfl
@[simp] theorem items_zipl {a b : List D} : itemsD .zip [.lst a, .lst b] = some (zipD a b) := rfl
@[simp] theorem items_zipt {a b : List D} : itemsD .zip [.tup a, .tup b] = some (zipD a b) := rfl
@[simp] theorem items_ziptl {a b : List D} : itemsD .zip [.tup a, .lst b] = some (zipD a b) := rfl
@[simp] theorem items_ziplt {a b : List D} : itemsD .zip [.lst a, .tup b] = some (zipD a b) := rfl
@[simp] theorem items_enum {a : List D} : itemsD .enum [.lst a] = some (enumD 0 a) := rfl

/-- a comprehension's turns, one by one -/
theorem compL_of {f : D → Store → Out (Option D)} {xs : List D} (g : D → D) (h : ∀ x ∈ xs, f x S = .ok (some (g x)) S) : compL f xs S = .ok (xs.map g) S := by
  rw [compL_ok (g := fun x => some (g x)) h, List.filterMap_eq_map']
theorem compL_if {f : D → Store → Out (Option D)} {xs : List D} (p : D → Bool) (g : D → D) (h : ∀ x ∈ xs, f x S = .ok (if p x = true then some (g x) else none) S) : compL f xs S = .ok ((xs.filter p).map g) S := by
  rw [compL_ok (g := fun x => if p x = true then some (g x) else none) h]
  congr 1
  induction xs with
  | nil => rfl
  | cons x xs ih =>
    rw [List.filterMap_cons, List.filter_cons]
    by_cases q : p x = true
    · rw [if_pos q, if_pos q, List.map_cons, ih fun y hy => h y (List.mem_cons_of_mem _ hy)]
    · rw [if_neg q, if_neg q, ih fun y hy => h y (List.mem_cons_of_mem _ hy)]
/-- the same over things told by a function -/
theorem compL_of' {X : Type} {f : D → Store → Out (Option D)} {xs : List X} (c : X → D) (g : X → D) (h : ∀ x ∈ xs, f (c x) S = .ok (some (g x)) S) : compL f (xs.map c) S = .ok (xs.map g) S := by
  induction xs with
  | nil => rfl
  | cons x xs ih =>
    rw [List.map_cons, compL, h x List.mem_cons_self, Out.bind_ok, ih fun y hy => h y (List.mem_cons_of_mem _ hy), Out.bind_ok]
    rfl
theorem compL_if' {X : Type} {f : D → Store → Out (Option D)} {xs : List X} (c : X → D) (p : X → Bool) (g : X → D) (h : ∀ x ∈ xs, f (c x) S = .ok (if p x = true then some (g x) else none) S) : compL f (xs.map c) S = .ok ((xs.filter p).map g) S := by
  induction xs with
  | nil => rfl
  | cons x xs ih =>
    rw [List.map_cons, compL, h x List.mem_cons_self, Out.bind_ok, ih fun y hy => h y (List.mem_cons_of_mem _ hy), Out.bind_ok, List.filter_cons]
    cases p x <;> rfl
/-- a comprehension that draws -/
theorem compL_sat {f : D → Store → Out (Option D)} {P : D → Prop} {I : Store → Prop} : ∀ {xs : List D} {S : Store}, (∀ x ∈ xs, ∀ S, I S → ∃ d S', f x S = .ok (some d) S' ∧ P d ∧ I S') → I S → ∃ ys S', compL f xs S = .ok ys S' ∧ ys.length = xs.length ∧ (∀ y ∈ ys, P y) ∧ I S'
  | [], S, _, i => ⟨[], S, rfl, rfl, (fun _ z => by cases z), i⟩
  | x :: xs, S, h, i => by
    obtain ⟨d, S1, e1, p1, i1⟩ := h x List.mem_cons_self S i
    obtain ⟨ys, S2, e2, l2, p2, i2⟩ := compL_sat (fun y hy => h y (List.mem_cons_of_mem _ hy)) i1
    refine ⟨d :: ys, S2, ?_, by simp [l2], ?_, i2⟩
    · rw [compL, e1, Out.bind_ok, e2, Out.bind_ok]
    · intro y hy
      rcases List.mem_cons.mp hy with rfl | hy
      · exact p1
      · exact p2 y hy
/-- a loop over a state that is told by a function -/
theorem forL_fold {St : Type} {tg : Tg} {body : Env → Store → SOut} (E : St → Env) (step : St → D → St) (I : List D → St → Prop) : ∀ {xs : List D} {st : St}, (∀ x r st, I (x :: r) st → (∃ env1, bindT tg x (E st) = some env1 ∧ body env1 S = .nxt (E (step st x)) S) ∧ I r (step st x)) → I xs st → forL tg body xs (E st) S = .nxt (E (xs.foldl step st)) S
  | [], st, _, _ => rfl
  | x :: xs, st, h, i => by
    obtain ⟨⟨env1, h1, h2⟩, h3⟩ := h x xs st i
    rw [forL, h1]
    show (body env1 S).bind _ = _
    rw [h2]
    exact forL_fold E step I h h3
/-- the same over things told by a function -/
theorem forL_fold' {X St : Type} {tg : Tg} {body : Env → Store → SOut} (c : X → D) (E : St → Env) (step : St → X → St) (I : List X → St → Prop) : ∀ {xs : List X} {st : St}, (∀ x r st, I (x :: r) st → (∃ env1, bindT tg (c x) (E st) = some env1 ∧ body env1 S = .nxt (E (step st x)) S) ∧ I r (step st x)) → I xs st → forL tg body (xs.map c) (E st) S = .nxt (E (xs.foldl step st)) S
  | [], st, _, _ => rfl
  | x :: xs, st, h, i => by
    obtain ⟨⟨env1, h1, h2⟩, h3⟩ := h x xs st i
    rw [List.map_cons, forL, h1]
    show (body env1 S).bind _ = _
    rw [h2]
    exact forL_fold' c E step I h h3
/-- a loop that returns False at the first bad thing -/
theorem forL_test {tg : Tg} {body : Env → Store → SOut} (P : Env → Prop) (p : D → Bool) : ∀ {xs : List D} {env : Env}, (∀ x ∈ xs, ∀ env, P env → ∃ env1, bindT tg x env = some env1 ∧ (if p x = true then ∃ env2, body env1 S = .nxt env2 S ∧ P env2 else body env1 S = .ret (.bl false) S)) → P env →
    if xs.all p = true then ∃ env', forL tg body xs env S = .nxt env' S ∧ P env' else forL tg body xs env S = .ret (.bl false) S
  | [], env, _, k => by simp only [List.all_nil, if_true]; exact ⟨env, rfl, k⟩
  | x :: xs, env, h, k => by
    obtain ⟨env1, h1, h2⟩ := h x List.mem_cons_self env k
    rw [List.all_cons]
    by_cases hp : p x = true
    · rw [if_pos hp] at h2
      obtain ⟨env2, h3, h4⟩ := h2
      have ih := forL_test P p (fun y hy => h y (List.mem_cons_of_mem _ hy)) h4
      rw [hp, Bool.true_and]
      have e : forL tg body (x :: xs) env S = forL tg body xs env2 S := by
        rw [forL, h1]
        show (body env1 S).bind _ = _
        rw [h3]
        rfl
      rw [e]
      exact ih
    · rw [if_neg hp] at h2
      have hp : p x = false := by simpa using hp
      rw [hp, Bool.false_and, if_neg (by decide), forL, h1]
      show (body env1 S).bind _ = _
      rw [h2]
      rfl
/-- a loop that a measure ends -/
theorem whileL_ends {St : Type} {c : Env → Store → Out D} {body : Env → Store → SOut} (E : St → Env) (go : St → Bool) (step : St → St) (m : St → Nat) (I : St → Prop) (h : ∀ st, I st → c (E st) S = .ok (.bl (go st)) S ∧ (go st = true → body (E st) S = .nxt (E (step st)) S ∧ m (step st) < m st ∧ I (step st))) :
    ∀ {n : Nat} {st : St}, I st → m st < n → ∃ st', I st' ∧ go st' = false ∧ whileL c body n (E st) S = .nxt (E st') S ∧ (∀ (R : St → St → Prop), (∀ a, R a a) → (∀ a b, I a → go a = true → R (step a) b → R a b) → R st st')
  | 0, st, _, hm => absurd hm (by omega)
  | n + 1, st, i, hm => by
    obtain ⟨h1, h2⟩ := h st i
    by_cases g : go st = true
    · obtain ⟨h3, h4, h5⟩ := h2 g
      obtain ⟨st', k1, k2, k3, k4⟩ := whileL_ends E go step m I h h5 (n := n) (by omega)
      refine ⟨st', k1, k2, ?_, fun R r1 r2 => r2 st st' i g (k4 R r1 r2)⟩
      rw [whileL, h1, g]
      show (body (E st) S).bind _ = _
      rw [h3]
      exact k3
    · have g : go st = false := by simpa using g
      refine ⟨st, i, g, ?_, fun R r1 _ => r1 st⟩
      rw [whileL, h1, g]
      rfl
end
end Pz

/-! Pz29: schemes as plain data. -/
namespace Pz
open PySem PySem.Spec PyProof.Rows L2

def isFrom (d : D) (lo hi : Int) : Bool := match d with
  | .int i => decide (lo ≤ i) && decide (i ≤ hi)
  | _ => false
def isTup : D → Bool
  | .tup _ => true
  | _ => false
/-- a join's items -/
def itemsOf (w : Str) (r : List D) : List D := if w = "told" then r.drop 1 else r
def isWord (w : Str) : Bool := decide (w = "sums") || decide (w = "means") || decide (w = "full") || decide (w = "told")
/-- a told join's numbers -/
def numsOk (m : Nat) : List D → Bool
  | .tup ns :: _ => decide (ns.length = m) && ns.all fun x => isFrom x 1 9
  | _ => false
def wiOk : List D → Bool
  | .str w :: x :: r => isWord w && (decide (1 ≤ (itemsOf w (x :: r)).length) && decide ((itemsOf w (x :: r)).length ≤ 4)) && (if w = "told" then numsOk (itemsOf w (x :: r)).length (x :: r) else true)
  | _ => false
def isItem : Nat → D → Bool
  | 0, .tup _ => false
  | k + 1, .tup (.str w :: r) => wiOk (.str w :: r) && (itemsOf w r).all (isItem k)
  | _ + 1, .tup _ => false
  | _, d => isFrom d 0 2
theorem isFrom_int {d : D} {lo hi : Int} (h : isFrom d lo hi = true) : ∃ i, d = .int i ∧ lo ≤ i ∧ i ≤ hi := by
  cases d with
  | int i => exact ⟨i, rfl, by simpa [isFrom] using h⟩
  | _ => cases h
theorem isItem_tup {k : Nat} {ds : List D} (h : isItem k (.tup ds) = true) : ∃ k' w r, k = k' + 1 ∧ ds = .str w :: r ∧ wiOk (.str w :: r) = true ∧ (itemsOf w r).length ≤ 4 ∧ 1 ≤ (itemsOf w r).length ∧ ∀ y ∈ itemsOf w r, isItem k' y = true := by
  cases k with
  | zero => cases h
  | succ k =>
    rcases ds with _ | ⟨a, r⟩
    · cases h
    · cases a with
      | str w =>
        rw [isItem, Bool.and_eq_true, List.all_eq_true] at h
        have h1 := h.1
        cases r with
        | nil => simp [wiOk] at h1
        | cons x r =>
          have := h1
          simp only [wiOk, Bool.and_eq_true, decide_eq_true_eq] at this
          exact ⟨k, w, _, rfl, rfl, h1, this.1.2.2, this.1.2.1, h.2⟩
      | _ => cases h
/-- an item is a part or a join -/
theorem isItem_cases {k : Nat} {d : D} (h : isItem k d = true) : (∃ i : Int, d = .int i ∧ 0 ≤ i ∧ i ≤ 2) ∨ ∃ k' w r, k = k' + 1 ∧ d = .tup (.str w :: r) ∧ wiOk (.str w :: r) = true ∧ (itemsOf w r).length ≤ 4 ∧ 1 ≤ (itemsOf w r).length ∧ ∀ y ∈ itemsOf w r, isItem k' y = true := by
  cases d with
  | tup ds =>
    obtain ⟨k', w, r, e, rfl, h1, h2, h3, h4⟩ := isItem_tup h
    exact .inr ⟨k', w, r, e, rfl, h1, h2, h3, h4⟩
  | int i =>
    left
    have : isFrom (.int i) 0 2 = true := by cases k <;> exact h
    obtain ⟨j, e, h1, h2⟩ := isFrom_int this
    cases e
    exact ⟨i, rfl, h1, h2⟩
  | _ => cases k <;> cases h
theorem wi_word {w : Str} {r : List D} (h : wiOk (.str w :: r) = true) : isWord w = true := by
  cases r with
  | nil => cases h
  | cons x r => simp only [wiOk, Bool.and_eq_true] at h; exact h.1.1
theorem wi_told {w : Str} {r : List D} (h : wiOk (.str w :: r) = true) (e : w = "told") : ∃ ns r', r = .tup ns :: r' ∧ ns.length = r'.length ∧ ∀ x ∈ ns, isFrom x 1 9 = true := by
  cases r with
  | nil => cases h
  | cons x r =>
    simp only [wiOk, Bool.and_eq_true] at h
    have h2 := h.2
    rw [if_pos e] at h2
    cases x with
    | tup ns =>
      simp only [numsOk, Bool.and_eq_true, decide_eq_true_eq, List.all_eq_true] at h2
      refine ⟨ns, r, rfl, ?_, h2.2⟩
      rw [h2.1]
      simp [itemsOf, e]
    | _ => cases h2
theorem str_word {w : Str} (h : isWord w = true) : PyData.strOk w = true := by
  simp only [isWord, Bool.or_eq_true, decide_eq_true_eq] at h
  rcases h with ((h | h) | h) | h <;> subst h <;> decide +kernel
theorem isFrom_sm {d : D} {lo hi : Int} (h : isFrom d lo hi = true) (k : Nat) : sm k d = true := by
  obtain ⟨i, rfl, _⟩ := isFrom_int h
  cases k <;> rfl
/-- an item is small data -/
theorem isItem_sm : ∀ {k : Nat} {d : D}, isItem k d = true → sm (k + 1) d = true
  | k, d, h => by
    rcases isItem_cases h with ⟨i, rfl, _⟩ | ⟨k', w, r, rfl, rfl, h1, h2, h3, h4⟩
    · rfl
    · have hw := str_word (wi_word h1)
      have it : ∀ y ∈ itemsOf w r, sm (k' + 1) y = true := fun y hy => isItem_sm (h4 y hy)
      rw [sm, Bool.and_eq_true, decide_eq_true_eq, List.all_eq_true]
      by_cases e : w = "told"
      · obtain ⟨ns, r', rfl, h5, h6⟩ := wi_told h1 e
        have e2 : itemsOf w (.tup ns :: r') = r' := by simp [itemsOf, e]
        rw [e2] at h2 it
        refine ⟨by simp; omega, fun y hy => ?_⟩
        rcases List.mem_cons.mp hy with rfl | hy
        · exact hw
        · rcases List.mem_cons.mp hy with rfl | hy
          · rw [sm, Bool.and_eq_true, decide_eq_true_eq, List.all_eq_true]
            exact ⟨by omega, fun x hx => isFrom_sm (h6 x hx) _⟩
          · exact it y hy
      · have e2 : itemsOf w r = r := by simp [itemsOf, e]
        rw [e2] at h2 it
        refine ⟨by simp; omega, fun y hy => ?_⟩
        rcases List.mem_cons.mp hy with rfl | hy
        · exact hw
        · exact it y hy
theorem sm_items {j : Nat} {w : Str} {r : List D} (h : sm j (.tup (.str w :: r)) = true) : ∀ y ∈ itemsOf w r, sm j y = true := fun y hy => by
  cases j with
  | zero => cases h
  | succ j =>
    simp only [sm, Bool.and_eq_true, List.all_eq_true] at h
    refine sm_up (h.2 y (List.mem_cons_of_mem _ ?_)) (Nat.le_succ j)
    unfold itemsOf at hy
    split at hy
    · exact List.mem_of_mem_drop hy
    · exact hy
theorem sm_len {j : Nat} {ds : List D} (h : sm j (.tup ds) = true) : ds.length ≤ 200 := by
  cases j with
  | zero => cases h
  | succ j => simp only [sm, Bool.and_eq_true, decide_eq_true_eq] at h; exact h.1
theorem sm_mem {j : Nat} {ds : List D} (h : sm j (.tup ds) = true) : ∀ y ∈ ds, sm j y = true := fun y hy => by
  cases j with
  | zero => cases h
  | succ j => simp only [sm, Bool.and_eq_true, List.all_eq_true] at h; exact sm_up (h.2 y hy) (Nat.le_succ j)
theorem items_len {j : Nat} {w : Str} {r : List D} (h : sm j (.tup (.str w :: r)) = true) : (itemsOf w r).length ≤ 200 := by
  have := sm_len h
  rw [List.length_cons] at this
  unfold itemsOf
  split
  · rw [List.length_drop]; omega
  · omega
/-- places, joins, to a depth -/
def pl : Nat → D → List Int
  | k + 1, .tup (.str w :: r) => (itemsOf w r).flatMap (pl k)
  | _, .int i => [i]
  | _, _ => []
def joins : Nat → D → List D
  | k + 1, .tup (.str w :: r) => .tup (.str w :: r) :: (itemsOf w r).flatMap (joins k)
  | _, _ => []
@[simp] theorem pl_int {k : Nat} {i : Int} : pl k (.int i) = [i] := by cases k <;> rfl
@[simp] theorem pl_tup {k : Nat} {w : Str} {r : List D} : pl (k + 1) (.tup (.str w :: r)) = (itemsOf w r).flatMap (pl k) := rfl
@[simp] theorem joins_int {k : Nat} {i : Int} : joins k (.int i) = [] := by cases k <;> rfl
@[simp] theorem joins_tup {k : Nat} {w : Str} {r : List D} : joins (k + 1) (.tup (.str w :: r)) = .tup (.str w :: r) :: (itemsOf w r).flatMap (joins k) := rfl
theorem pl_mem : ∀ {k : Nat} {d : D}, isItem k d = true → ∀ i ∈ pl k d, 0 ≤ i ∧ i ≤ 2
  | k, d, h, i, hi => by
    rcases isItem_cases h with ⟨j, rfl, h1, h2⟩ | ⟨k', w, r, rfl, rfl, h1, h2, h3, h4⟩
    · simp at hi; subst hi; exact ⟨h1, h2⟩
    · rw [pl_tup, List.mem_flatMap] at hi
      obtain ⟨y, hy, hi⟩ := hi
      exact pl_mem (h4 y hy) i hi
theorem pl_pos : ∀ {k : Nat} {d : D}, isItem k d = true → pl k d ≠ []
  | k, d, h => by
    rcases isItem_cases h with ⟨j, rfl, h1, h2⟩ | ⟨k', w, r, rfl, rfl, h1, h2, h3, h4⟩
    · simp
    · rw [pl_tup]
      intro z
      rw [List.flatMap_eq_nil_iff] at z
      rcases q : itemsOf w r with _ | ⟨y, l⟩
      · rw [q] at h3; simp at h3
      · have hy : y ∈ itemsOf w r := by rw [q]; exact List.mem_cons_self
        exact pl_pos (h4 y hy) (z y hy)
/-- so many places as joins allow -/
theorem flat_sum {A B : Type} {f : A → List B} {g : A → List D} : ∀ {l : List A}, (∀ a ∈ l, (f a).length ≤ 3 * (g a).length + 1) → (l.flatMap f).length ≤ 3 * (l.flatMap g).length + l.length
  | [], _ => by simp
  | a :: l, h => by
    rw [List.flatMap_cons, List.length_append, List.flatMap_cons, List.length_append, List.length_cons]
    have h1 := h a List.mem_cons_self
    have h2 := flat_sum (l := l) fun b hb => h b (List.mem_cons_of_mem _ hb)
    omega
theorem pl_joins : ∀ {k : Nat} {d : D}, isItem k d = true → (pl k d).length ≤ 3 * (joins k d).length + 1
  | k, d, h => by
    rcases isItem_cases h with ⟨j, rfl, h1, h2⟩ | ⟨k', w, r, rfl, rfl, h1, h2, h3, h4⟩
    · simp
    · rw [pl_tup, joins_tup, List.length_cons]
      have := flat_sum (f := pl k') (g := joins k') (l := itemsOf w r) fun y hy => pl_joins (h4 y hy)
      omega
theorem flat_len {A B : Type} {f : A → List B} {m : Nat} : ∀ {l : List A}, (∀ a ∈ l, (f a).length ≤ m) → (l.flatMap f).length ≤ l.length * m
  | [], _ => by simp
  | a :: l, h => by
    rw [List.flatMap_cons, List.length_append, List.length_cons, Nat.succ_mul]
    have h1 := h a List.mem_cons_self
    have h2 := flat_len fun b hb => h b (List.mem_cons_of_mem _ hb)
    omega
theorem joins_len : ∀ {k : Nat} {d : D}, isItem k d = true → (joins k d).length + 1 ≤ 5 ^ k
  | k, d, h => by
    rcases isItem_cases h with ⟨j, rfl, h1, h2⟩ | ⟨k', w, r, rfl, rfl, h1, h2, h3, h4⟩
    · simp; exact Nat.one_le_pow _ _ (by decide)
    · rw [joins_tup, List.length_cons]
      have hm : ∀ y ∈ itemsOf w r, (joins k' y).length ≤ 5 ^ k' - 1 := fun y hy => by have := joins_len (h4 y hy); omega
      have := flat_len (f := joins k') hm
      rw [Nat.pow_succ]
      have q2 : (itemsOf w r).length * (5 ^ k' - 1) ≤ 4 * (5 ^ k' - 1) := Nat.mul_le_mul_right _ h2
      have q3 : 1 ≤ 5 ^ k' := Nat.one_le_pow _ _ (by decide)
      omega
theorem pl_len {k : Nat} {d : D} (h : isItem k d = true) : (pl k d).length ≤ 3 * 5 ^ k := by
  have h1 := pl_joins h
  have h2 := joins_len h
  omega
theorem joins_sm {j : Nat} : ∀ {k : Nat} {d : D}, sm j d = true → ∀ x ∈ joins k d, sm j x = true
  | k + 1, .tup (.str w :: r), h, x, hx => by
    rw [joins_tup] at hx
    rcases List.mem_cons.mp hx with rfl | hx
    · exact h
    · obtain ⟨y, hy, hx⟩ := List.mem_flatMap.mp hx
      exact joins_sm (sm_items h y hy) x hx
  | 0, d, _, x, hx => by cases hx
  | k + 1, .non, _, x, hx => by cases hx
  | k + 1, .bl _, _, x, hx => by cases hx
  | k + 1, .int _, _, x, hx => by cases hx
  | k + 1, .str _, _, x, hx => by cases hx
  | k + 1, .lst _, _, x, hx => by cases hx
  | k + 1, .tup [], _, x, hx => by cases hx
  | k + 1, .tup (.non :: _), _, x, hx => by cases hx
  | k + 1, .tup (.bl _ :: _), _, x, hx => by cases hx
  | k + 1, .tup (.int _ :: _), _, x, hx => by cases hx
  | k + 1, .tup (.tup _ :: _), _, x, hx => by cases hx
  | k + 1, .tup (.lst _ :: _), _, x, hx => by cases hx
  | k + 1, .tup (.ref _ :: _), _, x, hx => by cases hx
  | k + 1, .tup (.fn _ :: _), _, x, hx => by cases hx
  | k + 1, .tup (.ty _ :: _), _, x, hx => by cases hx
  | k + 1, .tup (.scr _ :: _), _, x, hx => by cases hx
  | k + 1, .ref _, _, x, hx => by cases hx
  | k + 1, .fn _, _, x, hx => by cases hx
  | k + 1, .ty _, _, x, hx => by cases hx
  | k + 1, .scr _, _, x, hx => by cases hx

/-! ### lists of ints -/
@[simp] theorem prim_max1 {l : List Int} : primD .max1 [.lst (l.map D.int)] = if l = [] then none else some (.int (maxI l)) := by
  show (D.ofInts? _).bind _ = _
  rw [ofInts_map]; rfl
@[simp] theorem prim_sum {l : List Int} : primD .sum [.lst (l.map D.int)] = some (.int l.sum) := by
  show (D.ofInts? _).map _ = _
  rw [ofInts_map]; rfl
@[simp] theorem prim_max1t {l : List Int} : primD .max1 [.tup (l.map D.int)] = if l = [] then none else some (.int (maxI l)) := by
  show (D.ofInts? _).bind _ = _
  rw [ofInts_map]; rfl
@[simp] theorem prim_sumt {l : List Int} : primD .sum [.tup (l.map D.int)] = some (.int l.sum) := by
  show (D.ofInts? _).map _ = _
  rw [ofInts_map]; rfl
@[simp] theorem prim_sorted {l : List Int} : primD .sortedSet [.lst (l.map D.int)] = if l.length < 60 then some (.lst ((sortI l).map D.int)) else none := by
  show (D.ofInts? _).bind _ = _
  rw [ofInts_map]; rfl
theorem flat_int {l : List Int} : (l.map D.int).all D.flat = true := by
  rw [List.all_map, List.all_eq_true]; intro x _; rfl
theorem any_int {i : Int} {l : List Int} : ((l.map D.int).any fun y => flatEq y (.int i)) = l.contains i := by
  induction l with
  | nil => rfl
  | cons x l ih =>
    rw [List.map_cons, List.any_cons, ih, List.contains_cons]
    show ((x == i) || _) = ((i == x) || _)
    rw [Bool.beq_comm]
@[simp] theorem in_lst {i : Int} {l : List Int} : cmpD .in_ (.int i) (.lst (l.map D.int)) = some (l.contains i) := by
  show inS (.int i) (.lst (l.map D.int)) = _
  have : inD (.int i) (l.map D.int) = some (l.contains i) := by
    unfold inD
    rw [flat_int, any_int]
    rfl
  unfold inS
  simp only [this]
@[simp] theorem in_tup {i : Int} {l : List Int} : cmpD .in_ (.int i) (.tup (l.map D.int)) = some (l.contains i) := by
  show inD (.int i) (l.map D.int) = some (l.contains i)
  unfold inD
  rw [flat_int, any_int]
  rfl
@[simp] theorem notin_lst {i : Int} {l : List Int} : cmpD .notIn (.int i) (.lst (l.map D.int)) = some (!l.contains i) := by
  have h : cmpD .in_ (.int i) (.lst (l.map D.int)) = some (l.contains i) := in_lst
  show (inS (.int i) (.lst (l.map D.int))).map (!·) = _
  rw [show inS (.int i) (.lst (l.map D.int)) = some (l.contains i) from h]
  rfl
theorem maxI_le {l : List Int} {i : Int} (h : i ∈ l) : i ≤ maxI l := (maxI_mem (by intro z; rw [z] at h; cases h)).2 i h
theorem all_bls {xs : List Bool} : primD .all [.lst (xs.map D.bl)] = some (.bl (xs.all id)) := by
  show (D.ofBls? _).map _ = _
  have : D.ofBls? (xs.map D.bl) = some xs := by
    induction xs with
    | nil => rfl
    | cons x xs ih => rw [List.map_cons, D.ofBls?, ih]; rfl
  rw [this]; rfl
theorem any_bls {xs : List Bool} : primD .any [.lst (xs.map D.bl)] = some (.bl (xs.any id)) := by
  show (D.ofBls? _).map _ = _
  have : D.ofBls? (xs.map D.bl) = some xs := by
    induction xs with
    | nil => rfl
    | cons x xs ih => rw [List.map_cons, D.ofBls?, ih]; rfl
  rw [this]; rfl
@[simp] theorem all_map2 {X : Type} {f : X → Bool} {xs : List X} : primD .all [.lst (xs.map fun d => D.bl (f d))] = some (.bl (xs.all f)) := by
  have := all_bls (xs := xs.map f)
  rw [List.map_map] at this
  rw [show (xs.map fun d => D.bl (f d)) = xs.map (D.bl ∘ f) from rfl, this]
  simp [List.all_map, Function.comp_def]
@[simp] theorem any_map2 {X : Type} {f : X → Bool} {xs : List X} : primD .any [.lst (xs.map fun d => D.bl (f d))] = some (.bl (xs.any f)) := by
  have := any_bls (xs := xs.map f)
  rw [List.map_map] at this
  rw [show (xs.map fun d => D.bl (f d)) = xs.map (D.bl ∘ f) from rfl, this]
  simp [List.any_map, Function.comp_def]
/-- 0, and so on, without a gap -/
def seqOk (l : List Int) : Bool := (List.range (maxI l).toNat).all fun (i : Nat) => l.contains (i : Int)
theorem mem_ins {a b : Int} : ∀ {l : List Int}, b ∈ insI a l ↔ b = a ∨ b ∈ l
  | [] => by simp [insI]
  | c :: r => by
    rw [insI]
    split
    · simp
    · split
      · rename_i h1 h2
        subst h2
        simp
      · rw [List.mem_cons, mem_ins, List.mem_cons]
        constructor
        · rintro (h | h | h) <;> simp [h]
        · rintro (h | h | h) <;> simp [h]
theorem mem_sort {b : Int} : ∀ {l : List Int}, b ∈ sortI l ↔ b ∈ l
  | [] => by simp [sortI]
  | a :: l => by
    show b ∈ insI a (sortI l) ↔ _
    rw [mem_ins, mem_sort, List.mem_cons]
theorem asc_ins {a : Int} : ∀ {l : List Int}, l.Pairwise (· < ·) → (insI a l).Pairwise (· < ·)
  | [], _ => by simp [insI]
  | c :: r, h => by
    rw [insI]
    rw [List.pairwise_cons] at h
    split
    · rename_i q
      rw [List.pairwise_cons, List.pairwise_cons]
      refine ⟨fun b hb => ?_, h⟩
      rcases List.mem_cons.mp hb with rfl | hb
      · exact q
      · have := h.1 b hb; omega
    · split
      · rw [List.pairwise_cons]; exact h
      · rename_i q1 q2
        rw [List.pairwise_cons]
        refine ⟨fun b hb => ?_, asc_ins h.2⟩
        rcases mem_ins.mp hb with rfl | hb
        · omega
        · exact h.1 b hb
theorem asc_sort : ∀ {l : List Int}, (sortI l).Pairwise (· < ·)
  | [] => by simp [sortI]
  | a :: l => asc_ins asc_sort
theorem asc_ext : ∀ {l m : List Int}, l.Pairwise (· < ·) → m.Pairwise (· < ·) → (∀ b, b ∈ l ↔ b ∈ m) → l = m
  | [], [], _, _, _ => rfl
  | [], b :: m, _, _, h => by have := (h b).mpr List.mem_cons_self; cases this
  | a :: l, [], _, _, h => by have := (h a).mp List.mem_cons_self; cases this
  | a :: l, b :: m, h1, h2, h => by
    rw [List.pairwise_cons] at h1 h2
    have e : a = b := by
      rcases List.mem_cons.mp ((h a).mp List.mem_cons_self) with e | h3
      · exact e
      · rcases List.mem_cons.mp ((h b).mpr List.mem_cons_self) with e | h4
        · exact e.symm
        · have q1 := h2.1 a h3
          have q2 := h1.1 b h4
          omega
    subst e
    congr 1
    refine asc_ext h1.2 h2.2 fun c => ⟨fun hc => ?_, fun hc => ?_⟩
    · rcases List.mem_cons.mp ((h c).mp (List.mem_cons_of_mem _ hc)) with e | h3
      · have := h1.1 c hc; omega
      · exact h3
    · rcases List.mem_cons.mp ((h c).mpr (List.mem_cons_of_mem _ hc)) with e | h3
      · have := h2.1 c hc; omega
      · exact h3
def rangeI (n : Nat) : List Int := (List.range n).map fun (i : Nat) => (i : Int)
theorem asc_range {n : Nat} : (rangeI n).Pairwise (· < ·) := by
  unfold rangeI
  rw [List.pairwise_map]
  exact List.pairwise_lt_range.imp fun h => by omega
theorem mem_range {n : Nat} {i : Int} : i ∈ rangeI n ↔ 0 ≤ i ∧ i < n := by
  unfold rangeI
  rw [List.mem_map]
  constructor
  · rintro ⟨j, hj, rfl⟩
    rw [List.mem_range] at hj
    omega
  · rintro ⟨h1, h2⟩
    exact ⟨i.toNat, by rw [List.mem_range]; omega, by omega⟩
theorem len_rangeI {n : Nat} : (rangeI n).length = n := by simp [rangeI]
@[simp] theorem rangeD_nat {n : Nat} : rangeD 0 (n : Int) = (rangeI n).map D.int := by
  unfold rangeD rangeI
  rw [List.map_map]
  rw [show ((n : Int) - 0).toNat = n by omega]
  congr 1
  funext i
  simp
theorem seqOk_iff {l : List Int} : seqOk l = true ↔ ∀ i : Int, 0 ≤ i → i < maxI l → i ∈ l := by
  unfold seqOk
  rw [List.all_eq_true]
  constructor
  · intro h i h0 h1
    have := h i.toNat (by rw [List.mem_range]; omega)
    rw [List.contains_iff_mem, Int.toNat_of_nonneg h0] at this
    exact this
  · intro h i hi
    rw [List.contains_iff_mem]
    rw [List.mem_range] at hi
    exact h i (by omega) (by omega)
/-- both tests of no gap agree -/
theorem sort_seq {l : List Int} (hl : l ≠ []) (h0 : ∀ i ∈ l, 0 ≤ i) : decide (sortI l = rangeI (sortI l).length) = seqOk l := by
  rw [Bool.eq_iff_iff, decide_eq_true_eq, seqOk_iff]
  constructor
  · intro h i hi hm
    have hm2 := mem_sort.mpr (maxI_mem hl).1
    rw [h, mem_range] at hm2
    rw [← mem_sort, h, mem_range]
    omega
  · intro h
    have e : sortI l = rangeI ((maxI l).toNat + 1) := by
      refine asc_ext asc_sort asc_range fun b => ?_
      rw [mem_sort, mem_range]
      constructor
      · intro hb
        have := maxI_le hb
        have := h0 b hb
        omega
      · rintro ⟨q1, q2⟩
        by_cases e : b = maxI l
        · rw [e]; exact (maxI_mem hl).1
        · have := h0 _ (maxI_mem hl).1
          exact h b q1 (by omega)
    rw [e, len_rangeI]
/-- a right scheme -/
def isRight (d : D) : Bool := isTup d && isItem 5 d && (decide ((pl 5 d).length ≤ 8) && decide ((joins 5 d).length ≤ 5) && seqOk (pl 5 d))
def many (d : D) : Nat := (maxI (pl 5 d)).toNat + 1
theorem many_eq {d : D} (h : isItem 5 d = true) : maxI (pl 5 d) + 1 = (many d : Int) := by
  have := pl_mem h _ (maxI_mem (pl_pos h)).1
  unfold many
  omega
theorem many_le {d : D} (h : isItem 5 d = true) : many d ≤ 3 := by
  have := pl_mem h _ (maxI_mem (pl_pos h)).1
  unfold many
  omega
/-- found = found + f(one) -/
theorem for_add {X : Type} {A : Type} {c : A → D} {n : Nat} {S : Store} {o : Orc} {body : Env → Store → SOut} {d : D} (xs : List X) (cx : X → D) (g : X → List A) (acc : List A) (sl : Option Sl) (hb : ∀ x ∈ xs, ∀ acc : List A, acc.length ≤ n → body [some (.val d), some (.val (.lst (acc.map c))), some (.val (cx x))] S = .nxt [some (.val d), some (.val (.lst ((acc ++ g x).map c))), some (.val (cx x))] S) (hl : (acc ++ xs.flatMap g).length ≤ n) :
    ∃ sl', forL (.nm 2) body (xs.map cx) [some (.val d), some (.val (.lst (acc.map c))), sl] S = .nxt [some (.val d), some (.val (.lst ((acc ++ xs.flatMap g).map c))), sl'] S := by
  induction xs generalizing acc sl with
  | nil => exact ⟨sl, by simp⟩
  | cons x xs ih =>
    rw [List.flatMap_cons, ← List.append_assoc] at hl
    have hl2 : acc.length ≤ n := by simp only [List.length_append] at hl; omega
    obtain ⟨sl', e⟩ := ih (acc := acc ++ g x) (sl := some (.val (cx x))) (fun y hy => hb y (List.mem_cons_of_mem _ hy)) hl
    refine ⟨sl', ?_⟩
    rw [List.map_cons, forL]
    simp only [bindT_nm, List.length_cons, List.length_nil, Nat.reduceAdd, Nat.reduceLT, if_true, put_s, put_0]
    rw [hb x List.mem_cons_self acc hl2, SOut.bind_nxt, e, List.flatMap_cons, ← List.append_assoc]
@[simp] theorem add_lst {a b : List D} : binD .add (.lst a) (.lst b) = if a.length + b.length ≤ sizeLine then some (.lst (a ++ b)) else none := rfl
@[simp] theorem add_tup {a b : List D} : binD .add (.tup a) (.tup b) = if a.length + b.length ≤ sizeLine then some (.tup (a ++ b)) else none := rfl
theorem pl_le {k : Nat} {d : D} (h : isItem k d = true) (hk : k ≤ 6) : (pl k d).length ≤ 60000 := by
  have h1 := pl_len h
  have p7 : 5 ^ k ≤ 5 ^ 6 := Nat.pow_le_pow_right (by decide) (by omega)
  omega
theorem joins_le {k : Nat} {d : D} (h : isItem k d = true) (hk : k ≤ 6) : (joins k d).length ≤ 60000 := by
  have h1 := joins_len h
  have p7 : 5 ^ k ≤ 5 ^ 6 := Nat.pow_le_pow_right (by decide) (by omega)
  omega
@[simp] theorem mod_int {i j : Int} : binD .mod (.int i) (.int j) = if 0 < j then some (.int (i % j)) else none := rfl
@[simp] theorem fdiv_int {i j : Int} : binD .fdiv (.int i) (.int j) = if divOk j then some (.int (i / j)) else none := rfl
@[simp] theorem mul_int {i j : Int} : binD .mul (.int i) (.int j) = if mulOk i j then some (.int (i * j)) else none := rfl
@[simp] theorem pow_int {i j : Int} : binD .pow (.int i) (.int j) = if powOk i j then some (.int (i ^ j.toNat)) else none := rfl
@[simp] theorem mul_tup {xs : List D} {k : Int} : binD .mul (.tup xs) (.int k) = if -1000 ≤ k ∧ k ≤ 1000 ∧ xs.length ≤ 1000 then some (.tup (repL k xs)) else none := rfl
@[simp] theorem mul_lst {xs : List D} {k : Int} : binD .mul (.lst xs) (.int k) = if -1000 ≤ k ∧ k ≤ 1000 ∧ xs.length ≤ 1000 then some (.lst (repL k xs)) else none := rfl
theorem r62 {i : Int} (h : -(2 ^ 60) ≤ i ∧ i ≤ 2 ^ 60) : R62 i := by unfold R62; omega
theorem rangeD_int {i : Int} (h : 0 ≤ i) : rangeD 0 i = (rangeI i.toNat).map D.int := by
  have := rangeD_nat (n := i.toNat)
  rw [Int.toNat_of_nonneg h] at this
  exact this
theorem ranges1 {i : Int} (h : 0 ≤ i ∧ i ≤ 2 ^ 60) : itemsD .range1 [.int i] = some ((rangeI i.toNat).map D.int) := by
  show (if R62 i then some (rangeD 0 i) else none) = _
  rw [if_pos (r62 (by omega)), rangeD_int h.1]
theorem ranges1n {n : Nat} (h : n ≤ 2 ^ 60) : itemsD .range1 [.int (n : Int)] = some ((rangeI n).map D.int) := by
  rw [ranges1 (by omega), Int.toNat_natCast]
theorem mul_small {i j : Int} (h : -(2 ^ 64) < i ∧ i < 2 ^ 64) : mulOk i j := .inl (.inl h)
theorem mul_small' {i j : Int} (h : -(2 ^ 64) < j ∧ j < 2 ^ 64) : mulOk i j := .inl (.inr h)
theorem log_le {n m : Nat} (h : n < 2 ^ m) (hm : 0 < m) : n.log2 < m := by
  by_cases z : n = 0
  · subst z; simpa using hm
  · exact (Nat.log2_lt z).mpr h
theorem mul_wide {i j : Int} (h1 : i.natAbs < 2 ^ 400000) (h2 : j.natAbs < 2 ^ 400000) : mulOk i j := by
  have := log_le h1 (by decide)
  have := log_le h2 (by decide)
  exact .inr (show i.natAbs.log2 + j.natAbs.log2 < 1000000 by omega)
theorem div_ok {j : Int} (h : 0 < j) (h2 : j.natAbs < 2 ^ 9000) : divOk j := ⟨h, log_le h2 (by decide)⟩
theorem whileL_t {c : Env → Store → Out D} {body : Env → Store → SOut} {n : Nat} {env env' : Env} {S S' : Store} (h1 : c env S = .ok (.bl true) S) (h2 : body env S = .nxt env' S') : whileL c body (n + 1) env S = whileL c body n env' S' := by
  rw [whileL, h1]
  show (body env S).bind _ = _
  rw [h2]
  rfl
theorem whileL_f {c : Env → Store → Out D} {body : Env → Store → SOut} {n : Nat} {env : Env} {S : Store} (h1 : c env S = .ok (.bl false) S) : whileL c body (n + 1) env S = .nxt env S := by
  rw [whileL, h1]
  rfl
end Pz

/-! Pz30: equality of small data; draws. -/
namespace Pz
open PySem PySem.Spec PyProof.Rows L2
theorem eq_sm {k j : Nat} {a b : D} (ha : sm k a = true) (hb : sm j b = true) (hk : k ≤ 64) (hj : j ≤ 64) : cmpD .eq a b = some (peq a b) := by
  have h : eqD a b = some (peq a b) := eqD_sm ha hb hk hj
  simpa only [cmpD] using h
theorem ne_sm {k j : Nat} {a b : D} (ha : sm k a = true) (hb : sm j b = true) (hk : k ≤ 64) (hj : j ≤ 64) : cmpD .ne a b = some (!peq a b) := by
  have h : eqD a b = some (peq a b) := eqD_sm ha hb hk hj
  simp only [cmpD, h, Option.map_some]
def peqs : List D → List D → Bool
  | [], [] => true
  | x :: xs, y :: ys => peq x y && peqs xs ys
  | _, _ => false
theorem peqs_eq : ∀ {xs ys : List D}, PyData.eqvAll (D.toPs xs) (D.toPs ys) = peqs xs ys
  | [], [] => by simp [D.toPs, PyData.eqvAll, peqs]
  | [], _ :: _ => by simp [D.toPs, PyData.eqvAll, peqs]
  | _ :: _, [] => by simp [D.toPs, PyData.eqvAll, peqs]
  | x :: xs, y :: ys => by
    rw [D.toPs, D.toPs, PyData.eqvAll, peqs_eq]
    rfl
@[simp] theorem peq_tup {xs ys : List D} : peq (.tup xs) (.tup ys) = peqs xs ys := by
  rw [peq, D.toP, D.toP, PyData.eqv, peqs_eq]
@[simp] theorem peq_lst {xs ys : List D} : peq (.lst xs) (.lst ys) = peqs xs ys := by
  rw [peq, D.toP, D.toP, PyData.eqv, peqs_eq]
@[simp] theorem peq_int {i j : Int} : peq (.int i) (.int j) = (i == j) := by simp [peq, D.toP, PyData.eqv]
@[simp] theorem peq_str {i j : Str} : peq (.str i) (.str j) = decide (i = j) := by
  rw [peq, D.toP, D.toP, PyData.eqv, Bool.eq_iff_iff]
  simp
@[simp] theorem peq_bl {i j : Bool} : peq (.bl i) (.bl j) = (i == j) := by simp [peq, D.toP, PyData.eqv]
@[simp] theorem peq_non : peq .non .non = true := by simp [peq, D.toP, PyData.eqv]
@[simp] theorem peq_ni {i : Int} : peq .non (.int i) = false := by simp [peq, D.toP, PyData.eqv]
@[simp] theorem peq_in {i : Int} : peq (.int i) .non = false := by simp [peq, D.toP, PyData.eqv]
@[simp] theorem peq_nt {xs : List D} : peq .non (.tup xs) = false := by simp [peq, D.toP, PyData.eqv]
@[simp] theorem peq_tn {xs : List D} : peq (.tup xs) .non = false := by simp [peq, D.toP, PyData.eqv]
@[simp] theorem peqs_nil : peqs [] [] = true := rfl
@[simp] theorem peqs_cons {x y : D} {xs ys : List D} : peqs (x :: xs) (y :: ys) = (peq x y && peqs xs ys) := rfl
@[simp] theorem peqs_cn {x : D} {xs : List D} : peqs (x :: xs) [] = false := rfl
@[simp] theorem peqs_nc {x : D} {xs : List D} : peqs [] (x :: xs) = false := rfl
theorem peqs_nil' {xs : List D} : peqs xs [] = xs.isEmpty := by cases xs <;> rfl
theorem peqs_ints {l m : List Int} : peqs (l.map D.int) (m.map D.int) = decide (l = m) := by
  induction l generalizing m with
  | nil => cases m <;> simp
  | cons x l ih =>
    cases m with
    | nil => simp
    | cons y m =>
      rw [List.map_cons, List.map_cons, peqs_cons, ih, peq_int, Bool.eq_iff_iff]
      simp
theorem sm_ints {l : List Int} (h : l.length ≤ 200) {k : Nat} : sm (k + 1) (.lst (l.map D.int)) = true := by
  rw [sm, Bool.and_eq_true, decide_eq_true_eq, List.all_eq_true]
  refine ⟨by simpa using h, fun x hx => ?_⟩
  obtain ⟨i, _, rfl⟩ := List.mem_map.mp hx
  cases k <;> rfl
theorem sm_intt {l : List Int} (h : l.length ≤ 200) {k : Nat} : sm (k + 1) (.tup (l.map D.int)) = true := sm_ints h
theorem eq_ints {l m : List Int} (h1 : l.length ≤ 200) (h2 : m.length ≤ 200) : cmpD .eq (.lst (l.map D.int)) (.lst (m.map D.int)) = some (decide (l = m)) := by
  rw [eq_sm (sm_ints h1 (k := 0)) (sm_ints h2 (k := 0)) (by omega) (by omega), peq_lst, peqs_ints]
/-- a list of ones against the empty list -/
theorem eq_ones {X : Type} {f : X → Int} {l : List X} (h : l.length ≤ 200) : cmpD .eq (.lst (l.map fun x => D.int (f x))) (.lst []) = some l.isEmpty := by
  have := eq_ints (l := l.map f) (m := []) (by simpa using h) (by simp)
  rw [List.map_map] at this
  rw [show (l.map fun x => D.int (f x)) = l.map (D.int ∘ f) from rfl]
  rw [List.map_nil] at this
  rw [this]
  cases l <;> simp
theorem ne_ones {X : Type} {f : X → Int} {l : List X} (h : l.length ≤ 200) : cmpD .ne (.lst (l.map fun x => D.int (f x))) (.lst []) = some (!l.isEmpty) := by
  have := eq_ones (f := f) h
  simp only [cmpD] at this ⊢
  rw [this]; rfl
theorem filter_empty {X : Type} {p : X → Bool} {l : List X} : (l.filter fun x => !p x).isEmpty = l.all p := by
  rw [Bool.eq_iff_iff, List.isEmpty_iff, List.filter_eq_nil_iff, List.all_eq_true]
  simp
@[simp] theorem not_in3 {w : Str} : cmpD .notIn (.str w) (.lst [.str "sums", .str "means", .str "full"]) = some (!(decide (w = "sums") || decide (w = "means") || decide (w = "full"))) := by
  simp [cmpD, inS, inD, D.flat, flatEq, eq_comm, Bool.or_assoc]
theorem list_range {n : Nat} (h : n ≤ 10000) : primD .listRange [.int (n : Int)] = some (.lst ((rangeI n).map D.int)) := by
  show (if RgB 0 (n : Int) then some (D.lst (rangeD 0 (n : Int))) else none) = _
  rw [if_pos (by unfold RgB; omega), rangeD_nat]
theorem tup_range {n : Nat} (h : n ≤ 10000) : primD .tupRange [.int (n : Int)] = some (.tup ((rangeI n).map D.int)) := by
  show (if RgB 0 (n : Int) then some (D.tup (rangeD 0 (n : Int))) else none) = _
  rw [if_pos (by unfold RgB; omega), rangeD_nat]
/-- a pair in lowest terms -/
def lowD (a b : Int) : D := .tup [.int (a / (Int.gcd a b : Int)), .int (b / (Int.gcd a b : Int))]
/-- sizes -/
def areSizes (m : Nat) : D → Bool
  | .tup ds => decide (ds.length = m) && ds.all fun d => isFrom d 0 1000000000000
  | _ => false
/-- a fraction in lowest terms within a bound -/
def isFrac (m : Int) : D → Bool
  | .tup [a, b] => isFrom a (-m) m && isFrom b 1 m && (match a, b with | .int x, .int y => decide (Int.gcd x y = 1) | _, _ => false)
  | _ => false
def isLot (d : D) : Bool := match d with
  | .tup ds => decide (ds.length ≤ 12) && ds.all (isFrac 1000000)
  | _ => false
def isRun (m : Nat) : D → Bool
  | .tup ds => decide (ds.length = m) && ds.all isLot
  | _ => false
theorem right_item {d : D} (h : isRight d = true) : isItem 5 d = true := by
  simp only [isRight, Bool.and_eq_true] at h
  exact h.1.2
theorem right_sm {d : D} (h : isRight d = true) : sm 6 d = true := isItem_sm (right_item h)
end Pz

/-! Pz31: steps over changing things; draws. -/
namespace Pz
open PySem PySem.Spec PyProof.Rows L2
section
variable {o : Orc} {wf : Nat} {env : Env} {S : Store}
def putRef (env : Env) (n : Nat) (d x : D) (S : Store) : SOut := match S[n]? with
  | some (.lst ds) => match setD ds x d with
    | some es => .nxt env (S.set n (.lst es))
    | none => .bad
  | none => .bad
def putOwnAt (env : Env) (i : Nat) (ds : List D) (d x : D) (S : Store) : SOut := match setD ds x d with
  | some es => .nxt (env.set i (some (.own es))) S
  | none => .bad
def setO (o : Orc) (i : Nat) (ix e : IE) (env : Env) (S : Store) : Option (Option Sl) → SOut
  | some (some (.own ds)) => (evE o e env S).st env fun d S => (evE o ix env S).st env fun x S => putOwnAt env i ds d x S
  | some (some (.val (.ref n))) => (evE o e env S).st env fun d S => (evE o ix env S).st env fun x S => putRef env n d x S
  | _ => .bad
@[simp] theorem setO_own {i : Nat} {ix e : IE} {ds : List D} : setO o i ix e env S (some (some (.own ds))) = (evE o e env S).st env fun d S => (evE o ix env S).st env fun x S => putOwnAt env i ds d x S := rfl
@[simp] theorem setO_ref {i : Nat} {ix e : IE} {n : Nat} : setO o i ix e env S (some (some (.val (.ref n)))) = (evE o e env S).st env fun d S => (evE o ix env S).st env fun x S => putRef env n d x S := rfl
@[simp] theorem y_setx {i : Nat} {ix e : IE} : exS o wf (.setx i ix e) env S = setO o i ix e env S (env[i]?) := by
  simp only [exS]
  rcases env[i]? with _ | (_ | (d | ds | _))
  · rfl
  · rfl
  · cases d <;> rfl
  · rfl
  · rfl
theorem putRef_of {n : Nat} {ds es : List D} {d x : D} (h : S[n]? = some (.lst ds)) (h2 : setD ds x d = some es) : putRef env n d x S = .nxt env (S.set n (.lst es)) := by
  unfold putRef
  rw [h]
  simp only [h2]
theorem putOwnAt_of {i : Nat} {ds es : List D} {d x : D} (h2 : setD ds x d = some es) : putOwnAt env i ds d x S = .nxt (env.set i (some (.own es))) S := by
  unfold putOwnAt
  rw [h2]
def addRef (env : Env) (n : Nat) (d : D) (S : Store) : SOut := match S[n]? with
  | some (.lst ds) => if ds.length ≤ 1000000 then .nxt env (S.set n (.lst (ds ++ [d]))) else .bad
  | none => .bad
def appO (o : Orc) (i : Nat) (e : IE) (env : Env) (S : Store) : Option (Option Sl) → SOut
  | some (some (.own ds)) => (evE o e env S).st env fun d S => if ds.length ≤ 1000000 then .nxt (env.set i (some (.own (ds ++ [d])))) S else .bad
  | some (some (.val (.ref n))) => (evE o e env S).st env fun d S => addRef env n d S
  | _ => .bad
@[simp] theorem appO_own {i : Nat} {e : IE} {ds : List D} : appO o i e env S (some (some (.own ds))) = (evE o e env S).st env fun d S => if ds.length ≤ 1000000 then .nxt (env.set i (some (.own (ds ++ [d])))) S else .bad := rfl
@[simp] theorem appO_ref {i : Nat} {e : IE} {n : Nat} : appO o i e env S (some (some (.val (.ref n)))) = (evE o e env S).st env fun d S => addRef env n d S := rfl
@[simp] theorem y_app {i : Nat} {e : IE} : exS o wf (.app i e) env S = appO o i e env S (env[i]?) := by
  simp only [exS]
  rcases env[i]? with _ | (_ | (d | ds | _))
  · rfl
  · rfl
  · cases d <;> rfl
  · rfl
  · rfl
def ownE (r : Option (Option Sl)) (f : List D → Out D) : Out D := match r with
  | some (some (.own ds)) => f ds
  | _ => .bad
@[simp] theorem ownE_own {ds : List D} {f : List D → Out D} : ownE (some (some (.own ds))) f = f ds := rfl
@[simp] theorem x_ownIx {i : Nat} {ix : IE} : evE o (.ownIx i ix) env S = ownE (env[i]?) fun ds => (evE o ix env S).bind fun y S => .ofO (ixD (.lst ds) y) S := by
  simp only [evE]; rfl
@[simp] theorem x_ownLen {i : Nat} : evE o (.ownLen i) env S = ownE (env[i]?) fun ds => .ok (.int ds.length) S := by
  simp only [evE]; rfl
@[simp] theorem x_ownNil {i : Nat} : evE o (.ownNil i) env S = ownE (env[i]?) fun ds => .ofO ((cmpD .eq (.lst ds) (.lst [])).map D.bl) S := by
  simp only [evE, cmpD]; rfl
@[simp] theorem x_ownSlc {i : Nat} {lo hi : IEs} : evE o (.ownSlc i lo hi) env S = ownE (env[i]?) fun ds => ((evEs o lo env S).bind fun l S => .ofO (optI l) S).bind fun l S => ((evEs o hi env S).bind fun l S => .ofO (optI l) S).bind fun h S => .ofO (slcD (.lst ds) l h) S := by
  simp only [evE]; rfl
def frzO (i : Nat) (env : Env) (S : Store) : Option (Option Sl) → SOut
  | some (some (.own ds)) => .nxt (env.put i (.lst ds)) S
  | _ => .bad
@[simp] theorem frzO_own {i : Nat} {ds : List D} : frzO i env S (some (some (.own ds))) = .nxt (env.put i (.lst ds)) S := rfl
@[simp] theorem y_frz {i : Nat} : exS o wf (.frz i) env S = frzO i env S (env[i]?) := by
  simp only [exS]
  rcases env[i]? with _ | (_ | (d | ds | _)) <;> rfl
def fnO (r : Option D) (f : Nat → Out D) : Out D := match r with
  | some (.fn k) => f k
  | _ => .bad
@[simp] theorem fnO_fn {k : Nat} {f : Nat → Out D} : fnO (some (.fn k)) f = f k := rfl
@[simp] theorem x_callv {i : Nat} {args : IEs} : evE o (.callv i args) env S = fnO (env.val i) fun k => (evEs o args env S).bind fun ds S => o.fn k ds none S := by
  simp only [evE]; rfl
def cloO (r : Option (Option Sl)) (f : Nat → List D → Out D) : Out D := match r with
  | some (some (.clo k cap)) => f k cap
  | _ => .bad
@[simp] theorem cloO_clo {k : Nat} {cap : List D} {f : Nat → List D → Out D} : cloO (some (some (.clo k cap))) f = f k cap := rfl
@[simp] theorem x_callc {i : Nat} {args : IEs} : evE o (.callc i args) env S = cloO (env[i]?) fun k cap => (evEs o args env S).bind fun ds S => o.lam k cap ds S := by
  simp only [evE]; rfl
@[simp] theorem x_callL {k l : Nat} {args : IEs} {caps : List Nat} : evE o (.callL k args l caps) env S = (Out.ofO (capD env caps) S).bind fun cs _ => (evEs o args env S).bind fun ds S => o.fn k ds (some (l, cs)) S := by
  simp only [evE]
  cases capD env caps <;> rfl
@[simp] theorem cap_nil : capD env [] = some [] := rfl
@[simp] theorem cap_cons {i : Nat} {is : List Nat} : capD env (i :: is) = (env.val i).bind fun d => (capD env is).map fun ds => d :: ds := rfl
def tryO (o : Orc) (i : Nat) : SOut → SOut
  | .exc c x env' S' => if i < env'.length ∧ x.isEmpty = true then match o.err c with
      | some w => .ret (.str w) S'
      | none => .bad
      else .bad
  | r => r
@[simp] theorem tryO_nxt {i : Nat} : tryO o i (.nxt env S) = .nxt env S := rfl
@[simp] theorem tryO_ret {i : Nat} {d : D} : tryO o i (.ret d S) = .ret d S := rfl
theorem tryO_exc {i c : Nat} {w : Str} (h : i < env.length) (h2 : o.err c = some w) : tryO o i (.exc c [] env S) = .ret (.str w) S := by
  show (if i < env.length ∧ List.isEmpty ([] : List (Str × D)) = true then _ else _) = _
  rw [if_pos ⟨h, rfl⟩, h2]
@[simp] theorem y_tryR {i : Nat} {body : ISs} : exS o wf (.tryR i body) env S = tryO o i (exSs o wf body env S) := by
  simp only [exS]; rfl
@[simp] theorem ix_ref {n : Nat} {y : D} : ixS S (.ref n) y = (match S[n]? with | some (.lst ds) => ixD (.lst ds) y | none => none) := rfl
@[simp] theorem at_0 {x : D} {xs : List D} : ixD (.lst (x :: xs)) (.int 0) = some x := by
  show atI (x :: xs) (0 : Int) = some x
  simp [atI, ixN]
@[simp] theorem at_1 {x y : D} {xs : List D} : ixD (.lst (x :: y :: xs)) (.int 1) = some y := by
  show atI (x :: y :: xs) (1 : Int) = some y
  have h : (1 : Int) < ((xs.length : Int) + 1 + 1) := by omega
  simp [atI, ixN, h]
end
theorem atI_nat {A : Type} {xs : List A} {i : Nat} (h : i < xs.length) : atI xs (i : Int) = some xs[i] := by
  have h2 : ((i : Int) < (xs.length : Int)) := by omega
  simp [atI, ixN, h2, h]
/-- an index from a draw -/
theorem ix_some {xs : List D} {i : Int} {S : Store} (h0 : 0 ≤ i) (h1 : i < xs.length) : ∃ d ∈ xs, ixS S (.lst xs) (.int i) = some d := by
  refine ⟨xs[i.toNat]'(by omega), List.getElem_mem _, ?_⟩
  show atI xs i = _
  have := atI_nat (xs := xs) (i := i.toNat) (by omega)
  rw [Int.toNat_of_nonneg h0] at this
  exact this

theorem two_9000 : 2 ^ 61 < 2 ^ 9000 := Nat.pow_lt_pow_right (by decide) (by decide)
theorem div_small {j : Int} (h : 0 < j) (h2 : j ≤ 2 ^ 60) : divOk j := div_ok h (Nat.lt_trans (show j.natAbs < 2 ^ 61 by omega) two_9000)
/-- where numbers are drawn from -/
def Src (n : Nat) (S : Store) : Prop := ∃ a b, S[n]? = some (.lst [.int a, .int b])
theorem Src.lt {n : Nat} {S : Store} (h : Src n S) : n < S.length := by
  obtain ⟨a, b, h⟩ := h
  exact (List.getElem?_eq_some_iff.mp h).1
/-- what a draw leaves as it was -/
structure Dr (n : Nat) (S S' : Store) : Prop where
  src : Src n S'
  len : S.length ≤ S'.length
  fr : ∀ m, m ≠ n → m < S.length → S'[m]? = S[m]?
theorem Dr.refl {n : Nat} {S : Store} (h : Src n S) : Dr n S S := ⟨h, Nat.le_refl _, fun _ _ _ => rfl⟩
theorem Dr.trans {n : Nat} {S S1 S2 : Store} (a : Dr n S S1) (b : Dr n S1 S2) : Dr n S S2 :=
  ⟨b.src, Nat.le_trans a.len b.len, fun m h1 h2 => (b.fr m h1 (Nat.lt_of_lt_of_le h2 a.len)).trans (a.fr m h1 h2)⟩
theorem Dr.set {n : Nat} {S : Store} {a b : Int} (h : n < S.length) : Dr n S (S.set n (.lst [.int a, .int b])) := by
  refine ⟨⟨a, b, ?_⟩, by simp, fun m h1 h2 => ?_⟩
  · rw [List.getElem?_set_self h]
  · rw [List.getElem?_set_ne (Ne.symm h1)]
theorem Dr.app {n : Nat} {S : Store} {s : SO} (h : Src n S) : Dr n S (S ++ [s]) := by
  have hl := h.lt
  obtain ⟨a, b, h⟩ := h
  refine ⟨⟨a, b, ?_⟩, by simp, fun m h1 h2 => ?_⟩
  · rw [List.getElem?_append_left hl, h]
  · rw [List.getElem?_append_left h2]
end Pz

/-! Pz32: items put together; right schemes. -/
namespace Pz
open PySem PySem.Spec PyProof.Rows L2
theorem mk_item {k : Nat} {w : Str} {r : List D} (hw : isWord w = true) (ht : w ≠ "told") (h1 : 1 ≤ r.length) (h2 : r.length ≤ 4) (h : ∀ y ∈ r, isItem k y = true) : isItem (k + 1) (.tup (.str w :: r)) = true ∧ itemsOf w r = r := by
  have e : itemsOf w r = r := by simp [itemsOf, ht]
  refine ⟨?_, e⟩
  rw [isItem, e, Bool.and_eq_true, List.all_eq_true]
  refine ⟨?_, h⟩
  rcases r with _ | ⟨x, r⟩
  · simp at h1
  · simp only [wiOk, e, Bool.and_eq_true, decide_eq_true_eq, ht, if_false]
    exact ⟨⟨hw, h1, h2⟩, trivial⟩
theorem mk_told {k : Nat} {ns r : List D} (h1 : 1 ≤ r.length) (h2 : r.length ≤ 4) (hl : ns.length = r.length) (hn : ∀ x ∈ ns, isFrom x 1 9 = true) (h : ∀ y ∈ r, isItem k y = true) : isItem (k + 1) (.tup (.str "told" :: .tup ns :: r)) = true ∧ itemsOf "told" (.tup ns :: r) = r := by
  have e : itemsOf "told" (.tup ns :: r) = r := by simp [itemsOf]
  refine ⟨?_, e⟩
  rw [isItem, e, Bool.and_eq_true, List.all_eq_true]
  refine ⟨?_, h⟩
  simp only [wiOk, e, Bool.and_eq_true, decide_eq_true_eq, if_true, numsOk, List.all_eq_true]
  exact ⟨⟨by decide +kernel, h1, h2⟩, hl, hn⟩
theorem isItem_int {k : Nat} {i : Int} (h0 : 0 ≤ i) (h1 : i ≤ 2) : isItem k (.int i) = true := by
  cases k <;> simp [isItem, isFrom, h0, h1]
theorem flat_congr {A B : Type} {f g : A → List B} : ∀ {l : List A}, (∀ y ∈ l, f y = g y) → l.flatMap f = l.flatMap g
  | [], _ => rfl
  | a :: l, h => by rw [List.flatMap_cons, List.flatMap_cons, h a List.mem_cons_self, flat_congr fun y hy => h y (List.mem_cons_of_mem _ hy)]
/-- a greater depth changes nothing -/
theorem item_up : ∀ {k : Nat} {d : D}, isItem k d = true → isItem (k + 1) d = true ∧ pl (k + 1) d = pl k d ∧ joins (k + 1) d = joins k d
  | k, d, h => by
    rcases isItem_cases h with ⟨i, rfl, h1, h2⟩ | ⟨k', w, r, rfl, rfl, h1, h2, h3, h4⟩
    · exact ⟨isItem_int h1 h2, by simp, by simp⟩
    · have ih := fun y hy => item_up (h4 y hy)
      refine ⟨?_, ?_, ?_⟩
      · rw [isItem, Bool.and_eq_true, List.all_eq_true]
        exact ⟨h1, fun y hy => (ih y hy).1⟩
      · rw [pl_tup, pl_tup]
        exact flat_congr fun y hy => (ih y hy).2.1
      · rw [joins_tup, joins_tup]
        congr 1
        exact flat_congr fun y hy => (ih y hy).2.2
theorem item_ups {d : D} {k : Nat} (h : isItem k d = true) : ∀ j, isItem (k + j) d = true ∧ pl (k + j) d = pl k d ∧ joins (k + j) d = joins k d
  | 0 => ⟨h, rfl, rfl⟩
  | j + 1 => by
    obtain ⟨h1, h2, h3⟩ := item_ups h j
    obtain ⟨h4, h5, h6⟩ := item_up h1
    exact ⟨h4, h5.trans h2, h6.trans h3⟩
theorem right_of {d : D} {m : Nat} (ht : isTup d = true) (hi : isItem 5 d = true) (h1 : (pl 5 d).length ≤ 8) (h2 : (joins 5 d).length ≤ 5) (h : ∀ i : Int, i ∈ pl 5 d ↔ 0 ≤ i ∧ i < m) (hm : 0 < m) : isRight d = true ∧ many d = m := by
  have e : maxI (pl 5 d) = (m : Int) - 1 := by
    have q1 := (h _).mp (maxI_mem (pl_pos hi)).1
    have q2 := maxI_le ((h ((m : Int) - 1)).mpr (by omega))
    omega
  refine ⟨?_, by unfold many; omega⟩
  simp only [isRight, Bool.and_eq_true, decide_eq_true_eq]
  refine ⟨⟨ht, hi⟩, ⟨h1, h2⟩, seqOk_iff.mpr fun i q1 q2 => (h i).mpr (by omega)⟩
/-- what is known of a drawn item -/
structure Itm (k m : Nat) (d : D) : Prop where
  it : isItem k d = true
  lt : ∀ i ∈ pl k d, 0 ≤ i ∧ i < m
theorem Itm.up {k m j : Nat} {d : D} (h : Itm k m d) : Itm (k + j) m d := by
  obtain ⟨h1, h2, h3⟩ := item_ups h.it j
  exact ⟨h1, by rw [h2]; exact h.lt⟩
theorem Itm.int {k m : Nat} {i : Int} (h0 : 0 ≤ i) (h1 : i < m) (hm : m ≤ 3) : Itm k m (.int i) := ⟨isItem_int h0 (by omega), by simp; omega⟩
theorem Itm.tup {k m : Nat} {w : Str} {r : List D} (hi : isItem (k + 1) (.tup (.str w :: r)) = true) (h : ∀ y ∈ itemsOf w r, Itm k m y) : Itm (k + 1) m (.tup (.str w :: r)) := by
  refine ⟨hi, fun i hm => ?_⟩
  rw [pl_tup, List.mem_flatMap] at hm
  obtain ⟨y, hy, hm⟩ := hm
  exact (h y hy).lt i hm
/-- so many joins -/
def nj (k : Nat) (xs : List D) : Nat := (xs.flatMap (joins k)).length
@[simp] theorem nj_nil {k : Nat} : nj k [] = 0 := rfl
theorem nj_app {k : Nat} {xs : List D} {d : D} : nj k (xs ++ [d]) = nj k xs + (joins k d).length := by
  unfold nj
  rw [List.flatMap_append, List.length_append]
  simp
theorem eq_intt {l m : List Int} (h1 : l.length ≤ 200) (h2 : m.length ≤ 200) : cmpD .eq (.tup (l.map D.int)) (.tup (m.map D.int)) = some (decide (l = m)) := by
  rw [eq_sm (sm_intt h1 (k := 0)) (sm_intt h2 (k := 0)) (by omega) (by omega), peq_tup, peqs_ints]
theorem le_line {n : Nat} (h : n ≤ 1000) : n ≤ sizeLine := by
  have : 1000 ≤ sizeLine := by decide
  omega
/-- a word and all parts -/
def plainD (w : Str) (m : Nat) : D := .tup (.str w :: (rangeI m).map D.int)
theorem plain_itm {w : Str} {m k : Nat} (hw : isWord w = true) (ht : w ≠ "told") (hm : 1 ≤ m ∧ m ≤ 3) : Itm (k + 1) m (plainD w m) ∧ pl (k + 1) (plainD w m) = rangeI m ∧ joins (k + 1) (plainD w m) = [plainD w m] := by
  have hy : ∀ y ∈ (rangeI m).map D.int, Itm k m y := fun y hy => by
    obtain ⟨i, hi, rfl⟩ := List.mem_map.mp hy
    rw [mem_range] at hi
    exact Itm.int hi.1 hi.2 hm.2
  obtain ⟨q1, q2⟩ := mk_item (k := k) (w := w) (r := (rangeI m).map D.int) hw ht (by simp [len_rangeI]; omega) (by simp [len_rangeI]; omega) fun y h => (hy y h).it
  refine ⟨Itm.tup q1 (by rw [q2]; exact hy), ?_, ?_⟩
  · unfold plainD
    rw [pl_tup, q2, List.flatMap_map]
    simp
  · unfold plainD
    rw [joins_tup, q2, List.flatMap_map]
    simp
/-- what a draw of a join leaves as it was -/
structure JS (n p : Nat) (S S' : Store) : Prop where
  src : Src n S'
  len : S.length ≤ S'.length
  fr : ∀ x, x ≠ n → x ≠ p → x < S.length → S'[x]? = S[x]?
theorem JS.refl {n p : Nat} {S : Store} (h : Src n S) : JS n p S S := ⟨h, Nat.le_refl _, fun _ _ _ _ => rfl⟩
theorem JS.trans {n p : Nat} {S S1 S2 : Store} (a : JS n p S S1) (b : JS n p S1 S2) : JS n p S S2 :=
  ⟨b.src, Nat.le_trans a.len b.len, fun m h1 h2 h3 => (b.fr m h1 h2 (Nat.lt_of_lt_of_le h3 a.len)).trans (a.fr m h1 h2 h3)⟩
theorem Dr.js {n p : Nat} {S S' : Store} (a : Dr n S S') : JS n p S S' := ⟨a.src, a.len, fun x h1 _ h3 => a.fr x h1 h3⟩
theorem JS.room {n p : Nat} {S : Store} {i : Int} (h : Src n S) (hp : p ≠ n) : JS n p S (S.set p (.lst [.int i])) := by
  obtain ⟨a, b, h⟩ := h
  exact ⟨⟨a, b, by rw [List.getElem?_set_ne hp]; exact h⟩, by simp, fun x _ h2 _ => List.getElem?_set_ne (Ne.symm h2)⟩
theorem some_lt {S : Store} {p : Nat} {s : SO} (h : S[p]? = some s) : p < S.length := (List.getElem?_eq_some_iff.mp h).1
/-- the parts that are not yet there -/
def leftI (m : Nat) (d : D) : List Int := (rangeI m).filter fun i => !(pl 3 d).contains i
theorem left_nil {m : Nat} {d : D} (hm : 0 < m) (h1 : Itm 3 m d) (ht : isTup d = true) (h2 : (pl 3 d).length ≤ 5) (h3 : (joins 3 d).length ≤ 3) (h : leftI m d = []) : isRight d = true ∧ many d = m := by
  obtain ⟨q1, q2, q3⟩ := item_ups h1.it 2
  refine right_of ht q1 (by rw [q2]; omega) (by rw [q3]; omega) (fun i => ?_) hm
  rw [q2]
  refine ⟨h1.lt i, fun hi => ?_⟩
  have := List.filter_eq_nil_iff.mp h i (mem_range.mpr hi)
  simpa using this
theorem left_ok {m : Nat} {d : D} {w : Str} (hw : isWord w = true) (hw2 : w ≠ "told") (hm : 1 ≤ m ∧ m ≤ 3) (h1 : Itm 3 m d) (h2 : (pl 3 d).length ≤ 5) (h3 : (joins 3 d).length ≤ 3) : isRight (.tup (.str w :: d :: (leftI m d).map D.int)) = true ∧ many (.tup (.str w :: d :: (leftI m d).map D.int)) = m := by
  have hl : (leftI m d).length ≤ m := by
    have := List.length_filter_le (fun i => !(pl 3 d).contains i) (rangeI m)
    rw [len_rangeI] at this
    exact this
  have hl2 : ∀ i ∈ leftI m d, 0 ≤ i ∧ i < m := fun i hi => mem_range.mp (List.mem_filter.mp hi).1
  obtain ⟨q1, q2⟩ := mk_item (k := 3) (w := w) (r := d :: (leftI m d).map D.int) hw hw2 (by simp) (by simp; omega) (by
    intro y hy
    rcases List.mem_cons.mp hy with rfl | hy
    · exact h1.it
    · obtain ⟨i, hi, rfl⟩ := List.mem_map.mp hy
      have := hl2 i hi
      exact isItem_int this.1 (by omega))
  obtain ⟨p1, p2, p3⟩ := item_ups q1 1
  have e1 : pl 4 (.tup (.str w :: d :: (leftI m d).map D.int)) = pl 3 d ++ leftI m d := by
    rw [pl_tup, q2, List.flatMap_cons, List.flatMap_map]
    simp
  have e2 : joins 4 (.tup (.str w :: d :: (leftI m d).map D.int)) = .tup (.str w :: d :: (leftI m d).map D.int) :: joins 3 d := by
    rw [joins_tup, q2, List.flatMap_cons, List.flatMap_map]
    simp
  rw [e1] at p2
  rw [e2] at p3
  refine right_of rfl p1 (by rw [p2, List.length_append]; omega) (by rw [p3, List.length_cons]; omega) (fun i => ?_) (by omega)
  rw [p2, List.mem_append]
  constructor
  · rintro (h | h)
    · exact h1.lt i h
    · exact hl2 i h
  · intro h
    by_cases c : i ∈ pl 3 d
    · exact .inl c
    · exact .inr (List.mem_filter.mpr ⟨mem_range.mpr h, by simpa using c⟩)
theorem right_itm {d : D} (h : isRight d = true) : Itm 5 (many d) d := by
  have hi := right_item h
  refine ⟨hi, fun i hm => ⟨(pl_mem hi i hm).1, ?_⟩⟩
  have := maxI_le hm
  have := many_eq hi
  omega
end Pz

/-! Pz33: small data with a bound of length. -/
namespace Pz
open PySem PySem.Spec PyProof.Rows L2
def sml (L : Nat) : Nat → D → Bool
  | k, .non => true
  | k, .bl _ => true
  | k, .int _ => true
  | k, .str s => PyData.strOk s
  | 0, _ => false
  | k + 1, .tup ds => decide (ds.length ≤ L) && ds.all (sml L k)
  | k + 1, .lst ds => decide (ds.length ≤ L) && ds.all (sml L k)
  | _ + 1, _ => false
theorem sml_up {L M : Nat} (hL : L ≤ M) : ∀ {k j : Nat} {d : D}, sml L k d = true → k ≤ j → sml M j d = true
  | k, j, .non, _, _ => by cases j <;> rfl
  | k, j, .bl _, _, _ => by cases j <;> rfl
  | k, j, .int _, _, _ => by cases j <;> rfl
  | k, j, .str s, h, _ => by
    have h : PyData.strOk s = true := by cases k <;> exact h
    cases j <;> exact h
  | 0, _, .tup _, h, _ => by cases h
  | 0, _, .lst _, h, _ => by cases h
  | k + 1, 0, _, _, hj => absurd hj (by omega)
  | k + 1, j + 1, .tup ds, h, hj => by
    simp only [sml, Bool.and_eq_true, List.all_eq_true, decide_eq_true_eq] at h ⊢
    exact ⟨by omega, fun d hd => sml_up hL (h.2 d hd) (by omega)⟩
  | k + 1, j + 1, .lst ds, h, hj => by
    simp only [sml, Bool.and_eq_true, List.all_eq_true, decide_eq_true_eq] at h ⊢
    exact ⟨by omega, fun d hd => sml_up hL (h.2 d hd) (by omega)⟩
  | k, _, .ref _, h, _ => by cases k <;> cases h
  | k, _, .fn _, h, _ => by cases k <;> cases h
  | k, _, .ty _, h, _ => by cases k <;> cases h
  | k, _, .scr _, h, _ => by cases k <;> cases h
theorem sml_sm : ∀ {k : Nat} {d : D}, sml 200 k d = true → sm k d = true
  | k, .non, _ => by cases k <;> rfl
  | k, .bl _, _ => by cases k <;> rfl
  | k, .int _, _ => by cases k <;> rfl
  | k, .str s, h => by
    have h : PyData.strOk s = true := by cases k <;> exact h
    cases k <;> exact h
  | 0, .tup _, h => by cases h
  | 0, .lst _, h => by cases h
  | k + 1, .tup ds, h => by
    simp only [sml, sm, Bool.and_eq_true, List.all_eq_true, decide_eq_true_eq] at h ⊢
    exact ⟨h.1, fun d hd => sml_sm (h.2 d hd)⟩
  | k + 1, .lst ds, h => by
    simp only [sml, sm, Bool.and_eq_true, List.all_eq_true, decide_eq_true_eq] at h ⊢
    exact ⟨h.1, fun d hd => sml_sm (h.2 d hd)⟩
  | k, .ref _, h => by cases k <;> cases h
  | k, .fn _, h => by cases k <;> cases h
  | k, .ty _, h => by cases k <;> cases h
  | k, .scr _, h => by cases k <;> cases h
theorem sml_data {L k : Nat} {d : D} (h : sml L k d = true) (hL : L ≤ 200) : sm k d = true := sml_sm (sml_up hL h (Nat.le_refl k))
theorem sml_tup {L k : Nat} {ds : List D} (h1 : ds.length ≤ L) (h2 : ∀ y ∈ ds, sml L k y = true) : sml L (k + 1) (.tup ds) = true := by
  simp only [sml, Bool.and_eq_true, List.all_eq_true, decide_eq_true_eq]
  exact ⟨h1, h2⟩
theorem sml_lst {L k : Nat} {ds : List D} (h1 : ds.length ≤ L) (h2 : ∀ y ∈ ds, sml L k y = true) : sml L (k + 1) (.lst ds) = true := sml_tup h1 h2
theorem sml_inv {L j : Nat} {ds : List D} (h : sml L j (.tup ds) = true) : ∃ k, j = k + 1 ∧ ds.length ≤ L ∧ ∀ y ∈ ds, sml L k y = true := by
  cases j with
  | zero => cases h
  | succ k =>
    simp only [sml, Bool.and_eq_true, List.all_eq_true, decide_eq_true_eq] at h
    exact ⟨k, rfl, h.1, h.2⟩
theorem sml_int {L k : Nat} {i : Int} : sml L k (.int i) = true := by cases k <;> rfl
/-- an item is short data -/
theorem isItem_sml : ∀ {k : Nat} {d : D}, isItem k d = true → sml 6 (k + 1) d = true
  | k, d, h => by
    rcases isItem_cases h with ⟨i, rfl, _⟩ | ⟨k', w, r, rfl, rfl, h1, h2, h3, h4⟩
    · rfl
    · have hw := str_word (wi_word h1)
      have it : ∀ y ∈ itemsOf w r, sml 6 (k' + 1) y = true := fun y hy => isItem_sml (h4 y hy)
      by_cases e : w = "told"
      · obtain ⟨ns, r', rfl, h5, h6⟩ := wi_told h1 e
        have e2 : itemsOf w (.tup ns :: r') = r' := by simp [itemsOf, e]
        rw [e2] at h2 it
        refine sml_tup (by simp; omega) fun y hy => ?_
        rcases List.mem_cons.mp hy with rfl | hy
        · exact hw
        · rcases List.mem_cons.mp hy with rfl | hy
          · refine sml_tup (by omega) fun x hx => ?_
            obtain ⟨i, rfl, _⟩ := isFrom_int (h6 x hx)
            exact sml_int
          · exact it y hy
      · have e2 : itemsOf w r = r := by simp [itemsOf, e]
        rw [e2] at h2 it
        refine sml_tup (by simp; omega) fun y hy => ?_
        rcases List.mem_cons.mp hy with rfl | hy
        · exact hw
        · exact it y hy
section
variable {A : Type} {xs : List A} {k : Nat}
@[simp] theorem cut_n0 : cutL xs none (some (k : Int)) = xs.take k := cut_to xs k
@[simp] theorem cut_n1 : cutL xs none (some ((k : Int) + 1)) = xs.take (k + 1) := cut_to xs (k + 1)
@[simp] theorem cut_0n : cutL xs (some (k : Int)) none = xs.drop k := cut_from xs k
@[simp] theorem cut_1n : cutL xs (some ((k : Int) + 1)) none = xs.drop (k + 1) := cut_from xs (k + 1)
@[simp] theorem cut_2n : cutL xs (some ((k : Int) + 2)) none = xs.drop (k + 2) := cut_from xs (k + 2)
@[simp] theorem cut_02 : cutL xs (some (k : Int)) (some ((k : Int) + 2)) = (xs.drop k).take 2 := by
  have := cut_both xs k (k + 2)
  rw [show k + 2 - k = 2 by omega] at this
  exact this
end
theorem ix_own {ds : List D} {k : Nat} (h : k < ds.length) : ixD (.lst ds) (.int (k : Int)) = some ds[k] := atI_nat h
theorem setD_nat {ds : List D} {k : Nat} {d : D} (h : k < ds.length) : setD ds (.int (k : Int)) d = some (ds.set k d) := by
  have h2 : ((k : Int) < (ds.length : Int)) := by omega
  simp [setD, ixN, h2]
/-- worths, lots, runs -/
def lotD (l : List (Int × Int)) : D := .tup (l.map fun p => lowD p.1 p.2)
def runD (ls : List (List (Int × Int))) : D := .tup (ls.map lotD)
def WorthOk (p : Int × Int) : Prop := -8 ≤ p.1 ∧ p.1 ≤ 12 ∧ 1 ≤ p.2 ∧ p.2 ≤ 7
theorem lowD_sml {a b : Int} {k : Nat} : sml 6 (k + 1) (lowD a b) = true := sml_tup (by simp) fun y hy => by
  simp at hy
  rcases hy with rfl | rfl <;> exact sml_int
theorem lotD_sml {l : List (Int × Int)} (h : l.length ≤ 6) : sml 6 2 (lotD l) = true := sml_tup (by simpa using h) fun y hy => by
  obtain ⟨p, _, rfl⟩ := List.mem_map.mp hy
  exact lowD_sml
theorem runD_sml {ls : List (List (Int × Int))} (h : ls.length ≤ 6) (h2 : ∀ l ∈ ls, l.length ≤ 6) : sml 6 3 (runD ls) = true := sml_tup (by simpa using h) fun y hy => by
  obtain ⟨p, hp, rfl⟩ := List.mem_map.mp hy
  exact lotD_sml (h2 p hp)
end Pz

/-! Pz34: fractions. -/
namespace Pz
open PySem PySem.Spec PyProof.Rows L2
/-- a fraction as a pair -/
def frD (q : Rat) : D := .tup [.int q.num, .int (q.den : Int)]
theorem lowD_fr {a b : Int} (hb : 0 < b) : lowD a b = frD ((a : Rat) / (b : Rat)) := by
  obtain ⟨n, rfl⟩ : ∃ n : Nat, b = n := ⟨b.toNat, by omega⟩
  have hn : n ≠ 0 := by omega
  have e : ((a : Rat) / ((n : Int) : Rat)) = Rat.normalize a n hn := by
    rw [Rat.normalize_eq_mkRat, Rat.mkRat_eq_div]
    rfl
  rw [e, Rat.normalize_eq]
  unfold lowD frD
  have : Int.gcd a (n : Int) = a.natAbs.gcd n := rfl
  rw [this]
  simp
theorem frD_inj {p q : Rat} (h : frD p = frD q) : p = q := by
  unfold frD at h
  simp at h
  exact Rat.ext h.1 (by omega)
/-- the greatest number of bits of what is divided -/
def W0 : Nat := 2 ^ 8990
theorem W0_pos {n : Nat} (h : n < 8990) : 2 ^ n < W0 := Nat.pow_lt_pow_right (by decide) h
theorem W0_small {n : Nat} (h : n < 2 ^ 64) : n < W0 := Nat.lt_trans h (W0_pos (by decide))
theorem W0_9000 {n : Nat} (h : n < W0) : n < 2 ^ 9000 := Nat.lt_trans h (Nat.pow_lt_pow_right (by decide) (by decide))
theorem W0_mul {i j : Int} (h1 : i.natAbs < W0) (h2 : j.natAbs < W0) : mulOk i j :=
  mul_wide (Nat.lt_trans h1 (Nat.pow_lt_pow_right (by decide) (by decide))) (Nat.lt_trans h2 (Nat.pow_lt_pow_right (by decide) (by decide)))
/-- top and below have less than so many bits -/
def Bd (n : Nat) (q : Rat) : Prop := q.num.natAbs < 2 ^ n ∧ q.den < 2 ^ n
theorem Bd.up {n m : Nat} {q : Rat} (h : Bd n q) (l : n ≤ m) : Bd m q := by
  have := Nat.pow_le_pow_right (show 0 < 2 by decide) l
  exact ⟨Nat.lt_of_lt_of_le h.1 this, Nat.lt_of_lt_of_le h.2 this⟩
theorem Bd.num {n : Nat} {q : Rat} (h : Bd n q) (l : n < 8990) : q.num.natAbs < W0 := Nat.lt_trans h.1 (W0_pos l)
theorem Bd.den {n : Nat} {q : Rat} (h : Bd n q) (l : n < 8990) : (q.den : Int).natAbs < W0 := by
  rw [Int.natAbs_natCast]
  exact Nat.lt_trans h.2 (W0_pos l)
theorem Bd.of {n : Nat} {a b : Int} (hb : 0 < b) (h1 : a.natAbs < 2 ^ n) (h2 : b.natAbs < 2 ^ n) : Bd n ((a : Rat) / (b : Rat)) := by
  have e := lowD_fr (a := a) hb
  unfold lowD frD at e
  simp at e
  have g0 : 0 < Int.gcd a b := Nat.pos_of_ne_zero fun z => by rw [Int.gcd_eq_zero_iff] at z; omega
  refine ⟨?_, ?_⟩
  · rw [← e.1]
    have : (a / (Int.gcd a b : Int)).natAbs ≤ a.natAbs := by
      rw [Int.natAbs_ediv_of_dvd (Int.gcd_dvd_left a b)]
      exact Nat.div_le_self _ _
    omega
  · have h3 : ((a : Rat) / (b : Rat)).den = (b / (Int.gcd a b : Int)).natAbs := by rw [e.2]; rfl
    rw [h3, Int.natAbs_ediv_of_dvd (Int.gcd_dvd_right a b)]
    have := Nat.div_le_self b.natAbs (Int.natAbs (Int.gcd a b : Int))
    omega
theorem Bd.int {n : Nat} {i : Int} (h : i.natAbs < 2 ^ n) (h1 : 0 < n) : Bd n (i : Rat) := ⟨by rw [Rat.num_intCast]; exact h, by rw [Rat.den_intCast]; exact Nat.one_lt_two_pow (by omega)⟩
theorem two_pow_split {a b n m : Nat} (h1 : a < 2 ^ n) (h2 : b < 2 ^ m) : a * b < 2 ^ (n + m) := by
  rw [Nat.pow_add]
  rcases Nat.eq_zero_or_pos b with rfl | hb
  · rw [Nat.mul_zero]; exact Nat.mul_pos (Nat.pow_pos (by decide)) (Nat.pow_pos (by decide))
  · exact Nat.lt_of_lt_of_le ((Nat.mul_lt_mul_right hb).mpr h1) (Nat.mul_le_mul_left _ (Nat.le_of_lt h2))
theorem rat_add (p q : Rat) : p + q = ((p.num * q.den + q.num * p.den : Int) : Rat) / ((p.den * q.den : Int) : Rat) := by
  rw [Rat.add_def, Rat.normalize_eq_mkRat, Rat.mkRat_eq_div]
  push_cast
  rfl
theorem rat_mul (p q : Rat) : p * q = ((p.num * q.num : Int) : Rat) / ((p.den * q.den : Int) : Rat) := by
  rw [Rat.mul_def, Rat.normalize_eq_mkRat, Rat.mkRat_eq_div]
  push_cast
  rfl
theorem den_pos (q : Rat) : (0 : Int) < (q.den : Int) := by have := q.den_pos; omega
theorem rat_nd (q : Rat) : q = (q.num : Rat) / ((q.den : Int) : Rat) := by
  have := Rat.mkRat_self q
  rw [Rat.mkRat_eq_div] at this
  exact this.symm
theorem rat_over (q : Rat) (w : Int) (hw : 0 < w) : q / (w : Rat) = ((q.num : Int) : Rat) / ((q.den * w : Int) : Rat) := by
  have h1 : ((q.den : Int) : Rat) ≠ 0 := by
    have := den_pos q
    exact fun z => by rw [Rat.intCast_eq_zero_iff] at z; omega
  have h2 : (w : Rat) ≠ 0 := fun z => by rw [Rat.intCast_eq_zero_iff] at z; omega
  rw [Rat.intCast_mul]
  conv => lhs; rw [rat_nd q]
  grind
theorem abs_mul_lt {a b : Int} {n m : Nat} (h1 : a.natAbs < 2 ^ n) (h2 : b.natAbs < 2 ^ m) : (a * b).natAbs < 2 ^ (n + m) := by
  rw [Int.natAbs_mul]; exact two_pow_split h1 h2
theorem add_lt {a b : Int} {n : Nat} (h1 : a.natAbs < 2 ^ n) (h2 : b.natAbs < 2 ^ n) : (a + b).natAbs < 2 ^ (n + 1) := by
  rw [Nat.pow_succ]; omega
section
variable {p q : Rat} {n m : Nat}
theorem Bd.dabs (h : Bd n p) : (p.den : Int).natAbs < 2 ^ n := by rw [Int.natAbs_natCast]; exact h.2
theorem add_tops (hp : Bd n p) (hq : Bd m q) : (p.num * q.den + q.num * p.den : Int).natAbs < 2 ^ (n + m + 1) ∧ 0 < (p.den * q.den : Int) ∧ (p.den * q.den : Int).natAbs < 2 ^ (n + m) :=
  ⟨add_lt (abs_mul_lt hp.1 hq.dabs) (by rw [Nat.add_comm]; exact abs_mul_lt hq.1 hp.dabs), Int.mul_pos (den_pos p) (den_pos q), abs_mul_lt hp.dabs hq.dabs⟩
theorem mul_tops (hp : Bd n p) (hq : Bd m q) : (p.num * q.num : Int).natAbs < 2 ^ (n + m) ∧ 0 < (p.den * q.den : Int) ∧ (p.den * q.den : Int).natAbs < 2 ^ (n + m) :=
  ⟨abs_mul_lt hp.1 hq.1, Int.mul_pos (den_pos p) (den_pos q), abs_mul_lt hp.dabs hq.dabs⟩
theorem up1 {a : Nat} (h : a < 2 ^ n) : a < 2 ^ (n + 1) := Nat.lt_of_lt_of_le h (Nat.pow_le_pow_right (by decide) (by omega))
theorem Bd.add (hp : Bd n p) (hq : Bd m q) : Bd (n + m + 1) (p + q) := by
  obtain ⟨h1, h2, h3⟩ := add_tops hp hq
  rw [rat_add]
  exact Bd.of h2 h1 (up1 h3)
theorem Bd.mul (hp : Bd n p) (hq : Bd m q) : Bd (n + m) (p * q) := by
  obtain ⟨h1, h2, h3⟩ := mul_tops hp hq
  rw [rat_mul]
  exact Bd.of h2 h1 h3
theorem Bd.over {w : Int} (hp : Bd n p) (hw : 0 < w) (hw2 : w.natAbs < 2 ^ m) : Bd (n + m) (p / (w : Rat)) := by
  rw [rat_over p w hw]
  exact Bd.of (Int.mul_pos (den_pos p) hw) (Nat.lt_of_lt_of_le hp.1 (Nat.pow_le_pow_right (by decide) (by omega))) (abs_mul_lt hp.dabs hw2)
end
theorem Bd.zero : Bd 1 0 := by unfold Bd; decide
theorem Bd.one : Bd 1 1 := ⟨by decide, by decide⟩
@[simp] theorem fr_ix0 {q : Rat} {S : Store} : ixS S (frD q) (.int 0) = some (.int q.num) := ix_tup0
@[simp] theorem fr_ix1 {q : Rat} {S : Store} : ixS S (frD q) (.int 1) = some (.int (q.den : Int)) := ix_tup1
theorem fr_sm {q : Rat} {k : Nat} : sm (k + 1) (frD q) = true := by
  unfold frD
  cases k <;> simp [sm]
@[simp] theorem peq_fr {p q : Rat} : peq (frD p) (frD q) = decide (p = q) := by
  unfold frD
  rw [peq_tup, Bool.eq_iff_iff]
  simp
  constructor
  · rintro ⟨h1, h2⟩
    exact Rat.ext h1 (by omega)
  · rintro rfl
    exact ⟨rfl, rfl⟩
@[simp] theorem eq_fr {p q : Rat} : cmpD .eq (frD p) (frD q) = some (decide (p = q)) := by
  rw [eq_sm (k := 1) (j := 1) fr_sm fr_sm (by omega) (by omega), peq_fr]
@[simp] theorem ne_fr {p q : Rat} : cmpD .ne (frD p) (frD q) = some (!decide (p = q)) := by
  rw [ne_sm (k := 1) (j := 1) fr_sm fr_sm (by omega) (by omega), peq_fr]
theorem fr_0 : (D.tup [.int 0, .int 1]) = frD 0 := rfl
theorem fr_1 : (D.tup [.int 1, .int 1]) = frD 1 := rfl
end Pz

/-! Pz35: weights and sums of items. -/
namespace Pz
open PySem PySem.Spec PyProof.Rows L2
@[simp] theorem bindT_tp {ts : Tgs} {ds : List D} {env : Env} : bindT (.tp ts) (.tup ds) env = bindTs ts ds env := by simp only [bindT]
@[simp] theorem bindTs_nil {env : Env} : bindTs .nil [] env = some env := by simp only [bindTs]
@[simp] theorem bindTs_cons {t : Tg} {ts : Tgs} {d : D} {ds : List D} {env : Env} : bindTs (.cons t ts) (d :: ds) env = (bindT t d env).bind fun env => bindTs ts ds env := by simp only [bindTs]
theorem zipD_nil {xs : List D} : zipD [] xs = [] := by unfold zipD; rfl
theorem zipD_nil2 {xs : List D} : zipD xs [] = [] := by unfold zipD; exact List.zipWith_nil_right
theorem zipD_cons {x y : D} {xs ys : List D} : zipD (x :: xs) (y :: ys) = .tup [x, y] :: zipD xs ys := rfl
def getI : D → Int
  | .int i => i
  | _ => 0
/-- the numbers of a join's items -/
def numsI (w : Str) (r : List D) : List Int := if w = "told" then (match r with
  | .tup ns :: _ => ns.map getI
  | _ => []) else List.replicate (itemsOf w r).length 1
def tot : List Rat → Rat
  | [] => 0
  | x :: xs => x + tot xs
def totI : List Int → Int
  | [] => 0
  | x :: xs => x + totI xs
theorem sum_tot : ∀ {l : List Int}, l.sum = totI l
  | [] => rfl
  | x :: xs => by rw [List.sum_cons, sum_tot, totI]
theorem nums_ok {w : Str} {r : List D} (h : wiOk (.str w :: r) = true) : (numsI w r).length = (itemsOf w r).length ∧ ∀ x ∈ numsI w r, 1 ≤ x ∧ x ≤ 9 := by
  unfold numsI
  by_cases e : w = "told"
  · obtain ⟨ns, r', rfl, h5, h6⟩ := wi_told h e
    rw [if_pos e]
    refine ⟨by simp [itemsOf, e, h5], fun x hx => ?_⟩
    obtain ⟨y, hy, rfl⟩ := List.mem_map.mp hx
    obtain ⟨i, rfl, hi⟩ := isFrom_int (h6 y hy)
    exact hi
  · rw [if_neg e]
    refine ⟨by simp, fun x hx => ?_⟩
    have := (List.mem_replicate.mp hx).2
    omega
theorem ints_of : ∀ {ns : List D}, (∀ x ∈ ns, isFrom x 1 9 = true) → (ns.map getI).map D.int = ns
  | [], _ => rfl
  | x :: ns, h => by
    obtain ⟨i, rfl, _⟩ := isFrom_int (h x List.mem_cons_self)
    rw [List.map_cons, List.map_cons, ints_of fun y hy => h y (List.mem_cons_of_mem _ hy)]
    rfl
theorem nums_told {w : Str} {r : List D} (h : wiOk (.str w :: r) = true) (e : w = "told") : ∃ r', r = .tup ((numsI w r).map D.int) :: r' := by
  obtain ⟨ns, r', rfl, h5, h6⟩ := wi_told h e
  refine ⟨r', ?_⟩
  unfold numsI
  rw [if_pos e]
  show D.tup ns :: r' = .tup ((ns.map getI).map D.int) :: r'
  rw [ints_of h6]
theorem repL_1 {n : Nat} : repL (n : Int) [D.int 1] = (List.replicate n 1).map D.int := by
  unfold repL
  rw [Int.toNat_natCast]
  induction n with
  | zero => rfl
  | succ n ih => rw [List.replicate_succ, List.flatten_cons, ih, List.replicate_succ]; rfl

/-- sizes -/
def Szs (d : D) (sz : List Int) : Prop := d = .lst (sz.map D.int) ∨ d = .tup (sz.map D.int)
def szAt (sz : List Int) (i : Int) : Int := sz.getD i.toNat 0
theorem ix_szs {S : Store} {d : D} {sz : List Int} {i : Int} (h : Szs d sz) (h0 : 0 ≤ i) (h1 : i < sz.length) : ixS S d (.int i) = some (.int (szAt sz i)) := by
  have e : atI (sz.map D.int) i = some (.int (szAt sz i)) := by
    have := atI_nat (xs := sz.map D.int) (i := i.toNat) (by simp; omega)
    rw [Int.toNat_of_nonneg h0] at this
    rw [this]
    simp [szAt, List.getElem?_eq_getElem (show i.toNat < sz.length by omega)]
  rcases h with rfl | rfl
  · exact e
  · exact e
/-- sums of the parts -/
def Sms (d : D) (sm : List Rat) : Prop := d = .lst (sm.map frD) ∨ d = .tup (sm.map frD)
def smAt (sm : List Rat) (i : Int) : Rat := sm.getD i.toNat 0
theorem ix_sms {S : Store} {d : D} {sm : List Rat} {i : Int} (h : Sms d sm) (h0 : 0 ≤ i) (h1 : i < sm.length) : ixS S d (.int i) = some (frD (smAt sm i)) := by
  have e : atI (sm.map frD) i = some (frD (smAt sm i)) := by
    have := atI_nat (xs := sm.map frD) (i := i.toNat) (by simp; omega)
    rw [Int.toNat_of_nonneg h0] at this
    rw [this]
    simp [smAt, List.getElem?_eq_getElem (show i.toNat < sm.length by omega)]
  rcases h with rfl | rfl
  · exact e
  · exact e
def cnt (l : List Int) : Int := ((l.filter fun x => decide (0 < x)).length : Int)
/-- an item's weight -/
def wt (sz : List Int) : Nat → D → Int
  | k + 1, .tup (.str w :: r) => if w = "sums" then totI ((itemsOf w r).map (wt sz k)) else if w = "full" then cnt ((itemsOf w r).map (wt sz k)) else totI (numsI w r)
  | _, .int i => szAt sz i
  | _, _ => 0
@[simp] theorem wt_int {sz : List Int} {k : Nat} {i : Int} : wt sz k (.int i) = szAt sz i := by cases k <;> rfl
theorem wt_tup {sz : List Int} {k : Nat} {w : Str} {r : List D} : wt sz (k + 1) (.tup (.str w :: r)) = if w = "sums" then totI ((itemsOf w r).map (wt sz k)) else if w = "full" then cnt ((itemsOf w r).map (wt sz k)) else totI (numsI w r) := rfl
/-- what an item adds to the sum of its join -/
def addsQ (w : Str) (n : Int) (q : Rat) (h : Int) : Rat := if w = "sums" then q else if 0 < h then q * (n : Rat) / (h : Rat) else 0
def zipT : List Int → List D → (Int → D → Rat) → Rat
  | n :: ns, x :: xs, f => f n x + zipT ns xs f
  | _, _, _ => 0
/-- an item's sum -/
def sq (sz : List Int) (sm : List Rat) : Nat → D → Rat
  | k + 1, .tup (.str w :: r) => zipT (numsI w r) (itemsOf w r) fun n x => addsQ w n (sq sz sm k x) (wt sz k x)
  | _, .int i => smAt sm i
  | _, _ => 0
@[simp] theorem sq_int {sz : List Int} {sm : List Rat} {k : Nat} {i : Int} : sq sz sm k (.int i) = smAt sm i := by cases k <;> rfl
theorem sq_tup {sz : List Int} {sm : List Rat} {k : Nat} {w : Str} {r : List D} : sq sz sm (k + 1) (.tup (.str w :: r)) = zipT (numsI w r) (itemsOf w r) fun n x => addsQ w n (sq sz sm k x) (wt sz k x) := rfl
/-- what is known of sizes -/
structure SzOk (m : Nat) (sz : List Int) : Prop where
  len : sz.length = m
  lo : ∀ x ∈ sz, 0 ≤ x
  hi : ∀ x ∈ sz, x ≤ 1000000000000
theorem SzOk.at {m : Nat} {sz : List Int} (h : SzOk m sz) (i : Int) : 0 ≤ szAt sz i ∧ szAt sz i ≤ 1000000000000 := by
  unfold szAt
  rw [List.getD_eq_getElem?_getD]
  by_cases q : i.toNat < sz.length
  · rw [List.getElem?_eq_getElem q]
    exact ⟨h.lo _ (List.getElem_mem q), h.hi _ (List.getElem_mem q)⟩
  · rw [List.getElem?_eq_none (by omega)]
    simp
theorem totI_le {A : Type} {f : A → Int} {g : A → Nat} {c : Int} : ∀ {l : List A}, (∀ a ∈ l, 0 ≤ f a ∧ f a ≤ c * g a) → 0 ≤ totI (l.map f) ∧ totI (l.map f) ≤ c * ((l.map g).sum : Nat)
  | [], _ => by simp [totI]
  | a :: l, h => by
    have h1 := h a List.mem_cons_self
    have h2 := totI_le (l := l) fun b hb => h b (List.mem_cons_of_mem _ hb)
    rw [List.map_cons, totI, List.map_cons, List.sum_cons, Int.natCast_add, Int.mul_add]
    omega
theorem flat_sum_len {A B : Type} {f : A → List B} : ∀ {l : List A}, (l.flatMap f).length = (l.map fun a => (f a).length).sum
  | [] => rfl
  | a :: l => by rw [List.flatMap_cons, List.length_append, flat_sum_len, List.map_cons, List.sum_cons]
theorem sum_ge {A : Type} {g : A → Nat} : ∀ {l : List A}, (∀ a ∈ l, 1 ≤ g a) → l.length ≤ (l.map g).sum
  | [], _ => by simp
  | a :: l, h => by
    have h1 := h a List.mem_cons_self
    have h2 := sum_ge (l := l) fun b hb => h b (List.mem_cons_of_mem _ hb)
    rw [List.length_cons, List.map_cons, List.sum_cons]
    omega
theorem totI_nums : ∀ {l : List Int}, (∀ x ∈ l, 1 ≤ x ∧ x ≤ 9) → 0 ≤ totI l ∧ totI l ≤ 9 * (l.length : Int) ∧ (l.length : Int) ≤ totI l
  | [], _ => by simp [totI]
  | x :: l, h => by
    have h1 := h x List.mem_cons_self
    have h2 := totI_nums (l := l) fun b hb => h b (List.mem_cons_of_mem _ hb)
    rw [totI, List.length_cons]
    omega
/-- weights are not less than 0, and not too great -/
theorem wt_le {m : Nat} {sz : List Int} (hz : SzOk m sz) : ∀ {k : Nat} {d : D}, isItem k d = true → 0 ≤ wt sz k d ∧ wt sz k d ≤ 1000000000000 * ((pl k d).length : Int)
  | k, d, h => by
    rcases isItem_cases h with ⟨i, rfl, h1, h2⟩ | ⟨k', w, r, rfl, rfl, h1, h2, h3, h4⟩
    · have := hz.at i
      simp
      exact this
    · rw [wt_tup, pl_tup, flat_sum_len]
      have hg : (itemsOf w r).length ≤ ((itemsOf w r).map fun a => (pl k' a).length).sum := sum_ge fun a ha => List.length_pos_iff.mpr (pl_pos (h4 a ha))
      split
      · exact totI_le (g := fun a => (pl k' a).length) fun a ha => wt_le hz (h4 a ha)
      · split
        · unfold cnt
          have := List.length_filter_le (fun x => decide (0 < x)) ((itemsOf w r).map (wt sz k'))
          rw [List.length_map] at this
          omega
        · obtain ⟨n1, n2⟩ := nums_ok h1
          have := totI_nums n2
          omega
theorem wt_bits {m : Nat} {sz : List Int} (hz : SzOk m sz) {k : Nat} {d : D} (h : isItem k d = true) (hk : k ≤ 6) : 0 ≤ wt sz k d ∧ (wt sz k d).natAbs < 2 ^ 60 := by
  have h1 := wt_le hz h
  have h2 := pl_le h hk
  exact ⟨h1.1, by omega⟩
/-- how many bits an item's sum takes -/
def bt (s k : Nat) (d : D) : Nat := (s + 69) * (pl k d).length + 70 * (joins k d).length
theorem bt_int {s k : Nat} {i : Int} : bt s k (.int i) = s + 69 := by simp [bt]
def btsum (s k : Nat) (l : List D) : Nat := (l.map (bt s k)).sum
theorem bt_tup {s k : Nat} {w : Str} {r : List D} : bt s (k + 1) (.tup (.str w :: r)) = btsum s k (itemsOf w r) + 70 := by
  unfold bt btsum
  rw [pl_tup, joins_tup, List.length_cons]
  generalize itemsOf w r = l
  have : ∀ l : List D, (s + 69) * (l.flatMap (pl k)).length + 70 * (l.flatMap (joins k)).length = (l.map fun x => (s + 69) * (pl k x).length + 70 * (joins k x).length).sum := by
    intro l
    induction l with
    | nil => simp
    | cons a l ih =>
      rw [List.flatMap_cons, List.flatMap_cons, List.map_cons, List.sum_cons, List.length_append, List.length_append, ← ih, Nat.mul_add, Nat.mul_add]
      omega
  have e := this l
  show _ = (l.map fun x => (s + 69) * (pl k x).length + 70 * (joins k x).length).sum + 70
  rw [← e]
  omega
theorem bt_ge {s k : Nat} {d : D} (h : isItem k d = true) : s + 69 ≤ bt s k d := by
  have : 1 ≤ (pl k d).length := List.length_pos_iff.mpr (pl_pos h)
  unfold bt
  have := Nat.mul_le_mul_left (s + 69) this
  omega
/-- what one item adds, in bits -/
theorem adds_bd {n : Nat} {w : Str} {i h : Int} {q : Rat} (hq : Bd n q) (hi : 1 ≤ i ∧ i ≤ 9) (h0 : 0 ≤ h) (h1 : h.natAbs < 2 ^ 60) (hn : 1 ≤ n) : Bd (n + 64) (addsQ w i q h) := by
  unfold addsQ
  split
  · exact hq.up (by omega)
  · split
    · have := hq.mul (Bd.int (n := 4) (i := i) (by omega) (by omega))
      have := this.over (w := h) (by omega) h1
      exact this.up (by omega)
    · exact Bd.zero.up (by omega)
/-- sums: acc, then the rest -/
theorem zip_bd {s k : Nat} {w : Str} {f : Int → D → Rat} : ∀ {ns : List Int} {xs : List D} {a : Nat} {acc : Rat}, (∀ x ∈ xs, ∀ n ∈ ns, Bd (bt s k x - 5) (f n x) ∧ 69 ≤ bt s k x) → Bd a acc → Bd (a + btsum s k xs) (acc + zipT ns xs f)
  | [], xs, a, acc, _, h => by
    have : zipT [] xs f = 0 := by cases xs <;> rfl
    rw [this, Rat.add_zero]
    exact h.up (by omega)
  | n :: ns, [], a, acc, _, h => by
    show Bd _ (acc + 0)
    rw [Rat.add_zero]
    exact h.up (by omega)
  | n :: ns, x :: xs, a, acc, h, ha => by
    obtain ⟨h1, h2⟩ := h x List.mem_cons_self n List.mem_cons_self
    have h3 := ha.add h1
    have h4 := zip_bd (s := s) (k := k) (w := w) (f := f) (ns := ns) (xs := xs) (fun y hy m hm => h y (List.mem_cons_of_mem _ hy) m (List.mem_cons_of_mem _ hm)) h3
    show Bd _ (acc + (f n x + zipT ns xs f))
    rw [← Rat.add_assoc]
    refine h4.up ?_
    show _ ≤ a + (bt s k x + btsum s k xs)
    omega
theorem sm_bd {s : Nat} {sm : List Rat} (h : ∀ q ∈ sm, Bd s q) (hs : 1 ≤ s) (i : Int) : Bd s (smAt sm i) := by
  unfold smAt
  rw [List.getD_eq_getElem?_getD]
  by_cases q : i.toNat < sm.length
  · rw [List.getElem?_eq_getElem q]
    exact h _ (List.getElem_mem q)
  · rw [List.getElem?_eq_none (by omega)]
    exact Bd.zero.up hs
theorem sq_bd {m s : Nat} {sz : List Int} {sm : List Rat} (hz : SzOk m sz) (hs : ∀ q ∈ sm, Bd s q) (h1s : 1 ≤ s) : ∀ {k : Nat} {d : D}, k ≤ 6 → isItem k d = true → Bd (bt s k d - 69) (sq sz sm k d)
  | k, d, hk, h => by
    rcases isItem_cases h with ⟨i, rfl, h1, h2⟩ | ⟨k', w, r, rfl, rfl, h1, h2, h3, h4⟩
    · rw [bt_int, sq_int]
      exact (sm_bd hs h1s i).up (by omega)
    · rw [bt_tup, sq_tup]
      obtain ⟨n1, n2⟩ := nums_ok h1
      have := zip_bd (s := s) (k := k') (w := w) (f := fun n x => addsQ w n (sq sz sm k' x) (wt sz k' x)) (ns := numsI w r) (xs := itemsOf w r) (a := 1) (acc := 0) (fun x hx n hn => by
        have hb := bt_ge (s := s) (h4 x hx)
        have hw := wt_bits hz (h4 x hx) (by omega)
        exact ⟨(adds_bd (sq_bd hz hs h1s (by omega) (h4 x hx)) (n2 n hn) hw.1 hw.2 (by omega)).up (by omega), by omega⟩) Bd.zero
      rw [Rat.zero_add] at this
      exact this.up (by omega)
theorem bt_right {s : Nat} {d : D} (h : isRight d = true) : bt s 5 d ≤ 8 * s + 902 := by
  simp only [isRight, Bool.and_eq_true, decide_eq_true_eq] at h
  unfold bt
  have h1 := Nat.mul_le_mul_left (s + 69) h.2.1.1
  have h2 := h.2.1.2
  omega
theorem len_szs {d : D} {sz : List Int} (h : Szs d sz) : primD .len [d] = some (.int (sz.length : Int)) := by
  rcases h with rfl | rfl
  · show some (D.int ((sz.map D.int).length : Int)) = _
    simp
  · show some (D.int ((sz.map D.int).length : Int)) = _
    simp
@[simp] theorem int_bl {b : Bool} : primD .int [.bl b] = some (.int (if b then 1 else 0)) := rfl
/-- one thing worth 1 -/
def unitQ (m : Nat) (p : Int) : List Rat := (rangeI m).map fun i => if i = p then 1 else 0
theorem unit_len {m : Nat} {p : Int} : (unitQ m p).length = m := by simp [unitQ, len_rangeI]
theorem unit_bd {m : Nat} {p : Int} : ∀ q ∈ unitQ m p, Bd 1 q := fun q hq => by
  obtain ⟨i, _, rfl⟩ := List.mem_map.mp hq
  by_cases h : i = p
  · rw [if_pos h]; exact Bd.one
  · rw [if_neg h]; exact Bd.zero
theorem unit_fr {m : Nat} {p : Int} : ((rangeI m).map fun i => if i = p then D.tup [.int 1, .int 1] else .tup [.int 0, .int 1]) = (unitQ m p).map frD := by
  unfold unitQ
  rw [List.map_map]
  congr 1
  funext i
  show _ = frD (if i = p then 1 else 0)
  split <;> rfl
/-- an item's end -/
def endQ (sz : List Int) (sm : List Rat) (d : D) : Rat := if 0 < wt sz 5 d then sq sz sm 5 d / (wt sz 5 d : Rat) else 0
/-- what a thing of a part counts -/
def countQ (sz : List Int) (d : D) (p : Int) : Rat := endQ sz (unitQ sz.length p) d
def countD (sz : List Int) (d : D) (p : Int) : D := if 0 < szAt sz p then frD (countQ sz d p) else .non
theorem sz_at_mem {sz : List Int} {p : Int} (h0 : 0 ≤ p) (h1 : p < sz.length) : szAt sz p ∈ sz := by
  unfold szAt
  rw [List.getD_eq_getElem?_getD, List.getElem?_eq_getElem (show p.toNat < sz.length by omega)]
  exact List.getElem_mem _
/-! ### runs -/
def lotQ (l : List (Int × Int)) : List Rat := l.map fun p => (p.1 : Rat) / (p.2 : Rat)
theorem lot_fr : ∀ {l : List (Int × Int)}, (∀ y ∈ l, WorthOk y) → (l.map fun p => lowD p.1 p.2) = (lotQ l).map frD
  | [], _ => rfl
  | y :: l, h => by
    have hy := h y List.mem_cons_self
    have h2 : 0 < y.2 := by have := hy.2.2.1; omega
    unfold lotQ
    rw [List.map_cons, List.map_cons, List.map_cons, lowD_fr h2]
    congr 1
    exact lot_fr fun z hz => h z (List.mem_cons_of_mem _ hz)
theorem lot_bd {l : List (Int × Int)} (h : ∀ y ∈ l, WorthOk y) : ∀ q ∈ lotQ l, Bd 4 q := fun q hq => by
  obtain ⟨y, hy, rfl⟩ := List.mem_map.mp hq
  obtain ⟨h1, h2, h3, h4⟩ := h y hy
  exact Bd.of (by omega) (by omega) (by omega)
theorem tot_bd {n : Nat} : ∀ {l : List Rat}, (∀ q ∈ l, Bd n q) → Bd (1 + l.length * (n + 1)) (tot l)
  | [], _ => Bd.zero.up (by omega)
  | x :: xs, h => by
    have h1 := h x List.mem_cons_self
    have h2 := tot_bd (l := xs) fun y hy => h y (List.mem_cons_of_mem _ hy)
    rw [List.length_cons, Nat.add_mul]
    exact (h1.add h2).up (by omega)
/-- a run's sums, and sizes -/
def runS (ls : List (List (Int × Int))) : List Rat := ls.map fun l => tot (lotQ l)
def runZ (ls : List (List (Int × Int))) : List Int := ls.map fun l => (l.length : Int)
structure RunOk (m : Nat) (ls : List (List (Int × Int))) : Prop where
  len : ls.length = m
  lot : ∀ l ∈ ls, l.length ≤ 12 ∧ ∀ y ∈ l, WorthOk y
theorem runS_bd {m : Nat} {ls : List (List (Int × Int))} (h : RunOk m ls) : ∀ q ∈ runS ls, Bd 61 q := fun q hq => by
  obtain ⟨l, hl, rfl⟩ := List.mem_map.mp hq
  obtain ⟨h1, h2⟩ := h.lot l hl
  have := tot_bd (lot_bd h2)
  have e : (lotQ l).length = l.length := by simp [lotQ]
  rw [e] at this
  exact this.up (by omega)
theorem runZ_ok {m : Nat} {ls : List (List (Int × Int))} (h : RunOk m ls) : SzOk m (runZ ls) := by
  refine ⟨by simp [runZ, h.len], fun x hx => ?_, fun x hx => ?_⟩
  · obtain ⟨l, hl, rfl⟩ := List.mem_map.mp hx
    omega
  · obtain ⟨l, hl, rfl⟩ := List.mem_map.mp hx
    have := (h.lot l hl).1
    omega
theorem frD_frac {q : Rat} (h1 : q.num.natAbs ≤ 1000000) (h2 : q.den ≤ 1000000) : isFrac 1000000 (frD q) = true := by
  unfold frD isFrac
  have h3 := q.den_pos
  have h4 : Int.gcd q.num (q.den : Int) = 1 := q.reduced
  simp only [isFrom, Bool.and_eq_true, decide_eq_true_eq]
  exact ⟨⟨⟨by omega, by omega⟩, by omega, by omega⟩, h4⟩
theorem run_isRun {m : Nat} {ls : List (List (Int × Int))} (h : RunOk m ls) : isRun m (runD ls) = true := by
  unfold runD
  simp only [isRun, Bool.and_eq_true, decide_eq_true_eq, List.all_eq_true]
  refine ⟨by simpa using h.len, fun x hx => ?_⟩
  obtain ⟨l, hl, rfl⟩ := List.mem_map.mp hx
  obtain ⟨h1, h2⟩ := h.lot l hl
  unfold lotD
  rw [lot_fr h2]
  simp only [isLot, Bool.and_eq_true, decide_eq_true_eq, List.all_eq_true]
  refine ⟨by simpa [lotQ] using h1, fun y hy => ?_⟩
  obtain ⟨q, hq, rfl⟩ := List.mem_map.mp hy
  have := lot_bd h2 q hq
  exact frD_frac (by have := this.1; omega) (by have := this.2; omega)
theorem run_sm {m : Nat} {ls : List (List (Int × Int))} (h : RunOk m ls) (hm : m ≤ 3) : sm 3 (runD ls) = true := by
  refine sml_data (L := 12) (sml_tup (by rw [List.length_map, h.len]; omega) fun y hy => ?_) (by omega)
  obtain ⟨l, hl, rfl⟩ := List.mem_map.mp hy
  refine sml_tup (by rw [List.length_map]; exact (h.lot l hl).1) fun z hz => ?_
  obtain ⟨p, _, rfl⟩ := List.mem_map.mp hz
  exact sml_up (by omega) lowD_sml (Nat.le_refl 1)
theorem run_seq {ls : List (List (Int × Int))} : itemsD .seq [runD ls] = some (ls.map lotD) := rfl
theorem lot_seq {l : List (Int × Int)} (h : ∀ y ∈ l, WorthOk y) : itemsD .seq [lotD l] = some ((lotQ l).map frD) := by
  unfold lotD
  rw [lot_fr h]
  rfl
theorem lot_len {l : List (Int × Int)} : primD .len [lotD l] = some (.int (l.length : Int)) := by
  show some (D.int ((l.map fun p => lowD p.1 p.2).length : Int)) = _
  simp
/-- the mean of all worths -/
def meanQ (ls : List (List (Int × Int))) : Rat := tot (runS ls) / ((totI (runZ ls) : Int) : Rat)
def meanD (ls : List (List (Int × Int))) : D := if 0 < totI (runZ ls) then frD (meanQ ls) else .non
theorem totI_ge : ∀ {l : List Int}, (∀ x ∈ l, 0 ≤ x ∧ x ≤ 12) → 0 ≤ totI l ∧ totI l ≤ 12 * (l.length : Int)
  | [], _ => by simp [totI]
  | x :: l, h => by
    have h1 := h x List.mem_cons_self
    have h2 := totI_ge (l := l) fun b hb => h b (List.mem_cons_of_mem _ hb)
    rw [totI, List.length_cons]
    omega
theorem runZ_tot {m : Nat} {ls : List (List (Int × Int))} (h : RunOk m ls) (hm : m ≤ 3) : 0 ≤ totI (runZ ls) ∧ (totI (runZ ls)).natAbs < 2 ^ 6 := by
  have := totI_ge (l := runZ ls) fun x hx => by
    obtain ⟨l, hl, rfl⟩ := List.mem_map.mp hx
    have := (h.lot l hl).1
    omega
  have e : (runZ ls).length = m := by simp [runZ, h.len]
  rw [e] at this
  omega
/-- 1 by a number -/
theorem fr_inv {n : Int} (h : 0 < n) : D.tup [.int 1, .int n] = frD ((1 : Rat) / (n : Rat)) := by
  have e := lowD_fr (a := 1) h
  have g : Int.gcd 1 n = 1 := by simp [Int.gcd]
  unfold lowD at e
  rw [g] at e
  simpa using e
end Pz

/-! Pz36: an end is what all things count. -/
namespace Pz
open PySem PySem.Spec PyProof.Rows L2
/-- linear in the parts' sums -/
def Lin (f : List Rat → Rat) : Prop := ∃ a b c : Rat, ∀ sm, f sm = a * smAt sm 0 + b * smAt sm 1 + c * smAt sm 2
theorem Lin.zero : Lin fun _ => 0 := ⟨0, 0, 0, fun sm => by grind⟩
theorem Lin.add {f g : List Rat → Rat} (hf : Lin f) (hg : Lin g) : Lin fun sm => f sm + g sm := by
  obtain ⟨a, b, c, h⟩ := hf
  obtain ⟨a', b', c', h'⟩ := hg
  exact ⟨a + a', b + b', c + c', fun sm => by show f sm + g sm = _; rw [h, h']; grind⟩
theorem Lin.mul {f : List Rat → Rat} (hf : Lin f) (k : Rat) : Lin fun sm => f sm * k := by
  obtain ⟨a, b, c, h⟩ := hf
  exact ⟨a * k, b * k, c * k, fun sm => by show f sm * k = _; rw [h]; grind⟩
theorem Lin.part {i : Int} (h0 : 0 ≤ i) (h1 : i ≤ 2) : Lin fun sm => smAt sm i := by
  have : i = 0 ∨ i = 1 ∨ i = 2 := by omega
  rcases this with rfl | rfl | rfl
  · exact ⟨1, 0, 0, fun sm => by grind⟩
  · exact ⟨0, 1, 0, fun sm => by grind⟩
  · exact ⟨0, 0, 1, fun sm => by grind⟩
theorem Lin.adds {f : List Rat → Rat} (hf : Lin f) (w : Str) (n h : Int) : Lin fun sm => addsQ w n (f sm) h := by
  unfold addsQ
  by_cases w1 : w = "sums"
  · simp only [w1, if_true]; exact hf
  · simp only [w1, if_false]
    by_cases w2 : 0 < h
    · simp only [w2, if_true]
      have := (hf.mul (n : Rat)).mul ((h : Rat)⁻¹)
      simp only [Rat.div_def]
      exact this
    · simp only [w2, if_false]; exact Lin.zero
theorem Lin.zip {w : Str} {g : D → List Rat → Rat} {hh : D → Int} : ∀ {ns : List Int} {xs : List D}, (∀ x ∈ xs, Lin (g x)) → Lin fun sm => zipT ns xs fun n x => addsQ w n (g x sm) (hh x)
  | [], xs, _ => by
    have : (fun sm => zipT [] xs fun n x => addsQ w n (g x sm) (hh x)) = fun _ => 0 := by funext sm; cases xs <;> rfl
    rw [this]; exact Lin.zero
  | n :: ns, [], _ => Lin.zero
  | n :: ns, x :: xs, h => ((h x List.mem_cons_self).adds w n (hh x)).add (Lin.zip (w := w) (g := g) (hh := hh) (ns := ns) fun y hy => h y (List.mem_cons_of_mem _ hy))
theorem sq_lin {sz : List Int} : ∀ {k : Nat} {d : D}, isItem k d = true → Lin fun sm => sq sz sm k d
  | k, d, h => by
    rcases isItem_cases h with ⟨i, rfl, h1, h2⟩ | ⟨k', w, r, rfl, rfl, h1, h2, h3, h4⟩
    · simp only [sq_int]; exact Lin.part h1 h2
    · simp only [sq_tup]
      exact Lin.zip (g := fun x sm => sq sz sm k' x) (hh := fun x => wt sz k' x) fun x hx => sq_lin (h4 x hx)
theorem end_lin {sz : List Int} {d : D} (h : isItem 5 d = true) : Lin fun sm => endQ sz sm d := by
  unfold endQ
  by_cases q : 0 < wt sz 5 d
  · simp only [q, if_true, Rat.div_def]
    exact (sq_lin h).mul _
  · simp only [q, if_false]; exact Lin.zero
theorem unit_at {m : Nat} {p q : Int} (hp : 0 ≤ p ∧ p < m) (h0 : 0 ≤ q) : smAt (unitQ m p) q = if q = p then 1 else 0 := by
  unfold smAt unitQ
  rw [List.getD_eq_getElem?_getD, List.getElem?_map]
  by_cases h : q < m
  · have hl : q.toNat < (rangeI m).length := by rw [len_rangeI]; omega
    have e : (rangeI m)[q.toNat]? = some q := by
      unfold rangeI
      rw [List.getElem?_map, List.getElem?_range (by omega)]
      simp
      omega
    rw [e]
    rfl
  · have hl : (rangeI m).length ≤ q.toNat := by rw [len_rangeI]; omega
    rw [List.getElem?_eq_none hl, if_neg (by omega)]
    rfl
/-- a value or none -/
def optD : Option Rat → D
  | some q => frD q
  | none => .non
def countO (sz : List Int) (d : D) (p : Int) : Option Rat := if 0 < szAt sz p then some (countQ sz d p) else none
theorem count_opt {sz : List Int} {d : D} {p : Int} : countD sz d p = optD (countO sz d p) := by
  unfold countD countO
  split <;> rfl
def mixQ : List (Option Rat) → List Rat → Rat
  | c :: cs, s :: ss => (match c with | some q => q * s | none => 0) + mixQ cs ss
  | _, _ => 0
/-- an end is what all things count -/
theorem end_mix {m : Nat} {sz : List Int} {sm : List Rat} {d : D} (hm : 1 ≤ m ∧ m ≤ 3) (hi : isItem 5 d = true) (hz : sz.length = m) (hs : sm.length = m) (h0 : ∀ p : Int, 0 ≤ p → p < m → ¬ 0 < szAt sz p → smAt sm p = 0) : mixQ ((rangeI m).map (countO sz d)) sm = endQ sz sm d := by
  obtain ⟨a, b, c, h⟩ := end_lin (sz := sz) hi
  have h : ∀ sm, endQ sz sm d = a * smAt sm 0 + b * smAt sm 1 + c * smAt sm 2 := h
  have hc : ∀ p : Int, 0 ≤ p → p < m → countQ sz d p = a * (if 0 = p then 1 else 0) + b * (if 1 = p then 1 else 0) + c * (if 2 = p then 1 else 0) := fun p p0 p1 => by
    unfold countQ
    rw [hz, h, unit_at ⟨p0, p1⟩ (by omega), unit_at ⟨p0, p1⟩ (by omega), unit_at ⟨p0, p1⟩ (by omega)]
  have one : ∀ (p : Int), 0 ≤ p → p < m → (match countO sz d p with | some q => q * smAt sm p | none => 0) = countQ sz d p * smAt sm p := fun p p0 p1 => by
    unfold countO
    by_cases q : 0 < szAt sz p
    · rw [if_pos q]
    · rw [if_neg q, h0 p p0 p1 q, Rat.mul_zero]
  rw [h]
  have : m = 1 ∨ m = 2 ∨ m = 3 := by omega
  rcases this with rfl | rfl | rfl
  · rcases sm with _ | ⟨x, _ | ⟨y, r⟩⟩
    · simp at hs
    · have o0 := one 0 (by omega) (by omega)
      have c0 := hc 0 (by omega) (by omega)
      have e0 : smAt [x] 0 = x := rfl
      have e1 : smAt [x] 1 = 0 := rfl
      have e2 : smAt [x] 2 = 0 := rfl
      rw [e0] at o0
      rw [e0, e1, e2]
      show (match countO sz d 0 with | some q => q * x | none => 0) + 0 = _
      rw [o0, c0]
      simp
      grind
    · simp at hs
  · rcases sm with _ | ⟨x, _ | ⟨y, _ | ⟨z, r⟩⟩⟩
    · simp at hs
    · simp at hs
    · have o0 := one 0 (by omega) (by omega)
      have o1 := one 1 (by omega) (by omega)
      have c0 := hc 0 (by omega) (by omega)
      have c1 := hc 1 (by omega) (by omega)
      have e0 : smAt [x, y] 0 = x := rfl
      have e1 : smAt [x, y] 1 = y := rfl
      have e2 : smAt [x, y] 2 = 0 := rfl
      rw [e0] at o0
      rw [e1] at o1
      rw [e0, e1, e2]
      show (match countO sz d 0 with | some q => q * x | none => 0) + ((match countO sz d 1 with | some q => q * y | none => 0) + 0) = _
      rw [o0, o1, c0, c1]
      simp
      grind
    · simp at hs
  · rcases sm with _ | ⟨x, _ | ⟨y, _ | ⟨z, _ | ⟨u, r⟩⟩⟩⟩
    · simp at hs
    · simp at hs
    · simp at hs
    · have o0 := one 0 (by omega) (by omega)
      have o1 := one 1 (by omega) (by omega)
      have o2 := one 2 (by omega) (by omega)
      have c0 := hc 0 (by omega) (by omega)
      have c1 := hc 1 (by omega) (by omega)
      have c2 := hc 2 (by omega) (by omega)
      have e0 : smAt [x, y, z] 0 = x := rfl
      have e1 : smAt [x, y, z] 1 = y := rfl
      have e2 : smAt [x, y, z] 2 = z := rfl
      rw [e0] at o0
      rw [e1] at o1
      rw [e2] at o2
      rw [e0, e1, e2]
      show (match countO sz d 0 with | some q => q * x | none => 0) + ((match countO sz d 1 with | some q => q * y | none => 0) + ((match countO sz d 2 with | some q => q * z | none => 0) + 0)) = _
      rw [o0, o1, o2, c0, c1, c2]
      simp
      grind
    · simp at hs
theorem count_bd {m : Nat} {sz : List Int} {d : D} {p : Int} (hz : SzOk m sz) (hr : isRight d = true) : Bd 920 (countQ sz d p) := by
  have hi := right_item hr
  have hb := bt_right (s := 1) hr
  unfold countQ endQ
  have hq := sq_bd (s := 1) hz (unit_bd (m := sz.length) (p := p)) (by omega) (k := 5) (by omega) hi
  have hw := wt_bits hz hi (by omega)
  split
  · rename_i q
    exact (hq.over q hw.2).up (by omega)
  · exact Bd.zero.up (by omega)
theorem runS_zero {m : Nat} {ls : List (List (Int × Int))} (h : ls.length = m) : ∀ p : Int, 0 ≤ p → p < m → ¬ 0 < szAt (runZ ls) p → smAt (runS ls) p = 0 := fun p p0 p1 hn => by
  have hl : p.toNat < ls.length := by omega
  unfold szAt runZ at hn
  unfold smAt runS
  rw [List.getD_eq_getElem?_getD, List.getElem?_map, List.getElem?_eq_getElem hl] at hn ⊢
  simp at hn ⊢
  rw [hn]
  rfl
end Pz

/-! Pz37: all sizes in a box; equality of long lists. -/
namespace Pz
open PySem PySem.Spec PyProof.Rows L2
@[simp] theorem eq_bl {a b : Bool} : cmpD .eq (.bl a) (.bl b) = some (a == b) := rfl
@[simp] theorem ne_bl {a b : Bool} : cmpD .ne (.bl a) (.bl b) = some (!(a == b)) := rfl
@[simp] theorem isN_opt {c : Option Rat} : cmpD .isN (optD c) .non = some c.isNone := by cases c <;> rfl
theorem zipD_map {A B : Type} {f : A → D} {g : B → D} : ∀ {xs : List A} {ys : List B}, zipD (xs.map f) (ys.map g) = (xs.zip ys).map fun p => .tup [f p.1, g p.2]
  | [], ys => by simp [zipD_nil]
  | x :: xs, [] => by simp [zipD_nil2]
  | x :: xs, y :: ys => by rw [List.map_cons, List.map_cons, zipD_cons, zipD_map, List.zip_cons_cons, List.map_cons]
/-! ### long data -/
theorem sml_ok {L : Nat} : ∀ {k : Nat} {d : D}, sml L k d = true → d.isData = true ∧ d.toP.canLay0 = true ∧ d.toP.depth ≤ k
  | k, .non, _ => by simp [D.isData, D.toP, PyData.canLay0, PyData.depth]
  | k, .bl _, _ => by simp [D.isData, D.toP, PyData.canLay0, PyData.depth]
  | k, .int _, _ => by simp [D.isData, D.toP, PyData.canLay0, PyData.depth]
  | k, .str s, h => by
    have h : PyData.strOk s = true := by cases k <;> exact h
    simp [D.isData, D.toP, PyData.canLay0, PyData.depth, h]
  | 0, .tup _, h => by cases h
  | 0, .lst _, h => by cases h
  | k + 1, .tup ds, h => by
    simp only [sml, Bool.and_eq_true, List.all_eq_true] at h
    have ih := fun d hd => sml_ok (h.2 d hd)
    rw [D.isData, D.toP, PyData.canLay0, PyData.depth, areData_all, lay_all, toPs_map]
    refine ⟨by rw [List.all_eq_true]; exact fun d hd => (ih d hd).1, by rw [List.all_map, List.all_eq_true]; exact fun d hd => (ih d hd).2.1, Nat.succ_le_succ (depth_all fun p hp => ?_)⟩
    obtain ⟨d, hd, rfl⟩ := List.mem_map.mp hp
    exact (ih d hd).2.2
  | k + 1, .lst ds, h => by
    simp only [sml, Bool.and_eq_true, List.all_eq_true] at h
    have ih := fun d hd => sml_ok (h.2 d hd)
    rw [D.isData, D.toP, PyData.canLay0, PyData.depth, areData_all, lay_all, toPs_map]
    refine ⟨by rw [List.all_eq_true]; exact fun d hd => (ih d hd).1, by rw [List.all_map, List.all_eq_true]; exact fun d hd => (ih d hd).2.1, Nat.succ_le_succ (depth_all fun p hp => ?_)⟩
    obtain ⟨d, hd, rfl⟩ := List.mem_map.mp hp
    exact (ih d hd).2.2
  | k, .ref _, h => by cases k <;> cases h
  | k, .fn _, h => by cases k <;> cases h
  | k, .ty _, h => by cases k <;> cases h
  | k, .scr _, h => by cases k <;> cases h
theorem sml_shaped {L k : Nat} {d : D} (h : sml L k d = true) (hk : k ≤ 64) : SeqAt.shaped d.toP = true := by
  obtain ⟨_, h1, h2⟩ := sml_ok h
  unfold SeqAt.shaped
  rw [h1, Bool.true_and, decide_eq_true_eq]
  omega
theorem eqD_sml {L M k j : Nat} {a b : D} (ha : sml L k a = true) (hb : sml M j b = true) (hk : k ≤ 64) (hj : j ≤ 64) : eqD a b = some (peq a b) := by
  unfold eqD
  split
  · rename_i r h
    rw [scal_peq h (sml_ok ha).1 (sml_ok hb).1]
  · rw [if_pos ⟨(sml_ok ha).1, (sml_ok hb).1, sml_shaped ha hk, sml_shaped hb hj⟩]
    rfl
theorem eq_sml {L M k j : Nat} {a b : D} (ha : sml L k a = true) (hb : sml M j b = true) (hk : k ≤ 64) (hj : j ≤ 64) : cmpD .eq a b = some (peq a b) := by
  have h := eqD_sml ha hb hk hj
  simpa only [cmpD] using h
theorem ne_sml {L M k j : Nat} {a b : D} (ha : sml L k a = true) (hb : sml M j b = true) (hk : k ≤ 64) (hj : j ≤ 64) : cmpD .ne a b = some (!peq a b) := by
  have h := eqD_sml ha hb hk hj
  simp only [cmpD, h, Option.map_some]
theorem peq_selfL {L k : Nat} {a : D} (ha : sml L k a = true) : peq a a = true := SeqAt.eqv_refl _ (sml_ok ha).2.1
theorem ne_selfL {L k : Nat} {a : D} (ha : sml L k a = true) (hk : k ≤ 64) : cmpD .ne a a = some false := by
  rw [ne_sml ha ha hk hk, peq_selfL ha]
  rfl
theorem eq_selfL {L k : Nat} {a : D} (ha : sml L k a = true) (hk : k ≤ 64) : cmpD .eq a a = some true := by
  rw [eq_sml ha ha hk hk, peq_selfL ha]
/-- a tuple in a list of data -/
theorem notin_tup {L M k j : Nat} {xs : List D} {ys : List D} (hx : sml L k (.tup xs) = true) (hy : sml M j (.lst ys) = true) (hk : k ≤ 64) (hj : j ≤ 64) : cmpD .notIn (.tup xs) (.lst ys) = some (!(ys.any fun y => peq y (.tup xs))) := by
  have h1 : inD (.tup xs) ys = none := by unfold inD; simp [D.flat]
  have h2 : inS (.tup xs) (.lst ys) = some (ys.any fun y => peq y (.tup xs)) := by
    unfold inS
    simp only [h1]
    have a1 := (sml_ok hy).1
    rw [D.isData] at a1
    rw [if_pos ⟨(sml_ok hx).1, a1, sml_shaped hx hk, sml_shaped hy hj⟩, toPs_map, List.any_map]
    rfl
  show (inS (.tup xs) (.lst ys)).map (!·) = _
  rw [h2]
  rfl
/-! ### all sizes in a box -/
def gridI (t : Nat) : Nat → List (List Int)
  | 0 => [[]]
  | m + 1 => (gridI t m).flatMap fun s => (rangeI (t + 1)).map fun i => s ++ [i]
def szD (s : List Int) : D := .tup (s.map D.int)
theorem grid_mem {t : Nat} : ∀ {m : Nat} {s : List Int}, s ∈ gridI t m ↔ s.length = m ∧ ∀ x ∈ s, 0 ≤ x ∧ x ≤ t
  | 0, s => by
    show s ∈ [[]] ↔ _
    rw [List.mem_singleton, List.length_eq_zero_iff]
    exact ⟨fun h => ⟨h, by subst h; simp⟩, fun h => h.1⟩
  | m + 1, s => by
    show s ∈ (gridI t m).flatMap _ ↔ _
    rw [List.mem_flatMap]
    constructor
    · rintro ⟨r, hr, hs⟩
      obtain ⟨i, hi, rfl⟩ := List.mem_map.mp hs
      obtain ⟨h1, h2⟩ := grid_mem.mp hr
      rw [mem_range] at hi
      refine ⟨by simp [h1], fun x hx => ?_⟩
      rcases List.mem_append.mp hx with hx | hx
      · exact h2 x hx
      · rw [List.mem_singleton] at hx; subst hx; omega
    · rintro ⟨h1, h2⟩
      have hne : s ≠ [] := fun z => by rw [z] at h1; simp at h1
      refine ⟨s.dropLast, grid_mem.mpr ⟨by simp [h1], fun x hx => h2 x ((List.dropLast_sublist s).subset hx)⟩, List.mem_map.mpr ⟨s.getLast hne, ?_, List.dropLast_concat_getLast hne⟩⟩
      have := h2 _ (List.getLast_mem hne)
      rw [mem_range]
      omega
theorem grid_len {t : Nat} : ∀ {m : Nat}, (gridI t m).length = (t + 1) ^ m
  | 0 => rfl
  | m + 1 => by
    show ((gridI t m).flatMap _).length = _
    rw [flat_sum_len, Nat.pow_succ, ← grid_len (m := m)]
    simp [len_rangeI]
    generalize gridI t m = l
    induction l with
    | nil => simp
    | cons a l ih => simp only [List.map_cons, List.sum_cons, List.length_cons, ih, Nat.succ_mul]; omega
theorem grid_le {t m : Nat} (ht : t ≤ 6) (hm : m ≤ 3) : (gridI t m).length ≤ 343 := by
  rw [grid_len]
  have h1 : (t + 1) ^ m ≤ 7 ^ m := Nat.pow_le_pow_left (by omega) m
  have h2 : 7 ^ m ≤ 7 ^ 3 := Nat.pow_le_pow_right (by decide) hm
  omega
theorem szD_sml {s : List Int} {L : Nat} (h : s.length ≤ L) {k : Nat} : sml L (k + 1) (szD s) = true := sml_tup (by simpa using h) fun y hy => by
  obtain ⟨i, _, rfl⟩ := List.mem_map.mp hy
  exact sml_int
theorem szl_sml {l : List (List Int)} {m : Nat} (h : ∀ s ∈ l, s.length ≤ m) : sml (l.length + m) 2 (.lst (l.map szD)) = true := sml_lst (by simp) fun y hy => by
  obtain ⟨s, hs, rfl⟩ := List.mem_map.mp hy
  exact szD_sml (by have := h s hs; omega)
theorem peq_szD {a b : List Int} : peq (szD a) (szD b) = decide (a = b) := by
  unfold szD
  rw [peq_tup, peqs_ints]
/-! ### told means -/
def sumsQ : List (Option Rat) → List Int → List Rat
  | c :: cs, s :: ss => (match c with | some q => q * (s : Rat) | none => 0) :: sumsQ cs ss
  | _, _ => []
def goesB (ms : List (Option Rat)) (sz : List Int) : Bool := (ms.zip sz).all fun p => p.1.isNone == (p.2 == 0)
def toldB (d : D) (ms : List (Option Rat)) (e : Rat) (sz : List Int) : Bool := goesB ms sz && decide (endQ sz (sumsQ ms sz) d = e)
theorem sums_len : ∀ {ms : List (Option Rat)} {sz : List Int}, ms.length = sz.length → (sumsQ ms sz).length = sz.length
  | [], [], _ => rfl
  | c :: cs, s :: ss, h => by
    show (_ :: sumsQ cs ss).length = _
    rw [List.length_cons, List.length_cons, sums_len (by simpa using h)]
  | [], _ :: _, h => by simp at h
  | _ :: _, [], h => by simp at h
theorem sums_bd : ∀ {ms : List (Option Rat)} {sz : List Int}, (∀ c ∈ ms, ∀ q, c = some q → Bd 20 q) → (∀ x ∈ sz, 0 ≤ x ∧ x ≤ 1000000000000) → ∀ q ∈ sumsQ ms sz, Bd 60 q
  | [], _, _, _, q, h => by cases h
  | _ :: _, [], _, _, q, h => by cases h
  | c :: cs, s :: ss, hc, hs, q, h => by
    rcases List.mem_cons.mp h with rfl | h
    · have h1 := hs s List.mem_cons_self
      cases c with
      | none => exact Bd.zero.up (by omega)
      | some p => exact (hc _ List.mem_cons_self p rfl).mul (Bd.int (n := 40) (i := s) (by omega) (by omega))
    · exact sums_bd (fun c hc' => hc c (List.mem_cons_of_mem _ hc')) (fun x hx => hs x (List.mem_cons_of_mem _ hx)) q h
theorem sums_zip : ∀ {ms : List (Option Rat)} {sz : List Int}, ((ms.zip sz).map fun p => frD (match p.1 with | some q => q * (p.2 : Rat) | none => 0)) = (sumsQ ms sz).map frD
  | [], sz => by cases sz <;> rfl
  | _ :: _, [] => rfl
  | c :: cs, s :: ss => by
    show _ :: _ = _ :: _
    exact congrArg _ sums_zip
theorem fr_int1 {i : Int} : D.tup [.int i, .int 1] = frD (i : Rat) := by unfold frD; rw [Rat.num_intCast, Rat.den_intCast]; rfl
end Pz

/-! Pz38: schemes told with small numbers: their ends are small fractions. -/
namespace Pz
open PySem PySem.Spec PyProof.Rows L2
/-- told with numbers up to 3 alone -/
def n3 : Nat → D → Bool
  | k + 1, .tup (.str w :: r) => (numsI w r).all (fun n => decide (n ≤ 3)) && (itemsOf w r).all (n3 k)
  | _, _ => true
@[simp] theorem n3_int {k : Nat} {i : Int} : n3 k (.int i) = true := by cases k <;> rfl
theorem n3_tup {k : Nat} {w : Str} {r : List D} : n3 (k + 1) (.tup (.str w :: r)) = ((numsI w r).all (fun n => decide (n ≤ 3)) && (itemsOf w r).all (n3 k)) := rfl
theorem n3_up : ∀ {k : Nat} {d : D}, isItem k d = true → n3 k d = true → n3 (k + 1) d = true
  | k, d, h, hn => by
    rcases isItem_cases h with ⟨i, rfl, h1, h2⟩ | ⟨k', w, r, rfl, rfl, h1, h2, h3, h4⟩
    · simp
    · rw [n3_tup, Bool.and_eq_true, List.all_eq_true] at hn ⊢
      exact ⟨hn.1, by rw [List.all_eq_true]; rw [List.all_eq_true] at hn; exact fun y hy => n3_up (h4 y hy) (hn.2 y hy)⟩
theorem n3_ups {d : D} {k : Nat} (h : isItem k d = true) (hn : n3 k d = true) : ∀ j, n3 (k + j) d = true
  | 0 => hn
  | j + 1 => n3_up (item_ups h j).1 (n3_ups h hn j)
/-- a drawn item -/
structure Jtm (k m : Nat) (d : D) : Prop extends Itm k m d where
  sm3 : n3 k d = true
theorem Jtm.int {k m : Nat} {i : Int} (h0 : 0 ≤ i) (h1 : i < m) (hm : m ≤ 3) : Jtm k m (.int i) := ⟨Itm.int h0 h1 hm, by simp⟩
theorem Jtm.tup {k m : Nat} {w : Str} {r : List D} (hi : isItem (k + 1) (.tup (.str w :: r)) = true) (hn : ∀ n ∈ numsI w r, n ≤ 3) (h : ∀ y ∈ itemsOf w r, Jtm k m y) : Jtm (k + 1) m (.tup (.str w :: r)) := by
  refine ⟨Itm.tup hi fun y hy => (h y hy).toItm, ?_⟩
  rw [n3_tup, Bool.and_eq_true, List.all_eq_true, List.all_eq_true]
  exact ⟨fun n hn' => by simpa using hn n hn', fun y hy => (h y hy).sm3⟩
theorem nums_one {w : Str} {r : List D} (h : w ≠ "told") : ∀ n ∈ numsI w r, n ≤ 3 := fun n hn => by
  unfold numsI at hn
  rw [if_neg h] at hn
  have := (List.mem_replicate.mp hn).2
  omega
theorem nums_of {ns r : List D} (h : ∀ x ∈ ns, isFrom x 1 3 = true) : ∀ n ∈ numsI "told" (.tup ns :: r), n ≤ 3 := fun n hn => by
  unfold numsI at hn
  rw [if_pos rfl] at hn
  obtain ⟨y, hy, rfl⟩ := List.mem_map.mp hn
  obtain ⟨i, rfl, hi⟩ := isFrom_int (h y hy)
  exact hi.2
theorem from_up {x : D} (h : isFrom x 1 3 = true) : isFrom x 1 9 = true := by
  obtain ⟨i, rfl, h1, h2⟩ := isFrom_int h
  simp [isFrom]; omega
theorem plain_n3 {w : Str} {m k : Nat} (ht : w ≠ "told") : n3 (k + 1) (plainD w m) = true := by
  unfold plainD
  have e : itemsOf w ((rangeI m).map D.int) = (rangeI m).map D.int := by simp [itemsOf, ht]
  rw [n3_tup, e, Bool.and_eq_true, List.all_eq_true, List.all_eq_true]
  refine ⟨fun n hn => by simpa using nums_one ht n hn, fun y hy => ?_⟩
  obtain ⟨i, _, rfl⟩ := List.mem_map.mp hy
  simp
theorem left_n3 {m : Nat} {d : D} {w : Str} (hw2 : w ≠ "told") (h1 : isItem 3 d = true) (h2 : n3 3 d = true) (hi : isItem 4 (.tup (.str w :: d :: (leftI m d).map D.int)) = true) : n3 5 (.tup (.str w :: d :: (leftI m d).map D.int)) = true := by
  refine n3_up hi ?_
  have e : itemsOf w (d :: (leftI m d).map D.int) = d :: (leftI m d).map D.int := by simp [itemsOf, hw2]
  rw [n3_tup, e, Bool.and_eq_true, List.all_eq_true, List.all_eq_true]
  refine ⟨fun n hn => by simpa using nums_one hw2 n hn, fun y hy => ?_⟩
  rcases List.mem_cons.mp hy with rfl | hy
  · exact h2
  · obtain ⟨i, _, rfl⟩ := List.mem_map.mp hy
    simp
theorem left_item {m : Nat} {d : D} {w : Str} (hw : isWord w = true) (hw2 : w ≠ "told") (hm : 1 ≤ m ∧ m ≤ 3) (h1 : Itm 3 m d) : isItem 4 (.tup (.str w :: d :: (leftI m d).map D.int)) = true := by
  have hl : (leftI m d).length ≤ m := by
    have := List.length_filter_le (fun i => !(pl 3 d).contains i) (rangeI m)
    rw [len_rangeI] at this
    exact this
  have hl2 : ∀ i ∈ leftI m d, 0 ≤ i ∧ i < m := fun i hi => mem_range.mp (List.mem_filter.mp hi).1
  exact (mk_item (k := 3) (w := w) (r := d :: (leftI m d).map D.int) hw hw2 (by simp) (by simp; omega) (by
    intro y hy
    rcases List.mem_cons.mp hy with rfl | hy
    · exact h1.it
    · obtain ⟨i, hi, rfl⟩ := List.mem_map.mp hy
      have := hl2 i hi
      exact isItem_int this.1 (by omega))).1
/-- how heavy a join is, item by item -/
def heavyQ (w : Str) : List Int → List Int → Int
  | n :: ns, h :: hs => (if w = "sums" then h else if 0 < h then n else if w = "full" then 0 else n) + heavyQ w ns hs
  | _, _ => 0
theorem heavy_sums : ∀ {ns : List Int} {hs : List Int}, ns.length = hs.length → heavyQ "sums" ns hs = totI hs
  | [], [], _ => rfl
  | n :: ns, h :: hs, e => by
    rw [heavyQ, totI, heavy_sums (by simpa using e)]
    simp
  | [], _ :: _, e => by simp at e
  | _ :: _, [], e => by simp at e
theorem heavy_full : ∀ {ns : List Int} {hs : List Int}, ns.length = hs.length → (∀ n ∈ ns, n = 1) → heavyQ "full" ns hs = Pz.cnt hs
  | [], [], _, _ => rfl
  | n :: ns, h :: hs, e, h1 => by
    have ne : ¬ (("full" : Str) = "sums") := by decide +kernel
    have n1 := h1 n List.mem_cons_self
    rw [heavyQ, heavy_full (by simpa using e) fun x hx => h1 x (List.mem_cons_of_mem _ hx), if_neg ne, n1]
    unfold Pz.cnt
    rw [List.filter_cons]
    by_cases q : 0 < h
    · simp [q]; omega
    · simp [q]
  | [], _ :: _, e, _ => by simp at e
  | _ :: _, [], e, _ => by simp at e
theorem heavy_nums {w : Str} (w1 : ¬ w = "sums") (w2 : ¬ w = "full") : ∀ {ns : List Int} {hs : List Int}, ns.length = hs.length → heavyQ w ns hs = totI ns
  | [], [], _ => rfl
  | n :: ns, h :: hs, e => by
    rw [heavyQ, totI, heavy_nums w1 w2 (by simpa using e)]
    simp [w1, w2]
  | [], _ :: _, e => by simp at e
  | _ :: _, [], e => by simp at e
theorem heavy_wt {sz : List Int} {k : Nat} {w : Str} {r : List D} (h1 : wiOk (.str w :: r) = true) : heavyQ w (numsI w r) ((itemsOf w r).map (wt sz k)) = wt sz (k + 1) (.tup (.str w :: r)) := by
  obtain ⟨n1, n2⟩ := nums_ok h1
  rw [wt_tup]
  by_cases w1 : w = "sums"
  · subst w1
    rw [if_pos rfl]
    exact heavy_sums (by simpa using n1)
  · rw [if_neg w1]
    by_cases w2 : w = "full"
    · subst w2
      rw [if_pos rfl]
      refine heavy_full (by simpa using n1) fun n hn => ?_
      have ne : ¬ (("full" : Str) = "told") := by decide +kernel
      unfold numsI at hn
      rw [if_neg ne] at hn
      exact (List.mem_replicate.mp hn).2
    · rw [if_neg w2]
      exact heavy_nums w1 w2 (by simpa using n1)
end Pz

/-! Pz39: ends of small things are small fractions. -/
namespace Pz
open PySem PySem.Spec PyProof.Rows L2
/-- times a number an integer -/
def Dv (n : Int) (x : Rat) : Prop := ∃ z : Int, x * (n : Rat) = (z : Rat)
theorem Dv.int {z : Int} : Dv 1 (z : Rat) := ⟨z, by grind⟩
theorem Dv.mul {n m : Int} {x : Rat} (h : Dv n x) : Dv (n * m) x := by
  obtain ⟨z, e⟩ := h
  exact ⟨z * m, by rw [Rat.intCast_mul, Rat.intCast_mul, ← e]; grind⟩
theorem Dv.mul' {n m : Int} {x : Rat} (h : Dv n x) : Dv (m * n) x := by rw [Int.mul_comm]; exact h.mul
theorem Dv.add {n m : Int} {x y : Rat} (h : Dv n x) (k : Dv m y) : Dv (n * m) (x + y) := by
  obtain ⟨z, e⟩ := h
  obtain ⟨u, f⟩ := k
  exact ⟨z * m + u * n, by rw [Rat.intCast_mul, Rat.intCast_add, Rat.intCast_mul, Rat.intCast_mul, ← e, ← f]; grind⟩
theorem Dv.zero : Dv 1 0 := ⟨0, by simp⟩
theorem Dv.over {n w k : Int} {x : Rat} (h : Dv n x) (hw : w ≠ 0) : Dv (w * n) (x * (k : Rat) / (w : Rat)) := by
  obtain ⟨z, e⟩ := h
  have hw2 : (w : Rat) ≠ 0 := fun z => hw (by rwa [Rat.intCast_eq_zero_iff] at z)
  exact ⟨z * k, by rw [Rat.intCast_mul, Rat.intCast_mul, ← e]; grind⟩
theorem Dv.den {n : Int} {x : Rat} (h : Dv n x) (hn : 0 < n) : (x.den : Int) ≤ n := by
  obtain ⟨z, e⟩ := h
  have hn2 : (n : Rat) ≠ 0 := fun z => by rw [Rat.intCast_eq_zero_iff] at z; omega
  have ex : x = (z : Rat) / (n : Rat) := by grind
  have l := lowD_fr (a := z) hn
  rw [← ex] at l
  unfold lowD frD at l
  simp at l
  rw [← l.2]
  obtain ⟨m, rfl⟩ : ∃ m : Nat, n = m := ⟨n.toNat, by omega⟩
  rw [← Int.natCast_ediv]
  have := Nat.div_le_self m (z.gcd (m : Int))
  omega
/-- within five times its weight -/
def In5 (q : Rat) (w : Int) : Prop := -(5 * (w : Rat)) ≤ q ∧ q ≤ 5 * (w : Rat)
theorem In5.zero : In5 0 0 := ⟨by simp, by simp⟩
theorem In5.add {q r : Rat} {w v : Int} (h : In5 q w) (k : In5 r v) : In5 (q + r) (w + v) := by
  obtain ⟨h1, h2⟩ := h
  obtain ⟨k1, k2⟩ := k
  unfold In5
  rw [Rat.intCast_add]
  exact ⟨by grind, by grind⟩
theorem In5.div {q : Rat} {w : Int} (h : In5 q w) (hw : 0 < w) : In5 (q / (w : Rat)) 1 := by
  obtain ⟨h1, h2⟩ := h
  have w0 : (0 : Rat) < (w : Rat) := Rat.intCast_pos.mpr hw
  have wi : (0 : Rat) ≤ (w : Rat)⁻¹ := by have := Rat.inv_pos.mpr w0; grind
  have w1 : (w : Rat) * (w : Rat)⁻¹ = 1 := Rat.mul_inv_cancel _ (by grind)
  have m1 := Rat.mul_le_mul_of_nonneg_right h1 wi
  have m2 := Rat.mul_le_mul_of_nonneg_right h2 wi
  unfold In5
  rw [Rat.div_def]
  have e1 : -(5 * (w : Rat)) * (w : Rat)⁻¹ = -5 := by grind
  have e2 : 5 * (w : Rat) * (w : Rat)⁻¹ = 5 := by grind
  rw [e1] at m1
  rw [e2] at m2
  exact ⟨by grind, by grind⟩
theorem In5.mulN {q : Rat} {n : Int} (h : In5 q 1) (hn : 0 ≤ n) : In5 (q * (n : Rat)) n := by
  obtain ⟨h1, h2⟩ := h
  have n0 : (0 : Rat) ≤ (n : Rat) := Rat.intCast_nonneg.mpr hn
  have m1 := Rat.mul_le_mul_of_nonneg_right h1 n0
  have m2 := Rat.mul_le_mul_of_nonneg_right h2 n0
  unfold In5
  exact ⟨by grind, by grind⟩
/-- what an item adds, against what it weighs in its join -/
def addW (w : Str) (n h : Int) : Int := if w = "sums" then h else if 0 < h then n else if w = "full" then 0 else n
theorem addW_nn {w : Str} {n h : Int} (hn : 0 ≤ n) (hh : 0 ≤ h) : 0 ≤ addW w n h := by
  unfold addW
  split
  · exact hh
  · split
    · exact hn
    · split <;> omega
theorem In5.up {q : Rat} {w v : Int} (h : In5 q w) (l : w ≤ v) : In5 q v := by
  obtain ⟨h1, h2⟩ := h
  have : (w : Rat) ≤ (v : Rat) := Rat.intCast_le_intCast.mpr l
  exact ⟨by grind, by grind⟩
theorem In5.adds {w : Str} {n h : Int} {q : Rat} (hq : In5 q h) (hn : 0 ≤ n) (hh : 0 ≤ h) : In5 (addsQ w n q h) (addW w n h) := by
  unfold addsQ addW
  by_cases w1 : w = "sums"
  · simp only [w1, if_true]; exact hq
  · simp only [w1, if_false]
    by_cases w2 : 0 < h
    · simp only [w2, if_true]
      have e : q * (n : Rat) / (h : Rat) = q / (h : Rat) * (n : Rat) := by rw [Rat.div_def, Rat.div_def]; grind
      rw [e]
      exact (hq.div w2).mulN hn
    · simp only [w2, if_false]
      exact In5.zero.up (by split <;> omega)
theorem zip_in5 {w : Str} {f : D → Rat} {g : D → Int} : ∀ {ns : List Int} {xs : List D}, ns.length = xs.length → (∀ n ∈ ns, 0 ≤ n) → (∀ x ∈ xs, In5 (f x) (g x) ∧ 0 ≤ g x) → In5 (zipT ns xs fun n x => addsQ w n (f x) (g x)) (heavyQ w ns (xs.map g))
  | [], [], _, _, _ => In5.zero
  | [], _ :: _, h, _, _ => by simp at h
  | _ :: _, [], h, _, _ => by simp at h
  | n :: ns, x :: xs, h, hn, hx => by
    have h1 := hx x List.mem_cons_self
    have := (In5.adds (w := w) h1.1 (hn n List.mem_cons_self) h1.2).add (zip_in5 (w := w) (f := f) (g := g) (ns := ns) (xs := xs) (by simpa using h) (fun m hm => hn m (List.mem_cons_of_mem _ hm)) fun y hy => hx y (List.mem_cons_of_mem _ hy))
    exact this
/-- the parts' sums: each thing worth from -5 to 5 -/
def Sm5 (sz : List Int) (sm : List Rat) : Prop := ∀ i : Int, ∃ z : Int, smAt sm i = ((z * szAt sz i : Int) : Rat) ∧ -5 ≤ z ∧ z ≤ 5
theorem sq_in5 {m : Nat} {sz : List Int} {sm : List Rat} (hz : SzOk m sz) (h5 : Sm5 sz sm) : ∀ {k : Nat} {d : D}, isItem k d = true → In5 (sq sz sm k d) (wt sz k d)
  | k, d, h => by
    rcases isItem_cases h with ⟨i, rfl, h1, h2⟩ | ⟨k', w, r, rfl, rfl, h1, h2, h3, h4⟩
    · rw [sq_int, wt_int]
      obtain ⟨z, e, z1, z2⟩ := h5 i
      have hs := (hz.at i).1
      rw [e]
      unfold In5
      have b1 : -(5 * szAt sz i) ≤ z * szAt sz i := by
        have := Int.mul_le_mul_of_nonneg_right z1 hs
        omega
      have b2 : z * szAt sz i ≤ 5 * szAt sz i := Int.mul_le_mul_of_nonneg_right z2 hs
      have c1 := Rat.intCast_le_intCast.mpr b1
      have c2 := Rat.intCast_le_intCast.mpr b2
      rw [Rat.intCast_neg, Rat.intCast_mul] at c1
      rw [Rat.intCast_mul 5] at c2
      exact ⟨c1, c2⟩
    · rw [sq_tup, ← heavy_wt h1]
      obtain ⟨n1, n2⟩ := nums_ok h1
      exact zip_in5 n1 (fun n hn => by have := n2 n hn; omega) fun x hx => ⟨sq_in5 hz h5 (h4 x hx), (wt_le hz (h4 x hx)).1⟩
/-- the product of the weights of all joins -/
def prodI : List Int → Int
  | [] => 1
  | x :: xs => x * prodI xs
def qw (sz : List Int) : Nat → D → Int
  | k + 1, .tup (.str w :: r) => max 1 (wt sz (k + 1) (.tup (.str w :: r))) * prodI ((itemsOf w r).map (qw sz k))
  | _, _ => 1
@[simp] theorem qw_int {sz : List Int} {k : Nat} {i : Int} : qw sz k (.int i) = 1 := by cases k <;> rfl
theorem qw_tup {sz : List Int} {k : Nat} {w : Str} {r : List D} : qw sz (k + 1) (.tup (.str w :: r)) = max 1 (wt sz (k + 1) (.tup (.str w :: r))) * prodI ((itemsOf w r).map (qw sz k)) := rfl
theorem prod_pos : ∀ {l : List Int}, (∀ x ∈ l, 1 ≤ x) → 1 ≤ prodI l
  | [], _ => Int.le_refl 1
  | x :: xs, h => by
    have h1 := h x List.mem_cons_self
    have h2 := prod_pos (l := xs) fun y hy => h y (List.mem_cons_of_mem _ hy)
    show 1 ≤ x * prodI xs
    have : 0 < x * prodI xs := Int.mul_pos (by omega) (by omega)
    omega
theorem qw_pos {sz : List Int} : ∀ {k : Nat} {d : D}, isItem k d = true → 1 ≤ qw sz k d
  | k, d, h => by
    rcases isItem_cases h with ⟨i, rfl, h1, h2⟩ | ⟨k', w, r, rfl, rfl, h1, h2, h3, h4⟩
    · simp
    · rw [qw_tup]
      have hp : 1 ≤ prodI ((itemsOf w r).map (qw sz k')) := prod_pos fun x hx => by
        obtain ⟨y, hy, rfl⟩ := List.mem_map.mp hx
        exact qw_pos (h4 y hy)
      have : 0 < max 1 (wt sz (k' + 1) (.tup (.str w :: r))) * prodI ((itemsOf w r).map (qw sz k')) := Int.mul_pos (by omega) (by omega)
      omega
theorem zip_dv {w : Str} {f : D → Rat} {g q : D → Int} : ∀ {ns : List Int} {xs : List D}, (∀ x ∈ xs, ∀ n, Dv (q x) (addsQ w n (f x) (g x))) → Dv (prodI (xs.map q)) (zipT ns xs fun n x => addsQ w n (f x) (g x))
  | [], xs, _ => by
    have : (zipT [] xs fun n x => addsQ w n (f x) (g x)) = 0 := by cases xs <;> rfl
    rw [this]
    exact ⟨0, by simp⟩
  | n :: ns, [], _ => Dv.zero
  | n :: ns, x :: xs, h => (h x List.mem_cons_self n).add (zip_dv (w := w) (f := f) (g := g) (q := q) (ns := ns) fun y hy => h y (List.mem_cons_of_mem _ hy))
/-- the product of the weights of the joins below -/
def cw (sz : List Int) : Nat → D → Int
  | k + 1, .tup (.str w :: r) => prodI ((itemsOf w r).map (qw sz k))
  | _, _ => 1
@[simp] theorem cw_int {sz : List Int} {k : Nat} {i : Int} : cw sz k (.int i) = 1 := by cases k <;> rfl
theorem sq_dv {m : Nat} {sz : List Int} {sm : List Rat} (hz : SzOk m sz) (h5 : Sm5 sz sm) : ∀ {k : Nat} {d : D}, isItem k d = true → Dv (cw sz k d) (sq sz sm k d)
  | k, d, h => by
    rcases isItem_cases h with ⟨i, rfl, h1, h2⟩ | ⟨k', w, r, rfl, rfl, h1, h2, h3, h4⟩
    · rw [sq_int, cw_int]
      obtain ⟨z, e, _⟩ := h5 i
      rw [e]
      exact Dv.int
    · rw [sq_tup]
      show Dv (prodI ((itemsOf w r).map (qw sz k'))) _
      refine zip_dv fun x hx n => ?_
      have hw := (wt_le hz (h4 x hx)).1
      have ih := sq_dv hz h5 (h4 x hx)
      rcases isItem_cases (h4 x hx) with ⟨i, rfl, g1, g2⟩ | ⟨k2, w2, r2, rfl, rfl, g1, g2, g3, g4⟩
      · rw [qw_int, sq_int, wt_int]
        obtain ⟨z, e, _⟩ := h5 i
        unfold addsQ
        rw [e]
        split
        · exact Dv.int
        · split
          · rename_i q
            have s0 : ((szAt sz i : Int) : Rat) ≠ 0 := fun z => by rw [Rat.intCast_eq_zero_iff] at z; omega
            have : ((z * szAt sz i : Int) : Rat) * (n : Rat) / ((szAt sz i : Int) : Rat) = ((z * n : Int) : Rat) := by
              rw [Rat.intCast_mul, Rat.intCast_mul]; grind
            rw [this]
            exact Dv.int
          · exact Dv.zero
      · have eq : qw sz (k2 + 1) (.tup (.str w2 :: r2)) = max 1 (wt sz (k2 + 1) (.tup (.str w2 :: r2))) * cw sz (k2 + 1) (.tup (.str w2 :: r2)) := rfl
        rw [eq]
        unfold addsQ
        split
        · exact ih.mul'
        · split
          · rename_i q
            have : max 1 (wt sz (k2 + 1) (.tup (.str w2 :: r2))) = wt sz (k2 + 1) (.tup (.str w2 :: r2)) := by omega
            rw [this]
            exact ih.over (by omega)
          · exact ⟨0, by simp⟩
/-- with sizes up to 5 and numbers up to 3 -/
theorem wt_5 {sz : List Int} (h0 : ∀ i : Int, 0 ≤ szAt sz i ∧ szAt sz i ≤ 5) : ∀ {k : Nat} {d : D}, isItem k d = true → n3 k d = true → 0 ≤ wt sz k d ∧ wt sz k d ≤ 5 * ((pl k d).length : Int)
  | k, d, h, hn => by
    rcases isItem_cases h with ⟨i, rfl, h1, h2⟩ | ⟨k', w, r, rfl, rfl, h1, h2, h3, h4⟩
    · simp; exact h0 i
    · rw [n3_tup, Bool.and_eq_true, List.all_eq_true, List.all_eq_true] at hn
      rw [wt_tup, pl_tup, flat_sum_len]
      have hg : (itemsOf w r).length ≤ ((itemsOf w r).map fun a => (pl k' a).length).sum := sum_ge fun a ha => List.length_pos_iff.mpr (pl_pos (h4 a ha))
      split
      · exact totI_le (g := fun a => (pl k' a).length) fun a ha => wt_5 h0 (h4 a ha) (hn.2 a ha)
      · split
        · unfold cnt
          have := List.length_filter_le (fun x => decide (0 < x)) ((itemsOf w r).map (wt sz k'))
          rw [List.length_map] at this
          omega
        · obtain ⟨n1, n2⟩ := nums_ok h1
          have n4 : ∀ {l : List Int}, (∀ x ∈ l, 1 ≤ x ∧ x ≤ 3) → 0 ≤ totI l ∧ totI l ≤ 3 * (l.length : Int) := by
            intro l
            induction l with
            | nil => simp [totI]
            | cons x l ih =>
              intro h
              have q1 := h x List.mem_cons_self
              have q2 := ih fun y hy => h y (List.mem_cons_of_mem _ hy)
              rw [totI, List.length_cons]
              omega
          have := n4 (l := numsI w r) fun x hx => ⟨(n2 x hx).1, by simpa using hn.1 x hx⟩
          omega
theorem flat_mem_len {A B : Type} {f : A → List B} {y : A} : ∀ {l : List A}, y ∈ l → (f y).length ≤ (l.flatMap f).length
  | [], h => by cases h
  | a :: l, h => by
    rw [List.flatMap_cons, List.length_append]
    rcases List.mem_cons.mp h with rfl | h
    · omega
    · have := flat_mem_len (f := f) h; omega
theorem qw_le {sz : List Int} (h0 : ∀ i : Int, 0 ≤ szAt sz i ∧ szAt sz i ≤ 5) : ∀ {k : Nat} {d : D}, isItem k d = true → n3 k d = true → (pl k d).length ≤ 8 → qw sz k d ≤ 40 ^ (joins k d).length
  | k, d, h, hn, hp => by
    have hw := wt_5 h0 h hn
    rcases isItem_cases h with ⟨i, rfl, h1, h2⟩ | ⟨k', w, r, rfl, rfl, h1, h2, h3, h4⟩
    · simp
    · rw [n3_tup, Bool.and_eq_true, List.all_eq_true, List.all_eq_true] at hn
      rw [qw_tup, joins_tup, List.length_cons, Int.pow_succ, Int.mul_comm]
      have sub : ∀ y ∈ itemsOf w r, (pl k' y).length ≤ 8 := fun y hy => by
        have : (pl k' y).length ≤ (pl (k' + 1) (.tup (.str w :: r))).length := by
          rw [pl_tup]
          exact flat_mem_len hy
        omega
      have hpr : ∀ (l : List D), (∀ y ∈ l, y ∈ itemsOf w r) → prodI (l.map (qw sz k')) ≤ 40 ^ (l.flatMap (joins k')).length := by
        intro l
        induction l with
        | nil => intro _; simp [prodI]
        | cons y l ih =>
          intro hl
          have hy := hl y List.mem_cons_self
          have i1 := qw_le h0 (h4 y hy) (hn.2 y hy) (sub y hy)
          have i2 := ih fun z hz => hl z (List.mem_cons_of_mem _ hz)
          rw [List.map_cons, List.flatMap_cons, List.length_append, Int.pow_add]
          show qw sz k' y * prodI (l.map (qw sz k')) ≤ _
          have p1 := qw_pos (sz := sz) (h4 y hy)
          have p2 : 0 ≤ prodI (l.map (qw sz k')) := by
            have := prod_pos (l := l.map (qw sz k')) fun x hx => by
              obtain ⟨z, hz, rfl⟩ := List.mem_map.mp hx
              exact qw_pos (h4 z (hl z (List.mem_cons_of_mem _ hz)))
            omega
          exact Int.mul_le_mul i1 i2 p2 (by omega)
      have h5 := hpr (itemsOf w r) fun y hy => hy
      have p2 : 0 ≤ prodI ((itemsOf w r).map (qw sz k')) := by
        have := prod_pos (l := (itemsOf w r).map (qw sz k')) fun x hx => by
          obtain ⟨z, hz, rfl⟩ := List.mem_map.mp hx
          exact qw_pos (h4 z hz)
        omega
      exact Int.mul_le_mul h5 (by omega) (by omega) (by omega)
theorem end_small {m : Nat} {sz : List Int} {sm : List Rat} {d : D} (hd : isRight d = true) (hn : n3 5 d = true) (hz : SzOk m sz) (h5 : Sm5 sz sm) (h0 : ∀ i : Int, 0 ≤ szAt sz i ∧ szAt sz i ≤ 5) : isFrac 1000000000 (frD (endQ sz sm d)) = true := by
  have hi := right_item hd
  simp only [isRight, Bool.and_eq_true, decide_eq_true_eq] at hd
  have hq := qw_le h0 hi hn hd.2.1.1
  have hq1 := qw_pos (sz := sz) hi
  have hj : (40 : Int) ^ (joins 5 d).length ≤ 40 ^ 5 := by
    have : (40 : Nat) ^ (joins 5 d).length ≤ 40 ^ 5 := Nat.pow_le_pow_right (by decide) hd.2.1.2
    exact_mod_cast this
  have key : ((endQ sz sm d).den : Int) ≤ 102400000 ∧ In5 (endQ sz sm d) 1 := by
    unfold endQ
    split
    · rename_i q
      refine ⟨?_, (sq_in5 hz h5 hi).div q⟩
      have dv := (sq_dv hz h5 hi).over (k := 1) (w := wt sz 5 d) (by omega)
      have e1 : sq sz sm 5 d * ((1 : Int) : Rat) / (wt sz 5 d : Rat) = sq sz sm 5 d / (wt sz 5 d : Rat) := by
        rw [show ((1 : Int) : Rat) = 1 from rfl, Rat.mul_one]
      rw [e1] at dv
      rcases isItem_cases hi with ⟨i, rfl, g1, g2⟩ | ⟨k2, w2, r2, e, rfl, g1, g2, g3, g4⟩
      · simp [isTup] at hd
      · cases e
        have eq : qw sz 5 (.tup (.str w2 :: r2)) = max 1 (wt sz 5 (.tup (.str w2 :: r2))) * cw sz 5 (.tup (.str w2 :: r2)) := rfl
        have : max 1 (wt sz 5 (.tup (.str w2 :: r2))) = wt sz 5 (.tup (.str w2 :: r2)) := by omega
        rw [this] at eq
        rw [← eq] at dv
        have := dv.den (by omega)
        omega
    · exact ⟨by decide, In5.zero.up (by omega)⟩
  obtain ⟨k1, k2, k3⟩ := key
  generalize endQ sz sm d = e at k1 k2 k3
  have h3 := e.den_pos
  have h4 : Int.gcd e.num (e.den : Int) = 1 := e.reduced
  rw [show ((1 : Int) : Rat) = 1 from rfl, Rat.mul_one] at k2 k3
  rw [Rat.le_iff] at k2 k3
  have n5 : (5 : Rat).num = 5 := rfl
  have d5 : (5 : Rat).den = 1 := rfl
  have n6 : (-5 : Rat).num = -5 := rfl
  have d6 : (-5 : Rat).den = 1 := rfl
  rw [n6, d6] at k2
  rw [n5, d5] at k3
  unfold frD isFrac
  simp only [isFrom, Bool.and_eq_true, decide_eq_true_eq]
  exact ⟨⟨⟨by omega, by omega⟩, by omega, by omega⟩, h4⟩
end Pz

/-! Pz40: the greatest misses; the first sizes that miss most; sizes by their sums. -/
namespace Pz
open PySem PySem.Spec PyProof.Rows L2
/-- by how much the end can be above, below the true mean -/
def missA (due : Rat) : List (Option Rat) → List Int → Rat
  | c :: cs, s :: ss => (match c with
    | some q => if due < q then (q - due) * (s : Rat) else 0
    | none => 0) + missA due cs ss
  | _, _ => 0
def missB (due : Rat) : List (Option Rat) → List Int → Rat
  | c :: cs, s :: ss => (match c with
    | some q => if due < q then 0 else (due - q) * (s : Rat)
    | none => 0) + missB due cs ss
  | _, _ => 0
def missD (due : Rat) (cs : List (Option Rat)) (sz : List Int) : D := .tup [frD (missA due cs sz), frD (missB due cs sz)]
theorem Bd.neg {n : Nat} {q : Rat} (h : Bd n q) : Bd n (-q) := by
  refine ⟨?_, ?_⟩
  · rw [Rat.neg_num, Int.natAbs_neg]; exact h.1
  · rw [Rat.neg_den]; exact h.2
theorem Bd.sub {n m : Nat} {p q : Rat} (hp : Bd n p) (hq : Bd m q) : Bd (n + m + 1) (p - q) := by
  rw [Rat.sub_eq_add_neg]; exact hp.add hq.neg
theorem fr_neg {q : Rat} : D.tup [.int (-q.num), .int (q.den : Int)] = frD (-q) := by
  unfold frD
  rw [Rat.neg_num, Rat.neg_den]
theorem miss_bds {n m : Nat} {due : Rat} (hd : Bd n due) : ∀ {cs : List (Option Rat)} {sz : List Int} {a : Nat}, (∀ c ∈ cs, ∀ q, c = some q → Bd a q) → (∀ x ∈ sz, x.natAbs < 2 ^ m) → 0 < m → Bd (1 + cs.length * (n + a + m + 2)) (missA due cs sz) ∧ Bd (1 + cs.length * (n + a + m + 2)) (missB due cs sz)
  | [], _, a, _, _, _ => ⟨Bd.zero.up (by omega), Bd.zero.up (by omega)⟩
  | _ :: _, [], a, _, _, _ => ⟨Bd.zero.up (by omega), Bd.zero.up (by omega)⟩
  | c :: cs, s :: ss, a, hc, hs, hm => by
    obtain ⟨i1, i2⟩ := miss_bds hd (cs := cs) (sz := ss) (fun y hy => hc y (List.mem_cons_of_mem _ hy)) (fun y hy => hs y (List.mem_cons_of_mem _ hy)) hm
    have s1 : Bd m (s : Rat) := Bd.int (hs s List.mem_cons_self) hm
    rw [List.length_cons, Nat.add_mul, Nat.one_mul]
    constructor
    · unfold missA
      refine (Bd.add (n := n + a + m + 1) ?_ i1).up (by omega)
      cases c with
      | none => exact Bd.zero.up (by omega)
      | some q =>
        dsimp only
        split
        · exact (((hc _ List.mem_cons_self q rfl).sub hd).mul s1).up (by omega)
        · exact Bd.zero.up (by omega)
    · unfold missB
      refine (Bd.add (n := n + a + m + 1) ?_ i2).up (by omega)
      cases c with
      | none => exact Bd.zero.up (by omega)
      | some q =>
        dsimp only
        split
        · exact Bd.zero.up (by omega)
        · exact ((hd.sub (hc _ List.mem_cons_self q rfl)).mul s1).up (by omega)

/-- the first of some sizes with the greatest miss -/
def better (f : List Int → Rat) (b : Option (Rat × List Int)) (s : List Int) : Option (Rat × List Int) := match b with
  | none => some (f s, s)
  | some (q, x) => if q < f s then some (f s, s) else some (q, x)
def worstF (f : List Int → Rat) : Option (Rat × List Int) → List (List Int) → Option (Rat × List Int)
  | b, [] => b
  | b, s :: l => worstF f (better f b s) l
theorem better_some {f : List Int → Rat} {b : Option (Rat × List Int)} {s : List Int} : ∃ q x, better f b s = some (q, x) := by
  unfold better
  split
  · exact ⟨_, _, rfl⟩
  · split <;> exact ⟨_, _, rfl⟩
theorem worst_some {f : List Int → Rat} : ∀ {l : List (List Int)} {b : Option (Rat × List Int)}, (b ≠ none ∨ l ≠ []) → ∃ q x, worstF f b l = some (q, x)
  | [], b, h => by
    cases b with
    | none => simp at h
    | some p => exact ⟨p.1, p.2, rfl⟩
  | s :: l, b, _ => by
    obtain ⟨q, x, e⟩ := better_some (f := f) (b := b) (s := s)
    show ∃ q x, worstF f (better f b s) l = _
    rw [e]
    exact worst_some (.inl (by simp))

/-! ### sizes by their sums -/
def insZ (a : List Int) : List (List Int) → List (List Int)
  | [] => [a]
  | b :: r => if totI a ≤ totI b then a :: b :: r else b :: insZ a r
def sortZ (l : List (List Int)) : List (List Int) := l.foldr insZ []
theorem sum_szD {s : List Int} : sumK (szD s) = totI s := by
  unfold szD sumK
  dsimp only
  rw [ofInts_map]
  exact sum_tot
theorem ins_szD {a : List Int} : ∀ {l : List (List Int)}, insBy sumK (szD a) (l.map szD) = (insZ a l).map szD
  | [] => rfl
  | b :: r => by
    rw [List.map_cons]
    unfold insBy insZ
    rw [sum_szD, sum_szD]
    split
    · rfl
    · rw [List.map_cons, ins_szD]
theorem sort_szD : ∀ {l : List (List Int)}, sortBy sumK (l.map szD) = (sortZ l).map szD
  | [] => rfl
  | a :: l => by
    show insBy sumK (szD a) (sortBy sumK (l.map szD)) = (insZ a (sortZ l)).map szD
    rw [sort_szD, ins_szD]
theorem insZ_mem {a x : List Int} : ∀ {l : List (List Int)}, x ∈ insZ a l ↔ x = a ∨ x ∈ l
  | [] => by simp [insZ]
  | b :: r => by
    unfold insZ
    split
    · simp
    · simp [insZ_mem (l := r)]
      constructor
      · rintro (h | h | h)
        · exact .inr (.inl h)
        · exact .inl h
        · exact .inr (.inr h)
      · rintro (h | h | h)
        · exact .inr (.inl h)
        · exact .inl h
        · exact .inr (.inr h)
theorem sortZ_mem {x : List Int} : ∀ {l : List (List Int)}, x ∈ sortZ l ↔ x ∈ l
  | [] => by simp [sortZ]
  | a :: l => by
    show x ∈ insZ a (sortZ l) ↔ _
    rw [insZ_mem, sortZ_mem, List.mem_cons]
theorem insZ_len {a : List Int} : ∀ {l : List (List Int)}, (insZ a l).length = l.length + 1
  | [] => rfl
  | b :: r => by
    unfold insZ
    split
    · rfl
    · rw [List.length_cons, insZ_len, List.length_cons]
theorem sortZ_len : ∀ {l : List (List Int)}, (sortZ l).length = l.length
  | [] => rfl
  | a :: l => by
    show (insZ a (sortZ l)).length = _
    rw [insZ_len, sortZ_len]; rfl
theorem totI_app : ∀ {s : List Int} {i : Int}, totI (s ++ [i]) = totI s + i
  | [], i => by simp [totI]
  | x :: s, i => by
    show x + totI (s ++ [i]) = x + totI s + i
    rw [totI_app]; omega
theorem tot_zeros : ∀ {m : Nat}, totI (List.replicate m 0) = 0
  | 0 => rfl
  | m + 1 => by
    show 0 + totI (List.replicate m 0) = 0
    rw [tot_zeros]; rfl
theorem range_0 {t : Nat} : ∃ r, rangeI (t + 1) = 0 :: r ∧ ∀ i ∈ r, 1 ≤ i := by
  unfold rangeI
  refine ⟨(List.range t).map fun i => ((i + 1 : Nat) : Int), ?_, fun i hi => ?_⟩
  · rw [List.range_succ_eq_map, List.map_cons, List.map_map]; rfl
  · obtain ⟨j, _, rfl⟩ := List.mem_map.mp hi; omega
/-- nothing at all stands first in a box -/
theorem grid_zero {t : Nat} : ∀ {m : Nat}, ∃ r, gridI t m = List.replicate m 0 :: r ∧ ∀ s ∈ r, 0 < totI s
  | 0 => ⟨[], rfl, by simp⟩
  | m + 1 => by
    obtain ⟨r, e, h⟩ := grid_zero (t := t) (m := m)
    obtain ⟨k, e2, h2⟩ := range_0 (t := t)
    refine ⟨(k.map fun i => List.replicate m 0 ++ [i]) ++ r.flatMap fun s => (rangeI (t + 1)).map fun i => s ++ [i], ?_, fun s hs => ?_⟩
    · show ((gridI t m).flatMap fun s => (rangeI (t + 1)).map fun i => s ++ [i]) = _
      rw [e, List.flatMap_cons, e2, List.map_cons, List.cons_append, List.replicate_succ']
    · rcases List.mem_append.mp hs with hs | hs
      · obtain ⟨i, hi, rfl⟩ := List.mem_map.mp hs
        rw [totI_app, tot_zeros]
        have := h2 i hi
        omega
      · obtain ⟨x, hx, hs⟩ := List.mem_flatMap.mp hs
        obtain ⟨i, hi, rfl⟩ := List.mem_map.mp hs
        rw [totI_app]
        have := h x hx
        have := (mem_range.mp hi).1
        omega
/-- the box but for nothing at all, by sums -/
def risingI (t m : Nat) : List (List Int) := sortZ (gridI t m).tail
theorem sort_grid {t m : Nat} : sortZ (gridI t m) = List.replicate m 0 :: risingI t m := by
  obtain ⟨r, e, h⟩ := grid_zero (t := t) (m := m)
  unfold risingI
  rw [e, List.tail_cons]
  show insZ _ (sortZ r) = _
  cases q : sortZ r with
  | nil => rfl
  | cons b l =>
    have hb : b ∈ r := sortZ_mem.mp (by rw [q]; exact List.mem_cons_self)
    have := h b hb
    unfold insZ
    rw [if_pos (by rw [tot_zeros]; omega)]
theorem rising_mem {t m : Nat} {s : List Int} (h : s ∈ risingI t m) : s ∈ gridI t m ∧ 0 < totI s := by
  obtain ⟨r, e, k⟩ := grid_zero (t := t) (m := m)
  unfold risingI at h
  rw [e, List.tail_cons] at h
  have h' := sortZ_mem.mp h
  exact ⟨by rw [e]; exact List.mem_cons_of_mem _ h', k s h'⟩
theorem rising_ne {t m : Nat} (ht : 1 ≤ t) (hm : 1 ≤ m) : risingI t m ≠ [] := by
  intro e
  have h1 := sortZ_len (l := (gridI t m).tail)
  unfold risingI at e
  rw [e] at h1
  simp only [List.length_nil, List.length_tail, grid_len] at h1
  have : 2 ≤ (t + 1) ^ m := Nat.le_trans (by rw [Nat.pow_one]; omega : 2 ≤ (t + 1) ^ 1) (Nat.pow_le_pow_right (by omega) hm)
  omega
end Pz

/-! Pz41: by how much an end is above the true mean; runs of worths from 0 to 1. -/
namespace Pz
open PySem PySem.Spec PyProof.Rows L2
def gapS (due : Rat) : List (Option Rat) → List Rat → Rat
  | c :: cs, x :: xs => (match c with
    | some q => (q - due) * x
    | none => 0) + gapS due cs xs
  | _, _ => 0
/-- parts without things, by what they count -/
def NZ : List (Option Rat) → List Rat → Prop
  | c :: cs, x :: xs => (c = none → x = 0) ∧ NZ cs xs
  | [], [] => True
  | _, _ => False
theorem mix_gap {due : Rat} : ∀ {cs : List (Option Rat)} {sm : List Rat}, NZ cs sm → mixQ cs sm - tot sm * due = gapS due cs sm
  | [], [], _ => by simp only [mixQ, tot, gapS]; grind
  | c :: cs, x :: xs, h => by
    have ih := mix_gap (due := due) h.2
    unfold mixQ tot gapS
    rw [← ih]
    cases c with
    | none => rw [h.1 rfl]; dsimp only; grind
    | some q => dsimp only; grind
  | [], _ :: _, h => h.elim
  | _ :: _, [], h => h.elim
/-- what counts goes with sizes -/
def CS : List (Option Rat) → List Int → Prop
  | c :: cs, s :: ss => (c = none ↔ ¬ 0 < s) ∧ CS cs ss
  | [], [] => True
  | _, _ => False
theorem CS.len : ∀ {cs : List (Option Rat)} {sz : List Int}, CS cs sz → cs.length = sz.length
  | [], [], _ => rfl
  | _ :: cs, _ :: ss, h => by rw [List.length_cons, List.length_cons, CS.len h.2]
  | [], _ :: _, h => h.elim
  | _ :: _, [], h => h.elim
/-- sums from 0 to the sizes -/
def Un1 : List Int → List Rat → Prop
  | s :: ss, x :: xs => (0 ≤ x ∧ x ≤ (s : Rat)) ∧ Un1 ss xs
  | [], [] => True
  | _, _ => False
theorem Un1.len : ∀ {sz : List Int} {sm : List Rat}, Un1 sz sm → sm.length = sz.length
  | [], [], _ => rfl
  | _ :: cs, _ :: ss, h => by rw [List.length_cons, List.length_cons, Un1.len h.2]
  | [], _ :: _, h => h.elim
  | _ :: _, [], h => h.elim
theorem un_zero {s : Int} {x : Rat} (h : 0 ≤ x ∧ x ≤ (s : Rat)) (h0 : ¬ 0 < s) : x = 0 := by
  have : (s : Rat) ≤ 0 := by
    have h1 : s ≤ 0 := by omega
    exact_mod_cast h1
  grind
theorem Un1.nz : ∀ {cs : List (Option Rat)} {sz : List Int} {sm : List Rat}, CS cs sz → Un1 sz sm → NZ cs sm
  | [], [], [], _, _ => trivial
  | c :: cs, s :: ss, x :: xs, h, k => ⟨fun e => un_zero k.1 (h.1.mp e), Un1.nz h.2 k.2⟩
  | [], _ :: _, _, h, _ => h.elim
  | _ :: _, [], _, h, _ => h.elim
  | [], [], _ :: _, _, k => k.elim
  | _ :: _, _ :: _, [], _, k => k.elim
theorem Un1.at : ∀ {sz : List Int} {sm : List Rat}, Un1 sz sm → ∀ j : Nat, ¬ 0 < sz.getD j 0 → sm.getD j 0 = 0
  | [], [], _, j, _ => by simp
  | s :: ss, x :: xs, h, 0, h0 => un_zero h.1 h0
  | s :: ss, x :: xs, h, j + 1, h0 => Un1.at h.2 j h0
  | [], _ :: _, h, _, _ => h.elim
  | _ :: _, [], h, _, _ => h.elim
theorem mul_le_r {a b c : Rat} (h : a ≤ b) (hc : 0 ≤ c) : c * a ≤ c * b := Rat.mul_le_mul_of_nonneg_left h hc
theorem gap_in {due : Rat} : ∀ {cs : List (Option Rat)} {sz : List Int} {sm : List Rat}, CS cs sz → Un1 sz sm → gapS due cs sm ≤ missA due cs sz ∧ -missB due cs sz ≤ gapS due cs sm
  | [], [], [], _, _ => by simp [gapS, missA, missB]
  | c :: cs, s :: ss, x :: xs, h, k => by
    obtain ⟨i1, i2⟩ := gap_in (due := due) h.2 k.2
    unfold gapS missA missB
    cases c with
    | none => dsimp only; grind
    | some q =>
      dsimp only
      by_cases p : due < q
      · rw [if_pos p, if_pos p]
        have h1 := mul_le_r k.1.2 (c := q - due) (by grind)
        have h2 := mul_le_r k.1.1 (c := q - due) (by grind)
        grind
      · rw [if_neg p, if_neg p]
        have h1 := mul_le_r k.1.2 (c := due - q) (by grind)
        have h2 := mul_le_r k.1.1 (c := due - q) (by grind)
        grind
  | [], _ :: _, _, h, _ => h.elim
  | _ :: _, [], _, h, _ => h.elim
  | [], [], _ :: _, _, k => k.elim
  | _ :: _, _ :: _, [], _, k => k.elim
/-- whether a thing counts more than it is due -/
def moreB (due : Rat) : Option Rat → Bool
  | some q => decide (due < q)
  | none => false
def selQ (b : Bool) (c : Bool) (s : Int) : Rat := if b == c then (s : Rat) else 0
def selS (b : Bool) (due : Rat) : List (Option Rat) → List Int → List Rat
  | c :: cs, s :: ss => selQ b (moreB due c) s :: selS b due cs ss
  | _, _ => []
theorem sel_high {due : Rat} : ∀ {cs : List (Option Rat)} {sz : List Int}, cs.length = sz.length → gapS due cs (selS true due cs sz) = missA due cs sz
  | [], [], _ => rfl
  | c :: cs, s :: ss, h => by
    have ih := sel_high (due := due) (cs := cs) (sz := ss) (by simpa using h)
    unfold selS gapS missA
    rw [ih]
    cases c with
    | none => rfl
    | some q => by_cases p : due < q <;> simp [selQ, moreB, p]
  | [], _ :: _, h => by simp at h
  | _ :: _, [], h => by simp at h
theorem sel_low {due : Rat} : ∀ {cs : List (Option Rat)} {sz : List Int}, cs.length = sz.length → gapS due cs (selS false due cs sz) = -missB due cs sz
  | [], [], _ => by simp [selS, gapS, missB]
  | c :: cs, s :: ss, h => by
    have ih := sel_low (due := due) (cs := cs) (sz := ss) (by simpa using h)
    unfold selS gapS missB
    rw [ih]
    cases c with
    | none => dsimp only; grind
    | some q => by_cases p : due < q <;> simp [selQ, moreB, p] <;> grind
  | [], _ :: _, h => by simp at h
  | _ :: _, [], h => by simp at h
theorem sel_un {b : Bool} {due : Rat} : ∀ {cs : List (Option Rat)} {sz : List Int}, cs.length = sz.length → (∀ x ∈ sz, 0 ≤ x) → Un1 sz (selS b due cs sz)
  | [], [], _, _ => trivial
  | c :: cs, s :: ss, h, h0 => by
    refine ⟨?_, sel_un (by simpa using h) fun x hx => h0 x (List.mem_cons_of_mem _ hx)⟩
    have : (0 : Rat) ≤ (s : Rat) := by
      have := h0 s List.mem_cons_self
      exact_mod_cast this
    unfold selQ
    split <;> grind
  | [], _ :: _, h, _ => by simp at h
  | _ :: _, [], h, _ => by simp at h

/-! ### runs as lots of fractions -/
def lotR (l : List Rat) : D := .tup (l.map frD)
def runR (ls : List (List Rat)) : D := .tup (ls.map lotR)
def runL (ls : List (List Rat)) : List Int := ls.map fun l => (l.length : Int)
def totS (ls : List (List Rat)) : List Rat := ls.map tot
theorem tot_rep {x : Rat} : ∀ {n : Nat}, tot (List.replicate n x) = (n : Rat) * x
  | 0 => by simp [tot]
  | n + 1 => by
    show x + tot (List.replicate n x) = _
    rw [tot_rep]
    push_cast
    grind
theorem tot_un : ∀ {l : List Rat}, (∀ q ∈ l, 0 ≤ q ∧ q ≤ 1) → 0 ≤ tot l ∧ tot l ≤ (l.length : Rat)
  | [], _ => by simp [tot]
  | x :: l, h => by
    obtain ⟨h1, h2⟩ := tot_un (l := l) fun q hq => h q (List.mem_cons_of_mem _ hq)
    have := h x List.mem_cons_self
    show 0 ≤ x + tot l ∧ x + tot l ≤ ((l.length + 1 : Nat) : Rat)
    push_cast
    grind
theorem run_un : ∀ {ls : List (List Rat)}, (∀ l ∈ ls, ∀ q ∈ l, 0 ≤ q ∧ q ≤ 1) → Un1 (runL ls) (totS ls)
  | [], _ => trivial
  | l :: ls, h => ⟨by
    have := tot_un (h l List.mem_cons_self)
    show 0 ≤ tot l ∧ tot l ≤ (((l.length : Nat) : Int) : Rat)
    rw [Rat.intCast_natCast]
    exact this, run_un fun x hx => h x (List.mem_cons_of_mem _ hx)⟩
/-- the runs by what counts more, or not -/
def selR (b : Bool) (due : Rat) (cs : List (Option Rat)) (sz : List Int) : List (List Rat) := (cs.zip sz).map fun p => List.replicate p.2.toNat (if b == moreB due p.1 then 1 else 0)
theorem sel_tot {b : Bool} {due : Rat} : ∀ {cs : List (Option Rat)} {sz : List Int}, cs.length = sz.length → (∀ x ∈ sz, 0 ≤ x) → totS (selR b due cs sz) = selS b due cs sz ∧ runL (selR b due cs sz) = sz
  | [], [], _, _ => ⟨rfl, rfl⟩
  | c :: cs, s :: ss, h, h0 => by
    obtain ⟨i1, i2⟩ := sel_tot (b := b) (due := due) (cs := cs) (sz := ss) (by simpa using h) fun x hx => h0 x (List.mem_cons_of_mem _ hx)
    have hs := h0 s List.mem_cons_self
    have hn : ((s.toNat : Nat) : Int) = s := by omega
    constructor
    · show tot (List.replicate s.toNat (if b == moreB due c then 1 else 0)) :: totS (selR b due cs ss) = selQ b (moreB due c) s :: _
      rw [i1, tot_rep]
      congr 1
      have : ((s.toNat : Nat) : Rat) = (s : Rat) := by
        rw [← Rat.intCast_natCast, hn]
      rw [this]
      unfold selQ
      split <;> grind
    · show ((List.replicate s.toNat (if b == moreB due c then (1 : Rat) else 0)).length : Int) :: runL (selR b due cs ss) = _
      rw [i2, List.length_replicate, hn]
  | [], _ :: _, h, _ => by simp at h
  | _ :: _, [], h, _ => by simp at h
end Pz

/-! printed by gen.py: the IR of the program. -/
namespace LK
open PySem PySem.Spec PyProof.Rows L2 Pz
def top (i : Nat) : Stmt := PySem.Challenge.pw_partmeans_k51_whole_greatest_misses.main.body.getD i (.Pass ⟨0, 0, 0, 0⟩)
def f_is_from : Fn := ⟨3, 3, .cons (.ret (.and (.cons (.isi (.var 0) .int) (.cons (.not (.isi (.var 0) .bool)) (.cons (.cmp2 .le .le (.var 1) (.var 0) (.var 2)) .nil))))) .nil, false, false⟩
def f_divisor_b0 : ISs := .cons (.par [0, 1] [] (.cons (.var 1) (.cons (.bin .mod (.var 0) (.var 1)) .nil))) .nil
def f_divisor_l0 : IS := .while_ (.cmp .ne (.var 1) (.con (.int 0))) (f_divisor_b0)
def f_divisor : Fn := ⟨2, 2, .cons (.par [0, 1] [] (.cons (.prim .abs (.cons (.var 0) .nil)) (.cons (.prim .abs (.cons (.var 1) .nil)) .nil))) (.cons (f_divisor_l0) (.cons (.ret (.var 0)) .nil)), false, false⟩
def f_lowest : Fn := ⟨3, 2, .cons (.asg 2 (.call 1 (.cons (.var 0) (.cons (.var 1) .nil)))) (.cons (.ret (.tup (.cons (.bin .fdiv (.var 0) (.var 2)) (.cons (.bin .fdiv (.var 1) (.var 2)) .nil)))) .nil), false, false⟩
def f_plus : Fn := ⟨2, 2, .cons (.ret (.call 2 (.cons (.bin .add (.bin .mul (.idx (.var 0) (.con (.int 0))) (.idx (.var 1) (.con (.int 1)))) (.bin .mul (.idx (.var 1) (.con (.int 0))) (.idx (.var 0) (.con (.int 1))))) (.cons (.bin .mul (.idx (.var 0) (.con (.int 1))) (.idx (.var 1) (.con (.int 1)))) .nil)))) .nil, false, false⟩
def f_minus : Fn := ⟨2, 2, .cons (.ret (.call 2 (.cons (.bin .sub (.bin .mul (.idx (.var 0) (.con (.int 0))) (.idx (.var 1) (.con (.int 1)))) (.bin .mul (.idx (.var 1) (.con (.int 0))) (.idx (.var 0) (.con (.int 1))))) (.cons (.bin .mul (.idx (.var 0) (.con (.int 1))) (.idx (.var 1) (.con (.int 1)))) .nil)))) .nil, false, false⟩
def f_times : Fn := ⟨2, 2, .cons (.ret (.call 2 (.cons (.bin .mul (.idx (.var 0) (.con (.int 0))) (.idx (.var 1) (.con (.int 0)))) (.cons (.bin .mul (.idx (.var 0) (.con (.int 1))) (.idx (.var 1) (.con (.int 1)))) .nil)))) .nil, false, false⟩
def f_over : Fn := ⟨2, 2, .cons (.ret (.call 2 (.cons (.idx (.var 0) (.con (.int 0))) (.cons (.bin .mul (.idx (.var 0) (.con (.int 1))) (.var 1)) .nil)))) .nil, false, false⟩
def f_is_less : Fn := ⟨2, 2, .cons (.ret (.cmp .lt (.bin .mul (.idx (.var 0) (.con (.int 0))) (.idx (.var 1) (.con (.int 1)))) (.bin .mul (.idx (.var 1) (.con (.int 0))) (.idx (.var 0) (.con (.int 1)))))) .nil, false, false⟩
def f_greater : Fn := ⟨2, 2, .cons (.ret (.ife (.call 7 (.cons (.var 0) (.cons (.var 1) .nil))) (.var 1) (.var 0))) .nil, false, false⟩
def f_is_join : Fn := ⟨1, 1, .cons (.ret (.isi (.var 0) .tuple)) .nil, false, false⟩
def f_items_of : Fn := ⟨1, 1, .cons (.ret (.ife (.cmp .eq (.idx (.var 0) (.con (.int 0))) (.con (.str "told"))) (.slc (.var 0) (.cons (.con (.int 2)) .nil) (.nil)) (.slc (.var 0) (.cons (.con (.int 1)) .nil) (.nil)))) .nil, false, false⟩
def f_numbers_of : Fn := ⟨1, 1, .cons (.ret (.ife (.cmp .eq (.idx (.var 0) (.con (.int 0))) (.con (.str "told"))) (.idx (.var 0) (.con (.int 1))) (.bin .mul (.tup (.cons (.con (.int 1)) .nil)) (.prim .len (.cons (.call 10 (.cons (.var 0) .nil)) .nil))))) .nil, false, false⟩
def f_is_word_and_items_c0 : IE := .lc [2] (.nm 2) .seq (.cons (.var 1) .nil) (.nil) (.call 0 (.cons (.var 2) (.cons (.con (.int 1)) (.cons (.con (.int 9)) .nil))))
def f_is_word_and_items : Fn := ⟨3, 1, .cons (.ife (.or (.cons (.not (.isi (.var 0) .tuple)) (.cons (.cmp .lt (.prim .len (.cons (.var 0) .nil)) (.con (.int 2))) (.cons (.not (.isi (.idx (.var 0) (.con (.int 0))) .str)) (.cons (.cmp .notIn (.idx (.var 0) (.con (.int 0))) (.glob 0)) .nil))))) (.cons (.ret (.con (.bl false))) .nil) (.nil)) (.cons (.ife (.not (.cmp2 .le .le (.con (.int 1)) (.prim .len (.cons (.call 10 (.cons (.var 0) .nil)) .nil)) (.glob 4))) (.cons (.ret (.con (.bl false))) .nil) (.nil)) (.cons (.ife (.cmp .ne (.idx (.var 0) (.con (.int 0))) (.con (.str "told"))) (.cons (.ret (.con (.bl true))) .nil) (.nil)) (.cons (.asg 1 (.idx (.var 0) (.con (.int 1)))) (.cons (.ife (.or (.cons (.not (.isi (.var 1) .tuple)) (.cons (.cmp .ne (.prim .len (.cons (.var 1) .nil)) (.prim .len (.cons (.call 10 (.cons (.var 0) .nil)) .nil))) .nil))) (.cons (.ret (.con (.bl false))) .nil) (.nil)) (.cons (.ret (.prim .all (.cons (f_is_word_and_items_c0) .nil))) .nil))))), false, false⟩
def f_is_item_c0 : IE := .lc [2] (.nm 2) .seq (.cons (.call 10 (.cons (.var 0) .nil)) .nil) (.nil) (.call 13 (.cons (.var 2) (.cons (.bin .sub (.var 1) (.con (.int 1))) .nil)))
def f_is_item : Fn := ⟨3, 2, .cons (.ife (.not (.isi (.var 0) .tuple)) (.cons (.ret (.call 0 (.cons (.var 0) (.cons (.con (.int 0)) (.cons (.bin .sub (.glob 1) (.con (.int 1))) .nil))))) .nil) (.nil)) (.cons (.ife (.or (.cons (.cmp .eq (.var 1) (.con (.int 0))) (.cons (.not (.call 12 (.cons (.var 0) .nil))) .nil))) (.cons (.ret (.con (.bl false))) .nil) (.nil)) (.cons (.ret (.prim .all (.cons (f_is_item_c0) .nil))) .nil)), false, false⟩
def f_all_joins_b0 : ISs := .cons (.asg 1 (.bin .add (.var 1) (.call 14 (.cons (.var 2) .nil)))) .nil
def f_all_joins_l0 : IS := .for_ (.nm 2) .seq (.cons (.call 10 (.cons (.var 0) .nil)) .nil) (f_all_joins_b0)
def f_all_joins : Fn := ⟨3, 1, .cons (.ife (.not (.call 9 (.cons (.var 0) .nil))) (.cons (.ret (.lst (.nil))) .nil) (.nil)) (.cons (.asg 1 (.lst (.cons (.var 0) .nil))) (.cons (f_all_joins_l0) (.cons (.ret (.var 1)) .nil))), false, false⟩
def f_all_places_b0 : ISs := .cons (.asg 1 (.bin .add (.var 1) (.call 15 (.cons (.var 2) .nil)))) .nil
def f_all_places_l0 : IS := .for_ (.nm 2) .seq (.cons (.call 10 (.cons (.var 0) .nil)) .nil) (f_all_places_b0)
def f_all_places : Fn := ⟨3, 1, .cons (.ife (.not (.call 9 (.cons (.var 0) .nil))) (.cons (.ret (.lst (.cons (.var 0) .nil))) .nil) (.nil)) (.cons (.asg 1 (.lst (.nil))) (.cons (f_all_places_l0) (.cons (.ret (.var 1)) .nil))), false, false⟩
def f_is_right_scheme_c0 : IE := .lc [2] (.nm 2) .range1 (.cons (.prim .max1 (.cons (.var 1) .nil)) .nil) (.nil) (.cmp .in_ (.var 2) (.var 1))
def f_is_right_scheme : Fn := ⟨3, 1, .cons (.ife (.or (.cons (.not (.isi (.var 0) .tuple)) (.cons (.not (.call 13 (.cons (.var 0) (.cons (.glob 3) .nil)))) .nil))) (.cons (.ret (.con (.bl false))) .nil) (.nil)) (.cons (.asg 1 (.call 15 (.cons (.var 0) .nil))) (.cons (.ife (.or (.cons (.cmp .gt (.prim .len (.cons (.var 1) .nil)) (.glob 2)) (.cons (.cmp .gt (.prim .len (.cons (.call 14 (.cons (.var 0) .nil)) .nil)) (.glob 3)) .nil))) (.cons (.ret (.con (.bl false))) .nil) (.nil)) (.cons (.ret (.prim .all (.cons (f_is_right_scheme_c0) .nil))) .nil))), false, false⟩
def f_how_many : Fn := ⟨1, 1, .cons (.ret (.bin .add (.prim .max1 (.cons (.call 15 (.cons (.var 0) .nil)) .nil)) (.con (.int 1)))) .nil, false, false⟩
def f_need_scheme : Fn := ⟨1, 1, .cons (.ife (.not (.call 16 (.cons (.var 0) .nil))) (.cons (.raise 0) .nil) (.nil)) .nil, false, false⟩
def f_are_right_sizes_c0 : IE := .lc [2] (.nm 2) .seq (.cons (.var 1) .nil) (.nil) (.call 0 (.cons (.var 2) (.cons (.con (.int 0)) (.cons (.glob 5) .nil))))
def f_are_right_sizes : Fn := ⟨3, 2, .cons (.ife (.or (.cons (.not (.isi (.var 1) .tuple)) (.cons (.cmp .ne (.prim .len (.cons (.var 1) .nil)) (.call 17 (.cons (.var 0) .nil))) .nil))) (.cons (.ret (.con (.bl false))) .nil) (.nil)) (.cons (.ret (.prim .all (.cons (f_are_right_sizes_c0) .nil))) .nil), false, false⟩
def f_need_sizes : Fn := ⟨2, 2, .cons (.ife (.not (.call 19 (.cons (.var 0) (.cons (.var 1) .nil)))) (.cons (.raise 1) .nil) (.nil)) .nil, false, false⟩
def f_need_most : Fn := ⟨1, 1, .cons (.ife (.not (.call 0 (.cons (.var 0) (.cons (.con (.int 1)) (.cons (.con (.int 6)) .nil))))) (.cons (.raise 2) .nil) (.nil)) .nil, false, false⟩
def f_weight_of_c0 : IE := .lc [3] (.nm 3) .seq (.cons (.call 10 (.cons (.var 0) .nil)) .nil) (.nil) (.call 22 (.cons (.var 3) (.cons (.var 1) .nil)))
def f_weight_of_c1 : IE := .lc [4] (.nm 4) .seq (.cons (.var 2) .nil) (.cons (.cmp .gt (.var 4) (.con (.int 0))) .nil) (.var 4)
def f_weight_of : Fn := ⟨5, 2, .cons (.ife (.not (.call 9 (.cons (.var 0) .nil))) (.cons (.ret (.idx (.var 1) (.var 0))) .nil) (.nil)) (.cons (.asg 2 (f_weight_of_c0)) (.cons (.ife (.cmp .eq (.idx (.var 0) (.con (.int 0))) (.con (.str "sums"))) (.cons (.ret (.prim .sum (.cons (.var 2) .nil))) .nil) (.nil)) (.cons (.ife (.cmp .eq (.idx (.var 0) (.con (.int 0))) (.con (.str "full"))) (.cons (.ret (.prim .len (.cons (f_weight_of_c1) .nil))) .nil) (.nil)) (.cons (.ret (.prim .sum (.cons (.call 11 (.cons (.var 0) .nil)) .nil))) .nil)))), false, false⟩
def f_sum_of_b0 : ISs := .cons (.par [6, 7] [] (.cons (.call 23 (.cons (.var 5) (.cons (.var 1) (.cons (.var 2) .nil)))) (.cons (.call 22 (.cons (.var 5) (.cons (.var 2) .nil))) .nil))) (.cons (.ife (.cmp .eq (.idx (.var 0) (.con (.int 0))) (.con (.str "sums"))) (.cons (.asg 3 (.call 3 (.cons (.var 3) (.cons (.var 6) .nil)))) .nil) (.cons (.ife (.cmp .gt (.var 7) (.con (.int 0))) (.cons (.asg 3 (.call 3 (.cons (.var 3) (.cons (.call 6 (.cons (.call 5 (.cons (.var 6) (.cons (.tup (.cons (.var 4) (.cons (.con (.int 1)) .nil))) .nil))) (.cons (.var 7) .nil))) .nil)))) .nil) (.nil)) .nil)) .nil)
def f_sum_of_l0 : IS := .for_ (.tp (.cons (.nm 4) (.cons (.nm 5) .nil))) .zip (.cons (.call 11 (.cons (.var 0) .nil)) (.cons (.call 10 (.cons (.var 0) .nil)) .nil)) (f_sum_of_b0)
def f_sum_of : Fn := ⟨8, 3, .cons (.ife (.not (.call 9 (.cons (.var 0) .nil))) (.cons (.ret (.idx (.var 1) (.var 0))) .nil) (.nil)) (.cons (.asg 3 (.tup (.cons (.con (.int 0)) (.cons (.con (.int 1)) .nil)))) (.cons (f_sum_of_l0) (.cons (.ret (.var 3)) .nil))), false, false⟩
def f_end_by : Fn := ⟨4, 3, .cons (.asg 3 (.call 22 (.cons (.var 0) (.cons (.var 2) .nil)))) (.cons (.ret (.ife (.cmp .gt (.var 3) (.con (.int 0))) (.call 6 (.cons (.call 23 (.cons (.var 0) (.cons (.var 1) (.cons (.var 2) .nil)))) (.cons (.var 3) .nil))) (.tup (.cons (.con (.int 0)) (.cons (.con (.int 1)) .nil))))) .nil), false, false⟩
def f_part_counted_c0 : IE := .lc [3] (.nm 3) .range1 (.cons (.prim .len (.cons (.var 1) .nil)) .nil) (.nil) (.tup (.cons (.prim .int (.cons (.cmp .eq (.var 3) (.var 2)) .nil)) (.cons (.con (.int 1)) .nil)))
def f_part_counted : Fn := ⟨4, 3, .cons (.ret (.call 24 (.cons (.var 0) (.cons (f_part_counted_c0) (.cons (.var 1) .nil))))) .nil, false, false⟩
def f_counted_c0 : IE := .lc [2] (.nm 2) .range1 (.cons (.prim .len (.cons (.var 1) .nil)) .nil) (.nil) (.ife (.cmp .gt (.idx (.var 1) (.var 2)) (.con (.int 0))) (.call 25 (.cons (.var 0) (.cons (.var 1) (.cons (.var 2) .nil)))) (.con .non))
def f_counted : Fn := ⟨3, 2, .cons (.ret (f_counted_c0)) .nil, false, false⟩
def f_all_sizes_c0 : IE := .lc2 [4, 5] [5] (.nm 4) .seq (.cons (.var 2) .nil) (.nm 5) .range1 (.cons (.bin .add (.var 1) (.con (.int 1))) .nil) (.bin .add (.var 4) (.tup (.cons (.var 5) .nil)))
def f_all_sizes_b0 : ISs := .cons (.asg 2 (f_all_sizes_c0)) .nil
def f_all_sizes_l0 : IS := .for_ (.nm 3) .range1 (.cons (.var 0) .nil) (f_all_sizes_b0)
def f_all_sizes : Fn := ⟨6, 2, .cons (.asg 2 (.lst (.cons (.tup (.nil)) .nil))) (.cons (f_all_sizes_l0) (.cons (.ret (.var 2)) .nil)), false, false⟩
def f_missed_b0 : ISs := .cons (.ife (.and (.cons (.cmp .notN (.var 5) (.con .non)) (.cons (.call 7 (.cons (.var 2) (.cons (.var 5) .nil))) .nil))) (.cons (.asg 3 (.call 3 (.cons (.var 3) (.cons (.call 5 (.cons (.call 4 (.cons (.var 5) (.cons (.var 2) .nil))) (.cons (.tup (.cons (.var 6) (.cons (.con (.int 1)) .nil))) .nil))) .nil)))) .nil) (.cons (.ife (.cmp .notN (.var 5) (.con .non)) (.cons (.asg 4 (.call 3 (.cons (.var 4) (.cons (.call 5 (.cons (.call 4 (.cons (.var 2) (.cons (.var 5) .nil))) (.cons (.tup (.cons (.var 6) (.cons (.con (.int 1)) .nil))) .nil))) .nil)))) .nil) (.nil)) .nil)) .nil
def f_missed_l0 : IS := .for_ (.tp (.cons (.nm 5) (.cons (.nm 6) .nil))) .zip (.cons (.call 26 (.cons (.var 0) (.cons (.var 1) .nil))) (.cons (.var 1) .nil)) (f_missed_b0)
def f_missed : Fn := ⟨7, 2, .cons (.par [2, 3, 4] [] (.cons (.tup (.cons (.con (.int 1)) (.cons (.prim .sum (.cons (.var 1) .nil)) .nil))) (.cons (.tup (.cons (.con (.int 0)) (.cons (.con (.int 1)) .nil))) (.cons (.tup (.cons (.con (.int 0)) (.cons (.con (.int 1)) .nil))) .nil)))) (.cons (f_missed_l0) (.cons (.ret (.tup (.cons (.var 3) (.cons (.var 4) .nil)))) .nil)), false, false⟩
def f_miss : Fn := ⟨2, 2, .cons (.expr (.call 18 (.cons (.var 0) .nil))) (.cons (.expr (.call 20 (.cons (.var 0) (.cons (.var 1) .nil)))) (.cons (.ife (.cmp .eq (.prim .sum (.cons (.var 1) .nil)) (.con (.int 0))) (.cons (.raise 1) .nil) (.nil)) (.cons (.ret (.call 28 (.cons (.var 0) (.cons (.var 1) .nil)))) .nil))), false, false⟩
def f_worst_sizes_b0 : ISs := .cons (.ife (.cmp .gt (.prim .sum (.cons (.var 3) .nil)) (.con (.int 0))) (.cons (.asg 4 (.call 8 (.cons (.idx (.call 28 (.cons (.var 0) (.cons (.var 3) .nil))) (.con (.int 0))) (.cons (.idx (.call 28 (.cons (.var 0) (.cons (.var 3) .nil))) (.con (.int 1))) .nil)))) (.cons (.ife (.or (.cons (.cmp .isN (.var 2) (.con .non)) (.cons (.call 7 (.cons (.idx (.var 2) (.con (.int 0))) (.cons (.var 4) .nil))) .nil))) (.cons (.asg 2 (.tup (.cons (.var 4) (.cons (.var 3) .nil)))) .nil) (.nil)) .nil)) (.nil)) .nil
def f_worst_sizes_l0 : IS := .for_ (.nm 3) .seq (.cons (.prim .sortSum (.cons (.call 27 (.cons (.call 17 (.cons (.var 0) .nil)) (.cons (.var 1) .nil))) .nil)) .nil) (f_worst_sizes_b0)
def f_worst_sizes : Fn := ⟨5, 2, .cons (.expr (.call 18 (.cons (.var 0) .nil))) (.cons (.expr (.call 21 (.cons (.var 1) .nil))) (.cons (.asg 2 (.con .non)) (.cons (f_worst_sizes_l0) (.cons (.ret (.idx (.var 2) (.con (.int 1)))) .nil)))), false, false⟩
def f__law_source : Fn := ⟨4, 2, .cons (.asg 2 (.con (.int 0))) (.cons (.ife (.cmp .gt (.prim .len (.cons (.var 0) .nil)) (.var 1)) (.cons (.asg 2 (.prim .int (.cons (.idx (.var 0) (.var 1)) .nil))) .nil) (.nil)) (.cons (.asg 3 (.bin .mod (.bin .add (.bin .add (.bin .mul (.var 2) (.con (.int 16807))) (.bin .mul (.con (.int 60919)) (.var 1))) (.con (.int 31))) (.con (.int 2147481173)))) (.cons (.asg 3 (.bin .add (.bin .add (.bin .mod (.bin .mul (.var 3) (.var 3)) (.con (.int 2147481151))) (.bin .mul (.con (.int 2)) (.var 1))) (.con (.int 5)))) (.cons (.ret (.cel (.cons (.ife (.cmp .ge (.var 2) (.bin .pow (.con (.int 10)) (.con (.int 18)))) (.var 2) (.con (.int 0))) (.cons (.var 3) .nil)))) .nil)))), false, false⟩
def f__law_pick : Fn := ⟨3, 2, .cons (.ife (.cmp .gt (.idx (.var 0) (.con (.int 0))) (.con (.int 0))) (.cons (.asg 2 (.bin .mod (.prim .int (.cons (.idx (.var 0) (.con (.int 0))) .nil)) (.var 1))) (.cons (.setx 0 (.con (.int 0)) (.bin .fdiv (.prim .int (.cons (.idx (.var 0) (.con (.int 0))) .nil)) (.var 1))) (.cons (.ret (.var 2)) .nil))) (.nil)) (.cons (.setx 0 (.con (.int 1)) (.bin .mod (.prim .int (.cons (.bin .add (.bin .mul (.idx (.var 0) (.con (.int 1))) (.con (.int 44497))) (.con (.int 9973))) .nil)) (.con (.int 2147483647)))) (.cons (.ret (.bin .mod (.bin .fdiv (.bin .mod (.prim .int (.cons (.bin .mul (.idx (.var 0) (.con (.int 1))) (.idx (.var 0) (.con (.int 1)))) .nil)) (.con (.int 2147483399))) (.con (.int 11))) (.var 1))) .nil)), false, false⟩
def f__law_chosen : Fn := ⟨2, 2, .cons (.ret (.idx (.var 1) (.call 32 (.cons (.var 0) (.cons (.prim .len (.cons (.var 1) .nil)) .nil))))) .nil, false, false⟩
def f__law_refused : Fn := ⟨2, 1, .cons (.tryR 1 (.cons (.expr (.callc 0 (.nil))) .nil)) (.cons (.ret (.con (.str ""))) .nil), false, true⟩
def f__law_by_two : Fn := ⟨3, 3, .cons (.ret (.callL 34 (.nil) 0 [0, 1, 2])) .nil, false, false⟩
def f__law_low_b0 : ISs := .cons (.par [2, 3] [] (.cons (.var 3) (.cons (.bin .mod (.var 2) (.var 3)) .nil))) .nil
def f__law_low_l0 : IS := .while_ (.cmp .gt (.var 3) (.con (.int 0))) (f__law_low_b0)
def f__law_low : Fn := ⟨4, 2, .cons (.par [2, 3] [] (.cons (.prim .abs (.cons (.var 0) .nil)) (.cons (.var 1) .nil))) (.cons (f__law_low_l0) (.cons (.ret (.tup (.cons (.bin .fdiv (.var 0) (.var 2)) (.cons (.bin .fdiv (.var 1) (.var 2)) .nil)))) .nil)), false, false⟩
def f__law_add : Fn := ⟨2, 2, .cons (.ret (.call 36 (.cons (.bin .add (.bin .mul (.idx (.var 0) (.con (.int 0))) (.idx (.var 1) (.con (.int 1)))) (.bin .mul (.idx (.var 1) (.con (.int 0))) (.idx (.var 0) (.con (.int 1))))) (.cons (.bin .mul (.idx (.var 0) (.con (.int 1))) (.idx (.var 1) (.con (.int 1)))) .nil)))) .nil, false, false⟩
def f__law_mul : Fn := ⟨2, 2, .cons (.ret (.call 36 (.cons (.bin .mul (.idx (.var 0) (.con (.int 0))) (.idx (.var 1) (.con (.int 0)))) (.cons (.bin .mul (.idx (.var 0) (.con (.int 1))) (.idx (.var 1) (.con (.int 1)))) .nil)))) .nil, false, false⟩
def f__law_less : Fn := ⟨2, 2, .cons (.ret (.cmp .lt (.bin .mul (.idx (.var 0) (.con (.int 0))) (.idx (.var 1) (.con (.int 1)))) (.bin .mul (.idx (.var 1) (.con (.int 0))) (.idx (.var 0) (.con (.int 1)))))) .nil, false, false⟩
def f__law_sum_b0 : ISs := .cons (.asg 1 (.call 37 (.cons (.var 1) (.cons (.var 2) .nil)))) .nil
def f__law_sum_l0 : IS := .for_ (.nm 2) .seq (.cons (.var 0) .nil) (f__law_sum_b0)
def f__law_sum : Fn := ⟨3, 1, .cons (.asg 1 (.tup (.cons (.con (.int 0)) (.cons (.con (.int 1)) .nil)))) (.cons (f__law_sum_l0) (.cons (.ret (.var 1)) .nil)), false, false⟩
def f__law_items : Fn := ⟨1, 1, .cons (.ret (.ife (.cmp .eq (.idx (.var 0) (.con (.int 0))) (.con (.str "told"))) (.slc (.var 0) (.cons (.con (.int 2)) .nil) (.nil)) (.slc (.var 0) (.cons (.con (.int 1)) .nil) (.nil)))) .nil, false, false⟩
def f__law_numbers : Fn := ⟨1, 1, .cons (.ret (.ife (.cmp .eq (.idx (.var 0) (.con (.int 0))) (.con (.str "told"))) (.idx (.var 0) (.con (.int 1))) (.bin .mul (.tup (.cons (.con (.int 1)) .nil)) (.prim .len (.cons (.slc (.var 0) (.cons (.con (.int 1)) .nil) (.nil)) .nil))))) .nil, false, false⟩
def f__law_places_b0 : ISs := .cons (.asg 1 (.bin .add (.var 1) (.call 43 (.cons (.var 2) .nil)))) .nil
def f__law_places_l0 : IS := .for_ (.nm 2) .seq (.cons (.call 41 (.cons (.var 0) .nil)) .nil) (f__law_places_b0)
def f__law_places : Fn := ⟨3, 1, .cons (.ife (.not (.isi (.var 0) .tuple)) (.cons (.ret (.lst (.cons (.var 0) .nil))) .nil) (.nil)) (.cons (.asg 1 (.lst (.nil))) (.cons (f__law_places_l0) (.cons (.ret (.var 1)) .nil))), false, false⟩
def f__law_many : Fn := ⟨1, 1, .cons (.ret (.bin .add (.prim .max1 (.cons (.call 43 (.cons (.var 0) .nil)) .nil)) (.con (.int 1)))) .nil, false, false⟩
def f__law_join_b0 : ISs := .cons (.ife (.and (.cons (.cmp .gt (.var 2) (.con (.int 0))) (.cons (.cmp .gt (.idx (.var 3) (.con (.int 0))) (.con (.int 0))) (.cons (.cmp .eq (.call 32 (.cons (.var 0) (.cons (.con (.int 3)) .nil))) (.con (.int 0))) .nil)))) (.cons (.setx 3 (.con (.int 0)) (.bin .sub (.idx (.var 3) (.con (.int 0))) (.con (.int 1)))) (.cons (.app 5 (.call 45 (.cons (.var 0) (.cons (.var 1) (.cons (.bin .sub (.var 2) (.con (.int 1))) (.cons (.var 3) .nil)))))) .nil)) (.cons (.app 5 (.call 32 (.cons (.var 0) (.cons (.var 1) .nil)))) .nil)) .nil
def f__law_join_l0 : IS := .for_ (.nm 6) .range1 (.cons (.bin .add (.con (.int 1)) (.call 32 (.cons (.var 0) (.cons (.con (.int 3)) .nil)))) .nil) (f__law_join_b0)
def f__law_join_c0 : IE := .lc [7] (.nm 7) .seq (.cons (.var 5) .nil) (.nil) (.bin .add (.con (.int 1)) (.call 32 (.cons (.var 0) (.cons (.con (.int 3)) .nil))))
def f__law_join : Fn := ⟨8, 4, .cons (.par [4] [5] (.cons (.call 33 (.cons (.var 0) (.cons (.lst (.cons (.con (.str "sums")) (.cons (.con (.str "sums")) (.cons (.con (.str "means")) (.cons (.con (.str "full")) (.cons (.con (.str "told")) .nil)))))) .nil))) .nil)) (.cons (f__law_join_l0) (.cons (.ife (.cmp .eq (.var 4) (.con (.str "told"))) (.cons (.frz 5) (.cons (.ret (.bin .add (.tup (.cons (.var 4) (.cons (.prim .tuple (.cons (f__law_join_c0) .nil)) .nil))) (.prim .tuple (.cons (.var 5) .nil)))) .nil)) (.nil)) (.cons (.frz 5) (.cons (.ret (.bin .add (.tup (.cons (.var 4) .nil)) (.prim .tuple (.cons (.var 5) .nil)))) .nil)))), false, false⟩
def f__law_scheme_c0 : IE := .lc [9] (.nm 9) .seq (.cons (.var 3) .nil) (.cons (.cmp .notIn (.var 9) (.call 43 (.cons (.var 7) .nil))) .nil) (.var 9)
def f__law_scheme : Fn := ⟨10, 2, .cons (.par [2, 3] [] (.cons (.call 32 (.cons (.var 0) (.cons (.con (.int 6)) .nil))) (.cons (.prim .tupRange (.cons (.var 1) .nil)) .nil))) (.cons (.asg 4 (.bin .add (.tup (.cons (.con (.str "sums")) .nil)) (.var 3))) (.cons (.ife (.cmp .eq (.var 2) (.con (.int 0))) (.cons (.asg 5 (.call 33 (.cons (.var 0) (.cons (.lst (.cons (.con (.str "means")) (.cons (.con (.str "full")) .nil))) .nil)))) (.cons (.asg 6 (.lst (.cons (.var 4) (.cons (.bin .add (.tup (.cons (.var 5) .nil)) (.var 3)) (.cons (.tup (.cons (.var 5) (.cons (.var 4) .nil))) (.cons (.tup (.cons (.var 5) (.cons (.var 4) (.cons (.var 4) .nil)))) .nil)))))) (.cons (.ret (.call 33 (.cons (.var 0) (.cons (.bin .add (.var 6) (.lst (.cons (.tup (.cons (.con (.str "sums")) (.cons (.tup (.cons (.con (.str "means")) (.cons (.var 4) .nil))) (.cons (.var 4) .nil)))) .nil))) .nil)))) .nil))) (.nil)) (.cons (.asg 7 (.call 45 (.cons (.var 0) (.cons (.var 1) (.cons (.con (.int 2)) (.cons (.cel (.cons (.con (.int 2)) .nil)) .nil)))))) (.cons (.ife (.cmp .gt (.prim .len (.cons (.call 43 (.cons (.var 7) .nil)) .nil)) (.con (.int 5))) (.cons (.asg 7 (.bin .add (.tup (.cons (.con (.str "means")) .nil)) (.var 3))) .nil) (.nil)) (.cons (.asg 8 (.prim .tuple (.cons (f__law_scheme_c0) .nil))) (.cons (.ife (.cmp .eq (.var 8) (.tup (.nil))) (.cons (.ret (.var 7)) .nil) (.nil)) (.cons (.ret (.bin .add (.tup (.cons (.call 33 (.cons (.var 0) (.cons (.lst (.cons (.con (.str "sums")) (.cons (.con (.str "means")) (.cons (.con (.str "full")) .nil)))) .nil))) (.cons (.var 7) .nil))) (.var 8))) .nil))))))), false, false⟩
def f__law_worth_c0 : IE := .lc [4] (.nm 4) .seq (.cons (.call 41 (.cons (.var 0) .nil)) .nil) (.nil) (.call 47 (.cons (.var 4) (.cons (.var 1) (.cons (.var 2) .nil))))
def f__law_worth_b0 : ISs := .cons (.ife (.cmp .eq (.idx (.var 0) (.con (.int 0))) (.con (.str "sums"))) (.cons (.par [5, 6] [] (.cons (.call 37 (.cons (.var 5) (.cons (.var 8) .nil))) (.cons (.bin .add (.var 6) (.var 9)) .nil))) .nil) (.cons (.ife (.cmp .gt (.var 9) (.con (.int 0))) (.cons (.par [5, 6] [] (.cons (.call 37 (.cons (.var 5) (.cons (.call 36 (.cons (.bin .mul (.idx (.var 8) (.con (.int 0))) (.var 7)) (.cons (.bin .mul (.idx (.var 8) (.con (.int 1))) (.var 9)) .nil))) .nil))) (.cons (.bin .add (.var 6) (.var 7)) .nil))) .nil) (.cons (.ife (.cmp .ne (.idx (.var 0) (.con (.int 0))) (.con (.str "full"))) (.cons (.asg 6 (.bin .add (.var 6) (.var 7))) .nil) (.nil)) .nil)) .nil)) .nil
def f__law_worth_l0 : IS := .for_ (.tp (.cons (.nm 7) (.cons (.tp (.cons (.nm 8) (.cons (.nm 9) .nil))) .nil))) .zip (.cons (.call 42 (.cons (.var 0) .nil)) (.cons (.var 3) .nil)) (f__law_worth_b0)
def f__law_worth : Fn := ⟨10, 3, .cons (.ife (.not (.isi (.var 0) .tuple)) (.cons (.ret (.tup (.cons (.idx (.var 1) (.var 0)) (.cons (.idx (.var 2) (.var 0)) .nil)))) .nil) (.nil)) (.cons (.asg 3 (f__law_worth_c0)) (.cons (.tasg (.tp (.cons (.nm 5) (.cons (.nm 6) .nil))) (.tup (.cons (.tup (.cons (.con (.int 0)) (.cons (.con (.int 1)) .nil))) (.cons (.con (.int 0)) .nil)))) (.cons (f__law_worth_l0) (.cons (.ret (.tup (.cons (.var 5) (.cons (.var 6) .nil)))) .nil)))), false, false⟩
def f__law_end : Fn := ⟨5, 3, .cons (.tasg (.tp (.cons (.nm 3) (.cons (.nm 4) .nil))) (.call 47 (.cons (.var 0) (.cons (.var 1) (.cons (.var 2) .nil))))) (.cons (.ret (.ife (.cmp .gt (.var 4) (.con (.int 0))) (.call 36 (.cons (.idx (.var 3) (.con (.int 0))) (.cons (.bin .mul (.idx (.var 3) (.con (.int 1))) (.var 4)) .nil))) (.tup (.cons (.con (.int 0)) (.cons (.con (.int 1)) .nil))))) .nil), false, false⟩
def f__law_counts_c0 : IE := .lc [5] (.nm 5) .range1 (.cons (.prim .len (.cons (.var 1) .nil)) .nil) (.nil) (.ife (.cmp .eq (.var 5) (.var 3)) (.tup (.cons (.con (.int 1)) (.cons (.con (.int 1)) .nil))) (.tup (.cons (.con (.int 0)) (.cons (.con (.int 1)) .nil))))
def f__law_counts_b0 : ISs := .cons (.asg 4 (f__law_counts_c0)) (.cons (.app 2 (.ife (.cmp .gt (.idx (.var 1) (.var 3)) (.con (.int 0))) (.call 48 (.cons (.var 0) (.cons (.var 4) (.cons (.var 1) .nil)))) (.con .non))) .nil)
def f__law_counts_l0 : IS := .for_ (.nm 3) .range1 (.cons (.prim .len (.cons (.var 1) .nil)) .nil) (f__law_counts_b0)
def f__law_counts : Fn := ⟨6, 2, .cons (.own 2 (.lst (.nil))) (.cons (f__law_counts_l0) (.cons (.frz 2) (.cons (.ret (.prim .tuple (.cons (.var 2) .nil))) .nil))), false, false⟩
def f__law_grid_c0 : IE := .lc [6] (.nm 6) .range1 (.cons (.bin .add (.var 1) (.con (.int 1))) .nil) (.nil) (.bin .add (.var 5) (.tup (.cons (.var 6) .nil)))
def f__law_grid_b0 : ISs := .cons (.asg 4 (.bin .add (.var 4) (f__law_grid_c0))) .nil
def f__law_grid_l0 : IS := .for_ (.nm 5) .seq (.cons (.var 2) .nil) (f__law_grid_b0)
def f__law_grid_b1 : ISs := .cons (.asg 4 (.lst (.nil))) (.cons (f__law_grid_l0) (.cons (.asg 2 (.var 4)) .nil))
def f__law_grid_l1 : IS := .for_ (.nm 3) .range1 (.cons (.var 0) .nil) (f__law_grid_b1)
def f__law_grid : Fn := ⟨7, 2, .cons (.asg 2 (.lst (.cons (.tup (.nil)) .nil))) (.cons (f__law_grid_l1) (.cons (.ret (.var 2)) .nil)), false, false⟩
def f__law_rising : Fn := ⟨2, 2, .cons (.ret (.slc (.prim .sortSum (.cons (.call 50 (.cons (.var 0) (.cons (.var 1) .nil))) .nil)) (.cons (.con (.int 1)) .nil) (.nil))) .nil, false, false⟩
def f__law_sizes_c0 : IE := .lc [3] (.nm 3) .range1 (.cons (.var 1) .nil) (.nil) (.call 32 (.cons (.var 0) (.cons (.bin .add (.var 2) (.con (.int 1))) .nil)))
def f__law_sizes : Fn := ⟨4, 3, .cons (.ret (.prim .tuple (.cons (f__law_sizes_c0) .nil))) .nil, false, false⟩
def f__law_miss_b0 : ISs := .cons (.ife (.cmp .notN (.var 5) (.con .non)) (.cons (.asg 7 (.call 36 (.cons (.bin .sub (.bin .mul (.idx (.var 5) (.con (.int 0))) (.idx (.var 2) (.con (.int 1)))) (.idx (.var 5) (.con (.int 1)))) (.cons (.bin .mul (.idx (.var 5) (.con (.int 1))) (.idx (.var 2) (.con (.int 1)))) .nil)))) (.cons (.ife (.cmp .gt (.idx (.var 7) (.con (.int 0))) (.con (.int 0))) (.cons (.asg 3 (.call 37 (.cons (.var 3) (.cons (.call 38 (.cons (.var 7) (.cons (.tup (.cons (.var 6) (.cons (.con (.int 1)) .nil))) .nil))) .nil)))) .nil) (.cons (.asg 4 (.call 37 (.cons (.var 4) (.cons (.call 38 (.cons (.var 7) (.cons (.tup (.cons (.neg (.var 6)) (.cons (.con (.int 1)) .nil))) .nil))) .nil)))) .nil)) .nil)) (.nil)) .nil
def f__law_miss_l0 : IS := .for_ (.tp (.cons (.nm 5) (.cons (.nm 6) .nil))) .zip (.cons (.call 49 (.cons (.var 0) (.cons (.var 1) .nil))) (.cons (.var 1) .nil)) (f__law_miss_b0)
def f__law_miss : Fn := ⟨8, 2, .cons (.par [2, 3, 4] [] (.cons (.tup (.cons (.con (.int 1)) (.cons (.prim .sum (.cons (.var 1) .nil)) .nil))) (.cons (.tup (.cons (.con (.int 0)) (.cons (.con (.int 1)) .nil))) (.cons (.tup (.cons (.con (.int 0)) (.cons (.con (.int 1)) .nil))) .nil)))) (.cons (f__law_miss_l0) (.cons (.ret (.tup (.cons (.var 3) (.cons (.var 4) .nil)))) .nil)), false, false⟩
def f__law_gap_c0 : IE := .lc [4] (.nm 4) .seq (.cons (.var 1) .nil) (.nil) (.prim .len (.cons (.var 4) .nil))
def f__law_gap_c1 : IE := .lc [4] (.nm 4) .seq (.cons (.var 1) .nil) (.nil) (.call 40 (.cons (.var 4) .nil))
def f__law_gap : Fn := ⟨6, 2, .cons (.par [2, 3] [] (.cons (.prim .tuple (.cons (f__law_gap_c0) .nil)) (.cons (f__law_gap_c1) .nil))) (.cons (.asg 5 (.call 38 (.cons (.call 40 (.cons (.var 3) .nil)) (.cons (.tup (.cons (.con (.int 1)) (.cons (.prim .sum (.cons (.var 2) .nil)) .nil))) .nil)))) (.cons (.ret (.call 37 (.cons (.call 48 (.cons (.var 0) (.cons (.var 3) (.cons (.var 2) .nil)))) (.cons (.tup (.cons (.neg (.idx (.var 5) (.con (.int 0)))) (.cons (.idx (.var 5) (.con (.int 1))) .nil))) .nil)))) .nil)), false, false⟩
def f__law_runs_right_b0 : ISs := .cons (.app 4 (.and (.cons (.cmp .notN (.var 5) (.con .non)) (.cons (.call 39 (.cons (.tup (.cons (.con (.int 1)) (.cons (.prim .sum (.cons (.var 2) .nil)) .nil))) (.cons (.var 5) .nil))) .nil)))) .nil
def f__law_runs_right_l0 : IS := .for_ (.nm 5) .seq (.cons (.call 49 (.cons (.var 1) (.cons (.var 2) .nil))) .nil) (f__law_runs_right_b0)
def f__law_runs_right_c0 : IE := .lc [7, 8] (.tp (.cons (.nm 7) (.cons (.nm 8) .nil))) .zip (.cons (.var 4) (.cons (.var 2) .nil)) (.nil) (.bin .mul (.tup (.cons (.tup (.cons (.prim .int (.cons (.var 7) .nil)) (.cons (.con (.int 1)) .nil))) .nil)) (.var 8))
def f__law_runs_right_c1 : IE := .lc [7, 8] (.tp (.cons (.nm 7) (.cons (.nm 8) .nil))) .zip (.cons (.var 4) (.cons (.var 2) .nil)) (.nil) (.bin .mul (.tup (.cons (.tup (.cons (.prim .int (.cons (.not (.var 7)) .nil)) (.cons (.con (.int 1)) .nil))) .nil)) (.var 8))
def f__law_runs_right_c2 : IE := .lc [14] (.nm 14) .range1 (.cons (.var 8) .nil) (.nil) (.call 33 (.cons (.var 0) (.cons (.lst (.cons (.tup (.cons (.con (.int 0)) (.cons (.con (.int 1)) .nil))) (.cons (.tup (.cons (.con (.int 1)) (.cons (.con (.int 1)) .nil))) (.cons (.tup (.cons (.con (.int 1)) (.cons (.con (.int 2)) .nil))) .nil)))) .nil)))
def f__law_runs_right_b1 : ISs := .cons (.asg 13 (f__law_runs_right_c2)) (.cons (.asg 12 (.bin .add (.var 12) (.tup (.cons (.prim .tuple (.cons (.var 13) .nil)) .nil)))) .nil)
def f__law_runs_right_l1 : IS := .for_ (.nm 8) .seq (.cons (.var 2) .nil) (f__law_runs_right_b1)
def f__law_runs_right_b2 : ISs := .cons (.asg 12 (.tup (.nil))) (.cons (f__law_runs_right_l1) (.cons (.asg 15 (.call 54 (.cons (.var 1) (.cons (.var 12) .nil)))) (.cons (.ife (.or (.cons (.call 39 (.cons (.idx (.var 3) (.con (.int 0))) (.cons (.var 15) .nil))) (.cons (.call 39 (.cons (.var 15) (.cons (.tup (.cons (.neg (.idx (.idx (.var 3) (.con (.int 1))) (.con (.int 0)))) (.cons (.idx (.idx (.var 3) (.con (.int 1))) (.con (.int 1))) .nil))) .nil))) .nil))) (.cons (.ret (.con (.bl false))) .nil) (.nil)) .nil)))
def f__law_runs_right_l2 : IS := .for_ (.nm 11) .range1 (.cons (.con (.int 3)) .nil) (f__law_runs_right_b2)
def f__law_runs_right : Fn := ⟨16, 4, .cons (.own 4 (.lst (.nil))) (.cons (f__law_runs_right_l0) (.cons (.frz 4) (.cons (.asg 6 (.prim .tuple (.cons (f__law_runs_right_c0) .nil))) (.cons (.asg 9 (.prim .tuple (.cons (f__law_runs_right_c1) .nil))) (.cons (.asg 10 (.call 54 (.cons (.var 1) (.cons (.var 9) .nil)))) (.cons (.ife (.or (.cons (.cmp .ne (.call 54 (.cons (.var 1) (.cons (.var 6) .nil))) (.idx (.var 3) (.con (.int 0)))) (.cons (.cmp .ne (.tup (.cons (.neg (.idx (.var 10) (.con (.int 0)))) (.cons (.idx (.var 10) (.con (.int 1))) .nil))) (.idx (.var 3) (.con (.int 1)))) .nil))) (.cons (.ret (.con (.bl false))) .nil) (.nil)) (.cons (f__law_runs_right_l2) (.cons (.ret (.con (.bl true))) .nil)))))))), false, false⟩
def f__law_worst_b0 : ISs := .cons (.tasg (.tp (.cons (.nm 5) (.cons (.nm 6) .nil))) (.call 53 (.cons (.var 0) (.cons (.var 4) .nil)))) (.cons (.asg 7 (.ife (.call 39 (.cons (.var 5) (.cons (.var 6) .nil))) (.var 6) (.var 5))) (.cons (.ife (.or (.cons (.cmp .isN (.var 2) (.con .non)) (.cons (.call 39 (.cons (.var 2) (.cons (.var 7) .nil))) .nil))) (.cons (.par [2, 3] [] (.cons (.var 7) (.cons (.var 4) .nil))) .nil) (.nil)) .nil))
def f__law_worst_l0 : IS := .for_ (.nm 4) .seq (.cons (.call 51 (.cons (.call 44 (.cons (.var 0) .nil)) (.cons (.var 1) .nil))) .nil) (f__law_worst_b0)
def f__law_worst : Fn := ⟨8, 2, .cons (.tasg (.tp (.cons (.nm 2) (.cons (.nm 3) .nil))) (.tup (.cons (.con .non) (.cons (.con .non) .nil)))) (.cons (f__law_worst_l0) (.cons (.ret (.var 3)) .nil)), false, false⟩
def f__law_written : Fn := ⟨5, 0, .cons (.par [0, 1, 2, 3] [] (.cons (.tup (.cons (.con (.str "means")) (.cons (.con (.int 0)) (.cons (.con (.int 1)) .nil)))) (.cons (.tup (.cons (.con (.str "sums")) (.cons (.con (.int 0)) (.cons (.con (.int 1)) .nil)))) (.cons (.tup (.cons (.con (.str "full")) (.cons (.con (.int 0)) (.cons (.con (.int 1)) .nil)))) (.cons (.tup (.cons (.con (.str "means")) (.cons (.con (.int 0)) (.cons (.con (.int 0)) (.cons (.con (.int 1)) .nil))))) .nil))))) (.cons (.asg 4 (.lst (.cons (.call 29 (.cons (.var 0) (.cons (.tup (.cons (.con (.int 2)) (.cons (.con (.int 1)) .nil))) .nil))) (.cons (.call 29 (.cons (.var 0) (.cons (.tup (.cons (.con (.int 2)) (.cons (.con (.int 0)) .nil))) .nil))) (.cons (.call 29 (.cons (.var 1) (.cons (.tup (.cons (.con (.int 3)) (.cons (.con (.int 5)) .nil))) .nil))) (.cons (.call 29 (.cons (.var 3) (.cons (.tup (.cons (.con (.int 1)) (.cons (.con (.int 1)) .nil))) .nil))) .nil)))))) (.cons (.ife (.cmp .ne (.var 4) (.lst (.cons (.tup (.cons (.tup (.cons (.con (.int 1)) (.cons (.con (.int 6)) .nil))) (.cons (.tup (.cons (.con (.int 1)) (.cons (.con (.int 6)) .nil))) .nil))) (.cons (.tup (.cons (.tup (.cons (.con (.int 0)) (.cons (.con (.int 1)) .nil))) (.cons (.tup (.cons (.con (.int 1)) (.cons (.con (.int 2)) .nil))) .nil))) (.cons (.tup (.cons (.tup (.cons (.con (.int 0)) (.cons (.con (.int 1)) .nil))) (.cons (.tup (.cons (.con (.int 0)) (.cons (.con (.int 1)) .nil))) .nil))) (.cons (.tup (.cons (.tup (.cons (.con (.int 1)) (.cons (.con (.int 6)) .nil))) (.cons (.tup (.cons (.con (.int 1)) (.cons (.con (.int 6)) .nil))) .nil))) .nil)))))) (.cons (.ret (.con (.bl false))) .nil) (.nil)) (.cons (.ife (.or (.cons (.cmp .ne (.lst (.cons (.call 30 (.cons (.var 0) (.cons (.con (.int 2)) .nil))) (.cons (.call 30 (.cons (.var 2) (.cons (.con (.int 3)) .nil))) .nil))) (.lst (.cons (.tup (.cons (.con (.int 0)) (.cons (.con (.int 1)) .nil))) (.cons (.tup (.cons (.con (.int 1)) (.cons (.con (.int 3)) .nil))) .nil)))) (.cons (.cmp .ne (.call 30 (.cons (.var 1) (.cons (.con (.int 2)) .nil))) (.tup (.cons (.con (.int 0)) (.cons (.con (.int 1)) .nil)))) .nil))) (.cons (.ret (.con (.bl false))) .nil) (.nil)) (.cons (.ife (.or (.cons (.cmp .ne (.call 29 (.cons (.var 2) (.cons (.tup (.cons (.con (.int 1)) (.cons (.con (.int 3)) .nil))) .nil))) (.tup (.cons (.tup (.cons (.con (.int 1)) (.cons (.con (.int 4)) .nil))) (.cons (.tup (.cons (.con (.int 1)) (.cons (.con (.int 4)) .nil))) .nil)))) (.cons (.cmp .ne (.call 29 (.cons (.var 0) (.cons (.tup (.cons (.bin .pow (.con (.int 10)) (.con (.int 12))) (.cons (.con (.int 0)) .nil))) .nil))) (.tup (.cons (.tup (.cons (.con (.int 0)) (.cons (.con (.int 1)) .nil))) (.cons (.tup (.cons (.con (.int 1)) (.cons (.con (.int 2)) .nil))) .nil)))) .nil))) (.cons (.ret (.con (.bl false))) .nil) (.nil)) (.cons (.ret (.and (.cons (.cmp .eq (.call 30 (.cons (.tup (.cons (.con (.str "sums")) (.cons (.con (.int 0)) (.cons (.con (.int 0)) (.cons (.con (.int 1)) .nil))))) (.cons (.con (.int 2)) .nil))) (.tup (.cons (.con (.int 1)) (.cons (.con (.int 1)) .nil)))) (.cons (.cmp .eq (.call 30 (.cons (.tup (.cons (.con (.str "full")) (.cons (.con (.int 0)) (.cons (.con (.int 1)) .nil)))) (.cons (.con (.int 1)) .nil))) (.tup (.cons (.con (.int 0)) (.cons (.con (.int 1)) .nil)))) .nil)))) .nil))))), false, false⟩
def f_law_b0 : ISs := .cons (.asg 7 (.call 52 (.cons (.var 2) (.cons (.var 3) (.cons (.call 33 (.cons (.var 2) (.cons (.lst (.cons (.con (.int 1)) (.cons (.con (.int 2)) (.cons (.con (.int 5)) (.cons (.bin .pow (.con (.int 10)) (.con (.int 12))) .nil))))) .nil))) .nil))))) (.cons (.ife (.cmp .gt (.prim .sum (.cons (.var 7) .nil)) (.con (.int 0))) (.cons (.asg 8 (.call 29 (.cons (.var 4) (.cons (.var 7) .nil)))) (.cons (.ife (.cmp .ne (.var 8) (.call 53 (.cons (.var 4) (.cons (.var 7) .nil)))) (.cons (.ret (.con (.bl false))) .nil) (.nil)) (.cons (.ife (.and (.cons (.cmp .lt (.prim .max1 (.cons (.var 7) .nil)) (.con (.int 13))) (.cons (.not (.call 55 (.cons (.var 2) (.cons (.var 4) (.cons (.var 7) (.cons (.var 8) .nil)))))) .nil))) (.cons (.ret (.con (.bl false))) .nil) (.nil)) .nil))) (.nil)) .nil)
def f_law_l0 : IS := .for_ (.nm 6) .range1 (.cons (.con (.int 5)) .nil) (f_law_b0)
def f_law_b1 : ISs := .cons (.ife (.cmp .ne (.call 35 (.cons (.fnv 30) (.cons (.var 4) (.cons (.var 9) .nil)))) (.con (.str "number"))) (.cons (.ret (.con (.bl false))) .nil) (.nil)) .nil
def f_law_l1 : IS := .for_ (.nm 9) .seq (.cons (.lst (.cons (.con .non) (.cons (.con (.int 0)) (.cons (.con (.int 7)) (.cons (.con (.bl true)) .nil))))) .nil) (f_law_b1)
def f_law_b2 : ISs := .cons (.ife (.cmp .ne (.call 35 (.cons (.fnv 29) (.cons (.var 4) (.cons (.var 9) .nil)))) (.con (.str "sizes"))) (.cons (.ret (.con (.bl false))) .nil) (.nil)) .nil
def f_law_l2 : IS := .for_ (.nm 9) .seq (.cons (.lst (.cons (.con .non) (.cons (.bin .mul (.tup (.cons (.con (.int 0)) .nil)) (.var 3)) (.cons (.bin .mul (.tup (.cons (.con (.int 1)) .nil)) (.bin .add (.var 3) (.con (.int 1)))) .nil)))) .nil) (f_law_b2)
def f_law_b3 : ISs := .cons (.asg 2 (.call 31 (.cons (.var 0) (.cons (.var 1) .nil)))) (.cons (.asg 3 (.call 33 (.cons (.var 2) (.cons (.lst (.cons (.con (.int 1)) (.cons (.con (.int 2)) (.cons (.con (.int 2)) (.cons (.con (.int 3)) .nil))))) .nil)))) (.cons (.par [4, 5] [] (.cons (.call 46 (.cons (.var 2) (.cons (.var 3) .nil))) (.cons (.bin .add (.con (.int 1)) (.call 32 (.cons (.var 2) (.cons (.con (.int 3)) .nil)))) .nil))) (.cons (.ife (.cmp .ne (.call 30 (.cons (.var 4) (.cons (.var 5) .nil))) (.call 56 (.cons (.var 4) (.cons (.var 5) .nil)))) (.cons (.ret (.con (.bl false))) .nil) (.nil)) (.cons (f_law_l0) (.cons (f_law_l1) (.cons (f_law_l2) .nil))))))
def f_law_l3 : IS := .for_ (.nm 1) .range1 (.cons (.prim .max2 (.cons (.con (.int 6)) (.cons (.prim .min2 (.cons (.con (.int 14)) (.cons (.prim .len (.cons (.var 0) .nil)) .nil))) .nil))) .nil) (f_law_b3)
def f_law_c0 : IE := .lc [10] (.nm 10) .seq (.cons (.tup (.cons (.fnv 29) (.cons (.fnv 30) .nil))) .nil) (.nil) (.call 35 (.cons (.var 10) (.cons (.con (.int 0)) (.cons (.con .non) .nil))))
def f_law : Fn := ⟨11, 1, .cons (f_law_l3) (.cons (.ife (.cmp .ne (f_law_c0) (.bin .mul (.lst (.cons (.con (.str "scheme")) .nil)) (.con (.int 2)))) (.cons (.ret (.con (.bl false))) .nil) (.nil)) (.cons (.ret (.call 57 (.nil))) .nil)), false, false⟩
def defs : List DefS := [
  ⟨"is_from", top 1, ["value", "low", "high"], f_is_from, false⟩,
  ⟨"divisor", top 2, ["one", "other"], f_divisor, false⟩,
  ⟨"lowest", top 3, ["top", "below", "part"], f_lowest, false⟩,
  ⟨"plus", top 4, ["one", "other"], f_plus, false⟩,
  ⟨"minus", top 5, ["one", "other"], f_minus, false⟩,
  ⟨"times", top 6, ["one", "other"], f_times, false⟩,
  ⟨"over", top 7, ["one", "number"], f_over, false⟩,
  ⟨"is_less", top 8, ["one", "other"], f_is_less, false⟩,
  ⟨"greater", top 9, ["one", "other"], f_greater, false⟩,
  ⟨"is_join", top 34, ["item"], f_is_join, false⟩,
  ⟨"items_of", top 35, ["join"], f_items_of, false⟩,
  ⟨"numbers_of", top 36, ["join"], f_numbers_of, false⟩,
  ⟨"is_word_and_items", top 37, ["value", "numbers", "number"], f_is_word_and_items, false⟩,
  ⟨"is_item", top 38, ["value", "deep", "item"], f_is_item, false⟩,
  ⟨"all_joins", top 39, ["item", "found", "one"], f_all_joins, false⟩,
  ⟨"all_places", top 40, ["item", "found", "one"], f_all_places, false⟩,
  ⟨"is_right_scheme", top 41, ["value", "places", "part"], f_is_right_scheme, false⟩,
  ⟨"how_many", top 42, ["scheme"], f_how_many, false⟩,
  ⟨"need_scheme", top 43, ["value"], f_need_scheme, false⟩,
  ⟨"are_right_sizes", top 44, ["scheme", "value", "size"], f_are_right_sizes, false⟩,
  ⟨"need_sizes", top 45, ["scheme", "value"], f_need_sizes, false⟩,
  ⟨"need_most", top 46, ["value"], f_need_most, false⟩,
  ⟨"weight_of", top 48, ["item", "sizes", "weights", "one", "weight"], f_weight_of, false⟩,
  ⟨"sum_of", top 49, ["item", "sums", "sizes", "found", "number", "one", "mine", "weight"], f_sum_of, false⟩,
  ⟨"end_by", top 50, ["scheme", "sums", "sizes", "weight"], f_end_by, false⟩,
  ⟨"part_counted", top 51, ["scheme", "sizes", "part", "here"], f_part_counted, false⟩,
  ⟨"counted", top 52, ["scheme", "sizes", "part"], f_counted, false⟩,
  ⟨"all_sizes", top 54, ["many", "most", "found", "part", "sizes", "size"], f_all_sizes, false⟩,
  ⟨"missed", top 56, ["scheme", "sizes", "due", "above", "below", "one", "size"], f_missed, false⟩,
  ⟨"miss", top 57, ["scheme", "sizes"], f_miss, false⟩,
  ⟨"worst_sizes", top 58, ["scheme", "most", "best", "sizes", "here"], f_worst_sizes, false⟩,
  ⟨"_law_source", top 60, ["_law_script", "_law_k", "_law_number", "_law_start"], f__law_source, false⟩,
  ⟨"_law_pick", top 61, ["_law_source_here", "_law_many_here", "_law_found"], f__law_pick, false⟩,
  ⟨"_law_chosen", top 62, ["_law_source_here", "_law_things"], f__law_chosen, false⟩,
  ⟨"_law_refused", top 63, ["_law_call", "_law_e"], f__law_refused, false⟩,
  ⟨"_law_by_two", top 64, ["_law_call", "_law_one", "_law_other"], f__law_by_two, true⟩,
  ⟨"_law_low", top 66, ["_law_top", "_law_below", "_law_one", "_law_other"], f__law_low, false⟩,
  ⟨"_law_add", top 67, ["_law_one", "_law_other"], f__law_add, false⟩,
  ⟨"_law_mul", top 68, ["_law_one", "_law_other"], f__law_mul, false⟩,
  ⟨"_law_less", top 69, ["_law_one", "_law_other"], f__law_less, false⟩,
  ⟨"_law_sum", top 70, ["_law_some", "_law_found", "_law_one"], f__law_sum, false⟩,
  ⟨"_law_items", top 71, ["_law_join_here"], f__law_items, false⟩,
  ⟨"_law_numbers", top 72, ["_law_join_here"], f__law_numbers, false⟩,
  ⟨"_law_places", top 73, ["_law_item", "_law_found", "_law_one"], f__law_places, false⟩,
  ⟨"_law_many", top 74, ["_law_scheme_so"], f__law_many, false⟩,
  ⟨"_law_join", top 75, ["_law_source_here", "_law_many_here", "_law_deep", "_law_room", "_law_word_so", "_law_some", "_law_turn", "_law_one"], f__law_join, false⟩,
  ⟨"_law_scheme", top 76, ["_law_source_here", "_law_many_here", "_law_way", "_law_every", "_law_plain", "_law_word_so", "_law_some", "_law_found", "_law_left", "_law_part"], f__law_scheme, false⟩,
  ⟨"_law_worth", top 77, ["_law_item", "_law_sums_so", "_law_size_so", "_law_rows", "_law_one", "_law_found", "_law_heavy", "_law_number", "_law_mine", "_law_weight"], f__law_worth, false⟩,
  ⟨"_law_end", top 78, ["_law_scheme_so", "_law_sums_so", "_law_size_so", "_law_found", "_law_heavy"], f__law_end, false⟩,
  ⟨"_law_counts", top 79, ["_law_scheme_so", "_law_size_so", "_law_found", "_law_part", "_law_sums_so", "_law_here"], f__law_counts, false⟩,
  ⟨"_law_grid", top 80, ["_law_many_here", "_law_most_so", "_law_found", "_law_part", "_law_wider", "_law_size_so", "_law_size"], f__law_grid, false⟩,
  ⟨"_law_rising", top 81, ["_law_many_here", "_law_most_so"], f__law_rising, false⟩,
  ⟨"_law_sizes", top 82, ["_law_source_here", "_law_many_here", "_law_most_so", "_law_part"], f__law_sizes, false⟩,
  ⟨"_law_miss", top 83, ["_law_scheme_so", "_law_size_so", "_law_due", "_law_above_so", "_law_below_so", "_law_one", "_law_size", "_law_gap_here"], f__law_miss, false⟩,
  ⟨"_law_gap", top 84, ["_law_scheme_so", "_law_run_so", "_law_size_so", "_law_sums_so", "_law_lot", "_law_mean_so"], f__law_gap, false⟩,
  ⟨"_law_runs_right", top 85, ["_law_source_here", "_law_scheme_so", "_law_size_so", "_law_told", "_law_more", "_law_one", "_law_high", "_law_truth", "_law_size", "_law_low_here", "_law_fall", "_law_turn", "_law_run_so", "_law_lot", "_law_thing", "_law_gap_here"], f__law_runs_right, false⟩,
  ⟨"_law_worst", top 86, ["_law_scheme_so", "_law_most_so", "_law_best", "_law_found", "_law_size_so", "_law_one", "_law_other", "_law_here"], f__law_worst, false⟩,
  ⟨"_law_written", top 87, ["_law_mean", "_law_plain", "_law_full", "_law_fill", "_law_found"], f__law_written, false⟩,
  ⟨"law", top 88, ["_law_script", "_law_k", "_law_source_here", "_law_many_here", "_law_scheme_so", "_law_most_so", "_law_turn", "_law_size_so", "_law_told", "_law_odd", "_law_call"], f_law, false⟩]
def spec : Pz.Spec := ⟨defs, ["InvalidScheme", "InvalidSizes", "InvalidNumber"], [("WORDS", .tup [.str "sums", .str "means", .str "full", .str "told"]), ("MOST_PARTS", .int 3), ("MOST_PLACES", .int 8), ("MOST_JOINS", .int 5), ("MOST_ITEMS", .int 4), ("MOST_SIZE", .int 1000000000000)], ["len", "abs", "max", "min", "sum", "all", "tuple", "int", "sorted", "range", "zip", "isinstance", "bool", "str"],
  [⟨0, 3, .callv 0 (.cons (.var 1) (.cons (.var 2) .nil))⟩], ["scheme", "sizes", "number"], ⟨"_law_error", top 65, "_law_e", "_law_some", "_law_word_so", "_law_good"⟩, "PartError"⟩
-- law: def 58, top 88; others: is_from divisor lowest plus minus times over is_less greater is_join items_of numbers_of is_word_and_items is_item all_joins all_places is_right_scheme how_many need_scheme are_right_sizes need_sizes need_most weight_of sum_of end_by part_counted counted all_sizes missed miss worst_sizes _law_source _law_pick _law_chosen _law_refused _law_by_two _law_error _law_low _law_add _law_mul _law_less _law_sum _law_items _law_numbers _law_places _law_many _law_join _law_scheme _law_worth _law_end _law_counts _law_grid _law_rising _law_sizes _law_miss _law_gap _law_runs_right _law_worst _law_written PartError InvalidScheme InvalidSizes InvalidRun InvalidPart InvalidNumber InvalidMend InvalidMeans InvalidIndex InvalidRow Full Empty Unlike NothingToUndo TooMany InvalidText __name__ WORDS MOST_PARTS MOST_PLACES MOST_JOINS MOST_ITEMS MOST_SIZE
abbrev O (wf n : Nat) : Orc := orc spec.prog wf n
theorem con_eq {wf n k : Nat} : (O wf n).con k = spec.prog.cons[k]? := by cases n <;> rfl
theorem fn_in {wf N k : Nat} {f : Fn} {ds : List D} {S : Store} (h : 1 ≤ N) (hf : spec.prog.fns[k]? = some f) (h1 : ds.length = f.np) (h2 : f.clo = false) (h3 : f.trim = false) : (O wf N).fn k ds none S = (exSs (O wf (N - 1)) wf f.body (startE f ds none) S).out := by
  obtain ⟨n, rfl⟩ : ∃ n, N = n + 1 := ⟨N - 1, by omega⟩
  show (match spec.prog.fns[k]? with | some f => runF (orc spec.prog wf n) wf f ds none S | none => .bad) = _
  rw [hf]
  show runF (orc spec.prog wf n) wf f ds none S = _
  unfold runF
  rw [if_pos ⟨by simpa [cn] using h1, by rw [h2]; rfl⟩, h3]
  rfl
theorem fn_inc {wf N k j : Nat} {f : Fn} {ds cap : List D} {S : Store} (h : 1 ≤ N) (hf : spec.prog.fns[k]? = some f) (h1 : ds.length + 1 = f.np) (h2 : f.clo = true) (h3 : f.trim = false) : (O wf N).fn k ds (some (j, cap)) S = (exSs (O wf (N - 1)) wf f.body (startE f ds (some (j, cap))) S).out := by
  obtain ⟨n, rfl⟩ : ∃ n, N = n + 1 := ⟨N - 1, by omega⟩
  show (match spec.prog.fns[k]? with | some f => runF (orc spec.prog wf n) wf f ds (some (j, cap)) S | none => .bad) = _
  rw [hf]
  show runF (orc spec.prog wf n) wf f ds (some (j, cap)) S = _
  unfold runF
  rw [if_pos ⟨by simpa [cn] using h1, by rw [h2]; rfl⟩, h3]
  rfl
@[simp] theorem con_0 {wf n : Nat} : (O wf n).con 0 = some (.tup [.str "sums", .str "means", .str "full", .str "told"]) := con_eq
@[simp] theorem con_1 {wf n : Nat} : (O wf n).con 1 = some (.int 3) := con_eq
@[simp] theorem con_2 {wf n : Nat} : (O wf n).con 2 = some (.int 8) := con_eq
@[simp] theorem con_3 {wf n : Nat} : (O wf n).con 3 = some (.int 5) := con_eq
@[simp] theorem con_4 {wf n : Nat} : (O wf n).con 4 = some (.int 4) := con_eq
@[simp] theorem con_5 {wf n : Nat} : (O wf n).con 5 = some (.int 1000000000000) := con_eq
--K k_is_from 0
--K k_divisor 1
--K k_lowest 2
--K k_plus 3
--K k_minus 4
--K k_times 5
--K k_over 6
--K k_is_less 7
--K k_greater 8
--K k_is_join 9
--K k_items_of 10
--K k_numbers_of 11
--K k_is_word_and_items 12
--K k_is_item 13
--K k_all_joins 14
--K k_all_places 15
--K k_is_right_scheme 16
--K k_how_many 17
--K k_need_scheme 18
--K k_are_right_sizes 19
--K k_need_sizes 20
--K k_need_most 21
--K k_weight_of 22
--K k_sum_of 23
--K k_end_by 24
--K k_part_counted 25
--K k_counted 26
--K k_all_sizes 27
--K k_missed 28
--K k_miss 29
--K k_worst_sizes 30
--K k__law_source 31
--K k__law_pick 32
--K k__law_chosen 33
--K k__law_refused 34
--K k__law_by_two 35
--K k__law_low 36
--K k__law_add 37
--K k__law_mul 38
--K k__law_less 39
--K k__law_sum 40
--K k__law_items 41
--K k__law_numbers 42
--K k__law_places 43
--K k__law_many 44
--K k__law_join 45
--K k__law_scheme 46
--K k__law_worth 47
--K k__law_end 48
--K k__law_counts 49
--K k__law_grid 50
--K k__law_rising 51
--K k__law_sizes 52
--K k__law_miss 53
--K k__law_gap 54
--K k__law_runs_right 55
--K k__law_worst 56
--K k__law_written 57
--K k_law 58
--K e_InvalidScheme 0
--K e_InvalidSizes 1
--K e_InvalidNumber 2
end LK

namespace LK
open PySem PySem.Spec PyProof.Rows L2 Pz
theorem ok : spec.ok = true := by decide +kernel
end LK

namespace LK
open PySem PySem.Spec PyProof.Rows L2 Pz
abbrev R : PySem.W.OpenRow := PySem.W.OpenLaw.row PySem.Challenge.rw_partmeans_k51_whole_greatest_misses
def nm0 : List PySem.Str := ["is_from", "divisor", "lowest", "plus", "minus", "times", "over", "is_less", "greater", "is_join", "items_of", "numbers_of", "is_word_and_items", "is_item", "all_joins", "all_places"]
def nm1 : List PySem.Str := ["is_right_scheme", "how_many", "need_scheme", "are_right_sizes", "need_sizes", "need_most", "weight_of", "sum_of", "end_by", "part_counted", "counted", "all_sizes", "missed", "miss", "worst_sizes", "_law_source"]
def nm2 : List PySem.Str := ["_law_pick", "_law_chosen", "_law_refused", "_law_by_two", "_law_error", "_law_low", "_law_add", "_law_mul", "_law_less", "_law_sum", "_law_items", "_law_numbers", "_law_places", "_law_many", "_law_join", "_law_scheme"]
def nm3 : List PySem.Str := ["_law_worth", "_law_end", "_law_counts", "_law_grid", "_law_rising", "_law_sizes", "_law_miss", "_law_gap", "_law_runs_right", "_law_worst", "_law_written", "PartError", "InvalidScheme", "InvalidSizes", "InvalidRun", "InvalidPart"]
def nm4 : List PySem.Str := ["InvalidNumber", "InvalidMend", "InvalidMeans", "InvalidIndex", "InvalidRow", "Full", "Empty", "Unlike", "NothingToUndo", "TooMany", "InvalidText", "__name__", "WORDS", "MOST_PARTS", "MOST_PLACES", "MOST_JOINS"]
def nm5 : List PySem.Str := ["MOST_ITEMS", "MOST_SIZE"]
def names : List PySem.Str := nm0 ++ nm1 ++ nm2 ++ nm3 ++ nm4 ++ nm5
abbrev hk : PySem.W.Hook := He.hookX 2 [] spec.fn [] spec.tf spec.ex
def ob (s : PySem.W.SharedT) : He.AlX := He.obsX 2 [] spec.fn [] spec.tf spec.ex (HandSHeadRun.getT s)
theorem ob_eq (s : PySem.W.SharedT) : ob s = hk.obs s.abs := He.obsX_eq (HandSHeadRun.getT_eq s)
theorem run (w : World) : HandSHeadRun.RunEq R (PySem.W.view R.prog [88]) hk ob 30000 names w := by
  intro os
  kernel_rfl
end LK

/-! L1: schemes: what the defs compute. -/
namespace LK
open PySem PySem.Spec PyProof.Rows L2 Pz
variable {wf N : Nat} {S : Store}
theorem e_is_from {d : D} {lo hi : Int} (hd : d.isData = true) (h : 1 ≤ N) : (O wf N).fn 0 [d, .int lo, .int hi] none S = .ok (.bl (isFrom d lo hi)) S := by
  (rw [fn_in (f := f_is_from) (by omega) rfl rfl rfl rfl]; simp only [f_is_from, startE, List.map_cons, List.map_nil, List.cons_append, List.nil_append, List.replicate, Nat.sub_self])
  cases d <;> first | (simp [D.isData] at hd; done) | simp [isFrom]
theorem e_items {w : Str} {r : List D} (h : 1 ≤ N) : (O wf N).fn 10 [.tup (.str w :: r)] none S = .ok (.tup (itemsOf w r)) S := by
  (rw [fn_in (f := f_items_of) (by omega) rfl rfl rfl rfl]; simp only [f_items_of, startE, List.map_cons, List.map_nil, List.cons_append, List.nil_append, List.replicate, Nat.sub_self])
  have c2 : slcD (.tup (.str w :: r)) (some 2) none = some (.tup (r.drop 1)) := slc_from (k := 2)
  have c1 : slcD (.tup (.str w :: r)) (some 1) none = some (.tup r) := slc_from (k := 1)
  by_cases q : w = "told" <;> simp [itemsOf, q, c1, c2]
theorem e_law_items {w : Str} {r : List D} (h : 1 ≤ N) : (O wf N).fn 41 [.tup (.str w :: r)] none S = .ok (.tup (itemsOf w r)) S := by
  (rw [fn_in (f := f__law_items) (by omega) rfl rfl rfl rfl]; simp only [f__law_items, startE, List.map_cons, List.map_nil, List.cons_append, List.nil_append, List.replicate, Nat.sub_self])
  have c2 : slcD (.tup (.str w :: r)) (some 2) none = some (.tup (r.drop 1)) := slc_from (k := 2)
  have c1 : slcD (.tup (.str w :: r)) (some 1) none = some (.tup r) := slc_from (k := 1)
  by_cases q : w = "told" <;> simp [itemsOf, q, c1, c2]
theorem e_is_join {d : D} (hd : d.isData = true) (h : 1 ≤ N) : (O wf N).fn 9 [d] none S = .ok (.bl (isTup d)) S := by
  (rw [fn_in (f := f_is_join) (by omega) rfl rfl rfl rfl]; simp only [f_is_join, startE, List.map_cons, List.map_nil, List.cons_append, List.nil_append, List.replicate, Nat.sub_self])
  cases d <;> first | (simp [D.isData] at hd; done) | simp [isTup]

theorem not_word {w : Str} : cmpD .notIn (.str w) (.tup [.str "sums", .str "means", .str "full", .str "told"]) = some (!isWord w) := by
  simp [cmpD, inS, inD, D.flat, flatEq, isWord, eq_comm, Bool.or_assoc]
theorem e_wi {k : Nat} {ds : List D} (h : sm k (.tup ds) = true) (hN : 2 ≤ N) : (O wf N).fn 12 [.tup ds] none S = .ok (.bl (wiOk ds)) S := by
  (rw [fn_in (f := f_is_word_and_items) (by omega) rfl rfl rfl rfl]; simp only [f_is_word_and_items, startE, List.map_cons, List.map_nil, List.cons_append, List.nil_append, List.replicate, Nat.sub_self])
  have hs := sm_mem h
  rcases ds with _ | ⟨a, _ | ⟨x, r⟩⟩
  · simp [wiOk]
  · simp [wiOk]
  · have hle : ¬ ((r.length : Int) + 1 + 1 < 2) := by omega
    have ha := (sm_ok (hs a List.mem_cons_self)).1
    cases a with
    | str w =>
      have e1 : ∀ T : Store, (O wf (N - 1)).fn 10 [.tup (.str w :: x :: r)] none T = .ok (.tup (itemsOf w (x :: r))) T := fun T => e_items (by omega)
      simp [hle, not_word, e1]
      by_cases h1 : isWord w = true
      · simp [h1]
        generalize hm : (itemsOf w (x :: r)).length = m
        by_cases h2 : 1 ≤ m ∧ m ≤ 4
        · rw [if_neg (by omega)]
          by_cases h4 : w = "told"
          · subst h4
            have hx := hs x (List.mem_cons_of_mem _ List.mem_cons_self)
            cases x with
            | tup ns =>
              have hln := sm_len hx
              simp
              by_cases h5 : ns.length = m
              · simp [h5, wiOk, h1, hm, h2, numsOk]
                simp [f_is_word_and_items_c0, blk_def]
                rw [compL_of fun y => D.bl (isFrom y 1 9)]
                · simp [h5]
                  omega
                · intro y hy
                  simp [turnO, e_is_from (sm_ok (sm_mem hx y hy)).1 (show 1 ≤ N - 1 by omega)]
              · have i5 : ¬ ((ns.length : Int) = (m : Int)) := by omega
                simp [i5, wiOk, h1, hm, h2, numsOk, h5]
            | _ => first | (have hx1 := (sm_ok hx).1; simp [D.isData] at hx1; done) | simp [wiOk, h1, hm, h2, numsOk]
          · simp [h4, wiOk, h1, hm, h2]
        · rw [if_pos (by omega)]
          have i2 : (decide (1 ≤ m) && decide (m ≤ 4)) = false := by simp; omega
          simp [wiOk, h1, hm, i2]
      · simp [h1, wiOk]
    | _ => first | (simp [D.isData] at ha; done) | simp [hle, wiOk]
theorem e_is_item : ∀ {k N : Nat} {d : D} {j : Nat}, sm j d = true → k + 3 ≤ N → ∀ {S : Store}, (O wf N).fn 13 [d, .int (k : Int)] none S = .ok (.bl (isItem k d)) S := by
  intro k
  induction k with
  | zero =>
    intro N d j h hN S
    have hd := (sm_ok h).1
    (rw [fn_in (f := f_is_item) (by omega) rfl rfl rfl rfl]; simp only [f_is_item, startE, List.map_cons, List.map_nil, List.cons_append, List.nil_append, List.replicate, Nat.sub_self])
    cases d with
    | tup ds => simp [isItem]
    | _ => first | (simp [D.isData] at hd; done) | simp [isItem, e_is_from hd (show 1 ≤ N - 1 by omega)]
  | succ k ih =>
    intro N d j h hN S
    have hd := (sm_ok h).1
    have hk : ¬ ((k : Int) + 1 = 0) := by omega
    (rw [fn_in (f := f_is_item) (by omega) rfl rfl rfl rfl]; simp only [f_is_item, startE, List.map_cons, List.map_nil, List.cons_append, List.nil_append, List.replicate, Nat.sub_self])
    cases d with
    | tup ds =>
      have ew := fun S => e_wi (wf := wf) (S := S) h (show 2 ≤ N - 1 by omega)
      by_cases hw : wiOk ds = true
      · rcases ds with _ | ⟨a, r⟩
        · simp [wiOk] at hw
        · cases a with
          | str w =>
            simp [hk, ew, hw, f_is_item_c0, e_items (show 1 ≤ N - 1 by omega), blk_def]
            rw [compL_of fun y => D.bl (isItem k y)]
            · have := items_len h
              simp [isItem, hw, show (itemsOf w r).length ≤ 1000000 by omega]
            · intro y hy
              have e1 : (k : Int) + 1 - 1 = (k : Int) := by omega
              simp [turnO, e1, ih (sm_items h y hy) (show k + 3 ≤ N - 1 by omega)]
          | _ => simp [wiOk] at hw
      · have e0 : isItem (k + 1) (.tup ds) = false := by
          rcases ds with _ | ⟨a, r⟩
          · rfl
          · cases a <;> first | rfl | (simp only [isItem]; simp [hw])
        simp [hk, ew, hw, e0]
    | _ => first | (simp [D.isData] at hd; done) | simp [isItem, e_is_from hd (show 1 ≤ N - 1 by omega)]
theorem e_places : ∀ {k N : Nat} {d : D}, k ≤ 6 → isItem k d = true → k + 2 ≤ N → ∀ {S : Store}, (O wf N).fn 15 [d] none S = .ok (.lst ((pl k d).map D.int)) S := by
  intro k
  induction k with
  | zero =>
    intro N d hk h hN S
    (rw [fn_in (f := f_all_places) (by omega) rfl rfl rfl rfl]; simp only [f_all_places, startE, List.map_cons, List.map_nil, List.cons_append, List.nil_append, List.replicate, Nat.sub_self])
    rcases isItem_cases h with ⟨i, rfl, h1, h2⟩ | ⟨k', w, r, e, rfl, h1, h2, h3, h4⟩
    · simp [e_is_join (d := .int i) rfl (show 1 ≤ N - 1 by omega), isTup]
    · omega
  | succ k ih =>
    intro N d hk h hN S
    (rw [fn_in (f := f_all_places) (by omega) rfl rfl rfl rfl]; simp only [f_all_places, startE, List.map_cons, List.map_nil, List.cons_append, List.nil_append, List.replicate, Nat.sub_self])
    have hj := e_is_join (wf := wf) (S := S) (sm_ok (isItem_sm h)).1 (show 1 ≤ N - 1 by omega)
    rcases isItem_cases h with ⟨i, rfl, h1, h2⟩ | ⟨k', w, r, e, rfl, h1, h2, h3, h4⟩
    · simp [hj, isTup]
    · cases e
      have pl0 := pl_le h hk
      obtain ⟨sl', e⟩ := for_add (n := 60000) (S := S) (c := D.int) (o := O wf (N - 1)) (d := .tup (.str w :: r)) (body := fun env S => exSs (O wf (N - 1)) wf f_all_places_b0 env S) (itemsOf w r) id (pl k) [] none (by
        intro x hx acc hm
        have p1 := pl_le (h4 x hx) (by omega)
        have hs : acc.length + (pl k x).length ≤ sizeLine := by
          have : 60000 + 60000 ≤ sizeLine := by decide
          omega
        simp [f_all_places_b0, ih (by omega) (h4 x hx) (show k + 2 ≤ N - 1 by omega), hs]) (by simpa using pl0)
      simp only [List.map_id] at e
      simp [hj, isTup, f_all_places_l0, e_items (show 1 ≤ N - 1 by omega)]
      simp at e
      simp [e]
theorem e_joins : ∀ {k N : Nat} {d : D}, k ≤ 6 → isItem k d = true → k + 2 ≤ N → ∀ {S : Store}, (O wf N).fn 14 [d] none S = .ok (.lst (joins k d)) S := by
  intro k
  induction k with
  | zero =>
    intro N d hk h hN S
    (rw [fn_in (f := f_all_joins) (by omega) rfl rfl rfl rfl]; simp only [f_all_joins, startE, List.map_cons, List.map_nil, List.cons_append, List.nil_append, List.replicate, Nat.sub_self])
    rcases isItem_cases h with ⟨i, rfl, h1, h2⟩ | ⟨k', w, r, e, rfl, h1, h2, h3, h4⟩
    · simp [e_is_join (d := .int i) rfl (show 1 ≤ N - 1 by omega), isTup]
    · omega
  | succ k ih =>
    intro N d hk h hN S
    (rw [fn_in (f := f_all_joins) (by omega) rfl rfl rfl rfl]; simp only [f_all_joins, startE, List.map_cons, List.map_nil, List.cons_append, List.nil_append, List.replicate, Nat.sub_self])
    have hj := e_is_join (wf := wf) (S := S) (sm_ok (isItem_sm h)).1 (show 1 ≤ N - 1 by omega)
    rcases isItem_cases h with ⟨i, rfl, h1, h2⟩ | ⟨k', w, r, e, rfl, h1, h2, h3, h4⟩
    · simp [hj, isTup]
    · cases e
      have pl0 := joins_le h hk
      obtain ⟨sl', e⟩ := for_add (n := 60000) (S := S) (c := id) (o := O wf (N - 1)) (d := .tup (.str w :: r)) (body := fun env S => exSs (O wf (N - 1)) wf f_all_joins_b0 env S) (itemsOf w r) id (joins k) [.tup (.str w :: r)] none (by
        intro x hx acc hm
        have p1 := joins_le (h4 x hx) (by omega)
        have hs : acc.length + (joins k x).length ≤ sizeLine := by
          have : 60000 + 60000 ≤ sizeLine := by decide
          omega
        simp [f_all_joins_b0, ih (by omega) (h4 x hx) (show k + 2 ≤ N - 1 by omega), hs]) (by simpa using pl0)
      simp only [List.map_id] at e
      simp [hj, isTup, f_all_joins_l0, e_items (show 1 ≤ N - 1 by omega)]
      simp at e
      simp [e]
theorem e_law_places : ∀ {k N : Nat} {d : D}, k ≤ 6 → isItem k d = true → k + 2 ≤ N → ∀ {S : Store}, (O wf N).fn 43 [d] none S = .ok (.lst ((pl k d).map D.int)) S := by
  intro k
  induction k with
  | zero =>
    intro N d hk h hN S
    (rw [fn_in (f := f__law_places) (by omega) rfl rfl rfl rfl]; simp only [f__law_places, startE, List.map_cons, List.map_nil, List.cons_append, List.nil_append, List.replicate, Nat.sub_self])
    rcases isItem_cases h with ⟨i, rfl, h1, h2⟩ | ⟨k', w, r, e, rfl, h1, h2, h3, h4⟩
    · simp
    · omega
  | succ k ih =>
    intro N d hk h hN S
    (rw [fn_in (f := f__law_places) (by omega) rfl rfl rfl rfl]; simp only [f__law_places, startE, List.map_cons, List.map_nil, List.cons_append, List.nil_append, List.replicate, Nat.sub_self])
    rcases isItem_cases h with ⟨i, rfl, h1, h2⟩ | ⟨k', w, r, e, rfl, h1, h2, h3, h4⟩
    · simp
    · cases e
      have pl0 := pl_le h hk
      obtain ⟨sl', e⟩ := for_add (n := 60000) (S := S) (c := D.int) (o := O wf (N - 1)) (d := .tup (.str w :: r)) (body := fun env S => exSs (O wf (N - 1)) wf f__law_places_b0 env S) (itemsOf w r) id (pl k) [] none (by
        intro x hx acc hm
        have p1 := pl_le (h4 x hx) (by omega)
        have hs : acc.length + (pl k x).length ≤ sizeLine := by
          have : 60000 + 60000 ≤ sizeLine := by decide
          omega
        simp [f__law_places_b0, ih (by omega) (h4 x hx) (show k + 2 ≤ N - 1 by omega), hs]) (by simpa using pl0)
      simp only [List.map_id] at e
      simp [f__law_places_l0, e_law_items (show 1 ≤ N - 1 by omega)]
      simp at e
      simp [e]
end LK


/-! L2: right schemes, sizes, runs; common divisors. -/
namespace LK
open PySem PySem.Spec PyProof.Rows L2 Pz
variable {wf N : Nat} {S : Store}
theorem l_divisor {o : Orc} {m : Nat} : ∀ {n a b : Nat}, b < n → whileL (fun env S => evE o (.cmp .ne (.var 1) (.con (.int 0))) env S) (fun env S => exSs o m f_divisor_b0 env S) n [some (.val (.int (a : Int))), some (.val (.int (b : Int)))] S = .nxt [some (.val (.int (Nat.gcd a b : Nat))), some (.val (.int 0))] S
  | 0, a, b, h => absurd h (by omega)
  | n + 1, a, b, h => by
    by_cases z : b = 0
    · subst z; rw [whileL_f (by simp)]; simp
    · have z2 : 0 < b := by omega
      rw [whileL_t (env' := [some (.val (.int (b : Int))), some (.val (.int ((a % b : Nat) : Int)))]) (S' := S) (by simp [z]) (by simp [f_divisor_b0, z2]), l_divisor (by have := Nat.mod_lt a (show 0 < b by omega); omega), Nat.gcd_comm b, ← Nat.gcd_rec, Nat.gcd_comm]
theorem e_divisor {a b : Int} (h : 1 ≤ N) (hb : b.natAbs < wf) : (O wf N).fn 1 [.int a, .int b] none S = .ok (.int (Int.gcd a b)) S := by
  (rw [fn_in (f := f_divisor) (by omega) rfl rfl rfl rfl]; simp only [f_divisor, startE, List.map_cons, List.map_nil, List.cons_append, List.nil_append, List.replicate, Nat.sub_self])
  have ab : ∀ x : Int, (if x < 0 then -x else x) = (x.natAbs : Int) := fun x => by split <;> omega
  simp [ab]
  rw [f_divisor_l0, y_while, l_divisor hb]
  simp [Int.gcd]
theorem e_right {d : D} {j : Nat} (hd : sm j d = true) (h : 9 ≤ N) : (O wf N).fn 16 [d] none S = .ok (.bl (isRight d)) S := by
  (rw [fn_in (f := f_is_right_scheme) (by omega) rfl rfl rfl rfl]; simp only [f_is_right_scheme, startE, List.map_cons, List.map_nil, List.cons_append, List.nil_append, List.replicate, Nat.sub_self])
  have hi := fun S => e_is_item (wf := wf) (S := S) (k := 5) hd (show 5 + 3 ≤ N - 1 by omega)
  simp at hi
  cases d with
  | tup ds =>
    simp [hi]
    by_cases h1 : isItem 5 (.tup ds) = true
    · have e1 : ∀ T, (O wf (N - 1)).fn 15 [.tup ds] none T = _ := fun T => e_places (by omega) h1 (by omega)
      have e2 : ∀ T, (O wf (N - 1)).fn 14 [.tup ds] none T = _ := fun T => e_joins (by omega) h1 (by omega)
      have e3 := pl_mem h1 _ (maxI_mem (pl_pos h1)).1
      have e4 := pl_le h1 (by omega)
      simp [h1, e1, e2]
      by_cases h2 : (pl 5 (.tup ds)).length ≤ 8 ∧ (joins 5 (.tup ds)).length ≤ 5
      · rw [if_neg (by omega)]
        simp [f_is_right_scheme_c0, pl_pos h1, blk_def, ranges1 (show 0 ≤ maxI (pl 5 (.tup ds)) ∧ _ ≤ 2 ^ 60 by omega)]
        rw [compL_of' D.int fun y => D.bl ((pl 5 (.tup ds)).contains y)]
        · rw [Out.calm_ok, Out.bind_ok]
          have := (congrArg (· ≤ 1000000) (len_rangeI (n := (maxI (pl 5 (.tup ds))).toNat))).mpr (by show _ ≤ _; omega)
          rw [if_pos (by simpa using this)]
          simp [isRight, isTup, h1, h2, seqOk, rangeI, List.all_map, Function.comp_def]
        · intro y hy
          simp [turnO]
      · rw [if_pos (by omega)]
        have : (decide ((pl 5 (.tup ds)).length ≤ 8) && decide ((joins 5 (.tup ds)).length ≤ 5)) = false := by simp; omega
        simp [isRight, this]
    · simp [h1, isRight]
  | _ => first | (have hx1 := (sm_ok hd).1; simp [D.isData] at hx1; done) | simp [isRight, isTup]
theorem e_many {d : D} (h1 : isItem 5 d = true) (h : 8 ≤ N) : (O wf N).fn 17 [d] none S = .ok (.int (many d)) S := by
  (rw [fn_in (f := f_how_many) (by omega) rfl rfl rfl rfl]; simp only [f_how_many, startE, List.map_cons, List.map_nil, List.cons_append, List.nil_append, List.replicate, Nat.sub_self])
  have e1 : ∀ T, (O wf (N - 1)).fn 15 [d] none T = _ := fun T => e_places (by omega) h1 (by omega)
  simp [e1, pl_pos h1, many_eq h1]
theorem e_law_many {d : D} (h1 : isItem 5 d = true) (h : 8 ≤ N) : (O wf N).fn 44 [d] none S = .ok (.int (many d)) S := by
  (rw [fn_in (f := f__law_many) (by omega) rfl rfl rfl rfl]; simp only [f__law_many, startE, List.map_cons, List.map_nil, List.cons_append, List.nil_append, List.replicate, Nat.sub_self])
  have e1 : ∀ T, (O wf (N - 1)).fn 43 [d] none T = _ := fun T => e_law_places (by omega) h1 (by omega)
  simp [e1, pl_pos h1, many_eq h1]
theorem e_need_scheme {d : D} {j : Nat} (hd : sm j d = true) (h : 10 ≤ N) : (O wf N).fn 18 [d] none S = if isRight d = true then .ok .non S else .exc 0 [] S := by
  (rw [fn_in (f := f_need_scheme) (by omega) rfl rfl rfl rfl]; simp only [f_need_scheme, startE, List.map_cons, List.map_nil, List.cons_append, List.nil_append, List.replicate, Nat.sub_self])
  have e := fun S => e_right (wf := wf) (S := S) hd (show 9 ≤ N - 1 by omega)
  by_cases q : isRight d = true <;> simp [e, q]
theorem e_sizes {s d : D} {j : Nat} (h1 : isItem 5 s = true) (hd : sm j d = true) (h : 9 ≤ N) : (O wf N).fn 19 [s, d] none S = .ok (.bl (areSizes (many s) d)) S := by
  (rw [fn_in (f := f_are_right_sizes) (by omega) rfl rfl rfl rfl]; simp only [f_are_right_sizes, startE, List.map_cons, List.map_nil, List.cons_append, List.nil_append, List.replicate, Nat.sub_self])
  have e := fun S => e_many (wf := wf) (S := S) h1 (show 8 ≤ N - 1 by omega)
  cases d with
  | tup ds =>
    simp [e]
    by_cases q : ds.length = many s
    · have q2 : ((ds.length : Int) = (many s : Int)) := by omega
      have := sm_len hd
      simp [q, f_are_right_sizes_c0, blk_def]
      rw [compL_of fun y => D.bl (isFrom y 0 1000000000000)]
      · simp [show many s ≤ 1000000 by omega, areSizes, q]
      · intro y hy
        simp [turnO, e_is_from (sm_ok (sm_mem hd y hy)).1 (show 1 ≤ N - 1 by omega)]
    · have q2 : ¬ ((ds.length : Int) = (many s : Int)) := by omega
      simp [q2, areSizes, q]
  | _ => first | (have hx1 := (sm_ok hd).1; simp [D.isData] at hx1; done) | simp [areSizes]
end LK


/-! L3: what the law's own tests of values compute. -/
namespace LK
open PySem PySem.Spec PyProof.Rows L2 Pz
variable {wf N : Nat} {S : Store}
theorem l_low {o : Orc} {m : Nat} {d1 d2 : Option Sl} : ∀ {n a b : Nat}, b < n → whileL (fun env S => evE o (.cmp .gt (.var 3) (.con (.int 0))) env S) (fun env S => exSs o m f__law_low_b0 env S) n [d1, d2, some (.val (.int (a : Int))), some (.val (.int (b : Int)))] S = .nxt [d1, d2, some (.val (.int (Nat.gcd a b : Nat))), some (.val (.int 0))] S
  | 0, a, b, h => absurd h (by omega)
  | n + 1, a, b, h => by
    by_cases z : b = 0
    · subst z; rw [whileL_f (by simp)]; simp
    · have z2 : 0 < b := by omega
      rw [whileL_t (env' := [d1, d2, some (.val (.int (b : Int))), some (.val (.int ((a % b : Nat) : Int)))]) (S' := S) (by simp [z2]) (by simp [f__law_low_b0, z2]), l_low (by have := Nat.mod_lt a (show 0 < b by omega); omega), Nat.gcd_comm b, ← Nat.gcd_rec, Nat.gcd_comm]
theorem e_law_low {a b : Int} (h : 1 ≤ N) (hb : 0 < b) (hb2 : b.natAbs < 2 ^ 9000) (hw : b.natAbs < wf) : (O wf N).fn 36 [.int a, .int b] none S = .ok (lowD a b) S := by
  (rw [fn_in (f := f__law_low) (by omega) rfl rfl rfl rfl]; simp only [f__law_low, startE, List.map_cons, List.map_nil, List.cons_append, List.nil_append, List.replicate, Nat.sub_self])
  have ab : (if a < 0 then -a else a) = (a.natAbs : Int) := by split <;> omega
  simp [ab]
  have e : b = (b.natAbs : Int) := by omega
  rw [f__law_low_l0, y_while]
  have := l_low (S := S) (o := O wf (N - 1)) (m := wf) (d1 := some (.val (.int a))) (d2 := some (.val (.int b))) (a := a.natAbs) hw
  rw [← e] at this
  rw [this]
  have g0 : 0 < Int.gcd a b := Nat.pos_of_ne_zero fun z => by rw [Int.gcd_eq_zero_iff] at z; omega
  have g1 : Int.gcd a b ≤ b.natAbs := Nat.le_of_dvd (by omega) (by rw [Int.gcd]; exact Nat.gcd_dvd_right _ _)
  have g2 : divOk (Nat.gcd a.natAbs b.natAbs : Nat) := div_ok (by have : Int.gcd a b = Nat.gcd a.natAbs b.natAbs := rfl; omega) (by have : Int.gcd a b = Nat.gcd a.natAbs b.natAbs := rfl; rw [Int.natAbs_natCast, ← this]; exact Nat.lt_of_le_of_lt g1 hb2)
  simp [g2]
  rfl
end LK


/-! L4: draws. -/
namespace LK
open PySem PySem.Spec PyProof.Rows L2 Pz
variable {wf N : Nat} {S : Store}
theorem e_source {ns : List Int} {k : Nat} (h : 1 ≤ N) : ∃ a b, (O wf N).fn 31 [.scr ns, .int (k : Int)] none S = .ok (.ref S.length) (S ++ [.lst [.int a, .int b]]) := by
  have m1 : ∀ x : Int, mulOk x 16807 := fun x => mul_small' (by omega)
  have m2 : ∀ x : Int, mulOk 60919 x := fun x => mul_small (by omega)
  have m3 : ∀ x : Int, mulOk 2 x := fun x => mul_small (by omega)
  have m4 : ∀ x : Int, mulOk (x % 2147481173) (x % 2147481173) := fun x => mul_small (by omega)
  have p1 : powOk 10 18 := by decide
  have ix : ∀ x : Int, ixS S (.scr ns) (.int x) = (atI ns x).map D.int := fun _ => rfl
  (rw [fn_in (f := f__law_source) (by omega) rfl rfl rfl rfl]; simp only [f__law_source, startE, List.map_cons, List.map_nil, List.cons_append, List.nil_append, List.replicate, Nat.sub_self])
  by_cases q : k < ns.length
  · have q2 : ((k : Int) < (ns.length : Int)) := by omega
    simp [q2, ix, atI_nat q, m1, m2, m3, m4, p1]
    split <;> exact ⟨_, _, rfl⟩
  · have q2 : ¬ ((k : Int) < (ns.length : Int)) := by omega
    simp [q2, m1, m2, m3, m4, p1]
theorem e_pick {n : Nat} {m : Int} (h : 1 ≤ N) (hs : Src n S) (h1 : 0 < m) (h2 : m ≤ 2 ^ 60) : ∃ r S', (O wf N).fn 32 [.ref n, .int m] none S = .ok (.int r) S' ∧ 0 ≤ r ∧ r < m ∧ Dr n S S' ∧ S'.length = S.length := by
  have hl := hs.lt
  obtain ⟨a, b, e⟩ := hs
  have m1 : ∀ x : Int, mulOk x 44497 := fun x => mul_small' (by omega)
  have m2 : ∀ x : Int, mulOk (x % 2147483647) (x % 2147483647) := fun x => mul_small (by omega)
  have d1 : divOk m := div_small h1 h2
  have d2 : divOk 11 := div_small (by omega) (by omega)
  have ts : ∀ x : Int, primD .int [.int x] = some (.int x) := fun _ => rfl
  have u0 : ∀ (x : Int) (env : Pz.Env), putRef env n (.int x) (.int 0) S = .nxt env (S.set n (.lst [.int x, .int b])) := fun x env => putRef_of e rfl
  have u1 : ∀ (x : Int) (env : Pz.Env), putRef env n (.int x) (.int 1) S = .nxt env (S.set n (.lst [.int a, .int x])) := fun x env => putRef_of e rfl
  have e2 : ∀ x y : Int, (S.set n (.lst [.int x, .int y]))[n]? = some (.lst [.int x, .int y]) := fun x y => List.getElem?_set_self hl
  (rw [fn_in (f := f__law_pick) (by omega) rfl rfl rfl rfl]; simp only [f__law_pick, startE, List.map_cons, List.map_nil, List.cons_append, List.nil_append, List.replicate, Nat.sub_self])
  by_cases q : 0 < a
  · refine ⟨a % m, S.set n (.lst [.int (a / m), .int b]), ?_, Int.emod_nonneg _ (by omega), Int.emod_lt_of_pos _ h1, Dr.set hl, by simp⟩
    simp [e, q, ts, h1, d1, u0]
  · refine ⟨(b * 44497 + 9973) % 2147483647 * ((b * 44497 + 9973) % 2147483647) % 2147483399 / 11 % m, S.set n (.lst [.int a, .int ((b * 44497 + 9973) % 2147483647)]), ?_, Int.emod_nonneg _ (by omega), Int.emod_lt_of_pos _ h1, Dr.set hl, by simp⟩
    simp [e, q, ts, h1, m1, u1, e2, m2, d2]
theorem e_chosen {n : Nat} {xs : List D} (h : 2 ≤ N) (hs : Src n S) (h1 : xs ≠ []) (h2 : xs.length ≤ 10000) : ∃ d S', (O wf N).fn 33 [.ref n, .lst xs] none S = .ok d S' ∧ d ∈ xs ∧ Dr n S S' ∧ S'.length = S.length := by
  have hp : 0 < xs.length := List.length_pos_iff.mpr h1
  obtain ⟨r, S', e1, r0, r1, dr, hl⟩ := e_pick (wf := wf) (N := N - 1) (m := (xs.length : Int)) (by omega) hs (by omega) (by omega)
  obtain ⟨d, hd, ed⟩ := ix_some (S := S') r0 r1
  (rw [fn_in (f := f__law_chosen) (by omega) rfl rfl rfl rfl]; simp only [f__law_chosen, startE, List.map_cons, List.map_nil, List.cons_append, List.nil_append, List.replicate, Nat.sub_self])
  refine ⟨d, S', ?_, hd, dr, hl⟩
  simp [e1, -ix_ref]
  rw [ed]
  rfl
def JoinOk (wf N k m n p : Nat) : Prop := ∀ {S : Store} {r : Nat}, Src n S → S[p]? = some (.lst [.int (r : Int)]) → ∃ d S' r', (O wf N).fn 45 [.ref n, .int (m : Int), .int (k : Int), .ref p] none S = .ok d S' ∧ isTup d = true ∧ Jtm (k + 1) m d ∧ (Pz.joins (k + 1) d).length + r' ≤ r + 1 ∧ JS n p S S' ∧ S'[p]? = some (.lst [.int (r' : Int)])
theorem b_join {k m n p : Nat} {w : D} {xs : List D} {sl : Option Sl} {r : Nat} (hN : 1 ≤ N) (hk : k = 0 ∨ JoinOk wf N (k - 1) m n p) (hp : p ≠ n) (hm : 1 ≤ m ∧ m ≤ 3) (hs : Src n S) (hr : S[p]? = some (.lst [.int (r : Int)])) (hx : xs.length ≤ 100) :
    ∃ y S' r', exSs (O wf N) wf f__law_join_b0 [some (.val (.ref n)), some (.val (.int (m : Int))), some (.val (.int (k : Int))), some (.val (.ref p)), some (.val w), some (.own xs), sl, none] S = .nxt [some (.val (.ref n)), some (.val (.int (m : Int))), some (.val (.int (k : Int))), some (.val (.ref p)), some (.val w), some (.own (xs ++ [y])), sl, none] S' ∧ Jtm k m y ∧ (Pz.joins k y).length + r' ≤ r ∧ JS n p S S' ∧ S'[p]? = some (.lst [.int (r' : Int)]) := by
  have hx2 : xs.length ≤ 1000000 := by omega
  by_cases hk0 : k = 0
  · subst hk0
    obtain ⟨v, S1, e1, v0, v1, d1, _⟩ := e_pick (wf := wf) (N := N) (m := (m : Int)) hN hs (by omega) (by omega)
    refine ⟨.int v, S1, r, ?_, Jtm.int v0 v1 hm.2, by simp, d1.js, by rw [d1.fr p hp (some_lt hr)]; exact hr⟩
    simp [f__law_join_b0, e1, hx2]
  · obtain ⟨k', rfl⟩ : ∃ k', k = k' + 1 := ⟨k - 1, by omega⟩
    rcases hk with hk | hk
    · omega
    simp only [Nat.add_sub_cancel] at hk
    have k1 : (0 : Int) < (k' : Int) + 1 := by omega
    have k2 : (k' : Int) + 1 - 1 = (k' : Int) := by omega
    by_cases hr0 : r = 0
    · subst hr0
      obtain ⟨v, S1, e1, v0, v1, d1, _⟩ := e_pick (wf := wf) (N := N) (m := (m : Int)) hN hs (by omega) (by omega)
      refine ⟨.int v, S1, 0, ?_, Jtm.int v0 v1 hm.2, by simp, d1.js, by rw [d1.fr p hp (some_lt hr)]; exact hr⟩
      simp at hr
      simp [f__law_join_b0, e1, hx2, k1, hr]
    · have r1 : 0 < r := by omega
      obtain ⟨q, S1, e1, q0, q1, d1, _⟩ := e_pick (wf := wf) (N := N) (m := 3) hN hs (by omega) (by omega)
      have hr1 : S1[p]? = some (.lst [.int (r : Int)]) := by rw [d1.fr p hp (some_lt hr)]; exact hr
      by_cases hq : q = 0
      · subst hq
        have hr2 : (S1.set p (.lst [.int ((r : Int) - 1)]))[p]? = some (.lst [.int ((r - 1 : Nat) : Int)]) := by
          rw [List.getElem?_set_self (some_lt hr1)]
          congr 4
          omega
        have js1 : JS n p S1 (S1.set p (.lst [.int ((r : Int) - 1)])) := JS.room d1.src hp
        obtain ⟨d, S2, r2, e2, t2, i2, j2, s2, h2⟩ := hk js1.src hr2
        have pr : ∀ env : Pz.Env, putRef env p (.int ((r : Int) - 1)) (.int 0) S1 = .nxt env (S1.set p (.lst [.int ((r : Int) - 1)])) := fun env => putRef_of hr1 rfl
        refine ⟨d, S2, r2, ?_, i2, by omega, d1.js.trans (js1.trans s2), h2⟩
        simp [f__law_join_b0, e1, hx2, k1, k2, hr, hr1, r1, pr, e2]
      · obtain ⟨v, S2, e2, v0, v1, d2, _⟩ := e_pick (wf := wf) (N := N) (m := (m : Int)) hN d1.src (by omega) (by omega)
        refine ⟨.int v, S2, r, ?_, Jtm.int v0 v1 hm.2, by simp, d1.js.trans d2.js, by rw [d2.fr p hp (some_lt hr1)]; exact hr1⟩
        simp [f__law_join_b0, e1, hx2, k1, hr, r1, hq, e2]
theorem loop_join {k m n p : Nat} {w : D} (hN : 1 ≤ N) (hk : k = 0 ∨ JoinOk wf N (k - 1) m n p) (hp : p ≠ n) (hm : 1 ≤ m ∧ m ≤ 3) :
    ∀ {its : List D} {xs : List D} {sl : Option Sl} {r : Nat} {S : Store}, its.length + xs.length ≤ 100 → Src n S → S[p]? = some (.lst [.int (r : Int)]) → (∀ y ∈ xs, Jtm k m y) →
    ∃ ys sl' S' r', forL (.nm 6) (fun env S => exSs (O wf N) wf f__law_join_b0 env S) its [some (.val (.ref n)), some (.val (.int (m : Int))), some (.val (.int (k : Int))), some (.val (.ref p)), some (.val w), some (.own xs), sl, none] S = .nxt [some (.val (.ref n)), some (.val (.int (m : Int))), some (.val (.int (k : Int))), some (.val (.ref p)), some (.val w), some (.own ys), sl', none] S' ∧ ys.length = its.length + xs.length ∧ (∀ y ∈ ys, Jtm k m y) ∧ nj k ys + r' ≤ nj k xs + r ∧ JS n p S S' ∧ S'[p]? = some (.lst [.int (r' : Int)])
  | [], xs, sl, r, S, _, hs, hr, hx => ⟨xs, sl, S, r, rfl, by simp, hx, Nat.le_refl _, JS.refl hs, hr⟩
  | x :: its, xs, sl, r, S, hl, hs, hr, hx => by
    rw [List.length_cons] at hl
    obtain ⟨y, S1, r1, e1, i1, j1, s1, h1⟩ := b_join (w := w) (sl := some (.val x)) hN hk hp hm hs hr (xs := xs) (by omega)
    obtain ⟨ys, sl', S2, r2, e2, l2, i2, j2, s2, h2⟩ := loop_join (w := w) hN hk hp hm (its := its) (xs := xs ++ [y]) (sl := some (.val x)) (by simp; omega) s1.src h1 (by
      intro z hz
      rcases List.mem_append.mp hz with hz | hz
      · exact hx z hz
      · rw [List.mem_singleton] at hz; subst hz; exact i1)
    refine ⟨ys, sl', S2, r2, ?_, by rw [l2]; simp; omega, i2, by rw [nj_app] at j2; omega, s1.trans s2, h2⟩
    rw [forL]
    simp only [bindT_nm, List.length_cons, List.length_nil, Nat.reduceAdd, Nat.reduceLT, if_true, put_s, put_0]
    rw [e1, SOut.bind_nxt, e2]
theorem draw_nums {n : Nat} {ys : List D} {env : Pz.Env} (hN : 1 ≤ N) (hs : Src n S) (he : env.val 5 = some (.lst ys)) (h0 : env.val 0 = some (.ref n)) (hl : env.length = 8) (hy : ys.length ≤ 1000) : ∃ ns S', evE (O wf N) f__law_join_c0 env S = .ok (.lst ns) S' ∧ ns.length = ys.length ∧ (∀ x ∈ ns, isFrom x 1 3 = true) ∧ Dr n S S' := by
  have hb0 : (env.blk [7]).val 0 = some (.ref n) := by rw [val_blk (by decide)]; exact h0
  have hbl : (env.blk [7]).length = 8 := by rw [blk_len]; exact hl
  obtain ⟨ns, S', e, l, a, dr⟩ := compL_sat (f := fun x S => turnO (O wf N) (.nm 7) .nil (.bin .add (.con (.int 1)) (.call 32 (.cons (.var 0) (.cons (.con (.int 3)) .nil)))) (env.blk [7]) x S) (P := fun x => isFrom x 1 3 = true) (I := fun T => Dr n S T) (xs := ys) (by
    intro x _ T hT
    obtain ⟨v, T1, e1, v0, v1, d1, _⟩ := e_pick (wf := wf) (N := N) (m := 3) hN hT.src (by omega) (by omega)
    have hv : Env.val ((env.blk [7]).put 7 x) 0 = some (.ref n) := by rw [val_put_ne (by decide)]; exact hb0
    refine ⟨.int (1 + v), T1, ?_, ?_, hT.trans d1⟩
    · simp [turnO, hbl, hv, e1]
    · simp [isFrom]; omega) (Dr.refl hs)
  refine ⟨ns, S', ?_, l, a, dr⟩
  simp [f__law_join_c0, he]
  rw [e]
  simp [l]
  omega
theorem s_join {k m n p : Nat} (hN : 3 ≤ N) (hp : p ≠ n) (hm : 1 ≤ m ∧ m ≤ 3) (hk : k = 0 ∨ JoinOk wf (N - 1) (k - 1) m n p) : JoinOk wf N k m n p := by
  intro S r hs hr
  obtain ⟨w, S1, e1, w1, d1, _⟩ := e_chosen (wf := wf) (N := N - 1) (xs := [.str "sums", .str "sums", .str "means", .str "full", .str "told"]) (by omega) hs (by simp) (by simp)
  obtain ⟨v, S2, e2, v0, v1, d2, _⟩ := e_pick (wf := wf) (N := N - 1) (m := 3) (by omega) d1.src (by omega) (by omega)
  have hr2 : S2[p]? = some (.lst [.int (r : Int)]) := by rw [(d1.trans d2).fr p hp (some_lt hr)]; exact hr
  obtain ⟨ys, sl', S3, r3, e3, l3, i3, j3, s3, h3⟩ := loop_join (w := w) (N := N - 1) (k := k) (by omega) hk hp hm (its := (rangeI (1 + v).toNat).map D.int) (xs := []) (sl := none) (by simp [len_rangeI]; omega) d2.src hr2 (by simp)
  have hy : ys.length = (1 + v).toNat := by rw [l3]; simp [len_rangeI]
  have js3 := (d1.trans d2).js.trans s3
  simp only [nj_nil, Nat.zero_add] at j3
  have fin : ∀ (w : Str) (r' : List D), isItem (k + 1) (.tup (.str w :: r')) = true → itemsOf w r' = ys → (∀ n ∈ numsI w r', n ≤ 3) → Jtm (k + 1) m (.tup (.str w :: r')) ∧ (Pz.joins (k + 1) (.tup (.str w :: r'))).length + r3 ≤ r + 1 := fun w r' q1 q2 qn => by
    refine ⟨Jtm.tup q1 qn (by rw [q2]; exact i3), ?_⟩
    rw [joins_tup, List.length_cons, q2]
    have : nj k ys = (ys.flatMap (Pz.joins k)).length := rfl
    omega
  by_cases ht : w = .str "told"
  · subst ht
    obtain ⟨ns, S4, e4, l4, a4, d4⟩ := draw_nums (wf := wf) (N := N - 1) (S := S3) (env := [some (.val (.ref n)), some (.val (.int (m : Int))), some (.val (.int (k : Int))), some (.val (.ref p)), some (.val (.str "told")), some (.val (.lst ys)), sl', none]) (by omega) s3.src rfl rfl rfl (by omega)
    obtain ⟨q1, q2⟩ := mk_told (k := k) (ns := ns) (r := ys) (by omega) (by omega) l4 (fun x hx => from_up (a4 x hx)) fun y hy => (i3 y hy).it
    obtain ⟨q3, q4⟩ := fin "told" _ q1 q2 (nums_of a4)
    refine ⟨.tup (.str "told" :: .tup ns :: ys), S4, r3, ?_, rfl, q3, q4, js3.trans d4.js, by rw [d4.fr p hp (some_lt h3)]; exact h3⟩
    have hsz : 2 + ys.length ≤ sizeLine := by
      have : 1000 ≤ sizeLine := by decide
      omega
    (rw [fn_in (f := f__law_join) (by omega) rfl rfl rfl rfl]; simp only [f__law_join, startE, List.map_cons, List.map_nil, List.cons_append, List.nil_append, List.replicate, Nat.sub_self])
    simp [e1, f__law_join_l0, e2, ranges1 (show 0 ≤ 1 + v ∧ 1 + v ≤ 2 ^ 60 by omega)]
    simp [e3, e4, hsz]
  · obtain ⟨z, rfl, hz, hz2⟩ : ∃ z : Str, w = .str z ∧ isWord z = true ∧ z ≠ "told" := by
      simp at w1
      rcases w1 with rfl | rfl | rfl | rfl
      · exact ⟨_, rfl, by decide +kernel, by decide +kernel⟩
      · exact ⟨_, rfl, by decide +kernel, by decide +kernel⟩
      · exact ⟨_, rfl, by decide +kernel, by decide +kernel⟩
      · exact absurd rfl ht
    obtain ⟨q1, q2⟩ := mk_item (k := k) (w := z) (r := ys) hz hz2 (by omega) (by omega) fun y hy => (i3 y hy).it
    obtain ⟨q3, q4⟩ := fin z _ q1 q2 (nums_one hz2)
    refine ⟨.tup (.str z :: ys), S3, r3, ?_, rfl, q3, q4, js3, h3⟩
    have hsz : 1 + ys.length ≤ sizeLine := by
      have : 1000 ≤ sizeLine := by decide
      omega
    (rw [fn_in (f := f__law_join) (by omega) rfl rfl rfl rfl]; simp only [f__law_join, startE, List.map_cons, List.map_nil, List.cons_append, List.nil_append, List.replicate, Nat.sub_self])
    simp [e1, f__law_join_l0, e2, ranges1 (show 0 ≤ 1 + v ∧ 1 + v ≤ 2 ^ 60 by omega)]
    simp [e3, hz2, hsz]
theorem e_join : ∀ {k N m n p : Nat}, k + 3 ≤ N → p ≠ n → 1 ≤ m ∧ m ≤ 3 → JoinOk wf N k m n p := by
  intro k
  induction k with
  | zero =>
    intro N m n p hN hp hm
    exact s_join (by omega) hp hm (.inl rfl)
  | succ k ih =>
    intro N m n p hN hp hm
    exact s_join (by omega) hp hm (.inr (ih (by omega) hp hm))
theorem e_scheme3 {n m : Nat} (hN : 8 ≤ N) (hs : Src n S) (hm : 1 ≤ m ∧ m ≤ 3) : ∃ d S', (O wf N).fn 46 [.ref n, .int (m : Int)] none S = .ok d S' ∧ isRight d = true ∧ many d = m ∧ n3 5 d = true ∧ Dr n S S' := by
  obtain ⟨v, S1, e1, v0, v1, d1, _⟩ := e_pick (wf := wf) (N := N - 1) (m := 6) (by omega) hs (by omega) (by omega)
  have tr := tup_range (n := m) (by omega)
  have l1 : 1 + m ≤ sizeLine := le_line (by omega)
  (rw [fn_in (f := f__law_scheme) (by omega) rfl rfl rfl rfl]; simp only [f__law_scheme, startE, List.map_cons, List.map_nil, List.cons_append, List.nil_append, List.replicate, Nat.sub_self])
  by_cases hv : v = 0
  · subst hv
    obtain ⟨w, S2, e2, w2, d2, _⟩ := e_chosen (wf := wf) (N := N - 1) (xs := [.str "means", .str "full"]) (by omega) d1.src (by simp) (by simp)
    obtain ⟨d, S3, e3, w3, d3, _⟩ := e_chosen (wf := wf) (N := N - 1) (xs := [plainD "sums" m, .tup (w :: (rangeI m).map D.int), .tup [w, plainD "sums" m], .tup [w, plainD "sums" m, plainD "sums" m], .tup [.str "sums", .tup [.str "means", plainD "sums" m], plainD "sums" m]]) (by omega) d2.src (by simp) (by simp)
    refine ⟨d, S3, ?_, ?_, ?_, ?_, d1.trans (d2.trans d3)⟩
    · simp [e1, tr, len_rangeI, l1, e2]
      simp only [plainD] at e3
      rw [if_pos (le_line (by omega))]
      simp [e3]
    all_goals
      have : m = 1 ∨ m = 2 ∨ m = 3 := by omega
      simp at w2 w3
      rcases w2 with rfl | rfl <;> rcases this with rfl | rfl | rfl <;> rcases w3 with rfl | rfl | rfl | rfl | rfl <;> decide +kernel
  · have hn : S1.length ≠ n := by have := d1.src.lt; omega
    have hsrc : Src n (S1 ++ [.lst [.int 2]]) := (Dr.app d1.src).src
    obtain ⟨d0, S2, r2, e2, t2, i2, j2, s2, h2⟩ := e_join (wf := wf) (N := N - 1) (k := 2) (n := n) (p := S1.length) (by omega) hn hm hsrc (r := 2) (by simp)
    have e2 : (O wf (N - 1)).fn 45 [.ref n, .int (m : Int), .int 2, .ref S1.length] none (S1 ++ [.lst [.int 2]]) = .ok d0 S2 := e2
    have i2 : Jtm 3 m d0 := i2
    have j2 : (Pz.joins 3 d0).length + r2 ≤ 3 := j2
    have d2 : Dr n S1 S2 := ⟨s2.src, by have := s2.len; simp at this; omega, fun x h1 h3 => by rw [s2.fr x h1 (by omega) (by simp; omega), List.getElem?_append_left h3]⟩
    have pm := plain_itm (k := 2) (w := "means") (m := m) (by decide +kernel) (by decide +kernel) hm
    have e4 : ∀ T, (O wf (N - 1)).fn 43 [d0] none T = .ok (.lst ((pl 3 d0).map D.int)) T := fun T => e_law_places (k := 3) (by omega) i2.it (by omega)
    have fin : ∀ dd, Jtm 3 m dd → isTup dd = true → (pl 3 dd).length ≤ 5 → (Pz.joins 3 dd).length ≤ 3 → ∃ d S', (exSs (O wf (N - 1)) wf (.cons (.asg 8 (.prim .tuple (.cons (f__law_scheme_c0) .nil))) (.cons (.ife (.cmp .eq (.var 8) (.tup (.nil))) (.cons (.ret (.var 7)) .nil) (.nil)) (.cons (.ret (.bin .add (.tup (.cons (.call 33 (.cons (.var 0) (.cons (.lst (.cons (.con (.str "sums")) (.cons (.con (.str "means")) (.cons (.con (.str "full")) .nil)))) .nil))) (.cons (.var 7) .nil))) (.var 8))) .nil))) [some (.val (.ref n)), some (.val (.int (m : Int))), some (.val (.int v)), some (.val (.tup ((rangeI m).map D.int))), some (.val (plainD "sums" m)), none, none, some (.val dd), none, none] S2).out = .ok d S' ∧ isRight d = true ∧ many d = m ∧ n3 5 d = true ∧ Dr n S S' := fun dd h1 ht h2 h3 => by
      have hl : (leftI m dd).length ≤ m := by
        have := List.length_filter_le (fun i => !(pl 3 dd).contains i) (rangeI m)
        rw [len_rangeI] at this
        exact this
      have e4 : ∀ T, (O wf (N - 1)).fn 43 [dd] none T = .ok (.lst ((pl 3 dd).map D.int)) T := fun T => e_law_places (k := 3) (by omega) h1.it (by omega)
      have c0 : ∀ sl, evE (O wf (N - 1)) f__law_scheme_c0 [some (.val (.ref n)), some (.val (.int (m : Int))), some (.val (.int v)), some (.val (.tup ((rangeI m).map D.int))), some (.val (plainD "sums" m)), none, none, some (.val dd), sl, none] S2 = .ok (.lst ((leftI m dd).map D.int)) S2 := fun sl => by
        simp [f__law_scheme_c0, blk_def]
        rw [compL_if' D.int (fun i => !(pl 3 dd).contains i) D.int]
        · rw [show (rangeI m).filter (fun i => !(pl 3 dd).contains i) = leftI m dd from rfl]
          simp
          omega
        · intro i _
          by_cases q : (pl 3 dd).contains i = true <;> simp [turnO, e4] <;> simp_all
      have eq0 := eq_intt (l := leftI m dd) (m := []) (by omega) (by simp)
      simp only [List.map_nil] at eq0
      by_cases q : leftI m dd = []
      · obtain ⟨r1, r2⟩ := left_nil (by omega) h1.toItm ht h2 h3 q
        refine ⟨dd, S2, ?_, r1, r2, n3_ups h1.it h1.sm3 2, d1.trans d2⟩
        rw [q] at c0 eq0
        simp at c0 eq0
        simp [c0, eq0]
      · obtain ⟨w, S3, e5, w3, d3, _⟩ := e_chosen (wf := wf) (N := N - 1) (xs := [.str "sums", .str "means", .str "full"]) (by omega) d2.src (by simp) (by simp)
        obtain ⟨z, rfl, hz, hz2⟩ : ∃ z : Str, w = .str z ∧ isWord z = true ∧ z ≠ "told" := by
          simp at w3
          rcases w3 with rfl | rfl | rfl <;> exact ⟨_, rfl, by decide +kernel, by decide +kernel⟩
        obtain ⟨r1, r2⟩ := left_ok hz hz2 hm h1.toItm h2 h3
        refine ⟨.tup (.str z :: dd :: (leftI m dd).map D.int), S3, ?_, r1, r2, left_n3 hz2 h1.it h1.sm3 (left_item hz hz2 hm h1.toItm), d1.trans (d2.trans d3)⟩
        simp [c0, eq0, q, e5, le_line (show 2 + (leftI m dd).length ≤ 1000 by omega)]
    by_cases q : (pl 3 d0).length ≤ 5
    · obtain ⟨d, S3, e5, r1, r2, r4, r3⟩ := fin d0 i2 t2 q (by omega)
      refine ⟨d, S3, ?_, r1, r2, r4, r3⟩
      have q2 : ¬ (5 < ((pl 3 d0).length : Int)) := by omega
      simp only [plainD] at e5
      simp [e1, tr, len_rangeI, l1, hv, e2, e4, q2]
      simp at e5
      exact e5
    · obtain ⟨d, S3, e5, r1, r2, r4, r3⟩ := fin (plainD "means" m) ⟨pm.1, plain_n3 (by decide +kernel)⟩ rfl (by rw [pm.2.1, len_rangeI]; omega) (by rw [pm.2.2]; simp)
      refine ⟨d, S3, ?_, r1, r2, r4, r3⟩
      have q2 : 5 < ((pl 3 d0).length : Int) := by omega
      simp only [plainD] at e5
      simp [e1, tr, len_rangeI, l1, hv, e2, e4, q2]
      simp at e5
      exact e5
theorem e_scheme {n m : Nat} (hN : 8 ≤ N) (hs : Src n S) (hm : 1 ≤ m ∧ m ≤ 3) : ∃ d S', (O wf N).fn 46 [.ref n, .int (m : Int)] none S = .ok d S' ∧ isRight d = true ∧ many d = m ∧ Dr n S S' := by
  obtain ⟨d, S', e, r1, r2, _, r3⟩ := e_scheme3 (wf := wf) (N := N) hN hs hm
  exact ⟨d, S', e, r1, r2, r3⟩
end LK


/-! L5: drawn sizes, runs, values. -/
namespace LK
open PySem PySem.Spec PyProof.Rows L2 Pz
variable {wf N : Nat} {S : Store}
theorem e_draw_sizes {n m : Nat} {t : Int} (hN : 2 ≤ N) (hs : Src n S) (hm : m ≤ 3) (ht : 0 ≤ t ∧ t ≤ 2 ^ 50) : ∃ l : List Int, ∃ S', (O wf N).fn 52 [.ref n, .int (m : Int), .int t] none S = .ok (.tup (l.map D.int)) S' ∧ l.length = m ∧ (∀ x ∈ l, 0 ≤ x ∧ x ≤ t) ∧ Dr n S S' := by
  obtain ⟨ns, S', e, l, a, dr⟩ := compL_sat (f := fun x S => turnO (O wf (N - 1)) (.nm 3) .nil (.call 32 (.cons (.var 0) (.cons (.bin .add (.var 2) (.con (.int 1))) .nil))) [some (.val (.ref n)), some (.val (.int (m : Int))), some (.val (.int t)), none] x S) (P := fun x => ∃ i, x = .int i ∧ 0 ≤ i ∧ i ≤ t) (I := fun T => Dr n S T) (xs := (rangeI m).map D.int) (by
    intro x _ T hT
    obtain ⟨v, T1, e1, v0, v1, d1, _⟩ := e_pick (wf := wf) (N := N - 1) (m := t + 1) (by omega) hT.src (by omega) (by omega)
    exact ⟨.int v, T1, by simp [turnO, e1], ⟨v, rfl, v0, by omega⟩, hT.trans d1⟩) (Dr.refl hs)
  have : ∃ l : List Int, ns = l.map D.int ∧ ∀ x ∈ l, 0 ≤ x ∧ x ≤ t := by
    clear e l
    induction ns with
    | nil => exact ⟨[], rfl, by simp⟩
    | cons x ns ih =>
      obtain ⟨l, rfl, h⟩ := ih fun y hy => a y (List.mem_cons_of_mem _ hy)
      obtain ⟨i, rfl, hi⟩ := a x List.mem_cons_self
      refine ⟨i :: l, rfl, fun y hy => ?_⟩
      rcases List.mem_cons.mp hy with rfl | hy
      · exact hi
      · exact h y hy
  obtain ⟨l0, rfl, hl⟩ := this
  have ll : l0.length = m := by simpa [len_rangeI] using l
  refine ⟨l0, S', ?_, ll, hl, dr⟩
  (rw [fn_in (f := f__law_sizes) (by omega) rfl rfl rfl rfl]; simp only [f__law_sizes, startE, List.map_cons, List.map_nil, List.cons_append, List.nil_append, List.replicate, Nat.sub_self])
  simp [f__law_sizes_c0, ranges1n (show m ≤ 2 ^ 60 by omega), blk_def]
  rw [e]
  simp [show l0.length ≤ 1000000 by omega]
end LK


/-! L10: fractions; weights and sums of items. -/
namespace LK
open PySem PySem.Spec PyProof.Rows L2 Pz
variable {wf N : Nat} {S : Store}
theorem gcd_facts {a b : Int} (hb : 0 < b) : 0 < Int.gcd a b ∧ Int.gcd a b ≤ b.natAbs := by
  have g0 : 0 < Int.gcd a b := Nat.pos_of_ne_zero fun z => by rw [Int.gcd_eq_zero_iff] at z; omega
  exact ⟨g0, Nat.le_of_dvd (by omega) (by rw [Int.gcd]; exact Nat.gcd_dvd_right _ _)⟩
theorem e_lowest {a b : Int} (h : 2 ≤ N) (hb : 0 < b) (hB : b.natAbs < W0) (hw : W0 ≤ wf) : (O wf N).fn 2 [.int a, .int b] none S = .ok (frD ((a : Rat) / (b : Rat))) S := by
  (rw [fn_in (f := f_lowest) (by omega) rfl rfl rfl rfl]; simp only [f_lowest, startE, List.map_cons, List.map_nil, List.cons_append, List.nil_append, List.replicate, Nat.sub_self])
  obtain ⟨g0, g1⟩ := gcd_facts (a := a) hb
  have e1 := fun S => e_divisor (wf := wf) (N := N - 1) (S := S) (a := a) (b := b) (by omega) (Nat.lt_of_lt_of_le hB hw)
  have g2 : divOk (Int.gcd a b : Int) := div_ok (by omega) (by rw [Int.natAbs_natCast]; exact W0_9000 (Nat.lt_of_le_of_lt g1 hB))
  rw [← lowD_fr hb]
  simp [e1, g2, lowD]
theorem e_plus {p q : Rat} {n m : Nat} (h : 3 ≤ N) (hp : Bd n p) (hq : Bd m q) (hn : n + m < 8990) (hw : W0 ≤ wf) : (O wf N).fn 3 [frD p, frD q] none S = .ok (frD (p + q)) S := by
  (rw [fn_in (f := f_plus) (by omega) rfl rfl rfl rfl]; simp only [f_plus, startE, List.map_cons, List.map_nil, List.cons_append, List.nil_append, List.replicate, Nat.sub_self])
  obtain ⟨h1, h2, h3⟩ := add_tops hp hq
  have e1 := fun S => e_lowest (wf := wf) (N := N - 1) (S := S) (a := p.num * q.den + q.num * p.den) (b := p.den * q.den) (by omega) h2 (Nat.lt_trans h3 (W0_pos hn)) hw
  simp [W0_mul (hp.num (by omega)) (hq.den (by omega)), W0_mul (hq.num (by omega)) (hp.den (by omega)), W0_mul (hp.den (by omega)) (hq.den (by omega)), e1]
  rw [rat_add p q]
  simp
theorem e_minus {p q : Rat} {n m : Nat} (h : 3 ≤ N) (hp : Bd n p) (hq : Bd m q) (hn : n + m < 8990) (hw : W0 ≤ wf) : (O wf N).fn 4 [frD p, frD q] none S = .ok (frD (p - q)) S := by
  (rw [fn_in (f := f_minus) (by omega) rfl rfl rfl rfl]; simp only [f_minus, startE, List.map_cons, List.map_nil, List.cons_append, List.nil_append, List.replicate, Nat.sub_self])
  obtain ⟨h1, h2, h3⟩ := add_tops hp hq
  have e1 := fun S => e_lowest (wf := wf) (N := N - 1) (S := S) (a := p.num * q.den - q.num * p.den) (b := p.den * q.den) (by omega) h2 (Nat.lt_trans h3 (W0_pos hn)) hw
  simp [W0_mul (hp.num (by omega)) (hq.den (by omega)), W0_mul (hq.num (by omega)) (hp.den (by omega)), W0_mul (hp.den (by omega)) (hq.den (by omega)), e1]
  have rs : p - q = ((p.num * q.den - q.num * p.den : Int) : Rat) / ((p.den * q.den : Int) : Rat) := by
    rw [Rat.sub_eq_add_neg, rat_add, Rat.neg_num, Rat.neg_den, Int.neg_mul, ← Int.sub_eq_add_neg]
  rw [rs]
  simp
theorem e_times {p q : Rat} {n m : Nat} (h : 3 ≤ N) (hp : Bd n p) (hq : Bd m q) (hn : n + m < 8990) (hw : W0 ≤ wf) : (O wf N).fn 5 [frD p, frD q] none S = .ok (frD (p * q)) S := by
  (rw [fn_in (f := f_times) (by omega) rfl rfl rfl rfl]; simp only [f_times, startE, List.map_cons, List.map_nil, List.cons_append, List.nil_append, List.replicate, Nat.sub_self])
  obtain ⟨h1, h2, h3⟩ := mul_tops hp hq
  have e1 := fun S => e_lowest (wf := wf) (N := N - 1) (S := S) (a := p.num * q.num) (b := p.den * q.den) (by omega) h2 (Nat.lt_trans h3 (W0_pos hn)) hw
  simp [W0_mul (hp.num (by omega)) (hq.num (by omega)), W0_mul (hp.den (by omega)) (hq.den (by omega)), e1]
  rw [rat_mul p q]
  simp
theorem e_over {p : Rat} {w : Int} {n m : Nat} (h : 3 ≤ N) (hp : Bd n p) (h0 : 0 < w) (hq : w.natAbs < 2 ^ m) (hn : n + m < 8990) (hw : W0 ≤ wf) : (O wf N).fn 6 [frD p, .int w] none S = .ok (frD (p / (w : Rat))) S := by
  (rw [fn_in (f := f_over) (by omega) rfl rfl rfl rfl]; simp only [f_over, startE, List.map_cons, List.map_nil, List.cons_append, List.nil_append, List.replicate, Nat.sub_self])
  have h3 := abs_mul_lt hp.dabs hq
  have e1 := fun S => e_lowest (wf := wf) (N := N - 1) (S := S) (a := p.num) (b := p.den * w) (by omega) (Int.mul_pos (den_pos p) h0) (Nat.lt_trans h3 (W0_pos hn)) hw
  simp [W0_mul (hp.den (by omega)) (Nat.lt_trans hq (W0_pos (by omega))), e1]
  rw [rat_over p w h0]
  simp
theorem e_numbers {w : Str} {r : List D} (h : 2 ≤ N) (hi : wiOk (.str w :: r) = true) (hl : (itemsOf w r).length ≤ 4) : (O wf N).fn 11 [.tup (.str w :: r)] none S = .ok (.tup ((numsI w r).map D.int)) S := by
  (rw [fn_in (f := f_numbers_of) (by omega) rfl rfl rfl rfl]; simp only [f_numbers_of, startE, List.map_cons, List.map_nil, List.cons_append, List.nil_append, List.replicate, Nat.sub_self])
  by_cases e : w = "told"
  · obtain ⟨r', e2⟩ := nums_told hi e
    rw [e2]
    subst e
    simp
    rw [← e2]
  · have e1 := fun S => e_items (wf := wf) (N := N - 1) (S := S) (w := w) (r := r) (by omega)
    simp [e, e1, numsI]
    rw [if_pos (by omega), repL_1]
    simp
theorem e_law_numbers {w : Str} {r : List D} (h : 2 ≤ N) (hi : wiOk (.str w :: r) = true) (hl : (itemsOf w r).length ≤ 4) : (O wf N).fn 42 [.tup (.str w :: r)] none S = .ok (.tup ((numsI w r).map D.int)) S := by
  (rw [fn_in (f := f__law_numbers) (by omega) rfl rfl rfl rfl]; simp only [f__law_numbers, startE, List.map_cons, List.map_nil, List.cons_append, List.nil_append, List.replicate, Nat.sub_self])
  by_cases e : w = "told"
  · obtain ⟨r', e2⟩ := nums_told hi e
    rw [e2]
    subst e
    simp
    rw [← e2]
  · have e1 : itemsOf w r = r := by simp [itemsOf, e]
    rw [e1] at hl
    simp [e, numsI, e1]
    rw [if_pos (by omega), repL_1]
    simp
theorem tot_map {l : List D} {f : D → Int} : (l.map fun x => D.int (f x)) = (l.map f).map D.int := by simp
theorem e_weight {m : Nat} {sz : List Int} {dz : D} (hz : SzOk m sz) (hd : Szs dz sz) : ∀ {k N : Nat} {d : D}, k ≤ 6 → Itm k m d → k + 4 ≤ N → ∀ {S : Store}, (O wf N).fn 22 [d, dz] none S = .ok (.int (wt sz k d)) S := by
  intro k
  induction k with
  | zero =>
    intro N d hk h hN S
    (rw [fn_in (f := f_weight_of) (by omega) rfl rfl rfl rfl]; simp only [f_weight_of, startE, List.map_cons, List.map_nil, List.cons_append, List.nil_append, List.replicate, Nat.sub_self])
    rcases isItem_cases h.it with ⟨i, rfl, h1, h2⟩ | ⟨k', w, r, e, rfl, h1, h2, h3, h4⟩
    · have := h.lt i (by simp)
      simp [e_is_join (d := .int i) rfl (show 1 ≤ N - 1 by omega), isTup, -ix_ref, ix_szs hd this.1 (by rw [hz.len]; exact this.2)]
    · omega
  | succ k ih =>
    intro N d hk h hN S
    (rw [fn_in (f := f_weight_of) (by omega) rfl rfl rfl rfl]; simp only [f_weight_of, startE, List.map_cons, List.map_nil, List.cons_append, List.nil_append, List.replicate, Nat.sub_self])
    have hj := fun S => e_is_join (wf := wf) (S := S) (sm_ok (isItem_sm h.it)).1 (show 1 ≤ N - 1 by omega)
    rcases isItem_cases h.it with ⟨i, rfl, h1, h2⟩ | ⟨k', w, r, e, rfl, h1, h2, h3, h4⟩
    · have := h.lt i (by simp)
      simp [hj, isTup, -ix_ref, ix_szs hd this.1 (by rw [hz.len]; exact this.2)]
    · cases e
      have hit : ∀ y ∈ itemsOf w r, Itm k m y := fun y hy => ⟨h4 y hy, fun i hi => h.lt i (by rw [pl_tup, List.mem_flatMap]; exact ⟨y, hy, hi⟩)⟩
      have e1 := fun S => e_items (wf := wf) (N := N - 1) (S := S) (w := w) (r := r) (by omega)
      have e2 := fun S => e_numbers (wf := wf) (N := N - 1) (S := S) (by omega) h1 h2
      have c0 : ∀ s2, evE (O wf (N - 1)) f_weight_of_c0 [some (.val (.tup (.str w :: r))), some (.val dz), s2, none, none] S = .ok (.lst (((itemsOf w r).map (wt sz k)).map D.int)) S := fun s2 => by
        simp [f_weight_of_c0, blk_def, e1]
        rw [compL_of fun y => D.int (wt sz k y)]
        · simp [show (itemsOf w r).length ≤ 1000000 by omega]
        · intro y hy
          simp [turnO, ih (by omega) (hit y hy) (show k + 4 ≤ N - 1 by omega)]
      rw [wt_tup]
      by_cases w1 : w = "sums"
      · subst w1
        simp [hj, isTup, c0, sum_tot, -List.map_map]
      · by_cases w2 : w = "full"
        · subst w2
          have c1 : evE (O wf (N - 1)) f_weight_of_c1 [some (.val (.tup (.str "full" :: r))), some (.val dz), some (.val (.lst (((itemsOf "full" r).map (wt sz k)).map D.int))), none, none] S = .ok (.lst ((((itemsOf "full" r).map (wt sz k)).filter fun x => decide (0 < x)).map D.int)) S := by
            simp only [f_weight_of_c1, x_lc, blk_def]
            simp [-List.map_map]
            rw [compL_if' D.int (fun x => decide (0 < x)) D.int]
            · have := List.length_filter_le (fun x => decide (0 < x)) ((itemsOf "full" r).map (wt sz k))
              rw [List.length_map] at this
              simp
              omega
            · intro y hy
              by_cases q : 0 < y <;> simp [turnO, q]
          simp [hj, isTup, c0, -List.map_map, c1, Pz.cnt, w1]
        · simp [hj, isTup, c0, w1, w2, e2, sum_tot]
theorem bt_mem {s k : Nat} {xs : List D} {x : D} (h : x ∈ xs) : bt s k x ≤ btsum s k xs := by
  unfold btsum
  induction xs with
  | nil => cases h
  | cons y xs ih =>
    rw [List.map_cons, List.sum_cons]
    rcases List.mem_cons.mp h with rfl | h
    · omega
    · have := ih h; omega
def SumOk (wf N m s k : Nat) (sz : List Int) (sm : List Rat) (dm dz : D) : Prop := ∀ {d : D}, Itm k m d → bt s k d < 8000 → ∀ {S : Store}, (O wf N).fn 23 [d, dm, dz] none S = .ok (frD (sq sz sm k d)) S
theorem l_sum {m s k : Nat} {sz : List Int} {sm : List Rat} {dm dz : D} {w : Str} {r : List D} (hN : k + 6 ≤ N) (hw : W0 ≤ wf) (hk : k ≤ 5) (hz : SzOk m sz) (hd : Szs dz sz) (hs : ∀ q ∈ sm, Bd s q) (h1s : 1 ≤ s) (ih : SumOk wf N m s k sz sm dm dz) :
    ∀ {ns : List Int} {xs : List D} {a : Nat} {acc : Rat} {s4 s5 s6 s7 : Option Sl}, ns.length = xs.length → (∀ x ∈ xs, Itm k m x) → (∀ n ∈ ns, 1 ≤ n ∧ n ≤ 9) → Bd a acc → a + btsum s k xs < 8000 → 1 ≤ a →
    ∃ t4 t5 t6 t7 : Option Sl, forL (.tp (.cons (.nm 4) (.cons (.nm 5) .nil))) (fun env S => exSs (O wf N) wf f_sum_of_b0 env S) (zipD (ns.map D.int) xs) [some (.val (.tup (.str w :: r))), some (.val dm), some (.val dz), some (.val (frD acc)), s4, s5, s6, s7] S = .nxt [some (.val (.tup (.str w :: r))), some (.val dm), some (.val dz), some (.val (frD (acc + zipT ns xs fun n x => addsQ w n (sq sz sm k x) (wt sz k x)))), t4, t5, t6, t7] S
  | [], [], a, acc, s4, s5, s6, s7, _, _, _, _, _, _ => ⟨s4, s5, s6, s7, by rw [List.map_nil, zipD_nil]; show _ = SOut.nxt [_, _, _, some (.val (frD (acc + 0))), _, _, _, _] S; rw [Rat.add_zero]; rfl⟩
  | [], x :: xs, _, _, _, _, _, _, h, _, _, _, _, _ => by simp at h
  | n :: ns, [], _, _, _, _, _, _, h, _, _, _, _, _ => by simp at h
  | n :: ns, x :: xs, a, acc, s4, s5, s6, s7, hl, hx, hn, ha, hb, h1 => by
    have hx0 := hx x List.mem_cons_self
    have hn0 := hn n List.mem_cons_self
    have hb2 : btsum s k (x :: xs) = bt s k x + btsum s k xs := by unfold btsum; rw [List.map_cons, List.sum_cons]
    have hg := bt_ge (s := s) hx0.it
    have e1 := fun S => ih hx0 (S := S) (by omega)
    have e2 := fun S => e_weight (wf := wf) hz hd (k := k) (N := N) (d := x) (by omega) hx0 (by omega) (S := S)
    have hwt := wt_bits hz hx0.it (by omega)
    have hq := sq_bd hz hs h1s (by omega) hx0.it
    have had := adds_bd (w := w) hq hn0 hwt.1 hwt.2 (by omega)
    have hacc : Bd (a + bt s k x) (acc + addsQ w n (sq sz sm k x) (wt sz k x)) := (ha.add had).up (by omega)
    obtain ⟨t4, t5, t6, t7, e3⟩ := l_sum (r := r) hN hw hk hz hd hs h1s ih (ns := ns) (xs := xs) (a := a + bt s k x) (acc := acc + addsQ w n (sq sz sm k x) (wt sz k x)) (s4 := some (.val (.int n))) (s5 := some (.val x)) (s6 := some (.val (frD (sq sz sm k x)))) (s7 := some (.val (.int (wt sz k x)))) (by simpa using hl) (fun y hy => hx y (List.mem_cons_of_mem _ hy)) (fun y hy => hn y (List.mem_cons_of_mem _ hy)) hacc (by omega) (by omega)
    refine ⟨t4, t5, t6, t7, ?_⟩
    rw [List.map_cons, zipD_cons, forL]
    simp only [bindT_tp, bindTs_cons, bindTs_nil, bindT_nm, List.length_cons, List.length_nil, Nat.reduceAdd, Nat.reduceLT, if_true, put_s, put_0, Option.bind_some]
    rw [show exSs (O wf N) wf f_sum_of_b0 [some (.val (.tup (.str w :: r))), some (.val dm), some (.val dz), some (.val (frD acc)), some (.val (.int n)), some (.val x), s6, s7] S = .nxt [some (.val (.tup (.str w :: r))), some (.val dm), some (.val dz), some (.val (frD (acc + addsQ w n (sq sz sm k x) (wt sz k x)))), some (.val (.int n)), some (.val x), some (.val (frD (sq sz sm k x))), some (.val (.int (wt sz k x)))] S by
      by_cases w1 : w = "sums"
      · subst w1
        have e5 := fun S => e_plus (wf := wf) (N := N) (S := S) (by omega) ha hq (by omega) hw
        simp [f_sum_of_b0, e1, e2, e5, addsQ]
      · by_cases w2 : 0 < wt sz k x
        · have e5 := fun S => e_times (wf := wf) (N := N) (S := S) (q := (n : Rat)) (by omega) hq (Bd.int (n := 4) (i := n) (by omega) (by omega)) (by omega) hw
          have h5 : Bd (bt s k x - 69 + 4) (sq sz sm k x * (n : Rat)) := hq.mul (Bd.int (n := 4) (i := n) (by omega) (by omega))
          have e6 := fun S => e_over (wf := wf) (N := N) (S := S) (by omega) h5 w2 hwt.2 (by omega) hw
          have e7 := fun S => e_plus (wf := wf) (N := N) (S := S) (by omega) ha (h5.over w2 hwt.2) (by omega) hw
          have fn1 : D.tup [.int n, .int 1] = frD (n : Rat) := by unfold frD; rw [Rat.num_intCast, Rat.den_intCast]; rfl
          simp [f_sum_of_b0, e1, e2, w1, w2, fn1, e5, e6, e7, addsQ]
        · simp [f_sum_of_b0, e1, e2, w1, w2, addsQ, Rat.add_zero]]
    rw [SOut.bind_nxt, e3]
    show _ = SOut.nxt [_, _, _, some (.val (frD (acc + (addsQ w n (sq sz sm k x) (wt sz k x) + zipT ns xs _)))), _, _, _, _] S
    rw [Rat.add_assoc]
theorem e_sum {m s : Nat} {sz : List Int} {sm : List Rat} {dm dz : D} (hw : W0 ≤ wf) (hz : SzOk m sz) (hd : Szs dz sz) (hm : Sms dm sm) (hl : sm.length = m) (hs : ∀ q ∈ sm, Bd s q) (h1s : 1 ≤ s) : ∀ {k N : Nat}, k ≤ 5 → k + 6 ≤ N → SumOk wf N m s k sz sm dm dz := by
  intro k
  induction k with
  | zero =>
    intro N hk hN d h hb S
    (rw [fn_in (f := f_sum_of) (by omega) rfl rfl rfl rfl]; simp only [f_sum_of, startE, List.map_cons, List.map_nil, List.cons_append, List.nil_append, List.replicate, Nat.sub_self])
    rcases isItem_cases h.it with ⟨i, rfl, h1, h2⟩ | ⟨k', w, r, e, rfl, h1, h2, h3, h4⟩
    · have := h.lt i (by simp)
      simp [e_is_join (d := .int i) rfl (show 1 ≤ N - 1 by omega), isTup, -ix_ref, ix_sms hm this.1 (by rw [hl]; exact this.2)]
    · omega
  | succ k ih =>
    intro N hk hN d h hb S
    (rw [fn_in (f := f_sum_of) (by omega) rfl rfl rfl rfl]; simp only [f_sum_of, startE, List.map_cons, List.map_nil, List.cons_append, List.nil_append, List.replicate, Nat.sub_self])
    have hj := fun S => e_is_join (wf := wf) (S := S) (sm_ok (isItem_sm h.it)).1 (show 1 ≤ N - 1 by omega)
    rcases isItem_cases h.it with ⟨i, rfl, h1, h2⟩ | ⟨k', w, r, e, rfl, h1, h2, h3, h4⟩
    · have := h.lt i (by simp)
      simp [hj, isTup, -ix_ref, ix_sms hm this.1 (by rw [hl]; exact this.2)]
    · cases e
      have hit : ∀ y ∈ itemsOf w r, Itm k m y := fun y hy => ⟨h4 y hy, fun i hi => h.lt i (by rw [pl_tup, List.mem_flatMap]; exact ⟨y, hy, hi⟩)⟩
      have e1 := fun S => e_items (wf := wf) (N := N - 1) (S := S) (w := w) (r := r) (by omega)
      have e2 := fun S => e_numbers (wf := wf) (N := N - 1) (S := S) (by omega) h1 h2
      obtain ⟨n1, n2⟩ := nums_ok h1
      rw [bt_tup] at hb
      obtain ⟨t4, t5, t6, t7, e3⟩ := l_sum (wf := wf) (N := N - 1) (S := S) (w := w) (r := r) (by omega) hw (by omega) hz hd hs h1s (ih (N := N - 1) (by omega) (by omega)) (ns := numsI w r) (xs := itemsOf w r) (a := 1) (acc := 0) (s4 := none) (s5 := none) (s6 := none) (s7 := none) n1 hit n2 Bd.zero (by omega) (by omega)
      rw [Rat.zero_add] at e3
      simp [hj, isTup, f_sum_of_l0, e1, e2, fr_0, e3, sq_tup]
theorem e_end {m s : Nat} {sz : List Int} {sm : List Rat} {dm dz d : D} (hN : 12 ≤ N) (hw : W0 ≤ wf) (hz : SzOk m sz) (hd : Szs dz sz) (hm : Sms dm sm) (hl : sm.length = m) (hs : ∀ q ∈ sm, Bd s q) (h1s : 1 ≤ s) (h : Itm 5 m d) (hb : bt s 5 d < 8000) : (O wf N).fn 24 [d, dm, dz] none S = .ok (frD (endQ sz sm d)) S := by
  (rw [fn_in (f := f_end_by) (by omega) rfl rfl rfl rfl]; simp only [f_end_by, startE, List.map_cons, List.map_nil, List.cons_append, List.nil_append, List.replicate, Nat.sub_self])
  have e1 := fun S => e_weight (wf := wf) hz hd (k := 5) (N := N - 1) (d := d) (by omega) h (by omega) (S := S)
  have e2 := fun S => e_sum (wf := wf) hw hz hd hm hl hs h1s (k := 5) (N := N - 1) (by omega) (by omega) h hb (S := S)
  have hwt := wt_bits hz h.it (by omega)
  have hq := sq_bd hz hs h1s (by omega) h.it
  by_cases q : 0 < wt sz 5 d
  · have e3 := fun S => e_over (wf := wf) (N := N - 1) (S := S) (by omega) hq q hwt.2 (by omega) hw
    simp [e1, q, e2, e3, endQ]
  · simp [e1, q, endQ, fr_0]
end LK


/-! L11: ends of runs, what things count; the law's own ones. -/
namespace LK
open PySem PySem.Spec PyProof.Rows L2 Pz
variable {wf N : Nat} {S : Store}
theorem e_law_lowf {a b : Int} (h : 1 ≤ N) (hb : 0 < b) (hB : b.natAbs < W0) (hw : W0 ≤ wf) : (O wf N).fn 36 [.int a, .int b] none S = .ok (frD ((a : Rat) / (b : Rat))) S := by
  rw [← lowD_fr hb]
  exact e_law_low h hb (W0_9000 hB) (Nat.lt_of_lt_of_le hB hw)
theorem e_law_add {p q : Rat} {n m : Nat} (h : 2 ≤ N) (hp : Bd n p) (hq : Bd m q) (hn : n + m < 8990) (hw : W0 ≤ wf) : (O wf N).fn 37 [frD p, frD q] none S = .ok (frD (p + q)) S := by
  (rw [fn_in (f := f__law_add) (by omega) rfl rfl rfl rfl]; simp only [f__law_add, startE, List.map_cons, List.map_nil, List.cons_append, List.nil_append, List.replicate, Nat.sub_self])
  obtain ⟨h1, h2, h3⟩ := add_tops hp hq
  have e1 := fun S => e_law_lowf (wf := wf) (N := N - 1) (S := S) (a := p.num * q.den + q.num * p.den) (b := p.den * q.den) (by omega) h2 (Nat.lt_trans h3 (W0_pos hn)) hw
  simp [W0_mul (hp.num (by omega)) (hq.den (by omega)), W0_mul (hq.num (by omega)) (hp.den (by omega)), W0_mul (hp.den (by omega)) (hq.den (by omega)), e1]
  rw [rat_add p q]
  simp
theorem e_law_mul {p q : Rat} {n m : Nat} (h : 2 ≤ N) (hp : Bd n p) (hq : Bd m q) (hn : n + m < 8990) (hw : W0 ≤ wf) : (O wf N).fn 38 [frD p, frD q] none S = .ok (frD (p * q)) S := by
  (rw [fn_in (f := f__law_mul) (by omega) rfl rfl rfl rfl]; simp only [f__law_mul, startE, List.map_cons, List.map_nil, List.cons_append, List.nil_append, List.replicate, Nat.sub_self])
  obtain ⟨h1, h2, h3⟩ := mul_tops hp hq
  have e1 := fun S => e_law_lowf (wf := wf) (N := N - 1) (S := S) (a := p.num * q.num) (b := p.den * q.den) (by omega) h2 (Nat.lt_trans h3 (W0_pos hn)) hw
  simp [W0_mul (hp.num (by omega)) (hq.num (by omega)), W0_mul (hp.den (by omega)) (hq.den (by omega)), e1]
  rw [rat_mul p q]
  simp
theorem l_law_sum {d : Option Sl} {n : Nat} (h : 3 ≤ N) (hw : W0 ≤ wf) : ∀ {l : List Rat} {a : Nat} {acc : Rat} {sl : Option Sl}, (∀ q ∈ l, Bd n q) → Bd a acc → a + (l.length + 1) * (n + 1) < 8990 → ∃ sl' : Option Sl, forL (.nm 2) (fun env S => exSs (O wf N) wf f__law_sum_b0 env S) (l.map frD) [d, some (.val (frD acc)), sl] S = .nxt [d, some (.val (frD (acc + tot l))), sl'] S
  | [], a, acc, sl, _, _, _ => ⟨sl, by rw [tot, Rat.add_zero]; rfl⟩
  | q :: l, a, acc, sl, hl, ha, hb => by
    rw [List.length_cons, Nat.add_mul, Nat.add_mul] at hb
    have hq := hl q List.mem_cons_self
    have e1 := e_law_add (wf := wf) (N := N) (S := S) (by omega) ha hq (by omega) hw
    obtain ⟨sl', e2⟩ := l_law_sum (d := d) (n := n) h hw (l := l) (a := a + n + 1) (acc := acc + q) (sl := some (.val (frD q))) (fun y hy => hl y (List.mem_cons_of_mem _ hy)) (ha.add hq) (by rw [Nat.add_mul]; omega)
    refine ⟨sl', ?_⟩
    rw [List.map_cons, forL]
    simp only [bindT_nm, List.length_cons, List.length_nil, Nat.reduceAdd, Nat.reduceLT, if_true, put_s, put_0]
    rw [show exSs (O wf N) wf f__law_sum_b0 [d, some (.val (frD acc)), some (.val (frD q))] S = .nxt [d, some (.val (frD (acc + q))), some (.val (frD q))] S by simp [f__law_sum_b0, e1]]
    rw [SOut.bind_nxt, e2, tot, Rat.add_assoc]
theorem e_law_sum {d : D} {l : List Rat} {n : Nat} (h : 4 ≤ N) (hw : W0 ≤ wf) (hd : itemsD .seq [d] = some (l.map frD)) (hl : ∀ q ∈ l, Bd n q) (hb : (l.length + 1) * (n + 1) < 8980) : (O wf N).fn 40 [d] none S = .ok (frD (tot l)) S := by
  (rw [fn_in (f := f__law_sum) (by omega) rfl rfl rfl rfl]; simp only [f__law_sum, startE, List.map_cons, List.map_nil, List.cons_append, List.nil_append, List.replicate, Nat.sub_self])
  obtain ⟨sl', e⟩ := l_law_sum (wf := wf) (N := N - 1) (S := S) (d := some (.val d)) (n := n) (by omega) hw (l := l) (a := 1) (acc := 0) (sl := none) hl Bd.zero (by omega)
  rw [Rat.zero_add] at e
  simp [f__law_sum_l0, hd, fr_0, e]
/-- what the law's own sum of an item is worth -/
def worthD (sz : List Int) (sm : List Rat) (k : Nat) (d : D) : D := .tup [frD (sq sz sm k d), .int (wt sz k d)]
def WorOk (wf N m s k : Nat) (sz : List Int) (sm : List Rat) (dm dz : D) : Prop := ∀ {d : D}, Itm k m d → bt s k d < 8000 → ∀ {S : Store}, (O wf N).fn 47 [d, dm, dz] none S = .ok (worthD sz sm k d) S
theorem l_worth {m s k : Nat} {sz : List Int} {sm : List Rat} {d1 d2 d3 d4 : Option Sl} {w : Str} {r : List D} (hN : 2 ≤ N) (hw : W0 ≤ wf) (hk : k ≤ 5) (hz : SzOk m sz) (hs : ∀ q ∈ sm, Bd s q) (h1s : 1 ≤ s) :
    ∀ {ns : List Int} {xs : List D} {a : Nat} {acc : Rat} {hv : Int} {s7 s8 s9 : Option Sl}, ns.length = xs.length → (∀ x ∈ xs, Itm k m x) → (∀ n ∈ ns, 1 ≤ n ∧ n ≤ 9) → Bd a acc → a + btsum s k xs < 8000 → 1 ≤ a →
    ∃ t7 t8 t9 : Option Sl, forL (.tp (.cons (.nm 7) (.cons (.tp (.cons (.nm 8) (.cons (.nm 9) .nil))) .nil))) (fun env S => exSs (O wf N) wf f__law_worth_b0 env S) (zipD (ns.map D.int) (xs.map (worthD sz sm k))) [some (.val (.tup (.str w :: r))), d1, d2, d3, d4, some (.val (frD acc)), some (.val (.int hv)), s7, s8, s9] S = .nxt [some (.val (.tup (.str w :: r))), d1, d2, d3, d4, some (.val (frD (acc + zipT ns xs fun n x => addsQ w n (sq sz sm k x) (wt sz k x)))), some (.val (.int (hv + heavyQ w ns (xs.map (wt sz k))))), t7, t8, t9] S
  | [], [], a, acc, hv, s7, s8, s9, _, _, _, _, _, _ => ⟨s7, s8, s9, by rw [List.map_nil, zipD_nil]; show _ = SOut.nxt [_, _, _, _, _, some (.val (frD (acc + 0))), some (.val (.int (hv + 0))), _, _, _] S; rw [Rat.add_zero, Int.add_zero]; rfl⟩
  | [], x :: xs, _, _, _, _, _, _, h, _, _, _, _, _ => by simp at h
  | n :: ns, [], _, _, _, _, _, _, h, _, _, _, _, _ => by simp at h
  | n :: ns, x :: xs, a, acc, hv, s7, s8, s9, hl, hx, hn, ha, hb, h1 => by
    have hx0 := hx x List.mem_cons_self
    have hn0 := hn n List.mem_cons_self
    have hb2 : btsum s k (x :: xs) = bt s k x + btsum s k xs := by unfold btsum; rw [List.map_cons, List.sum_cons]
    have hg := bt_ge (s := s) hx0.it
    have hwt := wt_bits hz hx0.it (by omega)
    have hq := sq_bd hz hs h1s (by omega) hx0.it
    have had := adds_bd (w := w) hq hn0 hwt.1 hwt.2 (by omega)
    have hacc : Bd (a + bt s k x) (acc + addsQ w n (sq sz sm k x) (wt sz k x)) := (ha.add had).up (by omega)
    obtain ⟨t7, t8, t9, e3⟩ := l_worth (r := r) (d1 := d1) (d2 := d2) (d3 := d3) (d4 := d4) hN hw hk hz hs h1s (ns := ns) (xs := xs) (a := a + bt s k x) (acc := acc + addsQ w n (sq sz sm k x) (wt sz k x)) (hv := hv + (if w = "sums" then wt sz k x else if 0 < wt sz k x then n else if w = "full" then 0 else n)) (s7 := some (.val (.int n))) (s8 := some (.val (frD (sq sz sm k x)))) (s9 := some (.val (.int (wt sz k x)))) (by simpa using hl) (fun y hy => hx y (List.mem_cons_of_mem _ hy)) (fun y hy => hn y (List.mem_cons_of_mem _ hy)) hacc (by omega) (by omega)
    refine ⟨t7, t8, t9, ?_⟩
    rw [List.map_cons, List.map_cons, zipD_cons, forL]
    simp only [worthD, bindT_tp, bindTs_cons, bindTs_nil, bindT_nm, List.length_cons, List.length_nil, Nat.reduceAdd, Nat.reduceLT, if_true, put_s, put_0, Option.bind_some]
    rw [show exSs (O wf N) wf f__law_worth_b0 [some (.val (.tup (.str w :: r))), d1, d2, d3, d4, some (.val (frD acc)), some (.val (.int hv)), some (.val (.int n)), some (.val (frD (sq sz sm k x))), some (.val (.int (wt sz k x)))] S = .nxt [some (.val (.tup (.str w :: r))), d1, d2, d3, d4, some (.val (frD (acc + addsQ w n (sq sz sm k x) (wt sz k x)))), some (.val (.int (hv + (if w = "sums" then wt sz k x else if 0 < wt sz k x then n else if w = "full" then 0 else n)))), some (.val (.int n)), some (.val (frD (sq sz sm k x))), some (.val (.int (wt sz k x)))] S by
      by_cases w1 : w = "sums"
      · subst w1
        have e5 := fun S => e_law_add (wf := wf) (N := N) (S := S) (by omega) ha hq (by omega) hw
        simp [f__law_worth_b0, e5, addsQ]
      · by_cases w2 : 0 < wt sz k x
        · have m1 : mulOk (sq sz sm k x).num n := mul_small' (by omega)
          have m2 : mulOk ((sq sz sm k x).den : Int) (wt sz k x) := mul_small' (by omega)
          have h6 := abs_mul_lt hq.dabs hwt.2
          have e6 := fun S => e_law_lowf (wf := wf) (N := N) (S := S) (a := (sq sz sm k x).num * n) (b := (sq sz sm k x).den * wt sz k x) (by omega) (Int.mul_pos (den_pos _) w2) (Nat.lt_trans h6 (W0_pos (by omega))) hw
          have eq6 : (((sq sz sm k x).num * n : Int) : Rat) / (((sq sz sm k x).den * wt sz k x : Int) : Rat) = sq sz sm k x * (n : Rat) / (wt sz k x : Rat) := by
            rw [Rat.intCast_mul, Rat.intCast_mul]
            have d0 : (((sq sz sm k x).den : Int) : Rat) ≠ 0 := by
              have := den_pos (sq sz sm k x)
              exact fun z => by rw [Rat.intCast_eq_zero_iff] at z; omega
            have d1 : ((wt sz k x : Int) : Rat) ≠ 0 := fun z => by rw [Rat.intCast_eq_zero_iff] at z; omega
            conv => rhs; rw [rat_nd (sq sz sm k x)]
            grind
          rw [eq6] at e6
          have e7 := fun S => e_law_add (wf := wf) (N := N) (S := S) (q := sq sz sm k x * (n : Rat) / (wt sz k x : Rat)) (by omega) ha (((hq.mul (Bd.int (n := 4) (i := n) (by omega) (by omega))).over w2 hwt.2)) (by omega) hw
          simp [f__law_worth_b0, w1, w2, m1, m2, e6, e7, addsQ]
        · by_cases w3 : w = "full"
          · subst w3
            simp [f__law_worth_b0, w1, w2, addsQ, Rat.add_zero]
          · simp [f__law_worth_b0, w1, w2, w3, addsQ, Rat.add_zero]]
    rw [SOut.bind_nxt, e3]
    show _ = SOut.nxt [_, _, _, _, _, some (.val (frD (acc + (addsQ w n (sq sz sm k x) (wt sz k x) + zipT ns xs _)))), some (.val (.int (hv + heavyQ w (n :: ns) (wt sz k x :: xs.map (wt sz k))))), _, _, _] S
    rw [Rat.add_assoc, heavyQ, Int.add_assoc]
theorem e_worth {m s : Nat} {sz : List Int} {sm : List Rat} {dm dz : D} (hw : W0 ≤ wf) (hz : SzOk m sz) (hd : Szs dz sz) (hm : Sms dm sm) (hl : sm.length = m) (hs : ∀ q ∈ sm, Bd s q) (h1s : 1 ≤ s) : ∀ {k N : Nat}, k ≤ 5 → k + 6 ≤ N → WorOk wf N m s k sz sm dm dz := by
  intro k
  induction k with
  | zero =>
    intro N hk hN d h hb S
    (rw [fn_in (f := f__law_worth) (by omega) rfl rfl rfl rfl]; simp only [f__law_worth, startE, List.map_cons, List.map_nil, List.cons_append, List.nil_append, List.replicate, Nat.sub_self])
    rcases isItem_cases h.it with ⟨i, rfl, h1, h2⟩ | ⟨k', w, r, e, rfl, h1, h2, h3, h4⟩
    · have := h.lt i (by simp)
      simp [-ix_ref, ix_sms hm this.1 (by rw [hl]; exact this.2), ix_szs hd this.1 (by rw [hz.len]; exact this.2), worthD]
    · omega
  | succ k ih =>
    intro N hk hN d h hb S
    (rw [fn_in (f := f__law_worth) (by omega) rfl rfl rfl rfl]; simp only [f__law_worth, startE, List.map_cons, List.map_nil, List.cons_append, List.nil_append, List.replicate, Nat.sub_self])
    rcases isItem_cases h.it with ⟨i, rfl, h1, h2⟩ | ⟨k', w, r, e, rfl, h1, h2, h3, h4⟩
    · have := h.lt i (by simp)
      simp [-ix_ref, ix_sms hm this.1 (by rw [hl]; exact this.2), ix_szs hd this.1 (by rw [hz.len]; exact this.2), worthD]
    · cases e
      have hit : ∀ y ∈ itemsOf w r, Itm k m y := fun y hy => ⟨h4 y hy, fun i hi => h.lt i (by rw [pl_tup, List.mem_flatMap]; exact ⟨y, hy, hi⟩)⟩
      have e1 := fun S => e_law_items (wf := wf) (N := N - 1) (S := S) (w := w) (r := r) (by omega)
      have e2 := fun S => e_law_numbers (wf := wf) (N := N - 1) (S := S) (by omega) h1 h2
      obtain ⟨n1, n2⟩ := nums_ok h1
      rw [bt_tup] at hb
      have c0 : evE (O wf (N - 1)) f__law_worth_c0 [some (.val (.tup (.str w :: r))), some (.val dm), some (.val dz), none, none, none, none, none, none, none] S = .ok (.lst ((itemsOf w r).map (worthD sz sm k))) S := by
        simp [f__law_worth_c0, blk_def, e1]
        rw [compL_of (worthD sz sm k)]
        · simp [show (itemsOf w r).length ≤ 1000000 by omega]
        · intro y hy
          have := bt_mem (s := s) (k := k) hy
          simp [turnO, ih (N := N - 1) (by omega) (by omega) (hit y hy) (by omega)]
      obtain ⟨t7, t8, t9, e3⟩ := l_worth (wf := wf) (N := N - 1) (S := S) (w := w) (r := r) (d1 := some (.val dm)) (d2 := some (.val dz)) (d3 := some (.val (.lst ((itemsOf w r).map (worthD sz sm k))))) (d4 := none) (by omega) hw (by omega) hz hs h1s (ns := numsI w r) (xs := itemsOf w r) (a := 1) (acc := 0) (hv := 0) (s7 := none) (s8 := none) (s9 := none) n1 hit n2 Bd.zero (by omega) (by omega)
      rw [Rat.zero_add, Int.zero_add, heavy_wt h1] at e3
      simp [c0, f__law_worth_l0, e2, fr_0, e3]
      rfl
theorem e_law_end {m s : Nat} {sz : List Int} {sm : List Rat} {dm dz d : D} (hN : 12 ≤ N) (hw : W0 ≤ wf) (hz : SzOk m sz) (hd : Szs dz sz) (hm : Sms dm sm) (hl : sm.length = m) (hs : ∀ q ∈ sm, Bd s q) (h1s : 1 ≤ s) (h : Itm 5 m d) (hb : bt s 5 d < 8000) : (O wf N).fn 48 [d, dm, dz] none S = .ok (frD (endQ sz sm d)) S := by
  (rw [fn_in (f := f__law_end) (by omega) rfl rfl rfl rfl]; simp only [f__law_end, startE, List.map_cons, List.map_nil, List.cons_append, List.nil_append, List.replicate, Nat.sub_self])
  have e2 := fun S => e_worth (wf := wf) hw hz hd hm hl hs h1s (k := 5) (N := N - 1) (by omega) (by omega) h hb (S := S)
  have hwt := wt_bits hz h.it (by omega)
  have hq := sq_bd hz hs h1s (by omega) h.it
  by_cases q : 0 < wt sz 5 d
  · have m2 : mulOk ((sq sz sm 5 d).den : Int) (wt sz 5 d) := mul_small' (by omega)
    have h6 := abs_mul_lt hq.dabs hwt.2
    have e6 := fun S => e_law_lowf (wf := wf) (N := N - 1) (S := S) (a := (sq sz sm 5 d).num) (b := (sq sz sm 5 d).den * wt sz 5 d) (by omega) (Int.mul_pos (den_pos _) q) (Nat.lt_trans h6 (W0_pos (by omega))) hw
    rw [← rat_over _ _ q] at e6
    simp [e2, worthD, q, m2, e6, endQ]
  · simp [e2, worthD, q, endQ, fr_0]
theorem e_part_counted {m : Nat} {sz : List Int} {dz d : D} {p : Int} (hN : 13 ≤ N) (hw : W0 ≤ wf) (hz : SzOk m sz) (hm3 : m ≤ 3) (hd : Szs dz sz) (h : Itm 5 m d) (hb : bt 1 5 d < 8000) : (O wf N).fn 25 [d, dz, .int p] none S = .ok (frD (countQ sz d p)) S := by
  (rw [fn_in (f := f_part_counted) (by omega) rfl rfl rfl rfl]; simp only [f_part_counted, startE, List.map_cons, List.map_nil, List.cons_append, List.nil_append, List.replicate, Nat.sub_self])
  have e1 := fun S => e_end (wf := wf) (N := N - 1) (S := S) (sm := unitQ m p) (dm := .lst ((unitQ m p).map frD)) (s := 1) (by omega) hw hz hd (.inl rfl) unit_len unit_bd (by omega) h hb
  have c0 : evE (O wf (N - 1)) f_part_counted_c0 [some (.val d), some (.val dz), some (.val (.int p)), none] S = .ok (.lst ((unitQ m p).map frD)) S := by
    have hl := len_szs hd
    rw [hz.len] at hl
    simp [f_part_counted_c0, blk_def, hl, ranges1n (show m ≤ 2 ^ 60 by omega)]
    rw [compL_of' D.int fun i => if i = p then D.tup [.int 1, .int 1] else .tup [.int 0, .int 1], unit_fr]
    · have : (unitQ m p).length ≤ 1000000 := by rw [unit_len]; omega
      simp [this]
    · intro i _
      by_cases q : i = p <;> simp [turnO, q]
  simp [c0, e1, countQ, hz.len]
theorem e_counted {m : Nat} {sz : List Int} {dz d : D} (hN : 14 ≤ N) (hw : W0 ≤ wf) (hz : SzOk m sz) (hm3 : m ≤ 3) (hd : Szs dz sz) (h : Itm 5 m d) (hb : bt 1 5 d < 8000) : (O wf N).fn 26 [d, dz] none S = .ok (.lst ((rangeI m).map (countD sz d))) S := by
  (rw [fn_in (f := f_counted) (by omega) rfl rfl rfl rfl]; simp only [f_counted, startE, List.map_cons, List.map_nil, List.cons_append, List.nil_append, List.replicate, Nat.sub_self])
  have hl := len_szs hd
  rw [hz.len] at hl
  have e1 := fun p S => e_part_counted (wf := wf) (N := N - 1) (S := S) (p := p) (by omega) hw hz hm3 hd h hb
  simp [f_counted_c0, blk_def, hl, ranges1n (show m ≤ 2 ^ 60 by omega)]
  rw [compL_of' D.int (countD sz d)]
  · have : ((rangeI m).map (countD sz d)).length ≤ 1000000 := by simp [len_rangeI]; omega
    simp [len_rangeI, show m ≤ 1000000 by omega]
  · intro i hi
    rw [mem_range] at hi
    have ix := fun S => ix_szs (S := S) hd hi.1 (by rw [hz.len]; exact hi.2)
    by_cases q : 0 < szAt sz i <;> simp [turnO, -ix_ref, ix, q, e1, countD]
theorem sz_areSizes {m : Nat} {sz : List Int} (hz : SzOk m sz) : areSizes m (.tup (sz.map D.int)) = true := by
  simp only [areSizes, Bool.and_eq_true, decide_eq_true_eq, List.all_eq_true]
  refine ⟨by simpa using hz.len, fun x hx => ?_⟩
  obtain ⟨i, hi, rfl⟩ := List.mem_map.mp hx
  simp [isFrom, hz.lo i hi, hz.hi i hi]
theorem e_need_sizes {s d : D} {j : Nat} (h1 : isItem 5 s = true) (hd : sm j d = true) (h : 10 ≤ N) : (O wf N).fn 20 [s, d] none S = if areSizes (many s) d = true then .ok .non S else .exc 1 [] S := by
  (rw [fn_in (f := f_need_sizes) (by omega) rfl rfl rfl rfl]; simp only [f_need_sizes, startE, List.map_cons, List.map_nil, List.cons_append, List.nil_append, List.replicate, Nat.sub_self])
  have e := fun S => e_sizes (wf := wf) (N := N - 1) (S := S) h1 hd (by omega)
  by_cases q : areSizes (many s) d = true <;> simp [e, q]
theorem W0_mill : 1000000 < W0 := W0_small (by omega)
theorem l_law_counts {m : Nat} {sz : List Int} {dz d : D} (hN : 12 ≤ N) (hw : W0 ≤ wf) (hz : SzOk m sz) (hm3 : m ≤ 3) (hd : Szs dz sz) (h : Itm 5 m d) (hb : bt 1 5 d < 8000) : ∀ {l : List Int} {acc : List D} {s3 s4 : Option Sl}, (∀ i ∈ l, 0 ≤ i ∧ i < m) → acc.length + l.length ≤ 100 →
    ∃ t3 t4 : Option Sl, forL (.nm 3) (fun env S => exSs (O wf N) wf f__law_counts_b0 env S) (l.map D.int) [some (.val d), some (.val dz), some (.own acc), s3, s4, none] S = .nxt [some (.val d), some (.val dz), some (.own (acc ++ l.map (countD sz d))), t3, t4, none] S
  | [], acc, s3, s4, _, _ => ⟨s3, s4, by simp⟩
  | i :: l, acc, s3, s4, hl, ha => by
    rw [List.length_cons] at ha
    have hi := hl i List.mem_cons_self
    have e1 := fun S => e_law_end (wf := wf) (N := N) (S := S) (sm := unitQ m i) (dm := .lst ((unitQ m i).map frD)) (s := 1) hN hw hz hd (.inl rfl) unit_len unit_bd (by omega) h hb
    have c0 : ∀ s4, evE (O wf N) f__law_counts_c0 [some (.val d), some (.val dz), some (.own acc), some (.val (.int i)), s4, none] S = .ok (.lst ((unitQ m i).map frD)) S := fun s4 => by
      have hl := len_szs hd
      rw [hz.len] at hl
      simp [f__law_counts_c0, blk_def, hl, ranges1n (show m ≤ 2 ^ 60 by omega)]
      rw [compL_of' D.int fun j => if j = i then D.tup [.int 1, .int 1] else .tup [.int 0, .int 1], unit_fr]
      · have : (unitQ m i).length ≤ 1000000 := by rw [unit_len]; omega
        simp [this]
      · intro j _
        by_cases q : j = i <;> simp [turnO, q]
    have ix := fun S => ix_szs (S := S) hd hi.1 (by rw [hz.len]; exact hi.2)
    obtain ⟨t3, t4, e3⟩ := l_law_counts hN hw hz hm3 hd h hb (l := l) (acc := acc ++ [countD sz d i]) (s3 := some (.val (.int i))) (s4 := some (.val (.lst ((unitQ m i).map frD)))) (fun j hj => hl j (List.mem_cons_of_mem _ hj)) (by simp; omega)
    refine ⟨t3, t4, ?_⟩
    rw [List.map_cons, forL]
    simp only [bindT_nm, List.length_cons, List.length_nil, Nat.reduceAdd, Nat.reduceLT, if_true, put_s, put_0]
    rw [show exSs (O wf N) wf f__law_counts_b0 [some (.val d), some (.val dz), some (.own acc), some (.val (.int i)), s4, none] S = .nxt [some (.val d), some (.val dz), some (.own (acc ++ [countD sz d i])), some (.val (.int i)), some (.val (.lst ((unitQ m i).map frD))), none] S by
      by_cases q : 0 < szAt sz i <;> simp [f__law_counts_b0, c0, -ix_ref, ix, q, e1, countD, countQ, hz.len, show acc.length ≤ 1000000 by omega]]
    rw [SOut.bind_nxt, e3]
    simp
theorem e_law_counts {m : Nat} {sz : List Int} {dz d : D} (hN : 13 ≤ N) (hw : W0 ≤ wf) (hz : SzOk m sz) (hm3 : m ≤ 3) (hd : Szs dz sz) (h : Itm 5 m d) (hb : bt 1 5 d < 8000) : (O wf N).fn 49 [d, dz] none S = .ok (.tup ((rangeI m).map (countD sz d))) S := by
  (rw [fn_in (f := f__law_counts) (by omega) rfl rfl rfl rfl]; simp only [f__law_counts, startE, List.map_cons, List.map_nil, List.cons_append, List.nil_append, List.replicate, Nat.sub_self])
  have hl := len_szs hd
  rw [hz.len] at hl
  obtain ⟨t3, t4, e⟩ := l_law_counts (wf := wf) (N := N - 1) (S := S) (by omega) hw hz hm3 hd h hb (l := rangeI m) (acc := []) (s3 := none) (s4 := none) (fun i hi => mem_range.mp hi) (by simp [len_rangeI]; omega)
  simp at e
  simp [f__law_counts_l0, hl, ranges1n (show m ≤ 2 ^ 60 by omega), e]
end LK


/-! L13: refused calls. -/
namespace LK
open PySem PySem.Spec PyProof.Rows L2 Pz
variable {wf N : Nat} {S : Store}
theorem err_eq {k : Nat} : (O wf N).err k = spec.prog.errs[k]? := by cases N <;> rfl
theorem lam_in {k : Nat} {l : Lam} {args cap : List D} (h : 1 ≤ N) (hl : spec.prog.lams[k]? = some l) (h1 : args.length = l.np) (h2 : cap.length = l.nc) : (O wf N).lam k cap args S = evE (O wf (N - 1)) l.body ((args ++ cap).map fun d => some (.val d)) S := by
  obtain ⟨n, rfl⟩ : ∃ n, N = n + 1 := ⟨N - 1, by omega⟩
  show (match spec.prog.lams[k]? with | some l => if args.length = l.np ∧ cap.length = l.nc then evE (orc spec.prog wf n) l.body ((args ++ cap).map fun d => some (.val d)) S else .bad | none => .bad) = _
  rw [hl]
  show (if args.length = l.np ∧ cap.length = l.nc then _ else _) = _
  rw [if_pos ⟨h1, h2⟩]
  rfl
theorem e_refused {l c : Nat} {cap : List D} {w : Str} {T : Store} (hN : 1 ≤ N) (h : (O wf (N - 1)).lam l cap [] S = .exc c [] T) (hw : spec.prog.errs[c]? = some w) : (O wf N).fn 34 [] (some (l, cap)) S = .ok (.str w) T := by
  rw [fn_inc (f := f__law_refused) (by omega) rfl rfl rfl rfl]
  simp only [f__law_refused, startE, List.map_nil, List.nil_append, List.cons_append, List.replicate, Nat.sub_self]
  simp [h]
  rw [tryO_exc (w := w) (by simp) (by rw [err_eq]; exact hw)]
  rfl
theorem e_by_two {kk c : Nat} {a b : D} {w : Str} {T : Store} (hN : 4 ≤ N) (h : (O wf (N - 3)).fn kk [a, b] none S = .exc c [] T) (hw : spec.prog.errs[c]? = some w) : (O wf N).fn 35 [.fn kk, a, b] none S = .ok (.str w) T := by
  (rw [fn_in (f := f__law_by_two) (by omega) rfl rfl rfl rfl]; simp only [f__law_by_two, startE, List.map_cons, List.map_nil, List.cons_append, List.nil_append, List.replicate, Nat.sub_self])
  have e1 : (O wf (N - 1 - 1)).lam 0 [.fn kk, a, b] [] S = .exc c [] T := by
    rw [lam_in (l := ⟨0, 3, .callv 0 (.cons (.var 1) (.cons (.var 2) .nil))⟩) (by omega) rfl rfl rfl]
    simp
    rw [show N - 1 - 1 - 1 = N - 3 by omega]
    exact h
  have e2 := e_refused (wf := wf) (N := N - 1) (S := S) (by omega) e1 hw
  simp [e2]
end LK


/-! L20: all sizes in a box. -/
namespace LK
open PySem PySem.Spec PyProof.Rows L2 Pz
variable {wf N : Nat} {S : Store}
theorem compF_of {X : Type} {f : D → Store → Out (List D)} {xs : List X} (c : X → D) (g : X → List D) (h : ∀ x ∈ xs, f (c x) S = .ok (g x) S) : compF f (xs.map c) S = .ok (xs.flatMap g) S := by
  induction xs with
  | nil => rfl
  | cons x xs ih =>
    rw [List.map_cons, compF, h x List.mem_cons_self, Out.bind_ok, ih fun y hy => h y (List.mem_cons_of_mem _ hy), Out.bind_ok, List.flatMap_cons]
theorem wider {t m : Nat} : ((gridI t m).flatMap fun s => (rangeI (t + 1)).map fun i => szD (s ++ [i])) = (gridI t (m + 1)).map szD := by
  show _ = ((gridI t m).flatMap fun s => (rangeI (t + 1)).map fun i => s ++ [i]).map szD
  rw [List.map_flatMap]
  congr 1
  funext s
  rw [List.map_map]
  rfl
theorem c_all_sizes {t m : Nat} {v0 v3 : Option Sl} (ht : t ≤ 6) (hm : m < 3) : evE (O wf N) f_all_sizes_c0 [v0, some (.val (.int (t : Int))), some (.val (.lst ((gridI t m).map szD))), v3, none, none] S = .ok (.lst ((gridI t (m + 1)).map szD)) S := by
  have hl := grid_le (t := t) (m := m + 1) ht (by omega)
  unfold f_all_sizes_c0
  rw [evE_lc2]
  unfold evLc2
  have e1 : evI .seq (evEs (O wf N) (.cons (.var 2) .nil)) [v0, some (.val (.int (t : Int))), some (.val (.lst ((gridI t m).map szD))), v3, none, none] S = .ok ((gridI t m).map szD) S := by simp [evI]
  rw [e1, Out.bind_ok, compF_of szD fun s => (rangeI (t + 1)).map fun i => szD (s ++ [i])]
  · rw [Out.calm_ok, Out.bind_ok, wider, if_pos (by simp; omega)]
  · intro s hs
    have h1 := (grid_mem.mp hs).1
    have hle : s.length + 1 ≤ sizeLine := le_line (by omega)
    unfold turn2
    have e2 : ∀ env : Pz.Env, env.val 1 = some (.int (t : Int)) → evI .range1 (evEs (O wf N) (.cons (.bin .add (.var 1) (.con (.int 1))) .nil)) env S = .ok ((rangeI (t + 1)).map D.int) S := fun env h => by
      have := ranges1n (n := t + 1) (by omega)
      rw [Int.natCast_add] at this
      simp at this
      simp [evI, h, this]
    simp [blk_def]
    rw [e2 _ rfl, Out.bind_ok, compL_of' D.int fun i => szD (s ++ [i])]
    intro i _
    simp [turn1, blk_def, szD, hle]
theorem e_all_sizes {t m : Nat} (hN : 1 ≤ N) (ht : t ≤ 6) (hm : m ≤ 3) : (O wf N).fn 27 [.int (m : Int), .int (t : Int)] none S = .ok (.lst ((gridI t m).map szD)) S := by
  (rw [fn_in (f := f_all_sizes) (by omega) rfl rfl rfl rfl]; simp only [f_all_sizes, startE, List.map_cons, List.map_nil, List.cons_append, List.nil_append, List.replicate, Nat.sub_self])
  have lp : ∀ (j : Nat) (xs : List D) (v3 : Option Sl), j + xs.length ≤ 3 → ∃ v3' : Option Sl, forL (.nm 3) (fun env S => exSs (O wf (N - 1)) wf f_all_sizes_b0 env S) xs [some (.val (.int (m : Int))), some (.val (.int (t : Int))), some (.val (.lst ((gridI t j).map szD))), v3, none, none] S = .nxt [some (.val (.int (m : Int))), some (.val (.int (t : Int))), some (.val (.lst ((gridI t (j + xs.length)).map szD))), v3', none, none] S := by
    intro j xs
    induction xs generalizing j with
    | nil => exact fun v3 _ => ⟨v3, rfl⟩
    | cons x xs ih =>
      intro v3 h
      rw [List.length_cons] at h
      obtain ⟨v3', e⟩ := ih (j + 1) (some (.val x)) (by omega)
      refine ⟨v3', ?_⟩
      rw [forL]
      simp only [bindT_nm, List.length_cons, List.length_nil, Nat.reduceAdd, Nat.reduceLT, if_true, put_s, put_0]
      rw [show exSs (O wf (N - 1)) wf f_all_sizes_b0 [some (.val (.int (m : Int))), some (.val (.int (t : Int))), some (.val (.lst ((gridI t j).map szD))), some (.val x), none, none] S = .nxt [some (.val (.int (m : Int))), some (.val (.int (t : Int))), some (.val (.lst ((gridI t (j + 1)).map szD))), some (.val x), none, none] S by
        simp [f_all_sizes_b0, c_all_sizes ht (show j < 3 by omega)]]
      rw [SOut.bind_nxt, e, show j + (xs.length + 1) = j + 1 + xs.length by omega]
  obtain ⟨v3, e⟩ := lp 0 ((rangeI m).map D.int) none (by simp [len_rangeI]; omega)
  simp [gridI, szD, len_rangeI] at e
  simp [f_all_sizes_l0, ranges1n (show m ≤ 2 ^ 60 by omega), e]
theorem e_law_grid {t m : Nat} (hN : 1 ≤ N) (ht : t ≤ 6) (hm : m ≤ 3) : (O wf N).fn 50 [.int (m : Int), .int (t : Int)] none S = .ok (.lst ((gridI t m).map szD)) S := by
  (rw [fn_in (f := f__law_grid) (by omega) rfl rfl rfl rfl]; simp only [f__law_grid, startE, List.map_cons, List.map_nil, List.cons_append, List.nil_append, List.replicate, Nat.sub_self])
  have inner : ∀ (fs acc : List (List Int)) (v0 v2 v3 v5 : Option Sl), (∀ s ∈ fs, s.length ≤ 3) → acc.length + fs.length * (t + 1) ≤ 400 → ∃ v5' : Option Sl, forL (.nm 5) (fun env S => exSs (O wf (N - 1)) wf f__law_grid_b0 env S) (fs.map szD) [v0, some (.val (.int (t : Int))), v2, v3, some (.val (.lst (acc.map szD))), v5, none] S = .nxt [v0, some (.val (.int (t : Int))), v2, v3, some (.val (.lst ((acc ++ fs.flatMap fun s => (rangeI (t + 1)).map fun i => s ++ [i]).map szD))), v5', none] S := by
    intro fs
    induction fs with
    | nil => exact fun acc v0 v2 v3 v5 _ _ => ⟨v5, by simp⟩
    | cons s fs ih =>
      intro acc v0 v2 v3 v5 h1 h2
      rw [List.length_cons, Nat.add_mul] at h2
      have hs := h1 s List.mem_cons_self
      obtain ⟨v5', e⟩ := ih (acc ++ (rangeI (t + 1)).map fun i => s ++ [i]) v0 v2 v3 (some (.val (szD s))) (fun x hx => h1 x (List.mem_cons_of_mem _ hx)) (by simp [len_rangeI]; omega)
      refine ⟨v5', ?_⟩
      have hle : s.length + 1 ≤ sizeLine := le_line (by omega)
      have c0 : evE (O wf (N - 1)) f__law_grid_c0 [v0, some (.val (.int (t : Int))), v2, v3, some (.val (.lst (acc.map szD))), some (.val (szD s)), none] S = .ok (.lst (((rangeI (t + 1)).map fun i => s ++ [i]).map szD)) S := by
        have := ranges1n (n := t + 1) (by omega)
        rw [Int.natCast_add] at this
        simp at this
        simp [f__law_grid_c0, blk_def, this]
        rw [compL_of' D.int fun i => szD (s ++ [i])]
        · simp [len_rangeI, Function.comp_def]
          omega
        · intro i _
          simp [turnO, szD, hle]
      rw [List.map_cons, forL]
      simp only [bindT_nm, List.length_cons, List.length_nil, Nat.reduceAdd, Nat.reduceLT, if_true, put_s, put_0]
      rw [show exSs (O wf (N - 1)) wf f__law_grid_b0 [v0, some (.val (.int (t : Int))), v2, v3, some (.val (.lst (acc.map szD))), some (.val (szD s)), none] S = .nxt [v0, some (.val (.int (t : Int))), v2, v3, some (.val (.lst ((acc ++ (rangeI (t + 1)).map fun i => s ++ [i]).map szD))), some (.val (szD s)), none] S by
        have hl2 : acc.length + (t + 1) ≤ sizeLine := le_line (by omega)
        simp only [f__law_grid_b0, y_cons, y_asg, x_bin, x_var, c0, val_s, val_0, Out.ofO_some, Out.bind_ok, add_lst, y_nil]
        simp [len_rangeI, hl2]]
      rw [SOut.bind_nxt, e, List.flatMap_cons, List.append_assoc]
  have lp : ∀ (j : Nat) (xs : List D) (v3 v4 v5 : Option Sl), j + xs.length ≤ 3 → ∃ v3' v4' v5' : Option Sl, forL (.nm 3) (fun env S => exSs (O wf (N - 1)) wf f__law_grid_b1 env S) xs [some (.val (.int (m : Int))), some (.val (.int (t : Int))), some (.val (.lst ((gridI t j).map szD))), v3, v4, v5, none] S = .nxt [some (.val (.int (m : Int))), some (.val (.int (t : Int))), some (.val (.lst ((gridI t (j + xs.length)).map szD))), v3', v4', v5', none] S := by
    intro j xs
    induction xs generalizing j with
    | nil => exact fun v3 v4 v5 _ => ⟨v3, v4, v5, rfl⟩
    | cons x xs ih =>
      intro v3 v4 v5 h
      rw [List.length_cons] at h
      obtain ⟨w5, e1⟩ := inner (gridI t j) [] (some (.val (.int (m : Int)))) (some (.val (.lst ((gridI t j).map szD)))) (some (.val x)) v5 (fun s hs => by have := (grid_mem.mp hs).1; omega) (by
        have := grid_le (t := t) (m := j + 1) ht (by omega)
        rw [grid_len, Nat.pow_succ, ← grid_len] at this
        simp; omega)
      rw [List.nil_append] at e1
      obtain ⟨v3', v4', v5', e⟩ := ih (j + 1) (some (.val x)) (some (.val (.lst ((gridI t (j + 1)).map szD)))) w5 (by omega)
      refine ⟨v3', v4', v5', ?_⟩
      rw [forL]
      simp only [bindT_nm, List.length_cons, List.length_nil, Nat.reduceAdd, Nat.reduceLT, if_true, put_s, put_0]
      rw [show exSs (O wf (N - 1)) wf f__law_grid_b1 [some (.val (.int (m : Int))), some (.val (.int (t : Int))), some (.val (.lst ((gridI t j).map szD))), some (.val x), v4, v5, none] S = .nxt [some (.val (.int (m : Int))), some (.val (.int (t : Int))), some (.val (.lst ((gridI t (j + 1)).map szD))), some (.val x), some (.val (.lst ((gridI t (j + 1)).map szD))), w5, none] S by
        have e1 : forL (.nm 5) (fun env S => exSs (O wf (N - 1)) wf f__law_grid_b0 env S) ((gridI t j).map szD) [some (.val (.int (m : Int))), some (.val (.int (t : Int))), some (.val (.lst ((gridI t j).map szD))), some (.val x), some (.val (.lst [])), v5, none] S = .nxt [some (.val (.int (m : Int))), some (.val (.int (t : Int))), some (.val (.lst ((gridI t j).map szD))), some (.val x), some (.val (.lst ((gridI t (j + 1)).map szD))), w5, none] S := e1
        simp [f__law_grid_b1, f__law_grid_l0, e1]]
      rw [SOut.bind_nxt, e, show j + (xs.length + 1) = j + 1 + xs.length by omega]
  obtain ⟨v3, v4, v5, e⟩ := lp 0 ((rangeI m).map D.int) none none none (by simp [len_rangeI]; omega)
  simp [gridI, szD, len_rangeI] at e
  simp [f__law_grid_l1, ranges1n (show m ≤ 2 ^ 60 by omega), e]
end LK


/-! L21k51: the greatest misses, worst sizes. -/
namespace LK
open PySem PySem.Spec PyProof.Rows L2 Pz
variable {wf N : Nat} {S : Store}
theorem pos_fr {p : Rat} : 0 < p.num ↔ 0 < p := by
  rw [Rat.lt_iff]; simp
theorem e_is_less {p q : Rat} {n m : Nat} (h : 1 ≤ N) (hp : Bd n p) (hq : Bd m q) (hn : n < 8990) (hm : m < 8990) : (O wf N).fn 7 [frD p, frD q] none S = .ok (.bl (decide (p < q))) S := by
  (rw [fn_in (f := f_is_less) (by omega) rfl rfl rfl rfl]; simp only [f_is_less, startE, List.map_cons, List.map_nil, List.cons_append, List.nil_append, List.replicate, Nat.sub_self])
  simp [W0_mul (hp.num hn) (hq.den hm), W0_mul (hq.num hm) (hp.den hn)]
  rw [Rat.lt_iff]
theorem e_law_less {p q : Rat} {n m : Nat} (h : 1 ≤ N) (hp : Bd n p) (hq : Bd m q) (hn : n < 8990) (hm : m < 8990) : (O wf N).fn 39 [frD p, frD q] none S = .ok (.bl (decide (p < q))) S := by
  (rw [fn_in (f := f__law_less) (by omega) rfl rfl rfl rfl]; simp only [f__law_less, startE, List.map_cons, List.map_nil, List.cons_append, List.nil_append, List.replicate, Nat.sub_self])
  simp [W0_mul (hp.num hn) (hq.den hm), W0_mul (hq.num hm) (hp.den hn)]
  rw [Rat.lt_iff]
theorem e_greater {p q : Rat} {n m : Nat} (h : 2 ≤ N) (hp : Bd n p) (hq : Bd m q) (hn : n < 8990) (hm : m < 8990) : (O wf N).fn 8 [frD p, frD q] none S = .ok (frD (if p < q then q else p)) S := by
  (rw [fn_in (f := f_greater) (by omega) rfl rfl rfl rfl]; simp only [f_greater, startE, List.map_cons, List.map_nil, List.cons_append, List.nil_append, List.replicate, Nat.sub_self])
  have e1 := fun S => e_is_less (wf := wf) (N := N - 1) (S := S) (by omega) hp hq hn hm
  by_cases c : p < q <;> simp [e1, c]
/-- what things count, by parts -/
def cO (m : Nat) (sz : List Int) (d : D) : List (Option Rat) := (rangeI m).map (countO sz d)
def dueQ (sz : List Int) : Rat := (1 : Rat) / ((totI sz : Int) : Rat)
theorem cO_D {m : Nat} {sz : List Int} {d : D} : (rangeI m).map (countD sz d) = (cO m sz d).map optD := by
  unfold cO
  rw [List.map_map]
  exact List.map_congr_left fun i _ => count_opt
theorem cO_len {m : Nat} {sz : List Int} {d : D} : (cO m sz d).length = m := by simp [cO, len_rangeI]
theorem cO_bd {m : Nat} {sz : List Int} {d : D} (hz : SzOk m sz) (hr : isRight d = true) : ∀ c ∈ cO m sz d, ∀ q, c = some q → Bd 920 q := fun c hc q e => by
  obtain ⟨p, _, rfl⟩ := List.mem_map.mp hc
  unfold countO at e
  split at e
  · cases e; exact count_bd hz hr
  · cases e
theorem sum_ones : ∀ {l : List Int}, (l.map fun _ => 1).sum = l.length
  | [] => rfl
  | x :: l => by rw [List.map_cons, List.sum_cons, sum_ones, List.length_cons, Nat.add_comm]
theorem sz_tot {m : Nat} {sz : List Int} (hz : SzOk m sz) (hm : m ≤ 3) : 0 ≤ totI sz ∧ totI sz ≤ 3000000000000 := by
  have := totI_le (f := fun i : Int => i) (g := fun _ => 1) (c := 1000000000000) (l := sz) fun a ha => ⟨hz.lo a ha, by have := hz.hi a ha; simpa using this⟩
  have e : (sz.map fun _ : Int => 1).sum = sz.length := sum_ones
  rw [e, List.map_id'] at this
  have := hz.len
  omega
theorem due_bd {m : Nat} {sz : List Int} (hz : SzOk m sz) (hm : m ≤ 3) (h0 : 0 < totI sz) : Bd 44 (dueQ sz) := by
  have := sz_tot hz hm
  have h1 : Bd 44 (((1 : Int) : Rat) / ((totI sz : Int) : Rat)) := Bd.of h0 (by omega) (by omega)
  exact h1
theorem due_num {sz : List Int} (h0 : 0 < totI sz) : (dueQ sz).num = 1 := by
  have := fr_inv h0
  unfold frD at this
  injection this with e
  injection e with e1
  injection e1 with e1
  exact e1.symm
theorem due_D {sz : List Int} (h0 : 0 < totI sz) : D.tup [.int 1, .int (totI sz)] = frD (dueQ sz) := fr_inv h0
theorem sz41 {m : Nat} {sz : List Int} (hz : SzOk m sz) : ∀ x ∈ sz, x.natAbs < 2 ^ 41 := fun x hx => by have := hz.lo x hx; have := hz.hi x hx; omega
theorem rat_sub (p q : Rat) : p - q = ((p.num * q.den - q.num * p.den : Int) : Rat) / ((p.den * q.den : Int) : Rat) := by
  rw [Rat.sub_eq_add_neg, rat_add, Rat.neg_num, Rat.neg_den, Int.neg_mul, ← Int.sub_eq_add_neg]
theorem l_missed {d0 d1 : Option Sl} {due : Rat} (hN : 3 ≤ N) (hw : W0 ≤ wf) (hd : Bd 44 due) : ∀ {cs : List (Option Rat)} {sz : List Int} {a : Nat} {A B : Rat} {s5 s6 : Option Sl}, (∀ c ∈ cs, ∀ q, c = some q → Bd 920 q) → (∀ x ∈ sz, x.natAbs < 2 ^ 41) → Bd a A → Bd a B → a + cs.length * 1010 < 7000 →
    ∃ t5 t6 : Option Sl, forL (.tp (.cons (.nm 5) (.cons (.nm 6) .nil))) (fun env S => exSs (O wf N) wf f_missed_b0 env S) ((cs.zip sz).map fun p => .tup [optD p.1, .int p.2]) [d0, d1, some (.val (frD due)), some (.val (frD A)), some (.val (frD B)), s5, s6] S = .nxt [d0, d1, some (.val (frD due)), some (.val (frD (A + missA due cs sz))), some (.val (frD (B + missB due cs sz))), t5, t6] S
  | [], sz, a, A, B, s5, s6, _, _, _, _, _ => ⟨s5, s6, by show _ = SOut.nxt [_, _, _, some (.val (frD (A + 0))), some (.val (frD (B + 0))), _, _] S; rw [Rat.add_zero, Rat.add_zero]; rfl⟩
  | c :: cs, [], a, A, B, s5, s6, _, _, _, _, _ => ⟨s5, s6, by show _ = SOut.nxt [_, _, _, some (.val (frD (A + 0))), some (.val (frD (B + 0))), _, _] S; rw [Rat.add_zero, Rat.add_zero]; rfl⟩
  | c :: cs, s :: sz, a, A, B, s5, s6, hc, hs, hA, hB, hl => by
    rw [List.length_cons, Nat.add_mul] at hl
    have s1 : Bd 41 (s : Rat) := Bd.int (hs s List.mem_cons_self) (by omega)
    obtain ⟨A', B', ea, eb, ba, bb, e1⟩ : ∃ A' B' : Rat, A + missA due (c :: cs) (s :: sz) = A' + missA due cs sz ∧ B + missB due (c :: cs) (s :: sz) = B' + missB due cs sz ∧ Bd (a + 1010) A' ∧ Bd (a + 1010) B' ∧
        exSs (O wf N) wf f_missed_b0 [d0, d1, some (.val (frD due)), some (.val (frD A)), some (.val (frD B)), some (.val (optD c)), some (.val (.int s))] S = .nxt [d0, d1, some (.val (frD due)), some (.val (frD A')), some (.val (frD B')), some (.val (optD c)), some (.val (.int s))] S := by
      cases c with
      | none =>
        refine ⟨A, B, ?_, ?_, hA.up (by omega), hB.up (by omega), by simp [f_missed_b0, optD, show cmpD .notN .non .non = some false from rfl]⟩
        · show A + (0 + _) = _; rw [Rat.zero_add]
        · show B + (0 + _) = _; rw [Rat.zero_add]
      | some q =>
        have hq := hc _ List.mem_cons_self q rfl
        have l1 := fun S => e_is_less (wf := wf) (N := N) (S := S) (by omega) hd hq (by omega) (by omega)
        have nn : cmpD .notN (frD q) .non = some true := rfl
        by_cases p : due < q
        · have g := hq.sub hd
          have m1 := fun S => e_minus (wf := wf) (N := N) (S := S) (by omega) hq hd (by omega) hw
          have m2 := fun S => e_times (wf := wf) (N := N) (S := S) (by omega) g s1 (by omega) hw
          have m3 := fun S => e_plus (wf := wf) (N := N) (S := S) (by omega) hA (g.mul s1) (by omega) hw
          refine ⟨A + (q - due) * (s : Rat), B, ?_, ?_, (hA.add (g.mul s1)).up (by omega), hB.up (by omega), by simp [f_missed_b0, optD, nn, l1, p, m1, fr_int1, m2, m3]⟩
          · show A + ((if due < q then (q - due) * (s : Rat) else 0) + _) = _; rw [if_pos p, Rat.add_assoc]
          · show B + ((if due < q then 0 else (due - q) * (s : Rat)) + _) = _; rw [if_pos p, Rat.zero_add]
        · have g := hd.sub hq
          have m1 := fun S => e_minus (wf := wf) (N := N) (S := S) (by omega) hd hq (by omega) hw
          have m2 := fun S => e_times (wf := wf) (N := N) (S := S) (by omega) g s1 (by omega) hw
          have m3 := fun S => e_plus (wf := wf) (N := N) (S := S) (by omega) hB (g.mul s1) (by omega) hw
          refine ⟨A, B + (due - q) * (s : Rat), ?_, ?_, hA.up (by omega), (hB.add (g.mul s1)).up (by omega), by simp [f_missed_b0, optD, nn, l1, p, m1, fr_int1, m2, m3]⟩
          · show A + ((if due < q then (q - due) * (s : Rat) else 0) + _) = _; rw [if_neg p, Rat.zero_add]
          · show B + ((if due < q then 0 else (due - q) * (s : Rat)) + _) = _; rw [if_neg p, Rat.add_assoc]
    obtain ⟨t5, t6, e2⟩ := l_missed hN hw hd (cs := cs) (sz := sz) (a := a + 1010) (A := A') (B := B') (s5 := some (.val (optD c))) (s6 := some (.val (.int s))) (fun y hy => hc y (List.mem_cons_of_mem _ hy)) (fun y hy => hs y (List.mem_cons_of_mem _ hy)) ba bb (by omega)
    refine ⟨t5, t6, ?_⟩
    rw [List.zip_cons_cons, List.map_cons, forL]
    simp only [bindT_tp, bindTs_cons, bindTs_nil, bindT_nm, Option.bind_some, List.length_cons, List.length_nil, Nat.reduceAdd, Nat.reduceLT, if_true, put_s, put_0]
    rw [e1, SOut.bind_nxt, e2, ea, eb]
theorem e_missed {m : Nat} {sz : List Int} {d : D} (hN : 15 ≤ N) (hw : W0 ≤ wf) (hz : SzOk m sz) (hm3 : m ≤ 3) (hr : isRight d = true) (hm : many d = m) (h0 : 0 < totI sz) : (O wf N).fn 28 [d, szD sz] none S = .ok (missD (dueQ sz) (cO m sz d) sz) S := by
  (rw [fn_in (f := f_missed) (by omega) rfl rfl rfl rfl]; simp only [f_missed, startE, List.map_cons, List.map_nil, List.cons_append, List.nil_append, List.replicate, Nat.sub_self])
  have hb := bt_right (s := 1) hr
  have hi := right_itm hr
  rw [hm] at hi
  have e1 := fun S => e_counted (wf := wf) (N := N - 1) (S := S) (dz := szD sz) (by omega) hw hz hm3 (.inr rfl) hi (by omega)
  rw [cO_D] at e1
  have sm : primD .sum [szD sz] = some (.int (totI sz)) := by rw [← sum_tot]; exact prim_sumt
  have zi : itemsD .zip [.lst ((cO m sz d).map optD), szD sz] = some (((cO m sz d).zip sz).map fun p => .tup [optD p.1, .int p.2]) := congrArg some zipD_map
  obtain ⟨t5, t6, e2⟩ := l_missed (wf := wf) (N := N - 1) (S := S) (d0 := some (.val d)) (d1 := some (.val (szD sz))) (by omega) hw (due_bd hz hm3 h0) (cs := cO m sz d) (sz := sz) (a := 1) (A := 0) (B := 0) (s5 := none) (s6 := none) (cO_bd hz hr) (sz41 hz) Bd.zero Bd.zero (by rw [cO_len]; omega)
  rw [Rat.zero_add, Rat.zero_add] at e2
  simp [sm, due_D h0, fr_0, f_missed_l0, e1, zi, e2, missD]
theorem l_law_miss {d0 d1 : Option Sl} {due : Rat} (hN : 3 ≤ N) (hw : W0 ≤ wf) (hd : Bd 44 due) (hn : due.num = 1) : ∀ {cs : List (Option Rat)} {sz : List Int} {a : Nat} {A B : Rat} {s5 s6 s7 : Option Sl}, (∀ c ∈ cs, ∀ q, c = some q → Bd 920 q) → (∀ x ∈ sz, x.natAbs < 2 ^ 41) → Bd a A → Bd a B → a + cs.length * 1010 < 7000 →
    ∃ t5 t6 t7 : Option Sl, forL (.tp (.cons (.nm 5) (.cons (.nm 6) .nil))) (fun env S => exSs (O wf N) wf f__law_miss_b0 env S) ((cs.zip sz).map fun p => .tup [optD p.1, .int p.2]) [d0, d1, some (.val (frD due)), some (.val (frD A)), some (.val (frD B)), s5, s6, s7] S = .nxt [d0, d1, some (.val (frD due)), some (.val (frD (A + missA due cs sz))), some (.val (frD (B + missB due cs sz))), t5, t6, t7] S
  | [], sz, a, A, B, s5, s6, s7, _, _, _, _, _ => ⟨s5, s6, s7, by show _ = SOut.nxt [_, _, _, some (.val (frD (A + 0))), some (.val (frD (B + 0))), _, _, _] S; rw [Rat.add_zero, Rat.add_zero]; rfl⟩
  | c :: cs, [], a, A, B, s5, s6, s7, _, _, _, _, _ => ⟨s5, s6, s7, by show _ = SOut.nxt [_, _, _, some (.val (frD (A + 0))), some (.val (frD (B + 0))), _, _, _] S; rw [Rat.add_zero, Rat.add_zero]; rfl⟩
  | c :: cs, s :: sz, a, A, B, s5, s6, s7, hc, hs, hA, hB, hl => by
    rw [List.length_cons, Nat.add_mul] at hl
    have s1 : Bd 41 (s : Rat) := Bd.int (hs s List.mem_cons_self) (by omega)
    have s2 : Bd 41 (-(s : Rat)) := s1.neg
    obtain ⟨A', B', t7, ea, eb, ba, bb, e1⟩ : ∃ (A' B' : Rat) (t7 : Option Sl), A + missA due (c :: cs) (s :: sz) = A' + missA due cs sz ∧ B + missB due (c :: cs) (s :: sz) = B' + missB due cs sz ∧ Bd (a + 1010) A' ∧ Bd (a + 1010) B' ∧
        exSs (O wf N) wf f__law_miss_b0 [d0, d1, some (.val (frD due)), some (.val (frD A)), some (.val (frD B)), some (.val (optD c)), some (.val (.int s)), s7] S = .nxt [d0, d1, some (.val (frD due)), some (.val (frD A')), some (.val (frD B')), some (.val (optD c)), some (.val (.int s)), t7] S := by
      cases c with
      | none =>
        refine ⟨A, B, s7, ?_, ?_, hA.up (by omega), hB.up (by omega), by simp [f__law_miss_b0, optD, show cmpD .notN .non .non = some false from rfl]⟩
        · show A + (0 + _) = _; rw [Rat.zero_add]
        · show B + (0 + _) = _; rw [Rat.zero_add]
      | some q =>
        have hq := hc _ List.mem_cons_self q rfl
        have nn : cmpD .notN (frD q) .non = some true := rfl
        have g := hq.sub hd
        have gl : (O wf N).fn 36 [.int (q.num * (due.den : Int) - (q.den : Int)), .int ((q.den : Int) * (due.den : Int))] none S = .ok (frD (q - due)) S := by
          have := e_law_lowf (wf := wf) (N := N) (S := S) (a := q.num * (due.den : Int) - (q.den : Int)) (b := (q.den : Int) * (due.den : Int)) (by omega) (Int.mul_pos (den_pos q) (den_pos due)) (Nat.lt_trans (abs_mul_lt hq.dabs hd.dabs) (W0_pos (by omega))) hw
          rw [this]
          have rs := rat_sub q due
          rw [hn, Int.one_mul] at rs
          rw [rs]
        by_cases p : due < q
        · have m2 := fun S => e_law_mul (wf := wf) (N := N) (S := S) (by omega) g s1 (by omega) hw
          have m3 := fun S => e_law_add (wf := wf) (N := N) (S := S) (by omega) hA (g.mul s1) (by omega) hw
          have np : 0 < (q - due).num := pos_fr.mpr (by grind)
          refine ⟨A + (q - due) * (s : Rat), B, some (.val (frD (q - due))), ?_, ?_, (hA.add (g.mul s1)).up (by omega), hB.up (by omega), by simp [f__law_miss_b0, optD, nn, W0_mul (hq.num (by omega)) (hd.den (by omega)), W0_mul (hq.den (by omega)) (hd.den (by omega)), gl, np, fr_int1, m2, m3]⟩
          · show A + ((if due < q then (q - due) * (s : Rat) else 0) + _) = _; rw [if_pos p, Rat.add_assoc]
          · show B + ((if due < q then 0 else (due - q) * (s : Rat)) + _) = _; rw [if_pos p, Rat.zero_add]
        · have m2 := fun S => e_law_mul (wf := wf) (N := N) (S := S) (by omega) g s2 (by omega) hw
          have m3 := fun S => e_law_add (wf := wf) (N := N) (S := S) (by omega) hB (g.mul s2) (by omega) hw
          have np : ¬ 0 < (q - due).num := fun x => p (by have := pos_fr.mp x; grind)
          have mm : (q - due) * (-(s : Rat)) = (due - q) * (s : Rat) := by grind
          rw [mm] at m2 m3
          refine ⟨A, B + (due - q) * (s : Rat), some (.val (frD (q - due))), ?_, ?_, hA.up (by omega), (hB.add ((hd.sub hq).mul s1)).up (by omega), by simp [f__law_miss_b0, optD, nn, W0_mul (hq.num (by omega)) (hd.den (by omega)), W0_mul (hq.den (by omega)) (hd.den (by omega)), gl, np, fr_int1, m2, m3]⟩
          · show A + ((if due < q then (q - due) * (s : Rat) else 0) + _) = _; rw [if_neg p, Rat.zero_add]
          · show B + ((if due < q then 0 else (due - q) * (s : Rat)) + _) = _; rw [if_neg p, Rat.add_assoc]
    obtain ⟨t5, t6, t7', e2⟩ := l_law_miss hN hw hd hn (cs := cs) (sz := sz) (a := a + 1010) (A := A') (B := B') (s5 := some (.val (optD c))) (s6 := some (.val (.int s))) (s7 := t7) (fun y hy => hc y (List.mem_cons_of_mem _ hy)) (fun y hy => hs y (List.mem_cons_of_mem _ hy)) ba bb (by omega)
    refine ⟨t5, t6, t7', ?_⟩
    rw [List.zip_cons_cons, List.map_cons, forL]
    simp only [bindT_tp, bindTs_cons, bindTs_nil, bindT_nm, Option.bind_some, List.length_cons, List.length_nil, Nat.reduceAdd, Nat.reduceLT, if_true, put_s, put_0]
    rw [e1, SOut.bind_nxt, e2, ea, eb]
theorem e_law_miss {m : Nat} {sz : List Int} {d : D} (hN : 15 ≤ N) (hw : W0 ≤ wf) (hz : SzOk m sz) (hm3 : m ≤ 3) (hr : isRight d = true) (hm : many d = m) (h0 : 0 < totI sz) : (O wf N).fn 53 [d, szD sz] none S = .ok (missD (dueQ sz) (cO m sz d) sz) S := by
  (rw [fn_in (f := f__law_miss) (by omega) rfl rfl rfl rfl]; simp only [f__law_miss, startE, List.map_cons, List.map_nil, List.cons_append, List.nil_append, List.replicate, Nat.sub_self])
  have hb := bt_right (s := 1) hr
  have hi := right_itm hr
  rw [hm] at hi
  have e1 := fun S => e_law_counts (wf := wf) (N := N - 1) (S := S) (dz := szD sz) (by omega) hw hz hm3 (.inr rfl) hi (by omega)
  rw [cO_D] at e1
  have sm : primD .sum [szD sz] = some (.int (totI sz)) := by rw [← sum_tot]; exact prim_sumt
  have zi : itemsD .zip [.tup ((cO m sz d).map optD), szD sz] = some (((cO m sz d).zip sz).map fun p => .tup [optD p.1, .int p.2]) := congrArg some zipD_map
  obtain ⟨t5, t6, t7, e2⟩ := l_law_miss (wf := wf) (N := N - 1) (S := S) (d0 := some (.val d)) (d1 := some (.val (szD sz))) (by omega) hw (due_bd hz hm3 h0) (due_num h0) (cs := cO m sz d) (sz := sz) (a := 1) (A := 0) (B := 0) (s5 := none) (s6 := none) (s7 := none) (cO_bd hz hr) (sz41 hz) Bd.zero Bd.zero (by rw [cO_len]; omega)
  rw [Rat.zero_add, Rat.zero_add] at e2
  simp [sm, due_D h0, fr_0, f__law_miss_l0, e1, zi, e2, missD]
end LK


/-! L22k51: miss, worst sizes; the law's own. -/
namespace LK
open PySem PySem.Spec PyProof.Rows L2 Pz
variable {wf N : Nat} {S : Store}
def mA (d : D) (m : Nat) (s : List Int) : Rat := missA (dueQ s) (cO m s d) s
def mB (d : D) (m : Nat) (s : List Int) : Rat := missB (dueQ s) (cO m s d) s
def hereQ (d : D) (m : Nat) (s : List Int) : Rat := if mA d m s < mB d m s then mB d m s else mA d m s
theorem m_bd {m : Nat} {sz : List Int} {d : D} (hz : SzOk m sz) (hm3 : m ≤ 3) (hr : isRight d = true) (h0 : 0 < totI sz) : Bd 3030 (mA d m sz) ∧ Bd 3030 (mB d m sz) := by
  have := miss_bds (due_bd hz hm3 h0) (cO_bd hz hr) (sz41 hz) (by omega)
  rw [cO_len] at this
  exact ⟨this.1.up (by omega), this.2.up (by omega)⟩
theorem here_bd {m : Nat} {sz : List Int} {d : D} (hz : SzOk m sz) (hm3 : m ≤ 3) (hr : isRight d = true) (h0 : 0 < totI sz) : Bd 3030 (hereQ d m sz) := by
  obtain ⟨h1, h2⟩ := m_bd hz hm3 hr h0
  unfold hereQ
  split
  · exact h2
  · exact h1
def bestD : Option (Rat × List Int) → D
  | none => .non
  | some (q, s) => .tup [frD q, szD s]
theorem l_worst {m : Nat} {d : D} {d1 : Option Sl} (hN : 15 ≤ N) (hw : W0 ≤ wf) (hm3 : m ≤ 3) (hr : isRight d = true) (hm : many d = m) : ∀ {l : List (List Int)} {b : Option (Rat × List Int)} {s3 s4 : Option Sl}, (∀ s ∈ l, SzOk m s ∧ 0 < totI s) → (∀ q x, b = some (q, x) → Bd 3030 q) →
    ∃ t3 t4 : Option Sl, forL (.nm 3) (fun env S => exSs (O wf N) wf f_worst_sizes_b0 env S) (l.map szD) [some (.val d), d1, some (.val (bestD b)), s3, s4] S = .nxt [some (.val d), d1, some (.val (bestD (worstF (hereQ d m) b l))), t3, t4] S
  | [], b, s3, s4, _, _ => ⟨s3, s4, rfl⟩
  | s :: l, b, s3, s4, hl, hb => by
    obtain ⟨hz, h0⟩ := hl s List.mem_cons_self
    obtain ⟨ba, bb⟩ := m_bd hz hm3 hr h0
    have bh := here_bd hz hm3 hr h0
    have e1 := fun S => e_missed (wf := wf) (N := N) (S := S) hN hw hz hm3 hr hm h0
    have e2 := fun S => e_greater (wf := wf) (N := N) (S := S) (by omega) ba bb (by omega) (by omega)
    have sm : primD .sum [szD s] = some (.int (totI s)) := by rw [← sum_tot]; exact prim_sumt
    have e3 : exSs (O wf N) wf f_worst_sizes_b0 [some (.val d), d1, some (.val (bestD b)), some (.val (szD s)), s4] S = .nxt [some (.val d), d1, some (.val (bestD (better (hereQ d m) b s))), some (.val (szD s)), some (.val (frD (hereQ d m s)))] S := by
      have e1' : ∀ S, (O wf N).fn 28 [d, szD s] none S = .ok (.tup [frD (mA d m s), frD (mB d m s)]) S := e1
      have e2' : ∀ S, (O wf N).fn 8 [frD (mA d m s), frD (mB d m s)] none S = .ok (frD (hereQ d m s)) S := e2
      cases b with
      | none => simp [f_worst_sizes_b0, sm, h0, e1', e2', bestD, better, show cmpD .isN .non .non = some true from rfl]
      | some p =>
        obtain ⟨q, x⟩ := p
        have e4 := fun S => e_is_less (wf := wf) (N := N) (S := S) (by omega) (hb q x rfl) bh (by omega) (by omega)
        by_cases c : q < hereQ d m s <;> simp [f_worst_sizes_b0, sm, h0, e1', e2', bestD, better, show ∀ xs, cmpD .isN (.tup xs) .non = some false from fun _ => rfl, e4, c]
    obtain ⟨t3, t4, e5⟩ := l_worst hN hw hm3 hr hm (d1 := d1) (l := l) (b := better (hereQ d m) b s) (s3 := some (.val (szD s))) (s4 := some (.val (frD (hereQ d m s)))) (fun x hx => hl x (List.mem_cons_of_mem _ hx)) (fun q x e => by
      unfold better at e
      split at e
      · cases e; exact bh
      · split at e
        · cases e; exact bh
        · cases e; exact hb _ _ rfl)
    refine ⟨t3, t4, ?_⟩
    rw [List.map_cons, forL]
    simp only [bindT_nm, List.length_cons, List.length_nil, Nat.reduceAdd, Nat.reduceLT, if_true, put_s, put_0]
    rw [e3, SOut.bind_nxt, e5]; rfl
/-- the first sizes up to a number that miss most -/
def worstD (d : D) (m t : Nat) : D := match worstF (hereQ d m) none (risingI t m) with
  | some (_, s) => szD s
  | none => .non
theorem rising_ok {t m : Nat} (ht : t ≤ 6) : ∀ s ∈ risingI t m, SzOk m s ∧ 0 < totI s := fun s hs => by
  obtain ⟨h1, h2⟩ := rising_mem hs
  obtain ⟨h3, h4⟩ := grid_mem.mp h1
  exact ⟨⟨h3, fun x hx => (h4 x hx).1, fun x hx => by have := (h4 x hx).2; omega⟩, h2⟩
theorem all_it {l : List (List Int)} : (l.map szD).all isIT = true := by
  rw [List.all_eq_true]
  intro d hd
  obtain ⟨s, _, rfl⟩ := List.mem_map.mp hd
  show (D.ofInts? (s.map D.int)).isSome = true
  rw [ofInts_map]; rfl
theorem prim_sortg {t m : Nat} (ht : t ≤ 6) (hm : m ≤ 3) : primD .sortSum [.lst ((gridI t m).map szD)] = some (.lst (szD (List.replicate m 0) :: (risingI t m).map szD)) := by
  have hl := grid_le (t := t) (m := m) ht hm
  show (if (Nat.ble ((gridI t m).map szD).length 100000 && ((gridI t m).map szD).all isIT) = true then some (D.lst (sortBy sumK ((gridI t m).map szD))) else none) = _
  rw [if_pos (by rw [all_it, Bool.and_true, Nat.ble_eq, List.length_map]; omega), sort_szD, sort_grid, List.map_cons]
theorem e_need_most {d : D} (hN : 2 ≤ N) (hd : d.isData = true) : (O wf N).fn 21 [d] none S = if isFrom d 1 6 = true then .ok .non S else .exc 2 [] S := by
  (rw [fn_in (f := f_need_most) (by omega) rfl rfl rfl rfl]; simp only [f_need_most, startE, List.map_cons, List.map_nil, List.cons_append, List.nil_append, List.replicate, Nat.sub_self])
  have e := fun S => e_is_from (wf := wf) (N := N - 1) (S := S) (lo := 1) (hi := 6) hd (by omega)
  by_cases q : isFrom d 1 6 = true <;> simp [e, q]
theorem e_worst_sizes {t : Nat} {d : D} (hN : 16 ≤ N) (hw : W0 ≤ wf) (hr : isRight d = true) (ht : 1 ≤ t ∧ t ≤ 6) : (O wf N).fn 30 [d, .int (t : Int)] none S = .ok (worstD d (many d) t) S := by
  (rw [fn_in (f := f_worst_sizes) (by omega) rfl rfl rfl rfl]; simp only [f_worst_sizes, startE, List.map_cons, List.map_nil, List.cons_append, List.nil_append, List.replicate, Nat.sub_self])
  have hi := right_item hr
  have hm := many_le hi
  have hm1 : 1 ≤ many d := by unfold many; omega
  have e1 := fun S => e_need_scheme (wf := wf) (N := N - 1) (S := S) (right_sm hr) (by omega)
  have e2 := fun S => e_need_most (wf := wf) (N := N - 1) (S := S) (d := .int (t : Int)) (by omega) rfl
  have e3 := fun S => e_many (wf := wf) (N := N - 1) (S := S) hi (by omega)
  have e4 := fun S => e_all_sizes (wf := wf) (N := N - 1) (S := S) (t := t) (m := many d) (by omega) ht.2 hm
  have ff : isFrom (.int (t : Int)) 1 6 = true := by simp [isFrom]; omega
  have sm : primD .sum [szD (List.replicate (many d) 0)] = some (.int 0) := by
    have := prim_sumt (l := List.replicate (many d) 0)
    rw [sum_tot, tot_zeros] at this
    exact this
  have z : exSs (O wf (N - 1)) wf f_worst_sizes_b0 [some (.val d), some (.val (.int (t : Int))), some (.val .non), some (.val (szD (List.replicate (many d) 0))), none] S = .nxt [some (.val d), some (.val (.int (t : Int))), some (.val .non), some (.val (szD (List.replicate (many d) 0))), none] S := by
    simp [f_worst_sizes_b0, sm]
  obtain ⟨t3, t4, e5⟩ := l_worst (wf := wf) (N := N - 1) (S := S) (m := many d) (d := d) (d1 := some (.val (.int (t : Int)))) (by omega) hw hm hr rfl (l := risingI t (many d)) (b := none) (s3 := some (.val (szD (List.replicate (many d) 0)))) (s4 := none) (rising_ok ht.2) (fun q x e => by cases e)
  obtain ⟨q, x, e6⟩ := worst_some (f := hereQ d (many d)) (l := risingI t (many d)) (b := none) (.inr (rising_ne ht.1 hm1))
  rw [e6] at e5
  have e5 : forL (.nm 3) (fun env S => exSs (O wf (N - 1)) wf f_worst_sizes_b0 env S) ((szD (List.replicate (many d) 0)) :: (risingI t (many d)).map szD) [some (.val d), some (.val (.int (t : Int))), some (.val .non), none, none] S = .nxt [some (.val d), some (.val (.int (t : Int))), some (.val (.tup [frD q, szD x])), t3, t4] S := by
    rw [forL]
    simp only [bindT_nm, List.length_cons, List.length_nil, Nat.reduceAdd, Nat.reduceLT, if_true, put_s, put_0]
    rw [z, SOut.bind_nxt]; exact e5
  have w : worstD d (many d) t = szD x := by unfold worstD; rw [e6]
  simp [e1, hr, e2, ff, f_worst_sizes_l0, e3, e4, prim_sortg ht.2 hm, e5, w]
theorem e_law_rising {t m : Nat} (hN : 2 ≤ N) (ht : t ≤ 6) (hm : m ≤ 3) : (O wf N).fn 51 [.int (m : Int), .int (t : Int)] none S = .ok (.lst ((risingI t m).map szD)) S := by
  (rw [fn_in (f := f__law_rising) (by omega) rfl rfl rfl rfl]; simp only [f__law_rising, startE, List.map_cons, List.map_nil, List.cons_append, List.nil_append, List.replicate, Nat.sub_self])
  have e4 := fun S => e_law_grid (wf := wf) (N := N - 1) (S := S) (t := t) (m := m) (by omega) ht hm
  simp [e4, prim_sortg ht hm]
def fndD : Option (Rat × List Int) → D
  | none => .non
  | some (_, s) => szD s
def topD : Option (Rat × List Int) → D
  | none => .non
  | some (q, _) => frD q
theorem l_law_worst {m : Nat} {d : D} {d1 : Option Sl} (hN : 15 ≤ N) (hw : W0 ≤ wf) (hm3 : m ≤ 3) (hr : isRight d = true) (hm : many d = m) : ∀ {l : List (List Int)} {b : Option (Rat × List Int)} {s4 s5 s6 s7 : Option Sl}, (∀ s ∈ l, SzOk m s ∧ 0 < totI s) → (∀ q x, b = some (q, x) → Bd 3030 q) →
    ∃ t4 t5 t6 t7 : Option Sl, forL (.nm 4) (fun env S => exSs (O wf N) wf f__law_worst_b0 env S) (l.map szD) [some (.val d), d1, some (.val (topD b)), some (.val (fndD b)), s4, s5, s6, s7] S = .nxt [some (.val d), d1, some (.val (topD (worstF (hereQ d m) b l))), some (.val (fndD (worstF (hereQ d m) b l))), t4, t5, t6, t7] S
  | [], b, s4, s5, s6, s7, _, _ => ⟨s4, s5, s6, s7, rfl⟩
  | s :: l, b, s4, s5, s6, s7, hl, hb => by
    obtain ⟨hz, h0⟩ := hl s List.mem_cons_self
    obtain ⟨ba, bb⟩ := m_bd hz hm3 hr h0
    have bh := here_bd hz hm3 hr h0
    have e1 : ∀ S, (O wf N).fn 53 [d, szD s] none S = .ok (.tup [frD (mA d m s), frD (mB d m s)]) S := fun S => e_law_miss (wf := wf) (N := N) (S := S) hN hw hz hm3 hr hm h0
    have e2 := fun S => e_law_less (wf := wf) (N := N) (S := S) (by omega) ba bb (by omega) (by omega)
    have e3 : exSs (O wf N) wf f__law_worst_b0 [some (.val d), d1, some (.val (topD b)), some (.val (fndD b)), some (.val (szD s)), s5, s6, s7] S = .nxt [some (.val d), d1, some (.val (topD (better (hereQ d m) b s))), some (.val (fndD (better (hereQ d m) b s))), some (.val (szD s)), some (.val (frD (mA d m s))), some (.val (frD (mB d m s))), some (.val (frD (hereQ d m s)))] S := by
      have hq : (if mA d m s < mB d m s then frD (mB d m s) else frD (mA d m s)) = frD (hereQ d m s) := by unfold hereQ; split <;> rfl
      cases b with
      | none => by_cases c : mA d m s < mB d m s <;> simp [f__law_worst_b0, e1, e2, c, topD, fndD, better, hereQ, show cmpD .isN .non .non = some true from rfl]
      | some p =>
        obtain ⟨q, x⟩ := p
        have e4 := fun S => e_law_less (wf := wf) (N := N) (S := S) (by omega) (hb q x rfl) bh (by omega) (by omega)
        have nn : cmpD .isN (frD q) .non = some false := rfl
        by_cases c : mA d m s < mB d m s <;> by_cases c2 : q < hereQ d m s <;> simp [hereQ, c] at e4 c2 <;> simp [f__law_worst_b0, e1, e2, c, topD, fndD, better, hereQ, nn, e4, c2]
    obtain ⟨t4, t5, t6, t7, e5⟩ := l_law_worst hN hw hm3 hr hm (d1 := d1) (l := l) (b := better (hereQ d m) b s) (s4 := some (.val (szD s))) (s5 := some (.val (frD (mA d m s)))) (s6 := some (.val (frD (mB d m s)))) (s7 := some (.val (frD (hereQ d m s)))) (fun x hx => hl x (List.mem_cons_of_mem _ hx)) (fun q x e => by
      unfold better at e
      split at e
      · cases e; exact bh
      · split at e
        · cases e; exact bh
        · cases e; exact hb _ _ rfl)
    refine ⟨t4, t5, t6, t7, ?_⟩
    rw [List.map_cons, forL]
    simp only [bindT_nm, List.length_cons, List.length_nil, Nat.reduceAdd, Nat.reduceLT, if_true, put_s, put_0]
    rw [e3, SOut.bind_nxt, e5]; rfl
theorem e_law_worst {t : Nat} {d : D} (hN : 16 ≤ N) (hw : W0 ≤ wf) (hr : isRight d = true) (ht : 1 ≤ t ∧ t ≤ 6) : (O wf N).fn 56 [d, .int (t : Int)] none S = .ok (worstD d (many d) t) S := by
  (rw [fn_in (f := f__law_worst) (by omega) rfl rfl rfl rfl]; simp only [f__law_worst, startE, List.map_cons, List.map_nil, List.cons_append, List.nil_append, List.replicate, Nat.sub_self])
  have hi := right_item hr
  have hm := many_le hi
  have hm1 : 1 ≤ many d := by unfold many; omega
  have e3 := fun S => e_law_many (wf := wf) (N := N - 1) (S := S) hi (by omega)
  have e4 := fun S => e_law_rising (wf := wf) (N := N - 1) (S := S) (t := t) (m := many d) (by omega) ht.2 hm
  obtain ⟨t4, t5, t6, t7, e5⟩ := l_law_worst (wf := wf) (N := N - 1) (S := S) (m := many d) (d := d) (d1 := some (.val (.int (t : Int)))) (by omega) hw hm hr rfl (l := risingI t (many d)) (b := none) (s4 := none) (s5 := none) (s6 := none) (s7 := none) (rising_ok ht.2) (fun q x e => by cases e)
  obtain ⟨q, x, e6⟩ := worst_some (f := hereQ d (many d)) (l := risingI t (many d)) (b := none) (.inr (rising_ne ht.1 hm1))
  rw [e6] at e5
  have e5 : forL (.nm 4) (fun env S => exSs (O wf (N - 1)) wf f__law_worst_b0 env S) ((risingI t (many d)).map szD) [some (.val d), some (.val (.int (t : Int))), some (.val .non), some (.val .non), none, none, none, none] S = .nxt [some (.val d), some (.val (.int (t : Int))), some (.val (frD q)), some (.val (szD x)), t4, t5, t6, t7] S := e5
  have w : worstD d (many d) t = szD x := by unfold worstD; rw [e6]
  simp [f__law_worst_l0, e3, e4, e5, w]
end LK


/-! L23k51: runs of worths from 0 to 1 never pass the misses. -/
namespace LK
open PySem PySem.Spec PyProof.Rows L2 Pz
variable {wf N : Nat} {S : Store}
theorem cO_cs {m : Nat} {sz : List Int} {d : D} (hl : sz.length = m) (hm : m ≤ 3) : CS (cO m sz d) sz := by
  subst hl
  have one : ∀ p : Int, countO sz d p = none ↔ ¬ 0 < szAt sz p := fun p => by unfold countO; split <;> simp_all
  match sz, hm, one with
  | [], _, _ => exact trivial
  | [a], _, one => exact ⟨one 0, trivial⟩
  | [a, b], _, one => exact ⟨one 0, one 1, trivial⟩
  | [a, b, c], _, one => exact ⟨one 0, one 1, one 2, trivial⟩
  | _ :: _ :: _ :: _ :: _, h, _ => simp at h
theorem gap_end {m : Nat} {d : D} {sz : List Int} {sm : List Rat} (hr : isRight d = true) (hm : many d = m) (hl : sz.length = m) (hu : Un1 sz sm) : endQ sz sm d + -(tot sm * dueQ sz) = gapS (dueQ sz) (cO m sz d) sm := by
  have hi := right_item hr
  have m3 := many_le hi
  have m1 : 1 ≤ many d := by unfold many; omega
  have e := end_mix (m := m) (sz := sz) (sm := sm) (d := d) (by omega) hi hl (by rw [hu.len, hl]) (fun p p0 p1 h => hu.at p.toNat h)
  rw [← e, ← Rat.sub_eq_add_neg]
  exact mix_gap (Un1.nz (cO_cs hl (by omega)) hu)
/-- runs of few worths from 0 to 1 -/
def RU (m : Nat) (ls : List (List Rat)) : Prop := ls.length = m ∧ ∀ l ∈ ls, l.length ≤ 12 ∧ ∀ q ∈ l, Bd 2 q ∧ 0 ≤ q ∧ q ≤ 1
theorem RU.sz {m : Nat} {ls : List (List Rat)} (h : RU m ls) : SzOk m (runL ls) := ⟨by simp [runL, h.1], fun x hx => by
  obtain ⟨l, _, rfl⟩ := List.mem_map.mp hx; omega, fun x hx => by
  obtain ⟨l, hl, rfl⟩ := List.mem_map.mp hx
  have := (h.2 l hl).1; omega⟩
theorem RU.bd {m : Nat} {ls : List (List Rat)} (h : RU m ls) : ∀ q ∈ totS ls, Bd 40 q := fun q hq => by
  obtain ⟨l, hl, rfl⟩ := List.mem_map.mp hq
  have := (h.2 l hl).1
  exact (tot_bd fun y hy => ((h.2 l hl).2 y hy).1).up (by omega)
theorem RU.un {m : Nat} {ls : List (List Rat)} (h : RU m ls) : Un1 (runL ls) (totS ls) := run_un fun l hl q hq => ((h.2 l hl).2 q hq).2
theorem end_bd {m : Nat} {sz : List Int} {sm : List Rat} {d : D} (hz : SzOk m sz) (hr : isRight d = true) (hs : ∀ q ∈ sm, Bd 40 q) : Bd 1400 (endQ sz sm d) := by
  have hi := right_item hr
  have hb := bt_right (s := 40) hr
  unfold endQ
  have hq := sq_bd (s := 40) hz hs (by omega) (k := 5) (by omega) hi
  have hw := wt_bits hz hi (by omega)
  split
  · rename_i q
    exact (hq.over q hw.2).up (by omega)
  · exact Bd.zero.up (by omega)
theorem e_law_gap {m : Nat} {ls : List (List Rat)} {d : D} (hN : 14 ≤ N) (hw : W0 ≤ wf) (hr : isRight d = true) (hm : many d = m) (hu : RU m ls) (h0 : 0 < totI (runL ls)) : (O wf N).fn 54 [d, runR ls] none S = .ok (frD (gapS (dueQ (runL ls)) (cO m (runL ls) d) (totS ls))) S := by
  have hi := right_itm hr
  have hm3 := many_le (right_item hr)
  rw [hm] at hi hm3
  have hb := bt_right (s := 40) hr
  have hl : ls.length ≤ 1000000 := by have := hu.1; omega
  rw [← gap_end hr hm (by simp [runL, hu.1]) hu.un]
  (rw [fn_in (f := f__law_gap) (by omega) rfl rfl rfl rfl]; simp only [f__law_gap, startE, List.map_cons, List.map_nil, List.cons_append, List.nil_append, List.replicate, Nat.sub_self])
  have si : itemsD .seq [runR ls] = some (ls.map lotR) := rfl
  have c0 : evE (O wf (N - 1)) f__law_gap_c0 [some (.val d), some (.val (runR ls)), none, none, none, none] S = .ok (.lst ((runL ls).map D.int)) S := by
    simp [f__law_gap_c0, blk_def, si]
    rw [compL_of' lotR fun l => D.int (l.length : Int)]
    · simp [runL, hl, Function.comp_def]
    · intro l _
      have : primD .len [lotR l] = some (.int (l.length : Int)) := by
        show some (D.int ((l.map frD).length : Int)) = _
        rw [List.length_map]
      simp [turnO, this]
  have c1 : evE (O wf (N - 1)) f__law_gap_c1 [some (.val d), some (.val (runR ls)), none, none, none, none] S = .ok (.lst ((totS ls).map frD)) S := by
    simp [f__law_gap_c1, blk_def, si]
    rw [compL_of' lotR fun l => frD (tot l)]
    · simp [totS, hl, Function.comp_def]
    · intro l hm
      have := (hu.2 l hm).1
      have e := fun S => e_law_sum (wf := wf) (N := N - 1) (S := S) (d := lotR l) (l := l) (n := 2) (by omega) hw rfl (fun q hq => ((hu.2 l hm).2 q hq).1) (by omega)
      simp [turnO, e]
  have l3 : (totS ls).length = m := by simp [totS, hu.1]
  have e1 := fun S => e_law_sum (wf := wf) (N := N - 1) (S := S) (d := .lst ((totS ls).map frD)) (l := totS ls) (n := 40) (by omega) hw rfl hu.bd (by rw [l3]; have : (m + 1) * 41 ≤ 4 * 41 := Nat.mul_le_mul_right _ (by omega); omega)
  have tb : Bd 130 (tot (totS ls)) := (tot_bd hu.bd).up (by rw [l3]; have : m * 41 ≤ 3 * 41 := Nat.mul_le_mul_right _ (by omega); omega)
  have db := due_bd hu.sz hm3 h0
  have e2 := fun S => e_law_mul (wf := wf) (N := N - 1) (S := S) (by omega) tb db (by omega) hw
  have e3 := fun S => e_law_end (wf := wf) (N := N - 1) (S := S) (sm := totS ls) (dm := .lst ((totS ls).map frD)) (dz := szD (runL ls)) (s := 40) (by omega) hw hu.sz (.inr rfl) (.inl rfl) l3 hu.bd (by omega) hi (by omega)
  have e4 := fun S => e_law_add (wf := wf) (N := N - 1) (S := S) (by omega) (end_bd hu.sz hr hu.bd) (tb.mul db).neg (by omega) hw
  have pt : primD .tuple [.lst ((runL ls).map D.int)] = some (szD (runL ls)) := rfl
  have sm : primD .sum [szD (runL ls)] = some (.int (totI (runL ls))) := by rw [← sum_tot]; exact prim_sumt
  have e4 : ∀ S, (O wf (N - 1)).fn 37 [frD (endQ (runL ls) (totS ls) d), .tup [.int (-(tot (totS ls) * dueQ (runL ls)).num), .int ((tot (totS ls) * dueQ (runL ls)).den : Int)]] none S = .ok (frD (endQ (runL ls) (totS ls) d + -(tot (totS ls) * dueQ (runL ls)))) S := fun S => by rw [fr_neg]; exact e4 S
  simp only [y_cons]
  simp [c0, c1, pt, e1, sm, due_D h0, e2, e3, e4]
end LK


/-! L24k51: the law's runs. -/
namespace LK
open PySem PySem.Spec PyProof.Rows L2 Pz
variable {wf N : Nat} {S : Store}
theorem rep_one {x : D} {k : Int} : repL k [x] = List.replicate k.toNat x := by
  unfold repL
  generalize k.toNat = n
  induction n with
  | zero => rfl
  | succ n ih => rw [List.replicate_succ, List.flatten_cons, ih, List.replicate_succ]; rfl
theorem mul_one {x : D} {k : Int} (h : 0 ≤ k ∧ k ≤ 12) : binD .mul (.tup [x]) (.int k) = some (.tup (List.replicate k.toNat x)) := by
  rw [← rep_one]
  show (if -1000 ≤ k ∧ k ≤ 1000 ∧ [x].length ≤ 1000 then some (D.tup (repL k [x])) else none) = _
  rw [if_pos ⟨by omega, by omega, by simp⟩]
theorem l_more {d0 d1 d3 : Option Sl} {sz : List Int} (hN : 2 ≤ N) (hd : Bd 44 (dueQ sz)) (h0 : 0 < totI sz) : ∀ {cs : List (Option Rat)} {bs : List Bool} {s5 : Option Sl}, (∀ c ∈ cs, ∀ q, c = some q → Bd 920 q) → bs.length + cs.length ≤ 100 →
    ∃ t5 : Option Sl, forL (.nm 5) (fun env S => exSs (O wf N) wf f__law_runs_right_b0 env S) (cs.map optD) [d0, d1, some (.val (szD sz)), d3, some (.own (bs.map D.bl)), s5, none, none, none, none, none, none, none, none, none, none] S = .nxt [d0, d1, some (.val (szD sz)), d3, some (.own ((bs ++ cs.map (moreB (dueQ sz))).map D.bl)), t5, none, none, none, none, none, none, none, none, none, none] S
  | [], bs, s5, _, _ => ⟨s5, by simp [forL]⟩
  | c :: cs, bs, s5, hc, hl => by
    rw [List.length_cons] at hl
    have sm : primD .sum [szD sz] = some (.int (totI sz)) := by rw [← sum_tot]; exact prim_sumt
    have e1 : exSs (O wf N) wf f__law_runs_right_b0 [d0, d1, some (.val (szD sz)), d3, some (.own (bs.map D.bl)), some (.val (optD c)), none, none, none, none, none, none, none, none, none, none] S = .nxt [d0, d1, some (.val (szD sz)), d3, some (.own ((bs ++ [moreB (dueQ sz) c]).map D.bl)), some (.val (optD c)), none, none, none, none, none, none, none, none, none, none] S := by
      cases c with
      | none => simp [f__law_runs_right_b0, optD, moreB, show cmpD .notN .non .non = some false from rfl, show bs.length ≤ 1000000 by omega]
      | some q =>
        have l1 := fun S => e_law_less (wf := wf) (N := N) (S := S) (by omega) hd (hc _ List.mem_cons_self q rfl) (by omega) (by omega)
        have nn : cmpD .notN (frD q) .non = some true := rfl
        simp [f__law_runs_right_b0, optD, moreB, nn, sm, due_D h0, l1, show bs.length ≤ 1000000 by omega]
    obtain ⟨t5, e2⟩ := l_more hN hd h0 (d0 := d0) (d1 := d1) (d3 := d3) (cs := cs) (bs := bs ++ [moreB (dueQ sz) c]) (s5 := some (.val (optD c))) (fun y hy => hc y (List.mem_cons_of_mem _ hy)) (by simp; omega)
    refine ⟨t5, ?_⟩
    rw [List.map_cons, forL]
    simp only [bindT_nm, List.length_cons, List.length_nil, Nat.reduceAdd, Nat.reduceLT, if_true, put_s, put_0]
    rw [e1, SOut.bind_nxt, e2]
    simp
theorem sel_RU {m : Nat} {b : Bool} {due : Rat} {cs : List (Option Rat)} {sz : List Int} (h1 : cs.length = m) (h2 : sz.length = m) (h3 : ∀ x ∈ sz, 0 ≤ x ∧ x ≤ 12) : RU m (selR b due cs sz) := by
  refine ⟨by simp [selR, h1, h2], fun l hl => ?_⟩
  obtain ⟨p, hp, rfl⟩ := List.mem_map.mp hl
  have := h3 _ (List.of_mem_zip hp).2
  refine ⟨by rw [List.length_replicate]; omega, fun q hq => ?_⟩
  rw [(List.mem_replicate.mp hq).2]
  split
  · exact ⟨Bd.one.up (by omega), by decide, by decide⟩
  · exact ⟨Bd.zero.up (by omega), by decide, by decide⟩
/-- one drawn run: its lots -/
theorem l_lots {n : Nat} {d1 d2 d3 d4 d5 d6 d7 d9 d10 d11 d15 : Option Sl} (hN : 3 ≤ N) : ∀ {sz : List Int} {ls : List (List Rat)} {s8 s13 : Option Sl} {S : Store}, Src n S → (∀ x ∈ sz, 0 ≤ x ∧ x ≤ 12) → ls.length + sz.length ≤ 100 →
    ∃ (ms : List (List Rat)) (t8 t13 : Option Sl) (S' : Store), forL (.nm 8) (fun env S => exSs (O wf N) wf f__law_runs_right_b1 env S) (sz.map D.int) [some (.val (.ref n)), d1, d2, d3, d4, d5, d6, d7, s8, d9, d10, d11, some (.val (runR ls)), s13, none, d15] S = .nxt [some (.val (.ref n)), d1, d2, d3, d4, d5, d6, d7, t8, d9, d10, d11, some (.val (runR (ls ++ ms))), t13, none, d15] S' ∧ runL ms = sz ∧ (∀ l ∈ ms, l.length ≤ 12 ∧ ∀ q ∈ l, Bd 2 q ∧ 0 ≤ q ∧ q ≤ 1) ∧ Dr n S S'
  | [], ls, s8, s13, S, h, _, _ => ⟨[], s8, s13, S, by simp [forL], rfl, by simp, Dr.refl h⟩
  | x :: sz, ls, s8, s13, S, h, hx, hl => by
    rw [List.length_cons] at hl
    have x0 := hx x List.mem_cons_self
    obtain ⟨ns, S1, e1, l1, a1, dr1⟩ := compL_sat (f := fun y S => turnO (O wf N) (.nm 14) .nil (.call 33 (.cons (.var 0) (.cons (.lst (.cons (.tup (.cons (.con (.int 0)) (.cons (.con (.int 1)) .nil))) (.cons (.tup (.cons (.con (.int 1)) (.cons (.con (.int 1)) .nil))) (.cons (.tup (.cons (.con (.int 1)) (.cons (.con (.int 2)) .nil))) .nil)))) .nil))) [some (.val (.ref n)), Pz.strip d1, Pz.strip d2, Pz.strip d3, Pz.strip d4, Pz.strip d5, Pz.strip d6, Pz.strip d7, some (.val (.int x)), Pz.strip d9, Pz.strip d10, Pz.strip d11, some (.val (runR ls)), Pz.strip s13, none, Pz.strip d15] y S) (P := fun y => ∃ q : Rat, y = frD q ∧ Bd 2 q ∧ 0 ≤ q ∧ q ≤ 1) (I := fun T => Dr n S T) (xs := (rangeI x.toNat).map D.int) (by
      intro y _ T hT
      obtain ⟨v, T1, e1, v1, d1', _⟩ := e_chosen (wf := wf) (N := N) (xs := [.tup [.int 0, .int 1], .tup [.int 1, .int 1], .tup [.int 1, .int 2]]) (by omega) hT.src (by simp) (by simp)
      refine ⟨v, T1, by simp [turnO, e1], ?_, hT.trans d1'⟩
      simp at v1
      rcases v1 with rfl | rfl | rfl
      · exact ⟨0, fr_0, Bd.zero.up (by omega), by decide, by decide⟩
      · exact ⟨1, fr_1, Bd.one.up (by omega), by decide, by decide⟩
      · refine ⟨((1 : Rat) / ((2 : Int) : Rat)), fr_inv (by omega), Bd.of (a := 1) (b := 2) (by omega) (by omega) (by omega), by rw [show ((2 : Int) : Rat) = 2 from rfl]; grind, by rw [show ((2 : Int) : Rat) = 2 from rfl]; grind⟩) (Dr.refl h)
    obtain ⟨l, el, hq⟩ : ∃ l : List Rat, ns = l.map frD ∧ ∀ q ∈ l, Bd 2 q ∧ 0 ≤ q ∧ q ≤ 1 := by
      clear e1 l1
      induction ns with
      | nil => exact ⟨[], rfl, by simp⟩
      | cons y ns ih =>
        obtain ⟨l, rfl, h⟩ := ih fun z hz => a1 z (List.mem_cons_of_mem _ hz)
        obtain ⟨q, rfl, hq⟩ := a1 y List.mem_cons_self
        refine ⟨q :: l, rfl, fun z hz => ?_⟩
        rcases List.mem_cons.mp hz with rfl | hz
        · exact hq
        · exact h z hz
    subst el
    have ll : l.length = x.toNat := by simpa [len_rangeI] using l1
    have lr : l.length ≤ 1000000 := by omega
    have la : ls.length + 1 ≤ sizeLine := le_line (by omega)
    have e2 : exSs (O wf N) wf f__law_runs_right_b1 [some (.val (.ref n)), d1, d2, d3, d4, d5, d6, d7, some (.val (.int x)), d9, d10, d11, some (.val (runR ls)), s13, none, d15] S = .nxt [some (.val (.ref n)), d1, d2, d3, d4, d5, d6, d7, some (.val (.int x)), d9, d10, d11, some (.val (runR (ls ++ [l]))), some (.val (.lst (l.map frD))), none, d15] S1 := by
      have c2 : evE (O wf N) f__law_runs_right_c2 [some (.val (.ref n)), d1, d2, d3, d4, d5, d6, d7, some (.val (.int x)), d9, d10, d11, some (.val (runR ls)), s13, none, d15] S = .ok (.lst (l.map frD)) S1 := by
        simp [f__law_runs_right_c2, blk_def, ranges1 (show 0 ≤ x ∧ x ≤ 2 ^ 60 by omega)]
        rw [e1]
        simp [lr]
      have ad : binD .add (runR ls) (.tup [lotR l]) = some (runR (ls ++ [l])) := by
        show (if (ls.map lotR).length + [lotR l].length ≤ sizeLine then some (D.tup (ls.map lotR ++ [lotR l])) else none) = _
        rw [if_pos (by simpa using la)]
        unfold runR
        rw [List.map_append]; rfl
      have pt : primD .tuple [.lst (l.map frD)] = some (lotR l) := rfl
      simp [f__law_runs_right_b1, c2, ad, pt]
    obtain ⟨ms, t8, t13, S2, e3, z3, m3, dr3⟩ := l_lots hN (d1 := d1) (d2 := d2) (d3 := d3) (d4 := d4) (d5 := d5) (d6 := d6) (d7 := d7) (d9 := d9) (d10 := d10) (d11 := d11) (d15 := d15) (sz := sz) (ls := ls ++ [l]) (s8 := some (.val (.int x))) (s13 := some (.val (.lst (l.map frD)))) dr1.src (fun y hy => hx y (List.mem_cons_of_mem _ hy)) (by simp; omega)
    refine ⟨l :: ms, t8, t13, S2, ?_, ?_, fun y hy => ?_, dr1.trans dr3⟩
    · rw [List.map_cons, forL]
      simp only [bindT_nm, List.length_cons, List.length_nil, Nat.reduceAdd, Nat.reduceLT, if_true, put_s, put_0]
      rw [e2, SOut.bind_nxt, e3]
      simp
    · show (l.length : Int) :: runL ms = _
      rw [z3, ll]
      congr 1
      omega
    · rcases List.mem_cons.mp hy with rfl | hy
      · exact ⟨by omega, hq⟩
      · exact m3 y hy
end LK


/-! L25k51: no run passes the misses. -/
namespace LK
open PySem PySem.Spec PyProof.Rows L2 Pz
variable {wf N : Nat} {S : Store}
theorem gap_bd {m : Nat} {ls : List (List Rat)} {d : D} (hr : isRight d = true) (hm : many d = m) (hu : RU m ls) (h0 : 0 < totI (runL ls)) : Bd 1600 (gapS (dueQ (runL ls)) (cO m (runL ls) d) (totS ls)) := by
  have hm3 := many_le (right_item hr)
  rw [hm] at hm3
  rw [← gap_end hr hm (by simp [runL, hu.1]) hu.un]
  have l3 : (totS ls).length = m := by simp [totS, hu.1]
  have tb : Bd 130 (tot (totS ls)) := (tot_bd hu.bd).up (by rw [l3]; have : m * 41 ≤ 3 * 41 := Nat.mul_le_mul_right _ (by omega); omega)
  exact ((end_bd hu.sz hr hu.bd).add (tb.mul (due_bd hu.sz hm3 h0)).neg).up (by omega)
theorem l_turns {m n : Nat} {sz : List Int} {d : D} {d4 d5 d6 d7 d9 d10 : Option Sl} (hN : 14 ≤ N) (hw : W0 ≤ wf) (hr : isRight d = true) (hm : many d = m) (hl : sz.length = m) (hx : ∀ x ∈ sz, 0 ≤ x ∧ x ≤ 12) (h0 : 0 < totI sz) : ∀ {its : List D} {s8 s11 s12 s13 s15 : Option Sl} {S : Store}, Src n S →
    ∃ (t8 t11 t12 t13 t15 : Option Sl) (S' : Store), forL (.nm 11) (fun env S => exSs (O wf N) wf f__law_runs_right_b2 env S) its [some (.val (.ref n)), some (.val d), some (.val (szD sz)), some (.val (missD (dueQ sz) (cO m sz d) sz)), d4, d5, d6, d7, s8, d9, d10, s11, s12, s13, none, s15] S = .nxt [some (.val (.ref n)), some (.val d), some (.val (szD sz)), some (.val (missD (dueQ sz) (cO m sz d) sz)), d4, d5, d6, d7, t8, d9, d10, t11, t12, t13, none, t15] S' ∧ Dr n S S'
  | [], s8, s11, s12, s13, s15, S, h => ⟨s8, s11, s12, s13, s15, S, rfl, Dr.refl h⟩
  | y :: its, s8, s11, s12, s13, s15, S, h => by
    have hm3 := many_le (right_item hr)
    rw [hm] at hm3
    obtain ⟨ms, t8, t13, S1, e1, z1, m1, dr1⟩ := l_lots (wf := wf) (N := N) (n := n) (d1 := some (.val d)) (d2 := some (.val (szD sz))) (d3 := some (.val (missD (dueQ sz) (cO m sz d) sz))) (d4 := d4) (d5 := d5) (d6 := d6) (d7 := d7) (d9 := d9) (d10 := d10) (d11 := some (.val y)) (d15 := s15) (by omega) (sz := sz) (ls := []) (s8 := s8) (s13 := s13) h hx (by simp; omega)
    have hu : RU m ms := ⟨by rw [← hl, ← z1]; simp [runL], m1⟩
    have e2 := fun S => e_law_gap (wf := wf) (N := N) (S := S) hN hw hr hm hu (by rw [z1]; exact h0)
    have gb := gap_bd hr hm hu (by rw [z1]; exact h0)
    have un := hu.un
    rw [z1] at e2 gb un
    obtain ⟨g1, g2⟩ := gap_in (due := dueQ sz) (cO_cs (d := d) hl hm3) un
    have hz : SzOk m sz := ⟨hl, fun x h => (hx x h).1, fun x h => by have := (hx x h).2; omega⟩
    obtain ⟨ba, bb⟩ := m_bd hz hm3 hr h0
    generalize gapS (dueQ sz) (cO m sz d) (totS ms) = G at e2 gb g1 g2
    have e3 := fun S => e_law_less (wf := wf) (N := N) (S := S) (by omega) ba gb (by omega) (by omega)
    have e4 := fun S => e_law_less (wf := wf) (N := N) (S := S) (by omega) gb bb.neg (by omega) (by omega)
    have n1 : ¬ mA d m sz < G := by unfold mA; grind
    have n2 : ¬ G < -mB d m sz := by unfold mB; grind
    simp only [n1, n2, decide_false] at e3 e4
    have tk : missD (dueQ sz) (cO m sz d) sz = .tup [frD (mA d m sz), frD (mB d m sz)] := rfl
    have e5 : exSs (O wf N) wf f__law_runs_right_b2 [some (.val (.ref n)), some (.val d), some (.val (szD sz)), some (.val (missD (dueQ sz) (cO m sz d) sz)), d4, d5, d6, d7, s8, d9, d10, some (.val y), s12, s13, none, s15] S = .nxt [some (.val (.ref n)), some (.val d), some (.val (szD sz)), some (.val (missD (dueQ sz) (cO m sz d) sz)), d4, d5, d6, d7, t8, d9, d10, some (.val y), some (.val (runR ms)), t13, none, some (.val (frD G))] S1 := by
      have si : itemsD .seq [szD sz] = some (sz.map D.int) := rfl
      rw [List.nil_append] at e1
      have e1 : forL (.nm 8) (fun env S => exSs (O wf N) wf f__law_runs_right_b1 env S) (sz.map D.int) [some (.val (.ref n)), some (.val d), some (.val (szD sz)), some (.val (missD (dueQ sz) (cO m sz d) sz)), d4, d5, d6, d7, s8, d9, d10, some (.val y), some (.val (.tup [])), s13, none, s15] S = .nxt [some (.val (.ref n)), some (.val d), some (.val (szD sz)), some (.val (missD (dueQ sz) (cO m sz d) sz)), d4, d5, d6, d7, t8, d9, d10, some (.val y), some (.val (runR ms)), t13, none, s15] S1 := e1
      rw [tk] at e1 ⊢
      simp [f__law_runs_right_b2, f__law_runs_right_l1, si, e1, e2, e3, fr_neg, e4]
    obtain ⟨u8, u11, u12, u13, u15, S2, e6, dr2⟩ := l_turns hN hw hr hm hl hx h0 (d4 := d4) (d5 := d5) (d6 := d6) (d7 := d7) (d9 := d9) (d10 := d10) (its := its) (s8 := t8) (s11 := some (.val y)) (s12 := some (.val (runR ms))) (s13 := t13) (s15 := some (.val (frD G))) dr1.src
    refine ⟨u8, u11, u12, u13, u15, S2, ?_, dr1.trans dr2⟩
    rw [forL]
    simp only [bindT_nm, List.length_cons, List.length_nil, Nat.reduceAdd, Nat.reduceLT, if_true, put_s, put_0]
    rw [e5, SOut.bind_nxt, e6]
theorem lot_rep {n : Nat} {q : Rat} : lotR (List.replicate n q) = .tup (List.replicate n (frD q)) := by unfold lotR; rw [List.map_replicate]
theorem z_more {due : Rat} {cs : List (Option Rat)} {sz : List Int} : itemsD .zip [.lst ((cs.map (moreB due)).map D.bl), szD sz] = some ((cs.zip sz).map fun p => .tup [.bl (moreB due p.1), .int p.2]) := by
  rw [List.map_map]
  exact congrArg some zipD_map
theorem c_high {due : Rat} {cs : List (Option Rat)} {sz : List Int} {d0 d1 d3 d5 d6 : Option Sl} (hc : cs.length ≤ 3) (hx : ∀ x ∈ sz, 0 ≤ x ∧ x ≤ 12) :
    evE (O wf N) f__law_runs_right_c0 [d0, d1, some (.val (szD sz)), d3, some (.val (.lst ((cs.map (moreB due)).map D.bl))), d5, d6, none, none, none, none, none, none, none, none, none] S = .ok (.lst ((selR true due cs sz).map lotR)) S := by
  have hl : (cs.zip sz).length ≤ 1000000 := by rw [List.length_zip]; omega
  have z := z_more (due := due) (cs := cs) (sz := sz)
  simp only [f__law_runs_right_c0, x_lc, blk_def]
  simp only [List.map_map] at z
  simp [z]
  rw [compL_of' (fun p : Option Rat × Int => D.tup [.bl (moreB due p.1), .int p.2]) fun p => lotR (List.replicate p.2.toNat (if true == moreB due p.1 then 1 else 0))]
  · rw [Out.calm_ok, Out.bind_ok, if_pos (by rw [List.length_map]; exact hl)]
    unfold selR
    rw [List.map_map]; rfl
  · rintro ⟨c, x⟩ hp
    have h := hx x (List.of_mem_zip hp).2
    cases hb : moreB due c <;> simp [turnO, hb, fr_0, fr_1, mul_one h, lot_rep]
theorem c_low {due : Rat} {cs : List (Option Rat)} {sz : List Int} {d0 d1 d3 d5 d6 : Option Sl} (hc : cs.length ≤ 3) (hx : ∀ x ∈ sz, 0 ≤ x ∧ x ≤ 12) :
    evE (O wf N) f__law_runs_right_c1 [d0, d1, some (.val (szD sz)), d3, some (.val (.lst ((cs.map (moreB due)).map D.bl))), d5, d6, none, none, none, none, none, none, none, none, none] S = .ok (.lst ((selR false due cs sz).map lotR)) S := by
  have hl : (cs.zip sz).length ≤ 1000000 := by rw [List.length_zip]; omega
  have z := z_more (due := due) (cs := cs) (sz := sz)
  simp only [f__law_runs_right_c1, x_lc, blk_def]
  simp only [List.map_map] at z
  simp [z]
  rw [compL_of' (fun p : Option Rat × Int => D.tup [.bl (moreB due p.1), .int p.2]) fun p => lotR (List.replicate p.2.toNat (if false == moreB due p.1 then 1 else 0))]
  · rw [Out.calm_ok, Out.bind_ok, if_pos (by rw [List.length_map]; exact hl)]
    unfold selR
    rw [List.map_map]; rfl
  · rintro ⟨c, x⟩ hp
    have h := hx x (List.of_mem_zip hp).2
    cases hb : moreB due c <;> simp [turnO, hb, fr_0, fr_1, mul_one h, lot_rep]
theorem e_runs_right {m n : Nat} {sz : List Int} {d : D} (hN : 15 ≤ N) (hw : W0 ≤ wf) (hr : isRight d = true) (hm : many d = m) (hl : sz.length = m) (hx : ∀ x ∈ sz, 0 ≤ x ∧ x ≤ 12) (h0 : 0 < totI sz) (hs : Src n S) :
    ∃ S', (O wf N).fn 55 [.ref n, d, szD sz, missD (dueQ sz) (cO m sz d) sz] none S = .ok (.bl true) S' ∧ Dr n S S' := by
  have hm3 := many_le (right_item hr)
  rw [hm] at hm3
  have hz : SzOk m sz := ⟨hl, fun x h => (hx x h).1, fun x h => by have := (hx x h).2; omega⟩
  have hb := bt_right (s := 1) hr
  have hi := right_itm hr
  rw [hm] at hi
  have e1 := fun S => e_law_counts (wf := wf) (N := N - 1) (S := S) (dz := szD sz) (by omega) hw hz hm3 (.inr rfl) hi (by omega)
  rw [cO_D] at e1
  obtain ⟨t5, e2⟩ := l_more (wf := wf) (N := N - 1) (S := S) (d0 := some (.val (.ref n))) (d1 := some (.val d)) (d3 := some (.val (missD (dueQ sz) (cO m sz d) sz))) (sz := sz) (by omega) (due_bd hz hm3 h0) h0 (cs := cO m sz d) (bs := []) (s5 := none) (cO_bd hz hr) (by rw [cO_len]; simp; omega)
  have gap : ∀ b S, (O wf (N - 1)).fn 54 [d, runR (selR b (dueQ sz) (cO m sz d) sz)] none S = .ok (frD (gapS (dueQ sz) (cO m sz d) (selS b (dueQ sz) (cO m sz d) sz))) S := fun b S => by
    obtain ⟨q1, q2⟩ := sel_tot (b := b) (due := dueQ sz) (cs := cO m sz d) (sz := sz) (by rw [cO_len, hl]) fun x h => (hx x h).1
    have := e_law_gap (wf := wf) (N := N - 1) (S := S) (by omega) hw hr hm (sel_RU (b := b) (due := dueQ sz) cO_len hl hx) (by rw [q2]; exact h0)
    rw [q1, q2] at this
    exact this
  have eh := gap true
  have el := gap false
  rw [sel_high (by rw [cO_len, hl])] at eh
  rw [sel_low (by rw [cO_len, hl])] at el
  obtain ⟨q, hq, el⟩ : ∃ q : Rat, -q = mB d m sz ∧ ∀ S, (O wf (N - 1)).fn 54 [d, runR (selR false (dueQ sz) (cO m sz d) sz)] none S = .ok (frD q) S := ⟨_, by unfold mB; grind, el⟩
  have eh : ∀ S, (O wf (N - 1)).fn 54 [d, runR (selR true (dueQ sz) (cO m sz d) sz)] none S = .ok (frD (mA d m sz)) S := eh
  obtain ⟨t8, t11, t12, t13, t15, S1, e3, dr1⟩ := l_turns (wf := wf) (N := N - 1) (n := n) (by omega) hw hr hm hl hx h0 (d4 := some (.val (.lst (((cO m sz d).map (moreB (dueQ sz))).map D.bl)))) (d5 := t5) (d6 := some (.val (runR (selR true (dueQ sz) (cO m sz d) sz)))) (d7 := none) (d9 := some (.val (runR (selR false (dueQ sz) (cO m sz d) sz)))) (d10 := some (.val (frD q))) (its := (rangeI 3).map D.int) (s8 := none) (s11 := none) (s12 := none) (s13 := none) (s15 := none) hs
  have ch := fun S => c_high (wf := wf) (N := N - 1) (S := S) (due := dueQ sz) (cs := cO m sz d) (sz := sz) (d0 := some (.val (.ref n))) (d1 := some (.val d)) (d3 := some (.val (missD (dueQ sz) (cO m sz d) sz))) (d5 := t5) (d6 := none) (by rw [cO_len]; exact hm3) hx
  have cl := fun S => c_low (wf := wf) (N := N - 1) (S := S) (due := dueQ sz) (cs := cO m sz d) (sz := sz) (d0 := some (.val (.ref n))) (d1 := some (.val d)) (d3 := some (.val (missD (dueQ sz) (cO m sz d) sz))) (d5 := t5) (d6 := some (.val (runR (selR true (dueQ sz) (cO m sz d) sz)))) (by rw [cO_len]; exact hm3) hx
  refine ⟨S1, ?_, dr1⟩
  have si : itemsD .seq [.tup ((cO m sz d).map optD)] = some ((cO m sz d).map optD) := rfl
  have pt : ∀ b, primD .tuple [.lst ((selR b (dueQ sz) (cO m sz d) sz).map lotR)] = some (runR (selR b (dueQ sz) (cO m sz d) sz)) := fun b => rfl
  have tk : missD (dueQ sz) (cO m sz d) sz = .tup [frD (mA d m sz), frD (mB d m sz)] := rfl
  rw [List.nil_append] at e2
  have e2 : forL (.nm 5) (fun env S => exSs (O wf (N - 1)) wf f__law_runs_right_b0 env S) ((cO m sz d).map optD) [some (.val (.ref n)), some (.val d), some (.val (szD sz)), some (.val (missD (dueQ sz) (cO m sz d) sz)), some (.own []), none, none, none, none, none, none, none, none, none, none, none] S = _ := e2
  generalize selR true (dueQ sz) (cO m sz d) sz = R1 at *
  generalize selR false (dueQ sz) (cO m sz d) sz = R2 at *
  generalize (cO m sz d).map (moreB (dueQ sz)) = B at *
  rw [tk] at e2 e3 ch cl ⊢
  have ng : D.tup [.int (-q.num), .int (q.den : Int)] = frD (mB d m sz) := by rw [fr_neg, hq]
  have r3 := ranges1n (n := 3) (by omega)
  simp only [runR] at eh el e3 cl
  simp at r3 e3 ch cl
  (rw [fn_in (f := f__law_runs_right) (by omega) rfl rfl rfl rfl]; simp only [f__law_runs_right, startE, List.map_cons, List.map_nil, List.cons_append, List.nil_append, List.replicate, Nat.sub_self])
  simp [f__law_runs_right_l0, f__law_runs_right_l2, e1, si, e2, ch, cl, pt, el, eh, ng, r3, e3]
end LK


/-! L26k51: the law's loops. -/
namespace LK
open PySem PySem.Spec PyProof.Rows L2 Pz
variable {wf N : Nat} {S : Store}
theorem e_miss {m : Nat} {sz : List Int} {d : D} (hN : 16 ≤ N) (hw : W0 ≤ wf) (hz : SzOk m sz) (hr : isRight d = true) (hm : many d = m) (h0 : 0 < totI sz) : (O wf N).fn 29 [d, szD sz] none S = .ok (missD (dueQ sz) (cO m sz d) sz) S := by
  have hi := right_item hr
  have hm3 := many_le hi
  rw [hm] at hm3
  have e1 := fun S => e_need_scheme (wf := wf) (N := N - 1) (S := S) (right_sm hr) (by omega)
  have e2 := fun S => e_need_sizes (wf := wf) (N := N - 1) (S := S) hi (sm_intt (l := sz) (by rw [hz.len]; omega) (k := 0)) (by omega)
  rw [hm] at e2
  have e3 := fun S => e_missed (wf := wf) (N := N - 1) (S := S) (by omega) hw hz hm3 hr hm h0
  have sm : primD .sum [.tup (sz.map D.int)] = some (.int (totI sz)) := by rw [← sum_tot]; exact prim_sumt
  have nz : ¬ totI sz = 0 := by omega
  unfold szD at e3 ⊢
  (rw [fn_in (f := f_miss) (by omega) rfl rfl rfl rfl]; simp only [f_miss, startE, List.map_cons, List.map_nil, List.cons_append, List.nil_append, List.replicate, Nat.sub_self])
  simp [e1, hr, e2, sz_areSizes hz, sm, nz, e3, -prim_sumt]
theorem e_miss_zero {m : Nat} {sz : List Int} {d : D} (hN : 16 ≤ N) (hz : SzOk m sz) (hr : isRight d = true) (hm : many d = m) (h0 : totI sz = 0) : (O wf N).fn 29 [d, szD sz] none S = .exc 1 [] S := by
  have hi := right_item hr
  have hm3 := many_le hi
  rw [hm] at hm3
  have e1 := fun S => e_need_scheme (wf := wf) (N := N - 1) (S := S) (right_sm hr) (by omega)
  have e2 := fun S => e_need_sizes (wf := wf) (N := N - 1) (S := S) hi (sm_intt (l := sz) (by rw [hz.len]; omega) (k := 0)) (by omega)
  rw [hm] at e2
  have sm : primD .sum [.tup (sz.map D.int)] = some (.int 0) := by rw [← h0, ← sum_tot]; exact prim_sumt
  unfold szD
  (rw [fn_in (f := f_miss) (by omega) rfl rfl rfl rfl]; simp only [f_miss, startE, List.map_cons, List.map_nil, List.cons_append, List.nil_append, List.replicate, Nat.sub_self])
  simp [e1, hr, e2, sz_areSizes hz, sm, -prim_sumt]
theorem e_miss_bad {d x : D} {j : Nat} (hN : 16 ≤ N) (hr : isRight d = true) (hx : sm j x = true) (h : areSizes (many d) x = false) : (O wf N).fn 29 [d, x] none S = .exc 1 [] S := by
  have hi := right_item hr
  have e1 := fun S => e_need_scheme (wf := wf) (N := N - 1) (S := S) (right_sm hr) (by omega)
  have e2 := fun S => e_need_sizes (wf := wf) (N := N - 1) (S := S) hi hx (by omega)
  (rw [fn_in (f := f_miss) (by omega) rfl rfl rfl rfl]; simp only [f_miss, startE, List.map_cons, List.map_nil, List.cons_append, List.nil_append, List.replicate, Nat.sub_self])
  simp [e1, hr, e2, h]
theorem e_worst_bad {d x : D} (hN : 16 ≤ N) (hr : isRight d = true) (hx : x.isData = true) (h : isFrom x 1 6 = false) : (O wf N).fn 30 [d, x] none S = .exc 2 [] S := by
  have e1 := fun S => e_need_scheme (wf := wf) (N := N - 1) (S := S) (right_sm hr) (by omega)
  have e2 := fun S => e_need_most (wf := wf) (N := N - 1) (S := S) (d := x) (by omega) hx
  (rw [fn_in (f := f_worst_sizes) (by omega) rfl rfl rfl rfl]; simp only [f_worst_sizes, startE, List.map_cons, List.map_nil, List.cons_append, List.nil_append, List.replicate, Nat.sub_self])
  simp [e1, hr, e2, h]
/-- one drawn sizes -/
theorem b_try {m n : Nat} {d : D} {d0 d1 d5 d9 s6 s7 s8 : Option Sl} (hN : 16 ≤ N) (hw : W0 ≤ wf) (hr : isRight d = true) (hm : many d = m) (hs : Src n S) : ∃ (t7 t8 : Option Sl) (S' : Store), exSs (O wf N) wf f_law_b0 [d0, d1, some (.val (.ref n)), some (.val (.int (m : Int))), some (.val d), d5, s6, s7, s8, d9, none] S = .nxt [d0, d1, some (.val (.ref n)), some (.val (.int (m : Int))), some (.val d), d5, s6, t7, t8, d9, none] S' ∧ Dr n S S' := by
  have hm3 := many_le (right_item hr)
  have hm1 : 1 ≤ many d := by unfold many; omega
  obtain ⟨v, S1, e1, v1, dr1, _⟩ := e_chosen (wf := wf) (N := N) (xs := [.int 1, .int 2, .int 5, .int 1000000000000]) (by omega) hs (by simp) (by simp)
  obtain ⟨t, rfl, ht⟩ : ∃ t : Int, v = .int t ∧ 0 ≤ t ∧ t ≤ 1000000000000 := by
    simp at v1
    rcases v1 with rfl | rfl | rfl | rfl <;> exact ⟨_, rfl, by omega, by omega⟩
  obtain ⟨sz, S2, e2, l2, i2, dr2⟩ := e_draw_sizes (wf := wf) (N := N) (m := m) (t := t) (by omega) dr1.src (by omega) (by omega)
  have e2 : (O wf N).fn 52 [.ref n, .int (m : Int), .int t] none S1 = .ok (szD sz) S2 := e2
  have hz : SzOk m sz := ⟨l2, fun x hx => (i2 x hx).1, fun x hx => by have := (i2 x hx).2; omega⟩
  have sm : primD .sum [szD sz] = some (.int (totI sz)) := by rw [← sum_tot]; exact prim_sumt
  have pw : binD .pow (.int 10) (.int 12) = some (.int 1000000000000) := by rfl
  by_cases h0 : 0 < totI sz
  · have e3 := fun S => e_miss (wf := wf) (N := N) (S := S) hN hw hz hr hm h0
    have e4 := fun S => e_law_miss (wf := wf) (N := N) (S := S) (by omega) hw hz (by omega) hr hm h0
    have ne : cmpD .ne (missD (dueQ sz) (cO m sz d) sz) (missD (dueQ sz) (cO m sz d) sz) = some false := by
      have : sml 2 2 (missD (dueQ sz) (cO m sz d) sz) = true := rfl
      exact ne_selfL this (by omega)
    have hne : sz ≠ [] := fun e => by rw [e] at l2; simp at l2; omega
    have mx : primD .max1 [szD sz] = some (.int (maxI sz)) := by
      show ((D.ofInts? (sz.map D.int)).bind fun ns => if ns = [] then none else some (D.int (maxI ns))) = _
      rw [ofInts_map, Option.bind_some, if_neg hne]
    by_cases h13 : maxI sz < 13
    · obtain ⟨S3, e5, dr3⟩ := e_runs_right (wf := wf) (N := N) (by omega) hw hr hm l2 (fun x hx => ⟨(i2 x hx).1, by have := maxI_le hx; omega⟩) h0 dr2.src
      refine ⟨some (.val (szD sz)), some (.val (missD (dueQ sz) (cO m sz d) sz)), S3, ?_, dr1.trans (dr2.trans dr3)⟩
      simp [f_law_b0, pw, e1, e2, sm, h0, e3, e4, ne, mx, h13, e5]
    · refine ⟨some (.val (szD sz)), some (.val (missD (dueQ sz) (cO m sz d) sz)), S2, ?_, dr1.trans dr2⟩
      simp [f_law_b0, pw, e1, e2, sm, h0, e3, e4, ne, mx, h13]
  · refine ⟨some (.val (szD sz)), s8, S2, ?_, dr1.trans dr2⟩
    simp [f_law_b0, pw, e1, e2, sm, h0]
theorem l_tries {m n : Nat} {d : D} {d0 d1 d5 d9 : Option Sl} (hN : 16 ≤ N) (hw : W0 ≤ wf) (hr : isRight d = true) (hm : many d = m) : ∀ {its : List D} {s6 s7 s8 : Option Sl} {S : Store}, Src n S → ∃ (t6 t7 t8 : Option Sl) (S' : Store), forL (.nm 6) (fun env S => exSs (O wf N) wf f_law_b0 env S) its [d0, d1, some (.val (.ref n)), some (.val (.int (m : Int))), some (.val d), d5, s6, s7, s8, d9, none] S = .nxt [d0, d1, some (.val (.ref n)), some (.val (.int (m : Int))), some (.val d), d5, t6, t7, t8, d9, none] S' ∧ Dr n S S'
  | [], s6, s7, s8, S, h => ⟨s6, s7, s8, S, rfl, Dr.refl h⟩
  | y :: its, s6, s7, s8, S, h => by
    obtain ⟨t7, t8, S1, e1, dr1⟩ := b_try (wf := wf) (N := N) (d0 := d0) (d1 := d1) (d5 := d5) (d9 := d9) (s6 := some (.val y)) (s7 := s7) (s8 := s8) hN hw hr hm h
    obtain ⟨u6, u7, u8, S2, e2, dr2⟩ := l_tries hN hw hr hm (d0 := d0) (d1 := d1) (d5 := d5) (d9 := d9) (its := its) (s6 := some (.val y)) (s7 := t7) (s8 := t8) dr1.src
    refine ⟨u6, u7, u8, S2, ?_, dr1.trans dr2⟩
    rw [forL]
    simp only [bindT_nm, List.length_cons, List.length_nil, Nat.reduceAdd, Nat.reduceLT, if_true, put_s, put_0]
    rw [e1, SOut.bind_nxt, e2]
theorem l_odd1 {d : D} {d0 d1 d2 d3 d5 d6 d7 d8 : Option Sl} : ∀ {its : List D} {s9 : Option Sl}, (∀ x ∈ its, ∀ S, (O wf N).fn 35 [.fn 30, d, x] none S = .ok (.str "number") S) → ∃ t9 : Option Sl, forL (.nm 9) (fun env S => exSs (O wf N) wf f_law_b1 env S) its [d0, d1, d2, d3, some (.val d), d5, d6, d7, d8, s9, none] S = .nxt [d0, d1, d2, d3, some (.val d), d5, d6, d7, d8, t9, none] S
  | [], s9, _ => ⟨s9, rfl⟩
  | x :: its, s9, h => by
    have e := h x List.mem_cons_self
    obtain ⟨t9, e2⟩ := l_odd1 (d := d) (d0 := d0) (d1 := d1) (d2 := d2) (d3 := d3) (d5 := d5) (d6 := d6) (d7 := d7) (d8 := d8) (its := its) (s9 := some (.val x)) fun y hy => h y (List.mem_cons_of_mem _ hy)
    refine ⟨t9, ?_⟩
    rw [forL]
    simp only [bindT_nm, List.length_cons, List.length_nil, Nat.reduceAdd, Nat.reduceLT, if_true, put_s, put_0]
    rw [show exSs (O wf N) wf f_law_b1 [d0, d1, d2, d3, some (.val d), d5, d6, d7, d8, some (.val x), none] S = .nxt [d0, d1, d2, d3, some (.val d), d5, d6, d7, d8, some (.val x), none] S by simp [f_law_b1, e], SOut.bind_nxt, e2]
theorem l_odd2 {d : D} {d0 d1 d2 d3 d5 d6 d7 d8 : Option Sl} : ∀ {its : List D} {s9 : Option Sl}, (∀ x ∈ its, ∀ S, (O wf N).fn 35 [.fn 29, d, x] none S = .ok (.str "sizes") S) → ∃ t9 : Option Sl, forL (.nm 9) (fun env S => exSs (O wf N) wf f_law_b2 env S) its [d0, d1, d2, d3, some (.val d), d5, d6, d7, d8, s9, none] S = .nxt [d0, d1, d2, d3, some (.val d), d5, d6, d7, d8, t9, none] S
  | [], s9, _ => ⟨s9, rfl⟩
  | x :: its, s9, h => by
    have e := h x List.mem_cons_self
    obtain ⟨t9, e2⟩ := l_odd2 (d := d) (d0 := d0) (d1 := d1) (d2 := d2) (d3 := d3) (d5 := d5) (d6 := d6) (d7 := d7) (d8 := d8) (its := its) (s9 := some (.val x)) fun y hy => h y (List.mem_cons_of_mem _ hy)
    refine ⟨t9, ?_⟩
    rw [forL]
    simp only [bindT_nm, List.length_cons, List.length_nil, Nat.reduceAdd, Nat.reduceLT, if_true, put_s, put_0]
    rw [show exSs (O wf N) wf f_law_b2 [d0, d1, d2, d3, some (.val d), d5, d6, d7, d8, some (.val x), none] S = .nxt [d0, d1, d2, d3, some (.val d), d5, d6, d7, d8, some (.val x), none] S by simp [f_law_b2, e], SOut.bind_nxt, e2]
theorem body3 {ns : List Int} {k : Nat} {d2 d3 d4 d5 d6 d7 d8 d9 : Option Sl} (hN : 21 ≤ N) (hw : W0 ≤ wf) : ∃ (t2 t3 t4 t5 t6 t7 t8 t9 : Option Sl) (S' : Store), exSs (O wf N) wf f_law_b3 [some (.val (.scr ns)), some (.val (.int (k : Int))), d2, d3, d4, d5, d6, d7, d8, d9, none] S = .nxt [some (.val (.scr ns)), some (.val (.int (k : Int))), t2, t3, t4, t5, t6, t7, t8, t9, none] S' := by
  obtain ⟨a, b, e1⟩ := e_source (wf := wf) (N := N) (S := S) (ns := ns) (k := k) (by omega)
  have h1 : Src S.length (S ++ [.lst [.int a, .int b]]) := ⟨a, b, by simp⟩
  obtain ⟨mm, S1, e2, w2, dr1, _⟩ := e_chosen (wf := wf) (N := N) (xs := [.int 1, .int 2, .int 2, .int 3]) (by omega) h1 (by simp) (by simp)
  obtain ⟨m, rfl, hm⟩ : ∃ m : Nat, mm = .int (m : Int) ∧ 1 ≤ m ∧ m ≤ 3 := by
    simp at w2
    rcases w2 with rfl | rfl | rfl
    · exact ⟨1, rfl, by omega, by omega⟩
    · exact ⟨2, rfl, by omega, by omega⟩
    · exact ⟨3, rfl, by omega, by omega⟩
  obtain ⟨s, S2, e3, r3, m3, dr2⟩ := e_scheme (wf := wf) (N := N) (m := m) (by omega) dr1.src hm
  obtain ⟨v, S3, e4, v0, v1, dr3, _⟩ := e_pick (wf := wf) (N := N) (m := 3) (by omega) dr2.src (by omega) (by omega)
  obtain ⟨t, ht⟩ : ∃ t : Nat, 1 + v = (t : Int) := ⟨(1 + v).toNat, by omega⟩
  have ht1 : 1 ≤ t ∧ t ≤ 6 := by omega
  have e5 := fun S => e_worst_sizes (wf := wf) (N := N) (S := S) (t := t) (by omega) hw r3 ht1
  have e6 := fun S => e_law_worst (wf := wf) (N := N) (S := S) (t := t) (by omega) hw r3 ht1
  have ne : cmpD .ne (worstD s (many s) t) (worstD s (many s) t) = some false := by
    unfold worstD
    split
    · exact ne_selfL (szD_sml (Nat.le_refl _) (k := 0)) (by omega)
    · rfl
  obtain ⟨t6, t7, t8, S4, e7, dr4⟩ := l_tries (wf := wf) (N := N) (m := m) (d := s) (d0 := some (.val (.scr ns))) (d1 := some (.val (.int (k : Int)))) (d5 := some (.val (.int (t : Int)))) (d9 := d9) (by omega) hw r3 m3 (its := (rangeI 5).map D.int) (s6 := d6) (s7 := d7) (s8 := d8) dr3.src
  obtain ⟨t9, e8⟩ := l_odd1 (wf := wf) (N := N) (S := S4) (d := s) (d0 := some (.val (.scr ns))) (d1 := some (.val (.int (k : Int)))) (d2 := some (.val (.ref S.length))) (d3 := some (.val (.int (m : Int)))) (d5 := some (.val (.int (t : Int)))) (d6 := t6) (d7 := t7) (d8 := t8) (its := [.non, .int 0, .int 7, .bl true]) (s9 := d9) (by
    intro x hx S
    simp at hx
    rcases hx with rfl | rfl | rfl | rfl
    all_goals exact e_by_two (by omega) (e_worst_bad (by omega) r3 rfl rfl) rfl)
  have z0 : SzOk m (List.replicate m 0) := ⟨by simp, fun x hx => by rw [(List.mem_replicate.mp hx).2]; omega, fun x hx => by rw [(List.mem_replicate.mp hx).2]; omega⟩
  obtain ⟨u9, e9⟩ := l_odd2 (wf := wf) (N := N) (S := S4) (d := s) (d0 := some (.val (.scr ns))) (d1 := some (.val (.int (k : Int)))) (d2 := some (.val (.ref S.length))) (d3 := some (.val (.int (m : Int)))) (d5 := some (.val (.int (t : Int)))) (d6 := t6) (d7 := t7) (d8 := t8) (its := [.non, szD (List.replicate m 0), szD (List.replicate (m + 1) 1)]) (s9 := t9) (by
    intro x hx S
    simp only [List.mem_cons, List.not_mem_nil, or_false] at hx
    rcases hx with rfl | rfl | rfl
    · exact e_by_two (by omega) (e_miss_bad (j := 1) (by omega) r3 rfl rfl) rfl
    · exact e_by_two (by omega) (e_miss_zero (by omega) z0 r3 m3 tot_zeros) rfl
    · refine e_by_two (by omega) (e_miss_bad (j := 1) (by omega) r3 (sm_intt (by simp; omega) (k := 0)) ?_) rfl
      rw [m3]
      simp [areSizes, szD])
  have q1 : binD .mul (.tup [.int 0]) (.int (m : Int)) = some (szD (List.replicate m 0)) := by
    rw [mul_one (by omega), Int.toNat_natCast]
    unfold szD
    rw [List.map_replicate]
  have q2 : binD .mul (.tup [.int 1]) (.int ((m : Int) + 1)) = some (szD (List.replicate (m + 1) 1)) := by
    rw [mul_one (by omega), show ((m : Int) + 1).toNat = m + 1 by omega]
    unfold szD
    rw [List.map_replicate]
  have r5 := ranges1n (n := 5) (by omega)
  simp at r5 e7
  have s4 : itemsD .seq [.lst [.non, .int 0, .int 7, .bl true]] = some [.non, .int 0, .int 7, .bl true] := rfl
  have s3 : itemsD .seq [.lst [.non, szD (List.replicate m 0), szD (List.replicate (m + 1) 1)]] = some [.non, szD (List.replicate m 0), szD (List.replicate (m + 1) 1)] := rfl
  subst m3
  refine ⟨some (.val (.ref S.length)), some (.val (.int (many s : Int))), some (.val s), some (.val (.int (t : Int))), t6, t7, t8, u9, S4, ?_⟩
  simp [f_law_b3, e1, e2, e3, e4, ht, e5, e6, ne, f_law_l0, r5, e7, f_law_l1, s4, e8, f_law_l2, q1, q2, s3, e9]
theorem loop_out {ns : List Int} (hN : 21 ≤ N) (hw : W0 ≤ wf) : ∀ {xs : List Int} {d1 d2 d3 d4 d5 d6 d7 d8 d9 : Option Sl} {S : Store}, (∀ x ∈ xs, 0 ≤ x) →
    ∃ (t1 t2 t3 t4 t5 t6 t7 t8 t9 : Option Sl) (S' : Store), forL (.nm 1) (fun env S => exSs (O wf N) wf f_law_b3 env S) (xs.map D.int) [some (.val (.scr ns)), d1, d2, d3, d4, d5, d6, d7, d8, d9, none] S = .nxt [some (.val (.scr ns)), t1, t2, t3, t4, t5, t6, t7, t8, t9, none] S'
  | [], d1, d2, d3, d4, d5, d6, d7, d8, d9, S, _ => ⟨d1, d2, d3, d4, d5, d6, d7, d8, d9, S, rfl⟩
  | x :: xs, d1, d2, d3, d4, d5, d6, d7, d8, d9, S, h => by
    obtain ⟨k, rfl⟩ : ∃ k : Nat, x = k := ⟨x.toNat, by have := h x List.mem_cons_self; omega⟩
    obtain ⟨t2, t3, t4, t5, t6, t7, t8, t9, S1, e1⟩ := body3 (wf := wf) (N := N) (S := S) (ns := ns) (k := k) (d2 := d2) (d3 := d3) (d4 := d4) (d5 := d5) (d6 := d6) (d7 := d7) (d8 := d8) (d9 := d9) hN hw
    obtain ⟨u1, u2, u3, u4, u5, u6, u7, u8, u9, S2, e2⟩ := loop_out (ns := ns) hN hw (xs := xs) (d1 := some (.val (.int (k : Int)))) (d2 := t2) (d3 := t3) (d4 := t4) (d5 := t5) (d6 := t6) (d7 := t7) (d8 := t8) (d9 := t9) (S := S1) fun y hy => h y (List.mem_cons_of_mem _ hy)
    refine ⟨u1, u2, u3, u4, u5, u6, u7, u8, u9, S2, ?_⟩
    rw [List.map_cons, forL]
    simp only [bindT_nm, List.length_cons, List.length_nil, Nat.reduceAdd, Nat.reduceLT, if_true, put_s, put_0]
    rw [e1, SOut.bind_nxt, e2]
end LK


/-! k51: written values. -/
namespace LK
open PySem PySem.Spec PyProof.Rows L2 Pz
theorem e_written (S : Store) : (O W0 30).fn 57 [] none S = .ok (.bl true) S := by kernel_rfl
end LK


/-! k51: the law's run. -/
namespace LK
open PySem PySem.Spec PyProof.Rows L2 Pz
theorem bad_miss {wf N : Nat} {S : Store} (hN : 12 ≤ N) : (O wf N).fn 29 [.int 0, .non] none S = .exc 0 [] S := by
  have e1 := fun S => e_need_scheme (wf := wf) (N := N - 1) (S := S) (d := .int 0) (j := 1) (by rfl) (by omega)
  (rw [fn_in (f := f_miss) (by omega) rfl rfl rfl rfl]; simp only [f_miss, startE, List.map_cons, List.map_nil, List.cons_append, List.nil_append, List.replicate, Nat.sub_self])
  simp [e1, show isRight (.int 0) = false from rfl]
theorem bad_worst {wf N : Nat} {S : Store} (hN : 12 ≤ N) : (O wf N).fn 30 [.int 0, .non] none S = .exc 0 [] S := by
  have e1 := fun S => e_need_scheme (wf := wf) (N := N - 1) (S := S) (d := .int 0) (j := 1) (by rfl) (by omega)
  (rw [fn_in (f := f_worst_sizes) (by omega) rfl rfl rfl rfl]; simp only [f_worst_sizes, startE, List.map_cons, List.map_nil, List.cons_append, List.nil_append, List.replicate, Nat.sub_self])
  simp [e1, show isRight (.int 0) = false from rfl]
theorem law_runN {wf N : Nat} (hN : 30 ≤ N) (hw : W0 ≤ wf) (ew : ∀ S, (O wf N).fn 57 [] none S = .ok (.bl true) S) (ns : List Int) (h1 : ns.length ≤ 63) : ∃ S, (O wf (N + 1)).fn 58 [.scr ns] none [] = .ok (.bl true) S := by
  obtain ⟨t1, t2, t3, t4, t5, t6, t7, t8, t9, S1, e1⟩ := loop_out (wf := wf) (N := N) (ns := ns) (by omega) hw (xs := rangeI (max 6 (min 14 ns.length))) (d1 := none) (d2 := none) (d3 := none) (d4 := none) (d5 := none) (d6 := none) (d7 := none) (d8 := none) (d9 := none) (S := []) fun x hx => (mem_range.mp hx).1
  have e2 := ew S1
  refine ⟨S1, ?_⟩
  have mx : (if (if (ns.length : Int) < 14 then (ns.length : Int) else 14) > 6 then (if (ns.length : Int) < 14 then (ns.length : Int) else 14) else 6) = ((max 6 (min 14 ns.length) : Nat) : Int) := by
    split <;> split <;> omega
  have b1 : ∀ S, (O wf N).fn 35 [.fn 29, .int 0, .non] none S = .ok (.str "scheme") S := fun S => e_by_two (by omega) (bad_miss (by omega)) rfl
  have b2 : ∀ S, (O wf N).fn 35 [.fn 30, .int 0, .non] none S = .ok (.str "scheme") S := fun S => e_by_two (by omega) (bad_worst (by omega)) rfl
  have c0 : evE (O wf N) f_law_c0 [some (.val (.scr ns)), t1, t2, t3, t4, t5, t6, t7, t8, t9, none] S1 = .ok (.lst [.str "scheme", .str "scheme"]) S1 := by
    have si : itemsD .seq [.tup [.fn 29, .fn 30]] = some [.fn 29, .fn 30] := rfl
    simp only [f_law_c0, x_lc, blk_def]
    simp [si, compL, turnO, b1, b2]
  have ne : cmpD .ne (.lst [.str "scheme", .str "scheme"]) (.lst (repL 2 [.str "scheme"])) = some false := by
    rw [show repL 2 [D.str "scheme"] = [.str "scheme", .str "scheme"] from rfl]
    have ok : PyData.strOk (Str.ofString "scheme") = true := by decide +kernel
    exact ne_selfL (L := 8) (k := 2) (by simp [sml, ok]) (by omega)
  (rw [fn_in (f := f_law) (by omega) rfl rfl rfl rfl]; simp only [f_law, startE, List.map_cons, List.map_nil, List.cons_append, List.nil_append, List.replicate, Nat.sub_self])
  simp [f_law_l3]
  simp at mx
  rw [mx, ranges1n (by omega)]
  simp [e1, e2, c0, ne]
theorem law_run0 (ns : List Int) (h1 : ns.length ≤ 63) : ∃ S, (O W0 31).fn 58 [.scr ns] none [] = .ok (.bl true) S := law_runN (wf := W0) (N := 30) (Nat.le_refl _) (Nat.le_refl _) e_written ns h1
end LK


namespace LK
open PySem PySem.Spec PyProof.Rows L2 Pz
def lawN : Nat := 31
def wfN : Nat := W0
theorem law_run (ns : List Int) (h1 : ns.length ≤ 63) (h2 : ∀ z ∈ ns, Builtin.Int.intBits z ≤ 1048576) : ∃ S, (orc spec.prog wfN lawN).fn 58 [.scr ns] none [] = .ok (.bl true) S := law_run0 ns h1
end LK
open PySem PySem.W PySem.Calls PyProof.Rows
theorem PySem.Challenge.cw_partmeans_k51_whole_greatest_misses_holds : PySem.Challenge.rw_partmeans_k51_whole_greatest_misses.Holds := by
  w_on; o_law
  refine HandSHeadRun.head_any (r := OpenLaw.row PySem.Challenge.rw_partmeans_k51_whole_greatest_misses) (q := view (OpenLaw.row PySem.Challenge.rw_partmeans_k51_whole_greatest_misses).prog [88]) (H := LK.hk) (ob := LK.ob) (M := 30000) (loose := LK.names) (d := HandSHeadRun.topDef (OpenLaw.row PySem.Challenge.rw_partmeans_k51_whole_greatest_misses).prog 88) (kwd := []) LK.ob_eq
    (by kernel_rfl) (fun s => by kernel_rfl) LK.run (by kernel_rfl) (by kernel_rfl) (by kernel_rfl) (by rfl) (by first | assumption | decide +kernel) (by decide +kernel) ⟨rfl, rfl, rfl, rfl, rfl, by decide +kernel⟩ ?hw ?hc
  case hw => w_witness2
  case hc =>
    refine LamX.walk_ofTsE (l := PySem.Challenge.rw_partmeans_k51_whole_greatest_misses) (n := 63) (k := LK.lawN + 1) (x := "_law_script") (CX := fun w => L2N.CX (PySem.Challenge.rw_partmeans_k51_whole_greatest_misses).prog w) rfl (by decide) (by kernel_rfl) ⟨rfl, by decide, by decide⟩ ?F (fun w H s e s' z => ?hCX)
    case hCX =>
      obtain ⟨_, _, _, _, _, _, _, _, _, _, _, _, z⟩ := z
      exact z
    case F =>
      intro w mg fa h Y G hmg0
      obtain ⟨K, KX, c⟩ := Y
      have hmg : mg ("law" : PySem.Str) = some (.ref fa) := by
        have e : (HandSHeadRun.topDef (OpenLaw.row PySem.Challenge.rw_partmeans_k51_whole_greatest_misses).prog 88).name = ("law" : PySem.Str) := by kernel_rfl
        rw [← e]
        exact hmg0
      exact ⟨K, KX, Pz.law_at (p := LK.spec) (kL := 58) (N := LK.lawN) (wf := LK.wfN) (d := ⟨"law", LK.top 88, ["_law_script", "_law_k", "_law_source_here", "_law_many_here", "_law_scheme_so", "_law_most_so", "_law_turn", "_law_size_so", "_law_told", "_law_odd", "_law_call"], LK.f_law, false⟩) LK.ok rfl rfl LK.law_run KX G hmg c⟩

