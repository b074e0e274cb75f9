import PyProof.Rows.All
import Wide.All
import OpenK.AllK
import Wide.FinOn
import HandS.ForExc
import HandS.ForMost
import HandS.IsInst
import HandS.Zip
import HandS.TupMul
import HandS.TupAny
import HandS.Head2
import HandS.HeadHook2
import HandS.HeadEnd
import PyProof.ReprReads
import KE.GoesEnum
import PyProof.StrBlock2
import KE.KRevIter
import HandS.Rev
import PyProof.Rows.NestShow
import HandS.Dict
import PyProof.EqKinds
import HandS.Head0
import HandS.Head1
import HandS.HeadHook1
import HandS.Style
import HandS.RaiseMore
import HandS.Deep
import HandS.Text
import PyProof.Rows.Range3
import HandS.More
import HandS.SortInts
import KE.KIndexOf
import PyProof.NeKinds
import KE.DataMinMax
import PySem.Challenge.RW_fencedterms_k01_terms_and_signatures_jud
set_option Elab.async false
set_option linter.all false
set_option maxRecDepth 100000
set_option maxHeartbeats 4000000
namespace EV
open PySem PySem.Spec PyProof.Rows L2
/-! plain values, the store, their tie to the layer's heap -/
inductive PV where
  | non | bl (b : Bool) | int (i : Int) | str (x : Str) | tup (xs : List PV) | fl (ns : List Int) | loc (n : Nat) | pr (x y : PV)
inductive Ob where
  | lst (xs : List PV) | dic (kvs : List (Key × PV))
abbrev Sto := List Ob
abbrev Sl := List (Option PV)
/-- a list that nothing changes: the script -/
def FrL (K : PySem.W.Frag) (H : Hp) (a : Addr) (ns : List Int) : Prop :=
  (∃ o, H a = some (.frz o (.lst (ns.map V.int)))) ∨
    ∃ (o : Obj) (its : Array Value) (n : Nat), K.lookup a = some o ∧ o.cls = .type "list" ∧ o.dict = none ∧ o.data = .seq its n ∧ its.size ≤ sizeLine ∧ Vals (ns.map V.int) its.toList
theorem FrL.seq {K : PySem.W.Frag} {H : Hp} {a : Addr} {ns : List Int} (h : FrL K H a ns) : SqL K H a (ns.map V.int) := by
  rcases h with ⟨o, h⟩ | h
  · exact .inl (.inr ⟨o, h⟩)
  · exact .inr h
/-- a tuple that has no dict of its own -/
def SqX (K : PySem.W.Frag) (H : Hp) (a : Addr) (xs : List V) : Prop :=
  (∃ o, H a = some (.frz o (.tup xs)) ∧ o.dict = none) ∨
    ∃ (o : Obj) (its : Array Value) (n : Nat), K.lookup a = some o ∧ o.dict = none ∧ o.cls = .type "tuple" ∧ o.data = .seq its n ∧ its.size ≤ sizeLine ∧ Vals xs its.toList
theorem SqX.t {K : PySem.W.Frag} {H : Hp} {a : Addr} {xs : List V} (h : SqX K H a xs) : SqT K H a xs := by
  rcases h with ⟨o, h, _⟩ | ⟨o, its, n, h1, _, h2⟩
  · exact .inl (.inr ⟨o, h⟩)
  · exact .inr ⟨o, its, n, h1, h2⟩
mutual
inductive RP (K : PySem.W.Frag) (L : List Addr) (H : Hp) : PV → V → Prop
  | non : RP K L H .non .non
  | bl (b : Bool) : RP K L H (.bl b) (.bl b)
  | int (i : Int) : RP K L H (.int i) (.int i)
  | str (x : Str) : RP K L H (.str x) (.str x)
  | tup {a : Addr} {vs : List V} {xs : List PV} : SqX K H a vs → RPs K L H xs vs → RP K L H (.tup xs) (.ref a)
  | pr {a : Addr} {u v : V} {x y : PV} : SqT K H a [u, v] → RP K L H x u → RP K L H y v → RP K L H (.pr x y) (.ref a)
  | fl {a : Addr} {ns : List Int} : FrL K H a ns → RP K L H (.fl ns) (.ref a)
  | loc {n : Nat} {a : Addr} : L[n]? = some a → RP K L H (.loc n) (.ref a)
inductive RPs (K : PySem.W.Frag) (L : List Addr) (H : Hp) : List PV → List V → Prop
  | nil : RPs K L H [] []
  | cons {x : PV} {v : V} {xs : List PV} {vs : List V} : RP K L H x v → RPs K L H xs vs → RPs K L H (x :: xs) (v :: vs)
end
def RK (K : PySem.W.Frag) (L : List Addr) (H : Hp) (a : List (Key × PV)) (b : List (Key × V)) : Prop :=
  a.map Prod.fst = b.map Prod.fst ∧ RPs K L H (a.map Prod.snd) (b.map Prod.snd)
/-- the object o of the store stands at a -/
def RO (K : PySem.W.Frag) (L : List Addr) (H : Hp) (a : Addr) : Ob → Prop
  | .lst xs => ∃ vs, H a = some (.lst vs) ∧ RPs K L H xs vs
  | .dic kvs => ∃ ks, H a = some (.dK ks) ∧ RK K L H kvs ks
structure RS (K : PySem.W.Frag) (L : List Addr) (H : Hp) (S : Sto) : Prop where
  len : L.length = S.length
  ob : ∀ (n : Nat) (o : Ob) (a : Addr), S[n]? = some o → L[n]? = some a → RO K L H a o
  inj : ∀ (n m : Nat) (a : Addr), L[n]? = some a → L[m]? = some a → n = m
/-- what values lean on stays -/
structure Lw (K : PySem.W.Frag) (L : List Addr) (H : Hp) (L' : List Addr) (H' : Hp) : Prop where
  pre : ∀ (n : Nat) (a : Addr), L[n]? = some a → L'[n]? = some a
  tup : ∀ (a : Addr) (xs : List V), SqT K H a xs → SqT K H' a xs
  frz : ∀ (a : Addr) (o : Obj) (u : HO), H a = some (.frz o u) → H' a = some (.frz o u)
structure Le (K : PySem.W.Frag) (L : List Addr) (H : Hp) (L' : List Addr) (H' : Hp) : Prop extends Lw K L H L' H' where
  fr : ∀ (a : Addr) (o : HO), H a = some o → a ∉ L → H' a = some o
  nw : ∀ a : Addr, a ∈ L' → a ∉ L → H a = none
section
variable {K : PySem.W.Frag} {L L' L1 L2 : List Addr} {H H' H1 H2 : Hp} {S S' : Sto} {x : PV} {v : V} {xs : List PV} {vs : List V}
theorem Le.refl : Le K L H L H := ⟨⟨fun _ _ h => h, fun _ _ h => h, fun _ _ _ h => h⟩, fun _ _ h _ => h, fun _ a b => absurd a b⟩
theorem Le.trans (p : Le K L H L1 H1) (q : Le K L1 H1 L2 H2) : Le K L H L2 H2 where
  pre := fun n a h => q.pre n a (p.pre n a h)
  tup := fun a xs h => q.tup a xs (p.tup a xs h)
  frz := fun a o u h => q.frz a o u (p.frz a o u h)
  fr := fun a o h n => q.fr a o (p.fr a o h n) fun m => by
    have := p.nw a m n
    rw [this] at h
    cases h
  nw := fun a m n => by
    by_cases h1 : a ∈ L1
    · exact p.nw a h1 n
    · have := q.nw a m h1
      cases h : H a with
      | none => rfl
      | some o =>
        have := p.fr a o h n
        simp_all
theorem SqX.monoW (le : Lw K L H L' H') {a : Addr} {xs : List V} (h : SqX K H a xs) : SqX K H' a xs := by
  rcases h with ⟨o, h, hd⟩ | h
  · exact .inl ⟨o, le.frz _ _ _ h, hd⟩
  · exact .inr h
mutual
theorem RP.monoW (le : Lw K L H L' H') : ∀ {x : PV} {v : V}, RP K L H x v → RP K L' H' x v
  | _, _, .non => .non
  | _, _, .bl b => .bl b
  | _, _, .int i => .int i
  | _, _, .str x => .str x
  | _, _, .tup h r => .tup (h.monoW le) (RPs.monoW le r)
  | _, _, .pr h r q => .pr (le.tup _ _ h) (RP.monoW le r) (RP.monoW le q)
  | _, _, .fl h => .fl (h.elim (fun ⟨o, h⟩ => .inl ⟨o, le.frz _ _ _ h⟩) .inr)
  | _, _, .loc h => .loc (le.pre _ _ h)
theorem RPs.monoW (le : Lw K L H L' H') : ∀ {xs : List PV} {vs : List V}, RPs K L H xs vs → RPs K L' H' xs vs
  | _, _, .nil => .nil
  | _, _, .cons a b => .cons (RP.monoW le a) (RPs.monoW le b)
end
theorem RP.mono (le : Le K L H L' H') {x : PV} {v : V} (r : RP K L H x v) : RP K L' H' x v := r.monoW le.toLw
theorem RPs.mono (le : Le K L H L' H') {x : List PV} {v : List V} (r : RPs K L H x v) : RPs K L' H' x v := r.monoW le.toLw
theorem RPs.length : ∀ {xs : List PV} {vs : List V}, RPs K L H xs vs → xs.length = vs.length
  | _, _, .nil => rfl
  | _, _, .cons _ b => congrArg (· + 1) b.length
theorem RPs.get : ∀ {xs : List PV} {vs : List V} {i : Nat} {x : PV}, RPs K L H xs vs → xs[i]? = some x → ∃ v, vs[i]? = some v ∧ RP K L H x v
  | _, _, _, _, .nil, h => by simp at h
  | _, _, 0, _, .cons a _, h => by simp at h; subst h; exact ⟨_, rfl, a⟩
  | _, _, i + 1, _, .cons _ b, h => by
    obtain ⟨v, h1, h2⟩ := RPs.get (i := i) b (by simpa using h)
    exact ⟨v, by simpa using h1, h2⟩
theorem RPs.get' : ∀ {xs : List PV} {vs : List V} {i : Nat} {v : V}, RPs K L H xs vs → vs[i]? = some v → ∃ x, xs[i]? = some x ∧ RP K L H x v
  | _, _, _, _, .nil, h => by simp at h
  | _, _, 0, _, .cons a _, h => by simp at h; subst h; exact ⟨_, rfl, a⟩
  | _, _, i + 1, _, .cons _ b, h => by
    obtain ⟨v, h1, h2⟩ := RPs.get' (i := i) b (by simpa using h)
    exact ⟨v, by simpa using h1, h2⟩
theorem RPs.append : ∀ {xs ys : List PV} {vs ws : List V}, RPs K L H xs vs → RPs K L H ys ws → RPs K L H (xs ++ ys) (vs ++ ws)
  | _, _, _, _, .nil, s => s
  | _, _, _, _, .cons a b, s => .cons a (b.append s)
theorem RPs.take : ∀ {xs : List PV} {vs : List V} (n : Nat), RPs K L H xs vs → RPs K L H (xs.take n) (vs.take n)
  | _, _, 0, _ => .nil
  | _, _, _ + 1, .nil => .nil
  | _, _, n + 1, .cons a b => .cons a (b.take n)
theorem RPs.drop : ∀ {xs : List PV} {vs : List V} (n : Nat), RPs K L H xs vs → RPs K L H (xs.drop n) (vs.drop n)
  | _, _, 0, r => r
  | _, _, _ + 1, .nil => .nil
  | _, _, n + 1, .cons _ b => b.drop n
theorem RPs.set : ∀ {xs : List PV} {vs : List V} {x : PV} {v : V} (n : Nat), RPs K L H xs vs → RP K L H x v → RPs K L H (xs.set n x) (vs.set n v)
  | _, _, _, _, _, .nil, _ => .nil
  | _, _, _, _, 0, .cons _ b, h => .cons h b
  | _, _, _, _, n + 1, .cons a b, h => .cons a (b.set n h)
theorem RPs.eraseIdx : ∀ {xs : List PV} {vs : List V} (n : Nat), RPs K L H xs vs → RPs K L H (xs.eraseIdx n) (vs.eraseIdx n)
  | _, _, _, .nil => .nil
  | _, _, 0, .cons _ b => b
  | _, _, n + 1, .cons a b => .cons a (b.eraseIdx n)
theorem RPs.dropLast {xs : List PV} {vs : List V} (h : RPs K L H xs vs) : RPs K L H xs.dropLast vs.dropLast := by
  rw [List.dropLast_eq_take, List.dropLast_eq_take, h.length]
  exact h.take _
theorem RPs.rev : ∀ {xs : List PV} {vs : List V}, RPs K L H xs vs → RPs K L H xs.reverse vs.reverse
  | _, _, .nil => .nil
  | _, _, .cons a b => by
    rw [List.reverse_cons, List.reverse_cons]
    exact b.rev.append (.cons a .nil)
theorem RPs.rep {xs : List PV} {vs : List V} (h : RPs K L H xs vs) : ∀ k : Nat, RPs K L H (List.replicate k xs).flatten (List.replicate k vs).flatten
  | 0 => .nil
  | k + 1 => by
    rw [List.replicate_succ, List.replicate_succ, List.flatten_cons, List.flatten_cons]
    exact h.append (h.rep k)
theorem RPs.ints : ∀ (ns : List Int), RPs K L H (ns.map PV.int) (ns.map V.int)
  | [] => .nil
  | n :: r => .cons (.int n) (RPs.ints r)
theorem RPs.ints_of : ∀ {ns : List Int} {vs : List V}, RPs K L H (ns.map PV.int) vs → vs = ns.map V.int
  | [], _, .nil => rfl
  | n :: r, _, .cons a b => by
    cases a
    rw [RPs.ints_of b, List.map_cons]
theorem RPs.bls_of : ∀ {ns : List Bool} {vs : List V}, RPs K L H (ns.map PV.bl) vs → vs = ns.map V.bl
  | [], _, .nil => rfl
  | n :: r, _, .cons a b => by
    cases a
    rw [RPs.bls_of b, List.map_cons]
/-- content kept, the address's own entry kept -/
theorem RO.monoW (le : Lw K L H L' H') {o : Ob} {a : Addr} (h : RO K L H a o) (hH : ∀ u, H a = some u → H' a = some u) : RO K L' H' a o := by
  cases o with
  | lst xs =>
    obtain ⟨vs, e, r⟩ := h
    exact ⟨vs, hH _ e, r.monoW le⟩
  | dic kvs =>
    obtain ⟨ks, e, r1, r2⟩ := h
    exact ⟨ks, hH _ e, r1, r2.monoW le⟩
theorem RO.mono (le : Le K L H L' H') {o : Ob} {a : Addr} (h : RO K L H a o) (hH : ∀ u, H a = some u → H' a = some u) : RO K L' H' a o := h.monoW le.toLw hH
/-- what stands there is a list or a dict -/
theorem RO.is {o : Ob} {a : Addr} (h : RO K L H a o) : ∃ u, H a = some u ∧ ((∃ w, u = .lst w) ∨ ∃ k, u = .dK k) := by
  cases o with
  | lst xs =>
    obtain ⟨vs, e, r⟩ := h
    exact ⟨_, e, .inl ⟨vs, rfl⟩⟩
  | dic kvs =>
    obtain ⟨ks, e, r1, r2⟩ := h
    exact ⟨_, e, .inr ⟨ks, rfl⟩⟩
theorem RS.at_ (R : RS K L H S) {n : Nat} {a : Addr} (h : L[n]? = some a) : ∃ o, S[n]? = some o ∧ RO K L H a o := by
  have hl := (List.getElem?_eq_some_iff.mp h).1
  rw [R.len] at hl
  exact ⟨S[n], List.getElem?_eq_getElem hl, R.ob n _ a (List.getElem?_eq_getElem hl) h⟩
theorem RS.trk (R : RS K L H S) {a : Addr} (h : a ∈ L) : H a ≠ none := by
  obtain ⟨n, hn⟩ := List.mem_iff_getElem?.mp h
  obtain ⟨o, _, r⟩ := R.at_ hn
  obtain ⟨u, e, _⟩ := r.is
  rw [e]
  exact fun z => nomatch z
theorem sqt_upd {a p : Addr} {u : HO} {xs : List V} (hp : ∀ u0, H p = some u0 → (∃ w, u0 = .lst w) ∨ ∃ k, u0 = .dK k) (h : SqT K H a xs) : SqT K (upd H p u) a xs := by
  rcases h with (h | ⟨o, h⟩) | h
  · refine .inl (.inl ?_)
    rw [upd_ne]
    · exact h
    · rintro rfl
      obtain ⟨w, e⟩ | ⟨k, e⟩ := hp _ h <;> cases e
  · refine .inl (.inr ⟨o, ?_⟩)
    rw [upd_ne]
    · exact h
    · rintro rfl
      obtain ⟨w, e⟩ | ⟨k, e⟩ := hp _ h <;> cases e
  · exact .inr h
/-- a new object, known to the heap alone -/
theorem Le.new {p : Addr} {u : HO} (hp : H p = none) : Le K L H L (upd H p u) where
  pre := fun _ _ h => h
  tup := fun a xs h => sqt_upd (fun u0 e => by rw [hp] at e; cases e) h
  frz := fun a o u h => by
    rw [upd_ne (ne_of_none h hp)]
    exact h
  fr := fun a o h _ => by
    rw [upd_ne (ne_of_none h hp)]
    exact h
  nw := fun a m n => absurd m n
theorem RS.new {p : Addr} {u : HO} (hp : H p = none) (R : RS K L H S) : RS K L (upd H p u) S where
  len := R.len
  ob := fun n o a h1 h2 => (R.ob n o a h1 h2).mono (Le.new hp) fun w e => by
    rw [upd_ne (ne_of_none e hp)]
    exact e
  inj := R.inj
/-- a new object of the store -/
theorem Le.alloc {p : Addr} {u : HO} (hp : H p = none) : Le K L H (L ++ [p]) (upd H p u) where
  pre := fun n a h => by
    rw [List.getElem?_append_left (List.getElem?_eq_some_iff.mp h).1]
    exact h
  tup := fun a xs h => sqt_upd (fun u0 e => by rw [hp] at e; cases e) h
  frz := fun a o u h => by
    rw [upd_ne (ne_of_none h hp)]
    exact h
  fr := fun a o h _ => by
    rw [upd_ne (ne_of_none h hp)]
    exact h
  nw := fun a m n => by
    rcases List.mem_append.mp m with h | h
    · exact absurd h n
    · have e : a = p := by simpa using h
      rw [e]
      exact hp
theorem RS.alloc {p : Addr} {u : HO} {o : Ob} (hp : H p = none) (R : RS K L H S) (ho : RO K (L ++ [p]) (upd H p u) p o) : RS K (L ++ [p]) (upd H p u) (S ++ [o]) := by
  have ln := R.len
  have pL : p ∉ L := fun h => R.trk h hp
  have lastL : (L ++ [p])[S.length]? = some p := by rw [← ln]; simp
  have cases_ : ∀ (n : Nat) (a : Addr), (L ++ [p])[n]? = some a → (L[n]? = some a ∧ n < S.length) ∨ (n = S.length ∧ a = p) := fun n a h => by
    by_cases c : n < S.length
    · rw [List.getElem?_append_left (by omega)] at h
      exact .inl ⟨h, c⟩
    · have hl := (List.getElem?_eq_some_iff.mp h).1
      rw [List.length_append, List.length_singleton] at hl
      have e : n = S.length := by omega
      subst e
      rw [lastL] at h
      exact .inr ⟨rfl, (Option.some.inj h).symm⟩
  refine ⟨by simp [ln], fun n ob a h1 h2 => ?_, fun n m a h1 h2 => ?_⟩
  · rcases cases_ n a h2 with ⟨h2, c⟩ | ⟨rfl, rfl⟩
    · rw [List.getElem?_append_left c] at h1
      exact (R.ob n ob a h1 h2).mono (Le.alloc hp) fun w e => by
        rw [upd_ne (ne_of_none e hp)]
        exact e
    · have hS : (S ++ [o])[S.length]? = some o := by simp
      rw [hS] at h1
      cases h1
      exact ho
  · rcases cases_ n a h1 with ⟨g1, c⟩ | ⟨e1, a1⟩
    · rcases cases_ m a h2 with ⟨g2, c2⟩ | ⟨e2, a2⟩
      · exact R.inj n m a g1 g2
      · rw [a2] at g1
        exact absurd (List.mem_of_getElem? g1) pL
    · rcases cases_ m a h2 with ⟨g2, c2⟩ | ⟨e2, a2⟩
      · rw [a1] at g2
        exact absurd (List.mem_of_getElem? g2) pL
      · rw [e1, e2]
/-- an object of the store is written -/
theorem Le.write {n : Nat} {p : Addr} {u : HO} (R : RS K L H S) (hL : L[n]? = some p) : Le K L H L (upd H p u) := by
  obtain ⟨o, hS, r⟩ := R.at_ hL
  obtain ⟨u0, e0, h0⟩ := r.is
  refine ⟨⟨fun _ _ h => h, fun a xs h => sqt_upd (fun u1 e => ?_) h, fun a ob w h => ?_⟩, fun a ob h hn => ?_, fun a m n => absurd m n⟩
  · rw [e] at e0
    cases e0
    exact h0
  · rw [upd_ne]
    · exact h
    · rintro rfl
      rw [h] at e0
      cases e0
      rcases h0 with ⟨w, e⟩ | ⟨k, e⟩ <;> cases e
  · rw [upd_ne]
    · exact h
    · rintro rfl
      exact hn (List.mem_of_getElem? hL)
theorem RS.write {n : Nat} {p : Addr} {u : HO} {o' : Ob} (R : RS K L H S) (hL : L[n]? = some p) (ho : RO K L (upd H p u) p o') : RS K L (upd H p u) (S.set n o') where
  len := by simp [R.len]
  ob := fun m ob a h1 h2 => by
    by_cases e : n = m
    · subst e
      have hlt : n < S.length := by
        have := (List.getElem?_eq_some_iff.mp hL).1
        rw [R.len] at this
        exact this
      rw [List.getElem?_set_self hlt] at h1
      cases h1
      rw [hL] at h2
      cases h2
      exact ho
    · rw [List.getElem?_set_ne e] at h1
      refine (R.ob m ob a h1 h2).mono (Le.write R hL) fun w q => ?_
      rw [upd_ne]
      · exact q
      · rintro rfl
        exact e (R.inj n m a hL h2)
  inj := R.inj
/-- a list beside the store is written -/
theorem Lw.out {D : Addr} {w : List V} {u : HO} (hD : H D = some (.lst w)) : Lw K L H L (upd H D u) := ⟨fun _ _ h => h, fun a xs h => sqt_upd (fun u0 e => by
    rw [hD] at e
    cases e
    exact .inl ⟨_, rfl⟩) h, fun a ob v h => by
    rw [upd_ne]
    · exact h
    · rintro rfl
      rw [hD] at h
      cases h⟩
theorem Le.out {D : Addr} {w : List V} {u : HO} (le : Le K L H L1 H1) (h0 : H D = none) (hD : H1 D = some (.lst w)) : Le K L H L1 (upd H1 D u) where
  pre := le.pre
  tup := fun a xs h => (Lw.out (L := L1) hD).tup a xs (le.tup a xs h)
  frz := fun a o v h => (Lw.out (K := K) (L := L1) hD).frz a o v (le.frz a o v h)
  fr := fun a o h n => by
    rw [upd_ne (ne_of_none h h0)]
    exact le.fr a o h n
  nw := le.nw
theorem RS.out {D : Addr} {w : List V} {u : HO} (R : RS K L H S) (hD : H D = some (.lst w)) (hn : D ∉ L) : RS K L (upd H D u) S where
  len := R.len
  ob := fun n o a h1 h2 => (R.ob n o a h1 h2).monoW (Lw.out hD) fun v e => by
    rw [upd_ne]
    · exact e
    · rintro rfl
      exact hn (List.mem_of_getElem? h2)
  inj := R.inj
/-- .. and comes into it -/
theorem RS.come {D : Addr} {w : List V} {xs : List PV} (R : RS K L H S) (hD : H D = some (.lst w)) (hn : D ∉ L) (r : RPs K L H xs w) : RS K (L ++ [D]) H (S ++ [.lst xs]) := by
  have ln := R.len
  have lastL : (L ++ [D])[S.length]? = some D := by rw [← ln]; simp
  have cases_ : ∀ (n : Nat) (a : Addr), (L ++ [D])[n]? = some a → (L[n]? = some a ∧ n < S.length) ∨ (n = S.length ∧ a = D) := fun n a h => by
    by_cases c : n < S.length
    · rw [List.getElem?_append_left (by omega)] at h
      exact .inl ⟨h, c⟩
    · have hl := (List.getElem?_eq_some_iff.mp h).1
      rw [List.length_append, List.length_singleton] at hl
      have e : n = S.length := by omega
      subst e
      rw [lastL] at h
      exact .inr ⟨rfl, (Option.some.inj h).symm⟩
  have up : Lw K L H (L ++ [D]) H := ⟨fun n a h => by
    rw [List.getElem?_append_left (List.getElem?_eq_some_iff.mp h).1]
    exact h, fun _ _ h => h, fun _ _ _ h => h⟩
  refine ⟨by simp [ln], fun n ob a h1 h2 => ?_, fun n m a h1 h2 => ?_⟩
  · rcases cases_ n a h2 with ⟨g2, c⟩ | ⟨e2, a2⟩
    · rw [List.getElem?_append_left c] at h1
      exact (R.ob n ob a h1 g2).monoW up fun _ z => z
    · subst e2
      subst a2
      have hS : (S ++ [Ob.lst xs])[S.length]? = some (.lst xs) := by simp
      rw [hS] at h1
      cases h1
      exact ⟨w, hD, r.monoW up⟩
  · rcases cases_ n a h1 with ⟨g1, c⟩ | ⟨e1, a1⟩
    · rcases cases_ m a h2 with ⟨g2, c2⟩ | ⟨e2, a2⟩
      · exact R.inj n m a g1 g2
      · rw [a2] at g1
        exact absurd (List.mem_of_getElem? g1) hn
    · rcases cases_ m a h2 with ⟨g2, c2⟩ | ⟨e2, a2⟩
      · rw [a1] at g2
        exact absurd (List.mem_of_getElem? g2) hn
      · rw [e1, e2]
theorem Le.come {D : Addr} (le : Le K L H L1 H1) (h0 : H D = none) : Le K L H (L1 ++ [D]) H1 where
  pre := fun n a h => by
    have := le.pre n a h
    rw [List.getElem?_append_left (List.getElem?_eq_some_iff.mp this).1]
    exact this
  tup := le.tup
  frz := le.frz
  fr := le.fr
  nw := fun a m n => by
    rcases List.mem_append.mp m with h | h
    · exact le.nw a h n
    · have e : a = D := by simpa using h
      rw [e]
      exact h0
/-- a list that is read -/
def lstOf (x : PV) (S : Sto) : Option (List PV) := match x with
  | .fl ns => some (ns.map PV.int)
  | .loc n => match S[n]? with
    | some (.lst xs) => some xs
    | _ => none
  | _ => none
theorem lst_ok (R : RS K L H S) {x : PV} {u : V} {xs : List PV} (r : RP K L H x u) (h : lstOf x S = some xs) : ∃ a vs, u = .ref a ∧ SqL K H a vs ∧ RPs K L H xs vs := by
  cases r with
  | @fl a ns f =>
    cases h
    exact ⟨a, _, rfl, f.seq, RPs.ints ns⟩
  | @loc n a hL =>
    obtain ⟨o, hS, r⟩ := R.at_ hL
    unfold lstOf at h
    simp only [hS] at h
    cases o with
    | lst ys =>
      cases h
      obtain ⟨vs, e, r⟩ := r
      exact ⟨a, vs, rfl, SqL.of e, r⟩
    | dic _ => cases h
  | _ => cases h
/-- a list of the store -/
def ownOf (x : PV) (S : Sto) : Option (Nat × List PV) := match x with
  | .loc n => match S[n]? with
    | some (.lst xs) => some (n, xs)
    | _ => none
  | _ => none
theorem own_ok (R : RS K L H S) {x : PV} {u : V} {n : Nat} {xs : List PV} (r : RP K L H x u) (h : ownOf x S = some (n, xs)) : ∃ a vs, x = .loc n ∧ u = .ref a ∧ L[n]? = some a ∧ S[n]? = some (.lst xs) ∧ H a = some (.lst vs) ∧ RPs K L H xs vs := by
  cases r with
  | @loc m a hL =>
    obtain ⟨o, hS, r⟩ := R.at_ hL
    unfold ownOf at h
    simp only [hS] at h
    cases o with
    | lst ys =>
      cases h
      obtain ⟨vs, e, r⟩ := r
      exact ⟨a, vs, rfl, rfl, hL, hS, e, r⟩
    | dic _ => cases h
  | _ => cases h
end
/-! frames -/
structure RE (K : PySem.W.Frag) (L : List Addr) (H : Hp) (e : Sl) (σ : L2.St) : Prop where
  len : e.length = σ.length
  at_ : ∀ (i : Nat) (x : PV), e[i]? = some (some x) → ∃ v, σ[i]? = some (some v) ∧ RP K L H x v
section
variable {K : PySem.W.Frag} {L L' : List Addr} {H H' : Hp} {e : Sl} {σ : L2.St}
theorem RE.mono (le : Le K L H L' H') (h : RE K L H e σ) : RE K L' H' e σ :=
  ⟨h.len, fun i x q => let ⟨v, a, b⟩ := h.at_ i x q; ⟨v, a, b.mono le⟩⟩
theorem RE.set {x : PV} {v : V} (h : RE K L H e σ) (i : Nat) (r : RP K L H x v) : RE K L H (e.set i (some x)) (σ.set i (some v)) := by
  refine ⟨by simp [h.len], fun j y q => ?_⟩
  by_cases c : i = j
  · subst c
    have hlt : i < e.length := by
      have := (List.getElem?_eq_some_iff.mp q).1
      simpa using this
    rw [List.getElem?_set_self hlt] at q
    cases q
    exact ⟨v, List.getElem?_set_self (by rw [← h.len]; exact hlt), r⟩
  · rw [List.getElem?_set_ne c] at q
    rw [List.getElem?_set_ne c]
    exact h.at_ j y q
theorem RE.setN (h : RE K L H e σ) (i : Nat) : RE K L H (e.set i none) (σ.set i none) := by
  refine ⟨by simp [h.len], fun j y q => ?_⟩
  by_cases c : i = j
  · subst c
    have hlt : i < e.length := by
      have := (List.getElem?_eq_some_iff.mp q).1
      simpa using this
    rw [List.getElem?_set_self hlt] at q
    cases q
  · rw [List.getElem?_set_ne c] at q
    rw [List.getElem?_set_ne c]
    exact h.at_ j y q
/-- slots forgotten on this side alone -/
theorem RE.forget {e' : Sl} (h : RE K L H e σ) (hl : e'.length = e.length) (f : ∀ (i : Nat) (x : PV), e'[i]? = some (some x) → e[i]? = some (some x)) : RE K L H e' σ :=
  ⟨hl.trans h.len, fun i x q => h.at_ i x (f i x q)⟩
end
end EV
namespace EV
open PySem PySem.Spec PyProof.Rows L2
/-! tuples made, what is made told to the sign -/
def exT (its : List Value) : Obj := { cls := .type "tuple", data := .seq its.toArray }
section
variable {X : Cx} {pos : Pos} {es : List Expr} {t : TA}
theorem laidX {pins : List (Addr × Obj)} {σ : L2.St} {H : Hp} {s : Shared} {its : List Value} {ys : List V} (I : Inv X pins σ H s) (r : Vals ys its) (z : ys.length ≤ sizeLine) :
    Inv X pins σ (upd H s.heap.objs.size (.frz (exT its) (.tup ys))) { s with heap := s.heap.push (exT its), toks := s.toks } :=
  I.laid (t' := s.toks) (fun _ _ e => Heap.get?_push_of_some _ e) (Nat.le_refl _) ⟨Heap.get?_push_size _ rfl, z, its, r, ⟨_, Heap.get?_push_size _ rfl, rfl, _, rfl⟩⟩
def tTupX (t : TA) : TE := fun σ H Q => t σ H fun xs H1 => xs.length ≤ sizeLine ∧ ∀ (p : Addr) (o : Obj), H1 p = none → o.dict = none → Q (.ref p) (upd H1 p (.frz o (.tup xs)))
theorem pe_tupX {x1} (h : PA X es t) : PE X (.Tuple es x1 pos) (tTupX t) := by
  refine ⟨fun pins s σ H Q I hq => ?_⟩
  refine wpAny_Tuple_spliced (thn (h.run pos pins s σ H _ I hq) fun us s1 ⟨xs, H1, I1, r, z, q⟩ => ⟨by rw [← r.length]; exact z, ?_⟩)
  exact ⟨.ref s1.heap.objs.size, _, laidX I1 r z, rfl, q _ _ (I1.hok.fresh (Nat.le_refl _)) rfl⟩
def rCatX (K : PySem.W.Frag) : R2 := fun x y H Q => ∃ a b xs ys, x = .ref a ∧ y = .ref b ∧ SqT K H a xs ∧ SqT K H b ys ∧ xs.length + ys.length ≤ sizeLine ∧ (xs = [] → Q (.ref b) H) ∧ (xs ≠ [] → ys = [] → Q (.ref a) H) ∧
  (xs ≠ [] → ys ≠ [] → ∀ (p : Addr) (o : Obj), H p = none → o.dict = none → Q (.ref p) (upd H p (.frz o (.tup (xs ++ ys)))))
theorem op_catX : OpR X (binaryOp .Add) (rCatX X.K) := by
  intro pins s σ H x y v u Q I rx ry h
  obtain ⟨a, b, xs, ys, rfl, rfl, ha, hb, hz, q0, q1, q2⟩ := h
  cases rx
  cases ry
  obtain ⟨its, r1, p1, _⟩ := I.tuple ha
  obtain ⟨its2, r2, p2, _⟩ := I.tuple hb
  by_cases hx : xs = []
  · subst hx
    cases r1
    exact cat_tup0 p1 p2 ⟨.ref b, H, I, rfl, q0 rfl⟩
  · refine HT.cat_tup p1 p2 (fun z => hx (r1.nil_iff.mp z)) (fun z => ⟨.ref a, H, I, rfl, q1 hx (r2.nil_iff.mp z)⟩) (fun z => ?_) (by rw [← r1.length, ← r2.length]; exact hz)
    exact ⟨.ref s.heap.objs.size, _, laidX I (r1.append r2) (by rw [List.length_append]; exact hz), rfl, q2 hx (fun w => z (r2.nil_iff.mpr w)) _ _ (I.hok.fresh (Nat.le_refl _)) rfl⟩
def rSlX (K : PySem.W.Frag) : V → Option Int → Option Int → Hp → VK → Prop := fun x lo hi H Q => ∃ a xs, x = .ref a ∧ SqT K H a xs ∧
  (HT.sIx xs.length 0 lo = 0 ∧ HT.sIx xs.length xs.length hi = xs.length → Q (.ref a) H) ∧ (¬ (HT.sIx xs.length 0 lo = 0 ∧ HT.sIx xs.length xs.length hi = xs.length) → ∀ (p : Addr) (o : Obj), H p = none → o.dict = none → Q (.ref p) (upd H p (.frz o (.tup (cutV xs lo hi)))))
theorem sl_tupX : SlR X (rSlX X.K) := by
  intro pins s σ H x v vl vu lo hi sl Q I rx hs pl pu h
  obtain ⟨a, xs, rfl, hx, q1, q2⟩ := h
  cases rx
  obtain ⟨its, r, ht, hz⟩ := I.tuple hx
  have hlen : its.toArray.size = xs.length := by rw [List.size_toArray]; exact r.length.symm
  refine ⟨"tuple", _, PyProof.Rows.slot_tuple_getitem.lookup, ht.typeIs, ?_⟩
  by_cases hw : HT.sIx xs.length 0 lo = 0 ∧ HT.sIx xs.length xs.length hi = xs.length
  · exact getItem_tuple_whole ht hs pl pu (by rw [hlen]; exact hw) ⟨.ref a, H, I, rfl, q1 hw⟩
  · refine HT.getItem_tuple_cut ht hs pl pu (by rw [hlen]; exact hw) ?_ (by rw [hlen]; exact hz)
    rw [hlen]
    exact ⟨.ref s.heap.objs.size, _, laidX I ((r.drop (HT.sIx xs.length 0 lo)).take (HT.sIx xs.length xs.length hi - HT.sIx xs.length 0 lo)) (Nat.le_trans (cutV_length xs lo hi) hz), rfl, q2 hw _ _ (I.hok.fresh (Nat.le_refl _)) rfl⟩
theorem call_tupleX : CallR X (.type "tuple") (fun xs H Q => ∃ p ys, xs = [.ref p] ∧ ((SqL X.K H p ys ∧ ∀ (l : Addr) (o : Obj), H l = none → o.dict = none → Q (.ref l) (upd H l (.frz o (.tup ys)))) ∨ (SqT X.K H p ys ∧ Q (.ref p) H))) := by
  intro pins s σ H xs us Q I r h
  obtain ⟨p, ys, rfl, h⟩ := h
  obtain ⟨u, rfl, rx⟩ := vals1 r
  cases rx
  rcases h with ⟨hq, q⟩ | ⟨hq, q⟩
  · obtain ⟨its, r', pl, hz⟩ := I.list hq
    have hlen := r'.length
    refine call_tuple_list pl.isList (fun h' kp => ?_) (by simp only [List.size_toArray] <;> omega)
    have I1 : Inv X pins σ H { s with heap := h' } := I.kept (t' := s.toks) kp
    exact ⟨.ref h'.objs.size, _, laidX I1 r' hz, rfl, q _ _ (I1.hok.fresh (Nat.le_refl _)) rfl⟩
  · obtain ⟨its, r', pl, hz⟩ := I.tuple hq
    exact call_tuple_same pl ⟨.ref p, H, I, rfl, q⟩
end
/-! what evaluates to what: total functions, none where nothing is said -/
def bnd {α β : Type} (a : Option (α × Sto)) (f : α → Sto → Option β) : Option β := match a with
  | some (x, S) => f x S
  | none => none
theorem bnd_some {α β : Type} (x : α) (S : Sto) (f : α → Sto → Option β) : bnd (some (x, S)) f = f x S := rfl
theorem bnd_of {α β : Type} {a : Option (α × Sto)} {f : α → Sto → Option β} {r : β} (h : bnd a f = some r) : ∃ x S, a = some (x, S) ∧ f x S = some r := by
  cases a with
  | none => cases h
  | some p => exact ⟨p.1, p.2, rfl, h⟩
abbrev DE := Sl → Sto → Option (PV × Sto)
abbrev DT := Sl → Sto → Option (Bool × Sto)
abbrev DA := Sl → Sto → Option (List PV × Sto)
abbrev DO := Sl → Sto → Option (Option Int × Sto)
abbrev O1 := PV → Sto → Option (PV × Sto)
abbrev O2 := PV → PV → Sto → Option (PV × Sto)
abbrev ON := List PV → Sto → Option (PV × Sto)
section
variable (K : PySem.W.Frag)
def tE (d : DE) : TE := fun σ H Q => ∃ L S e x S', RS K L H S ∧ RE K L H e σ ∧ d e S = some (x, S') ∧ ∀ L' H' v, Le K L H L' H' → RS K L' H' S' → RP K L' H' x v → Q v H'
def tD (d : DT) : TT := fun σ H Q => ∃ L S e x S', RS K L H S ∧ RE K L H e σ ∧ d e S = some (x, S') ∧ ∀ L' H', Le K L H L' H' → RS K L' H' S' → Q x H'
def tA (d : DA) : TA := fun σ H Q => ∃ L S e x S', RS K L H S ∧ RE K L H e σ ∧ d e S = some (x, S') ∧ ∀ L' H' v, Le K L H L' H' → RS K L' H' S' → RPs K L' H' x v → Q v H'
def tO (d : DO) : TO := fun σ H Q => ∃ L S e x S', RS K L H S ∧ RE K L H e σ ∧ d e S = some (x, S') ∧ ∀ L' H', Le K L H L' H' → RS K L' H' S' → Q x H'
def r1 (o : O1) : V → Hp → VK → Prop := fun u H Q => ∃ L S x z S', RS K L H S ∧ RP K L H x u ∧ o x S = some (z, S') ∧ ∀ L' H' w, Le K L H L' H' → RS K L' H' S' → RP K L' H' z w → Q w H'
def r2 (o : O2) : R2 := fun u v H Q => ∃ L S x y z S', RS K L H S ∧ RP K L H x u ∧ RP K L H y v ∧ o x y S = some (z, S') ∧ ∀ L' H' w, Le K L H L' H' → RS K L' H' S' → RP K L' H' z w → Q w H'
def rN (o : ON) : List V → Hp → VK → Prop := fun us H Q => ∃ L S xs z S', RS K L H S ∧ RPs K L H xs us ∧ o xs S = some (z, S') ∧ ∀ L' H' w, Le K L H L' H' → RS K L' H' S' → RP K L' H' z w → Q w H'
end
theorem pe_imp {X : Cx} {e : Expr} {t t' : TE} (h : PE X e t) (f : ∀ σ H Q, t' σ H Q → t σ H Q) : PE X e t' := ⟨fun pins s σ H Q I q => h.run pins s σ H Q I (f σ H Q q)⟩
theorem pt_imp {X : Cx} {e : Expr} {t t' : TT} (h : PT X e t) (f : ∀ σ H Q, t' σ H Q → t σ H Q) : PT X e t' := ⟨fun pins s σ H Q I q => h.run pins s σ H Q I (f σ H Q q)⟩
theorem pw_imp {X : Cx} {e : Expr} {t t' : TT} (h : PW X e t) (f : ∀ σ H Q, t' σ H Q → t σ H Q) : PW X e t' := ⟨fun w pins s σ H Q I q => h.run w pins s σ H Q I (f σ H Q q)⟩
theorem pa_imp {X : Cx} {e : List Expr} {t t' : TA} (h : PA X e t) (f : ∀ σ H Q, t' σ H Q → t σ H Q) : PA X e t' := ⟨fun pos pins s σ H Q I q => h.run pos pins s σ H Q I (f σ H Q q)⟩
theorem pk_imp {X : Cx} {e : List Keyword} {t t' : TA} (h : PK X e t) (f : ∀ σ H Q, t' σ H Q → t σ H Q) : PK X e t' := ⟨fun pos pins s σ H Q I q => h.run pos pins s σ H Q I (f σ H Q q)⟩
theorem po_imp {X : Cx} {e : Option Expr} {t t' : TO} (h : PO X e t) (f : ∀ σ H Q, t' σ H Q → t σ H Q) : PO X e t' := ⟨fun pins s σ H Q I q => h.run pins s σ H Q I (f σ H Q q)⟩
theorem ps_imp {X : Cx} {e : Stmt} {t t' : TS} (h : PS X e t) (f : ∀ D σ H, t' D σ H → t D σ H) : PS X e t' := ⟨fun pins s σ H D I q => h.run pins s σ H D I (f D σ H q)⟩
theorem pss_imp {X : Cx} {e : List Stmt} {t t' : TS} (h : PSs X e t) (f : ∀ D σ H, t' D σ H → t D σ H) : PSs X e t' := ⟨fun pins s σ H D I q => h.run pins s σ H D I (f D σ H q)⟩
theorem pi_imp {X : Cx} {tg e : Expr} {t t' : TI} (h : PI X tg e t) (f : ∀ σ H Q, t' σ H Q → t σ H Q) : PI X tg e t' := ⟨fun pins s σ H Q I q => h.run pins s σ H Q I (f σ H Q q)⟩
abbrev XE (X : Cx) (e : Expr) (d : DE) : Prop := PE X e (tE X.K d)
abbrev XT (X : Cx) (e : Expr) (d : DT) : Prop := PT X e (tD X.K d)
abbrev XW (X : Cx) (e : Expr) (d : DT) : Prop := PW X e (tD X.K d)
abbrev XA (X : Cx) (e : List Expr) (d : DA) : Prop := PA X e (tA X.K d)
abbrev XK (X : Cx) (e : List Keyword) (d : DA) : Prop := PK X e (tA X.K d)
abbrev XO (X : Cx) (e : Option Expr) (d : DO) : Prop := PO X e (tO X.K d)
/-! names, constants -/
def eVar (i : Nat) : DE := fun e S => match e[i]? with
  | some (some x) => some (x, S)
  | _ => none
def eC (x : PV) : DE := fun _ S => some (x, S)
section
variable {X : Cx}
theorem xe_var {e : Expr} {i : Nat} (h : PE X e (tVar i)) : XE X e (eVar i) := pe_imp h fun σ H Q ⟨L, S, sl, x, S', R, E, h1, k⟩ => by
  unfold eVar at h1
  cases q : sl[i]? with
  | none => rw [q] at h1; cases h1
  | some o =>
    rw [q] at h1
    cases o with
    | none => cases h1
    | some y =>
      cases h1
      obtain ⟨v, hv, r⟩ := E.at_ i _ q
      exact ⟨v, hv, k L H v Le.refl R r⟩
theorem xe_c {e : Expr} {x : PV} {v : V} (h : PE X e (tC v)) (r : ∀ K L H, RP K L H x v) : XE X e (eC x) := pe_imp h fun σ H Q ⟨L, S, sl, y, S', R, E, h1, k⟩ => by
  cases h1
  exact k L H v Le.refl R (r _ _ _)
theorem xe_int {i : Int} {j pos} : XE X (.Constant (.int i) j pos) (eC (.int i)) := xe_c pe_int fun _ _ _ => .int i
theorem xe_bl {i : Bool} {j pos} : XE X (.Constant (.bool i) j pos) (eC (.bl i)) := xe_c pe_bl fun _ _ _ => .bl i
theorem xe_str {i : Str} {j pos} : XE X (.Constant (.str i) j pos) (eC (.str i)) := xe_c pe_str fun _ _ _ => .str i
theorem xe_non {j pos} : XE X (.Constant .none j pos) (eC .non) := xe_c pe_non fun _ _ _ => .non
/-! operators -/
def eOp (o : O2) (a b : DE) : DE := fun e S => bnd (a e S) fun x S1 => bnd (b e S1) fun y S2 => o x y S2
def eUn (o : O1) (a : DE) : DE := fun e S => bnd (a e S) fun x S1 => o x S1
theorem t_op {K : PySem.W.Frag} {o : O2} {a b : DE} (σ : L2.St) (H : Hp) (Q : VK) (h : tE K (eOp o a b) σ H Q) : tOp (r2 K o) (tE K a) (tE K b) σ H Q := by
  obtain ⟨L, S, e, z, S', R, E, h1, k⟩ := h
  obtain ⟨x, S1, q1, h1⟩ := bnd_of h1
  obtain ⟨y, S2, q2, h1⟩ := bnd_of h1
  refine ⟨L, S, e, x, S1, R, E, q1, fun L1 H1 u le1 R1 ru => ?_⟩
  refine ⟨L1, S1, e, y, S2, R1, E.mono le1, q2, fun L2 H2 v le2 R2 rv => ?_⟩
  exact ⟨L2, S2, x, y, z, S', R2, ru.mono le2, rv, h1, fun L3 H3 w le3 R3 rw => k L3 H3 w ((le1.trans le2).trans le3) R3 rw⟩
variable {a b c : Expr} {da db dc : DE} {pos : Pos}
theorem xe_op {op : Operator} {o : O2} (ho : OpR X (binaryOp op) (r2 X.K o)) (ha : XE X a da) (hb : XE X b db) : XE X (.BinOp a op b pos) (eOp o da db) := pe_imp (pe_op ho ha hb) t_op
theorem xe_cmp {op : CmpOp} {o : O2} (ho : OpR X (compareOp op) (r2 X.K o)) (ha : XE X a da) (hb : XE X b db) (hm : behindInMarks op b = false) : XE X (.Compare a [op] [b] pos) (eOp o da db) := pe_imp (pe_cmpR ho ha hb hm) t_op
theorem xe_ix {o : O2} (ho : IxR X (r2 X.K o)) (ha : XE X a da) (hb : XE X b db) (hs : PlainIx b) : XE X (.Subscript a b pos) (eOp o da db) := pe_imp (pe_ix ho ha hb hs) t_op
theorem xe_un {op : UnaryOp} {o : O1} (ho : UnR X (unaryOp op) (r1 X.K o)) (ha : XE X a da) : XE X (.UnaryOp op a pos) (eUn o da) := pe_imp (pe_un ho ha) fun σ H Q ⟨L, S, e, z, S', R, E, h1, k⟩ => by
  obtain ⟨x, S1, q1, h1⟩ := bnd_of h1
  exact ⟨L, S, e, x, S1, R, E, q1, fun L1 H1 u le1 R1 ru => ⟨L1, S1, x, z, S', R1, ru, h1, fun L2 H2 w le2 R2 rw => k L2 H2 w (le1.trans le2) R2 rw⟩⟩
/-! tests -/
def asB (x : PV) (S : Sto) : Option (Bool × Sto) := match x with
  | .bl b => some (b, S)
  | _ => none
theorem asB_of {x : PV} {S : Sto} {r : Bool × Sto} (h : asB x S = some r) : x = .bl r.1 ∧ r.2 = S := by
  cases x with
  | bl b =>
    cases h
    exact ⟨rfl, rfl⟩
  | _ => cases h
def dE (a : DE) : DT := fun e S => bnd (a e S) asB
theorem t_B {K : PySem.W.Frag} {d : DE} (σ : L2.St) (H : Hp) (Q : Bool → Hp → Prop) (h : tD K (dE d) σ H Q) : tE K d σ H fun x H1 => ∃ k, x = V.bl k ∧ Q k H1 := by
  obtain ⟨L, S, e, z, S', R, E, h1, k⟩ := h
  obtain ⟨x, S1, q1, h1⟩ := bnd_of h1
  obtain ⟨rfl, e2⟩ := asB_of h1
  cases e2
  refine ⟨L, S, e, _, S', R, E, q1, fun L' H' v le R' r => ?_⟩
  cases r
  exact ⟨z, rfl, k L' H' le R'⟩
theorem xt_val (h : XE X a da) (he : ∀ whole, isTrue a X.env whole = (do let v ← whole; standAt a.pos; holding [v] (truthy v)) := by intro _; rfl) : XT X a (dE da) := pt_imp (pt_val h he) t_B
theorem xt_cmp {op : CmpOp} {o : O2} (ho : OpR X (compareOp op) (r2 X.K o)) (ha : XE X a da) (hb : XE X b db) (hm : behindInMarks op b = false) : XT X (.Compare a [op] [b] pos) (dE (eOp o da db)) := pt_imp (pt_cmpR ho ha hb hm) fun σ H Q h => t_op σ H _ (t_B σ H Q h)
/-- a op b op' c -/
def eCh (o o' : O2) (a b c : DE) : DE := fun e S => bnd (a e S) fun x S1 => bnd (b e S1) fun y S2 => bnd (bnd (o x y S2) asB) fun k S3 => if k = true then bnd (c e S3) fun z S4 => o' y z S4 else some (.bl false, S3)
theorem t_ch {K : PySem.W.Frag} {o o' : O2} {a b c : DE} (σ : L2.St) (H : Hp) (Q : VK) (h : tE K (eCh o o' a b c) σ H Q) : tChain (r2 K o) (r2 K o') (tE K a) (tE K b) (tE K c) σ H Q := by
  obtain ⟨L, S, e, z, S', R, E, h1, k⟩ := h
  obtain ⟨x, S1, q1, h1⟩ := bnd_of h1
  obtain ⟨y, S2, q2, h1⟩ := bnd_of h1
  obtain ⟨b, S3, q3, h1⟩ := bnd_of h1
  obtain ⟨w, S3', q3, q4⟩ := bnd_of q3
  obtain ⟨rfl, e3⟩ := asB_of q4
  cases e3
  refine ⟨L, S, e, x, S1, R, E, q1, fun L1 H1 u le1 R1 ru => ?_⟩
  refine ⟨L1, S1, e, y, S2, R1, E.mono le1, q2, fun L2 H2 v le2 R2 rv => ?_⟩
  refine ⟨L2, S2, x, y, _, _, R2, ru.mono le2, rv, q3, fun L3 H3 w le3 R3 rw => ?_⟩
  cases rw
  refine ⟨b, rfl, ?_⟩
  cases b with
  | false =>
    simp only [Bool.false_eq_true, if_false] at h1 ⊢
    cases h1
    exact k L3 H3 _ ((le1.trans le2).trans le3) R3 (.bl false)
  | true =>
    simp only [if_true] at h1 ⊢
    obtain ⟨z', S4, q5, h1⟩ := bnd_of h1
    refine ⟨L3, _, e, z', S4, R3, E.mono ((le1.trans le2).trans le3), q5, fun L4 H4 w le4 R4 rw => ?_⟩
    exact ⟨L4, S4, y, z', z, S', R4, (rv.mono le3).mono le4, rw, h1, fun L5 H5 w le5 R5 rw => k L5 H5 w (((le1.trans le2).trans le3).trans (le4.trans le5)) R5 rw⟩
theorem xe_chain {op op' : CmpOp} {o o' : O2} (ho : OpR X (compareOp op) (r2 X.K o)) (ho' : OpR X (compareOp op') (r2 X.K o')) (ha : XE X a da) (hb : XE X b db) (hc : XE X c dc) (hm : lastMarks [op, op'] [b, c] = false := by with_unfolding_all rfl) :
    XE X (.Compare a [op, op'] [b, c] pos) (eCh o o' da db dc) := pe_imp (pe_chain ho ho' ha hb hc hm) t_ch
theorem xt_chain {op op' : CmpOp} {o o' : O2} (ho : OpR X (compareOp op) (r2 X.K o)) (ho' : OpR X (compareOp op') (r2 X.K o')) (ha : XE X a da) (hb : XE X b db) (hc : XE X c dc) (hm : lastMarks [op, op'] [b, c] = false := by with_unfolding_all rfl) :
    XT X (.Compare a [op, op'] [b, c] pos) (dE (eCh o o' da db dc)) := pt_imp (pt_chain ho ho' ha hb hc hm) fun σ H Q h => t_ch σ H _ (t_B σ H Q h)
/-! and, or, not, if -/
variable {ta tb : DT} {rest : List Expr}
def dAnd (a b : DT) : DT := fun e S => bnd (a e S) fun k S1 => if k = true then b e S1 else some (false, S1)
def dOr (a b : DT) : DT := fun e S => bnd (a e S) fun k S1 => if k = true then some (true, S1) else b e S1
def dNot (a : DT) : DT := fun e S => bnd (a e S) fun k S1 => some (!k, S1)
theorem xw_and1 (ha : XT X a ta) : XW X (.BoolOp .And [a] pos) ta := pw_and1 ha
theorem xw_or1 (ha : XT X a ta) : XW X (.BoolOp .Or [a] pos) ta := pw_or1 ha
theorem xw_and (ha : XT X a ta) (hb : XW X (.BoolOp .And (b :: rest) pos) tb) : XW X (.BoolOp .And (a :: b :: rest) pos) (dAnd ta tb) := pw_imp (pw_and ha hb) fun σ H Q ⟨L, S, e, z, S', R, E, h1, k⟩ => by
  obtain ⟨x, S1, q1, h1⟩ := bnd_of h1
  refine ⟨L, S, e, x, S1, R, E, q1, fun L1 H1 le1 R1 => ?_⟩
  cases x with
  | false =>
    simp only [Bool.false_eq_true, if_false] at h1 ⊢
    cases h1
    exact k L1 H1 le1 R1
  | true =>
    simp only [if_true] at h1 ⊢
    exact ⟨L1, S1, e, z, S', R1, E.mono le1, h1, fun L2 H2 le2 R2 => k L2 H2 (le1.trans le2) R2⟩
theorem xw_or (ha : XT X a ta) (hb : XW X (.BoolOp .Or (b :: rest) pos) tb) : XW X (.BoolOp .Or (a :: b :: rest) pos) (dOr ta tb) := pw_imp (pw_or ha hb) fun σ H Q ⟨L, S, e, z, S', R, E, h1, k⟩ => by
  obtain ⟨x, S1, q1, h1⟩ := bnd_of h1
  refine ⟨L, S, e, x, S1, R, E, q1, fun L1 H1 le1 R1 => ?_⟩
  cases x with
  | true =>
    simp only [if_true] at h1 ⊢
    cases h1
    exact k L1 H1 le1 R1
  | false =>
    simp only [Bool.false_eq_true, if_false] at h1 ⊢
    exact ⟨L1, S1, e, z, S', R1, E.mono le1, h1, fun L2 H2 le2 R2 => k L2 H2 (le1.trans le2) R2⟩
theorem XW.xt (h : XW X a ta) : XT X a ta := PW.pt h
theorem xt_not (ha : XT X a ta) : XT X (.UnaryOp .Not a pos) (dNot ta) := pt_imp (pt_not ha) fun σ H Q ⟨L, S, e, z, S', R, E, h1, k⟩ => by
  obtain ⟨x, S1, q1, h1⟩ := bnd_of h1
  cases h1
  exact ⟨L, S, e, x, _, R, E, q1, fun L1 H1 le1 R1 => k L1 H1 le1 R1⟩
/-- a test's answer as a value -/
def eAnd (a b : DE) : DE := fun e S => bnd (bnd (a e S) asB) fun k S1 => if k = true then b e S1 else some (.bl false, S1)
def eOr (a b : DE) : DE := fun e S => bnd (bnd (a e S) asB) fun k S1 => if k = true then some (.bl true, S1) else b e S1
def eNot (a : DE) : DE := fun e S => bnd (bnd (a e S) asB) fun k S1 => some (.bl (!k), S1)
theorem xe_one {op} (h : XE X a da) : XE X (.BoolOp op [a] pos) da := pe_one h
theorem xe_and (ha : XE X a da) (hb : XE X (.BoolOp .And (b :: rest) pos) db) : XE X (.BoolOp .And (a :: b :: rest) pos) (eAnd da db) := pe_imp (pe_and ha hb) fun σ H Q ⟨L, S, e, z, S', R, E, h1, k⟩ => by
  obtain ⟨x, S1, q1, h1⟩ := bnd_of h1
  obtain ⟨y, S1', q1, q2⟩ := bnd_of q1
  obtain ⟨rfl, e1⟩ := asB_of q2
  cases e1
  refine ⟨L, S, e, _, _, R, E, q1, fun L1 H1 v le1 R1 rv => ?_⟩
  cases rv
  refine ⟨x, rfl, ?_⟩
  cases x with
  | false =>
    simp only [Bool.false_eq_true, if_false] at h1 ⊢
    cases h1
    exact k L1 H1 _ le1 R1 (.bl false)
  | true =>
    simp only [if_true] at h1 ⊢
    exact ⟨L1, _, e, z, S', R1, E.mono le1, h1, fun L2 H2 v le2 R2 => k L2 H2 v (le1.trans le2) R2⟩
theorem xe_or (ha : XE X a da) (hb : XE X (.BoolOp .Or (b :: rest) pos) db) : XE X (.BoolOp .Or (a :: b :: rest) pos) (eOr da db) := pe_imp (pe_or ha hb) fun σ H Q ⟨L, S, e, z, S', R, E, h1, k⟩ => by
  obtain ⟨x, S1, q1, h1⟩ := bnd_of h1
  obtain ⟨y, S1', q1, q2⟩ := bnd_of q1
  obtain ⟨rfl, e1⟩ := asB_of q2
  cases e1
  refine ⟨L, S, e, _, _, R, E, q1, fun L1 H1 v le1 R1 rv => ?_⟩
  cases rv
  refine ⟨x, rfl, ?_⟩
  cases x with
  | true =>
    simp only [if_true] at h1 ⊢
    cases h1
    exact k L1 H1 _ le1 R1 (.bl true)
  | false =>
    simp only [Bool.false_eq_true, if_false] at h1 ⊢
    exact ⟨L1, _, e, z, S', R1, E.mono le1, h1, fun L2 H2 v le2 R2 => k L2 H2 v (le1.trans le2) R2⟩
theorem xe_not (ha : XE X a da) : XE X (.UnaryOp .Not a pos) (eNot da) := pe_imp (pe_not ha) fun σ H Q ⟨L, S, e, z, S', R, E, h1, k⟩ => by
  obtain ⟨x, S1, q1, h1⟩ := bnd_of h1
  obtain ⟨y, S1', q1, q2⟩ := bnd_of q1
  obtain ⟨rfl, e1⟩ := asB_of q2
  cases e1
  cases h1
  refine ⟨L, S, e, _, _, R, E, q1, fun L1 H1 v le1 R1 rv => ?_⟩
  cases rv
  exact ⟨x, rfl, k L1 H1 _ le1 R1 (.bl _)⟩
def eIf (t : DT) (a b : DE) : DE := fun e S => bnd (t e S) fun k S1 => if k = true then a e S1 else b e S1
theorem xe_if (hc : XT X c ta) (ha : XE X a da) (hb : XE X b db) : XE X (.IfExp c a b pos) (eIf ta da db) := pe_imp (pe_ifExp hc ha hb) fun σ H Q ⟨L, S, e, z, S', R, E, h1, k⟩ => by
  obtain ⟨x, S1, q1, h1⟩ := bnd_of h1
  refine ⟨L, S, e, x, S1, R, E, q1, fun L1 H1 le1 R1 => ?_⟩
  cases x with
  | true =>
    simp only [if_true] at h1 ⊢
    exact ⟨L1, S1, e, z, S', R1, E.mono le1, h1, fun L2 H2 v le2 R2 => k L2 H2 v (le1.trans le2) R2⟩
  | false =>
    simp only [Bool.false_eq_true, if_false] at h1 ⊢
    exact ⟨L1, S1, e, z, S', R1, E.mono le1, h1, fun L2 H2 v le2 R2 => k L2 H2 v (le1.trans le2) R2⟩
/-! argument lists, displays, calls -/
variable {es : List Expr} {ds : DA}
def aNil : DA := fun _ S => some ([], S)
def aCons (a : DE) (r : DA) : DA := fun e S => bnd (a e S) fun x S1 => bnd (r e S1) fun xs S2 => some (x :: xs, S2)
theorem t_nil {K : PySem.W.Frag} (σ : L2.St) (H : Hp) (Q : List V → Hp → Prop) (h : tA K aNil σ H Q) : tNil σ H Q := by
  obtain ⟨L, S, e, z, S', R, E, h1, k⟩ := h
  cases h1
  exact k L H [] Le.refl R .nil
theorem t_cons {K : PySem.W.Frag} {a : DE} {r : DA} (σ : L2.St) (H : Hp) (Q : List V → Hp → Prop) (h : tA K (aCons a r) σ H Q) : tCons (tE K a) (tA K r) σ H Q := by
  obtain ⟨L, S, e, z, S', R, E, h1, k⟩ := h
  obtain ⟨x, S1, q1, h1⟩ := bnd_of h1
  obtain ⟨xs, S2, q2, h1⟩ := bnd_of h1
  cases h1
  refine ⟨L, S, e, x, S1, R, E, q1, fun L1 H1 u le1 R1 ru => ?_⟩
  exact ⟨L1, S1, e, xs, _, R1, E.mono le1, q2, fun L2 H2 us le2 R2 rus => k L2 H2 _ (le1.trans le2) R2 (.cons (ru.mono le2) rus)⟩
theorem xa_nil : XA X [] aNil := pa_imp pa_nil t_nil
theorem xa_cons (ha : XE X a da) (hr : XA X es ds) (hs : starEach (a :: es) X.env = (false, eval a X.env) :: starEach es X.env := by rfl) : XA X (a :: es) (aCons da ds) := pa_imp (pa_cons ha hr hs) t_cons
theorem xk_nil : XK X [] aNil := pk_imp pk_nil t_nil
theorem xk_cons {nm : Option Str} {kpos : Pos} {kws : List Keyword} (ha : XE X a da) (hr : XK X kws ds) : XK X (⟨nm, a, kpos⟩ :: kws) (aCons da ds) := pk_imp (pk_cons ha hr) t_cons
theorem szl : sizeLine = 16777216 := rfl
def mkT (xs : List PV) (S : Sto) : Option (PV × Sto) := if xs.length ≤ 16777216 then some (.tup xs, S) else none
def mkL (xs : List PV) (S : Sto) : Option (PV × Sto) := if xs.length ≤ 16777216 then some (.loc S.length, S ++ [.lst xs]) else none
section
variable {K : PySem.W.Frag} {L : List Addr} {H : Hp} {S S' : Sto} {xs : List PV} {vs : List V} {z : PV} {Q : VK}
/-- a new tuple -/
theorem mkT_okX (R : RS K L H S) (r : RPs K L H xs vs) (h : mkT xs S = some (z, S')) (k : ∀ L' H' v, Le K L H L' H' → RS K L' H' S' → RP K L' H' z v → Q v H') :
    vs.length ≤ sizeLine ∧ ∀ (p : Addr) (o : Obj), H p = none → o.dict = none → Q (.ref p) (upd H p (.frz o (.tup vs))) := by
  unfold mkT at h
  split at h
  · cases h
    rename_i hl
    refine ⟨by rw [← r.length]; exact hl, fun p o hp ho => ?_⟩
    have le : Le K L H L (upd H p (.frz o (.tup vs))) := Le.new hp
    exact k L _ _ le (R.new hp) (.tup (.inl ⟨o, upd_same, ho⟩) (r.mono le))
  · cases h
/-- a new list -/
theorem mkL_ok (R : RS K L H S) (r : RPs K L H xs vs) (h : mkL xs S = some (z, S')) (k : ∀ L' H' v, Le K L H L' H' → RS K L' H' S' → RP K L' H' z v → Q v H') :
    vs.length ≤ sizeLine ∧ ∀ p, H p = none → Q (.ref p) (upd H p (.lst vs)) := by
  unfold mkL at h
  split at h
  · cases h
    rename_i hl
    refine ⟨by rw [← r.length]; exact hl, fun p hp => ?_⟩
    have le : Le K L H (L ++ [p]) (upd H p (.lst vs)) := Le.alloc hp
    exact k _ _ _ le (R.alloc hp ⟨vs, upd_same, r.mono le⟩) (.loc (by rw [← R.len]; simp))
  · cases h
end
def eA (g : ON) (d : DA) : DE := fun e S => bnd (d e S) g
theorem xe_tup {x1} (h : XA X es ds) : XE X (.Tuple es x1 pos) (eA mkT ds) := pe_imp (pe_tupX h) fun σ H Q ⟨L, S, e, z, S', R, E, h1, k⟩ => by
  obtain ⟨xs, S1, q1, h1⟩ := bnd_of h1
  exact ⟨L, S, e, xs, S1, R, E, q1, fun L1 H1 us le1 R1 rus => mkT_okX R1 rus h1 fun L2 H2 v le2 => k L2 H2 v (le1.trans le2)⟩
theorem xe_lst (h : XA X es ds) : XE X (.List es pos) (eA mkL ds) := pe_imp (pe_lst h) fun σ H Q ⟨L, S, e, z, S', R, E, h1, k⟩ => by
  obtain ⟨xs, S1, q1, h1⟩ := bnd_of h1
  exact ⟨L, S, e, xs, S1, R, E, q1, fun L1 H1 us le1 R1 rus => mkL_ok R1 rus h1 fun L2 H2 v le2 => k L2 H2 v (le1.trans le2)⟩
theorem t_cb {K : PySem.W.Frag} {g : ON} {d : DA} (σ : L2.St) (H : Hp) (Q : VK) (h : tE K (eA g d) σ H Q) : tCB (rN K g) (tA K d) σ H Q := by
  obtain ⟨L, S, e, z, S', R, E, h1, k⟩ := h
  obtain ⟨xs, S1, q1, h1⟩ := bnd_of h1
  exact ⟨L, S, e, xs, S1, R, E, q1, fun L1 H1 us le1 R1 rus => ⟨L1, S1, xs, z, S', R1, rus, h1, fun L2 H2 w le2 => k L2 H2 w (le1.trans le2)⟩⟩
variable {x : Str} {p : Pos} {id T : String} {g : ON}
theorem xe_callB (hc : CallR X (.builtin id) (rN X.K g)) (hg : Gl X x) (hm : X.mg x = none) (hv : bootBuiltins x = some (.builtin id)) (ha : XA X (a :: es) ds) (hn : x ≠ "__name__" := by decide) (hdb : (x == ("__debug__" : Str)) = false := by decide)
    (he : starEach (a :: es) X.env = (false, eval a X.env) :: starEach es X.env := by rfl) (hpl : (backTo pos (starEach es X.env)).any (·.1) = false := by rfl) : XE X (.Call (.Name x p) (a :: es) [] pos) (eA g ds) :=
  pe_imp (pe_callB hc hg hm hv ha hn hdb he hpl) t_cb
theorem xe_callTy (hc : CallR X (.type T) (rN X.K g)) (hg : Gl X x) (hm : X.mg x = none) (hv : bootBuiltins x = some (.type T)) (ha : XA X (a :: es) ds) (hn : x ≠ "__name__" := by decide) (hdb : (x == ("__debug__" : Str)) = false := by decide)
    (he : starEach (a :: es) X.env = (false, eval a X.env) :: starEach es X.env := by rfl) (hpl : (backTo pos (starEach es X.env)).any (·.1) = false := by rfl) : XE X (.Call (.Name x p) (a :: es) [] pos) (eA g ds) :=
  pe_imp (pe_callTy hc hg hm hv ha hn hdb he hpl) t_cb
/-! slices -/
variable {lo hi : Option Expr} {dl dh : DO}
def oNon : DO := fun _ S => some (none, S)
def asI (x : PV) (S : Sto) : Option (Option Int × Sto) := match x with
  | .int i => some (some i, S)
  | _ => none
def oSm (a : DE) : DO := fun e S => bnd (a e S) asI
theorem xo_none : XO X none oNon := po_imp po_none fun σ H Q ⟨L, S, e, z, S', R, E, h1, k⟩ => by
  cases h1
  exact k L H Le.refl R
theorem xo_some (h : XE X a da) : XO X (some a) (oSm da) := po_imp (po_some h) fun σ H Q ⟨L, S, e, z, S', R, E, h1, k⟩ => by
  obtain ⟨x, S1, q1, h1⟩ := bnd_of h1
  cases x <;> first
    | cases h1
    | skip
  rename_i i
  refine ⟨L, S, e, _, _, R, E, q1, fun L1 H1 v le1 R1 rv => ?_⟩
  cases rv
  exact ⟨i, rfl, k L1 H1 le1 R1⟩
abbrev OS := PV → Option Int → Option Int → Sto → Option (PV × Sto)
def rSl (K : PySem.W.Frag) (o : OS) : V → Option Int → Option Int → Hp → VK → Prop := fun u l h H Q => ∃ L S x z S', RS K L H S ∧ RP K L H x u ∧ o x l h S = some (z, S') ∧ ∀ L' H' w, Le K L H L' H' → RS K L' H' S' → RP K L' H' z w → Q w H'
def eSl (o : OS) (a : DE) (l h : DO) : DE := fun e S => bnd (a e S) fun x S1 => bnd (l e S1) fun i S2 => bnd (h e S2) fun j S3 => o x i j S3
theorem xe_slice {o : OS} {p2 : Pos} (hr : SlR X (rSl X.K o)) (ha : XE X a da) (hl : XO X lo dl) (hu : XO X hi dh) : XE X (.Subscript a (.Slice lo hi none p2) pos) (eSl o da dl dh) := pe_imp (pe_slice hr ha hl hu) fun σ H Q ⟨L, S, e, z, S', R, E, h1, k⟩ => by
  obtain ⟨x, S1, q1, h1⟩ := bnd_of h1
  obtain ⟨i, S2, q2, h1⟩ := bnd_of h1
  obtain ⟨j, S3, q3, h1⟩ := bnd_of h1
  refine ⟨L, S, e, x, S1, R, E, q1, fun L1 H1 u le1 R1 ru => ?_⟩
  refine ⟨L1, S1, e, i, S2, R1, E.mono le1, q2, fun L2 H2 le2 R2 => ?_⟩
  refine ⟨L2, S2, e, j, S3, R2, E.mono (le1.trans le2), q3, fun L3 H3 le3 R3 => ?_⟩
  exact ⟨L3, S3, x, z, S', R3, ru.mono (le2.trans le3), h1, fun L4 H4 w le4 => k L4 H4 w (((le1.trans le2).trans le3).trans le4)⟩
/-! methods of built-in types -/
abbrev OM := PV → List PV → Sto → Option (PV × Sto)
def rM (K : PySem.W.Frag) (o : OM) : V → List V → Hp → VK → Prop := fun u us H Q => ∃ L S x xs z S', RS K L H S ∧ RP K L H x u ∧ RPs K L H xs us ∧ o x xs S = some (z, S') ∧ ∀ L' H' w, Le K L H L' H' → RS K L' H' S' → RP K L' H' z w → Q w H'
/-- the type of a value, by name -/
def tyN (x : PV) (S : Sto) : Option String := match x with
  | .non => some "NoneType"
  | .bl _ => some "bool"
  | .int _ => some "int"
  | .str _ => some "str"
  | .tup _ => some "tuple"
  | .fl _ => some "list"
  | .loc n => match S[n]? with
    | some (.dic _) => some "dict"
    | some _ => some "list"
    | none => none
  | .pr _ _ => none
def isTy (T : String) (x : PV) (S : Sto) : Bool := match x with
  | .str _ => T == "str"
  | .loc _ => tyN x S == some T
  | .fl _ => T == "list"
  | _ => false
def eM (T : String) (o : OM) (a : DE) (d : DA) : DE := fun e S => bnd (a e S) fun x S1 => if isTy T x S1 = true then bnd (d e S1) fun xs S2 => o x xs S2 else none
theorem isTy_ok {K : PySem.W.Frag} {L : List Addr} {H : Hp} {S : Sto} {T : String} {x : PV} {u : V} (R : RS K L H S) (r : RP K L H x u) (h : isTy T x S = true) : tyV K T u H := by
  cases r with
  | str z => exact beq_iff_eq.mp h
  | @fl ad ns f => exact .inl ⟨beq_iff_eq.mp h, _, f.seq⟩
  | @loc n ad hL =>
    have h' : tyN (.loc n) S = some T := beq_iff_eq.mp h
    unfold tyN at h'
    obtain ⟨o, hS, q⟩ := R.at_ hL
    simp only [hS] at h'
    cases o with
    | lst xs =>
      cases h'
      obtain ⟨vs, e, _⟩ := q
      exact .inl ⟨rfl, vs, SqL.of e⟩
    | dic kvs =>
      cases h'
      obtain ⟨ks, e, _⟩ := q
      exact .inr (.inr (.inl ⟨rfl, .inl ⟨ks, e⟩⟩))
  | non => cases h
  | bl b => cases h
  | int i => cases h
  | tup _ _ => cases h
  | pr _ _ _ => cases h
theorem t_bm {K : PySem.W.Frag} {T : String} {o : OM} {a : DE} {d : DA} (σ : L2.St) (H : Hp) (Q : VK) (h : tE K (eM T o a d) σ H Q) : tBM K T (rM K o) (tE K a) (tA K d) σ H Q := by
  obtain ⟨L, S, e, z, S', R, E, h1, k⟩ := h
  obtain ⟨x, S1, q1, h1⟩ := bnd_of h1
  refine ⟨L, S, e, x, S1, R, E, q1, fun L1 H1 u le1 R1 ru => ?_⟩
  split at h1
  · rename_i ht
    refine ⟨isTy_ok R1 ru ht, ?_⟩
    obtain ⟨xs, S2, q2, h1⟩ := bnd_of h1
    refine ⟨L1, S1, e, xs, S2, R1, E.mono le1, q2, fun L2 H2 us le2 R2 rus => ?_⟩
    exact ⟨L2, S2, x, xs, z, S', R2, ru.mono le2, rus, h1, fun L3 H3 w le3 => k L3 H3 w ((le1.trans le2).trans le3)⟩
  · cases h1
variable {name : Str} {apos cpos : Pos} {o : OM}
theorem xe_bm0 (pa : PlainAttrs T) (slot : Slot T name id) (hty : typeOf (.builtin id) = pure (.type "method_descriptor")) (hm : MtR X id (rM X.K o)) (ho : XE X a da)
    (hbase : attributeBase a name X.env (eval a X.env) = eval a X.env := by rfl) (hline : (apos.endLine == cpos.line) = true := by rfl) : XE X (.Call (.Attribute a name apos) [] [] cpos) (eM T o da aNil) :=
  pe_imp (pe_bm0 pa slot hty hm ho hbase hline) fun σ H Q h => by
    obtain ⟨L, S, e, z, S', R, E, h1, k⟩ := h
    obtain ⟨x, S1, q1, h1⟩ := bnd_of h1
    refine ⟨L, S, e, x, S1, R, E, q1, fun L1 H1 u le1 R1 ru => ?_⟩
    split at h1
    · rename_i ht
      refine ⟨isTy_ok R1 ru ht, ?_⟩
      obtain ⟨xs, S2, q2, h1⟩ := bnd_of h1
      cases q2
      exact ⟨L1, S1, x, [], z, S', R1, ru, .nil, h1, fun L3 H3 w le3 => k L3 H3 w (le1.trans le3)⟩
    · cases h1
theorem xe_bm (pa : PlainAttrs T) (slot : Slot T name id) (hty : typeOf (.builtin id) = pure (.type "method_descriptor")) (hm : MtR X id (rM X.K o)) (ho : XE X a da) (ha : XA X (b :: es) ds)
    (hbase : attributeBase a name X.env (eval a X.env) = eval a X.env := by rfl)
    (hfew : ((backTo cpos (starEach (b :: es) X.env)).all (fun x => !x.1) && (backToKw cpos (keywordEach [] X.env)).all (fun x => x.1.isSome)
      && decide ((b :: es).length + ([] : List Keyword).length + (if ([] : List Keyword).isEmpty then 0 else 1) < 30)) = true := by rfl)
    (hline : (apos.endLine == cpos.line) = true := by rfl) (hs : starEach (b :: es) X.env = (false, eval b X.env) :: starEach es X.env := by rfl) (hplain : (backTo cpos (starEach es X.env)).any (·.1) = false := by rfl) :
    XE X (.Call (.Attribute a name apos) (b :: es) [] cpos) (eM T o da ds) := pe_imp (pe_bm pa slot hty hm ho ha hbase hfew hline hs hplain) t_bm
end
end EV
namespace EV
open PySem PySem.Spec PyProof.Rows L2
/-! the least fuel that comes to an end -/
open Classical in
noncomputable def lim {α : Type} (F : Nat → Option α) : Option α := if h : ∃ n, (F n).isSome = true then F h.choose else none
theorem lim_of {α : Type} {F : Nat → Option α} {r : α} (h : lim F = some r) : ∃ n, F n = some r := by
  unfold lim at h
  split at h
  · exact ⟨_, h⟩
  · cases h
theorem lim_eq {α : Type} {F : Nat → Option α} (mono : ∀ n r, F n = some r → F (n + 1) = some r) {n : Nat} {r : α} (h : F n = some r) : lim F = some r := by
  have up : ∀ (k m : Nat) (q : α), F m = some q → F (m + k) = some q := by
    intro k
    induction k with
    | zero => exact fun m q e => e
    | succ k ih => exact fun m q e => mono _ _ (ih m q e)
  have hx : ∃ n, (F n).isSome = true := ⟨n, by rw [h]; rfl⟩
  unfold lim
  rw [dif_pos hx]
  obtain ⟨q, hq⟩ := Option.isSome_iff_exists.mp hx.choose_spec
  have a := up n _ q hq
  have b := up hx.choose n r h
  rw [Nat.add_comm] at a
  rw [hq]
  exact a.symm.trans b
/-! statements -/
inductive Out where
  | nx | rt (x : PV) | bk | ct
abbrev DS := Sl → Sto → Option (Out × Sl × Sto)
def oEnd (K : PySem.W.Frag) (D : Ends) (L : List Addr) (H : Hp) (e : Sl) : Out → Prop
  | .nx => ∀ σ, RE K L H e σ → D.nx σ H
  | .rt x => ∀ v, RP K L H x v → D.rt v H
  | .bk => ∀ σ, RE K L H e σ → D.bk σ H
  | .ct => ∀ σ, RE K L H e σ → D.ct σ H
def tS (K : PySem.W.Frag) (d : DS) : TS := fun D σ H => ∃ L S e o e' S', RS K L H S ∧ RE K L H e σ ∧ d e S = some (o, e', S') ∧ ∀ L' H', Le K L H L' H' → RS K L' H' S' → oEnd K D L' H' e' o
abbrev XS (X : Cx) (st : Stmt) (d : DS) : Prop := PS X st (tS X.K d)
abbrev XSs (X : Cx) (st : List Stmt) (d : DS) : Prop := PSs X st (tS X.K d)
/-! targets: which slots hold what behind -/
abbrev DG := PV → Option (List (Nat × PV))
abbrev DGs := List PV → Option (List (Nat × PV))
def setP (e : Sl) (as : List (Nat × PV)) : Sl := as.foldl (fun s p => s.set p.1 (some p.2)) e
def setV (σ : L2.St) (as : List (Nat × V)) : L2.St := as.foldl (fun s p => s.set p.1 (some p.2)) σ
def RB (K : PySem.W.Frag) (L : List Addr) (H : Hp) (as : List (Nat × PV)) (bs : List (Nat × V)) : Prop := as.map Prod.fst = bs.map Prod.fst ∧ RPs K L H (as.map Prod.snd) (bs.map Prod.snd)
def tG (K : PySem.W.Frag) (g : DG) : TG := fun v σ H Q => ∃ L S x as, RS K L H S ∧ RP K L H x v ∧ g x = some as ∧ ∀ bs, RB K L H as bs → Q (setV σ bs) H
def tGs (K : PySem.W.Frag) (g : DGs) : TGs := fun vs σ H Q => ∃ L S xs as, RS K L H S ∧ RPs K L H xs vs ∧ g xs = some as ∧ ∀ bs, RB K L H as bs → Q (setV σ bs) H
abbrev XG (X : Cx) (e : Expr) (g : DG) : Prop := PG X e (tG X.K g)
abbrev XGs (X : Cx) (e : List Expr) (g : DGs) : Prop := PGs X e (tGs X.K g)
theorem pg_imp {X : Cx} {e : Expr} {t t' : TG} (h : PG X e t) (f : ∀ v σ H Q, t' v σ H Q → t v σ H Q) : PG X e t' := ⟨fun pins s σ H v u Q I r q => h.run pins s σ H v u Q I r (f v σ H Q q)⟩
theorem pgs_imp {X : Cx} {e : List Expr} {t t' : TGs} (h : PGs X e t) (f : ∀ v σ H Q, t' v σ H Q → t v σ H Q) : PGs X e t' := ⟨fun pins s σ H v u Q I r q => h.run pins s σ H v u Q I r (f v σ H Q q)⟩
section
variable {K : PySem.W.Frag} {L L' : List Addr} {H H' : Hp}
theorem RE.sets : ∀ {as : List (Nat × PV)} {bs : List (Nat × V)} {e : Sl} {σ : L2.St}, RE K L H e σ → RB K L H as bs → RE K L H (setP e as) (setV σ bs)
  | [], [], _, _, h, _ => h
  | [], _ :: _, _, _, _, ⟨a, _⟩ => by cases a
  | _ :: _, [], _, _, _, ⟨a, _⟩ => by cases a
  | (i, x) :: as, (j, v) :: bs, e, σ, h, ⟨a, b⟩ => by
    simp only [List.map_cons, List.cons.injEq] at a b
    obtain ⟨rfl, a⟩ := a
    cases b with
    | cons r rs => exact RE.sets (as := as) (bs := bs) (h.set i r) ⟨a, rs⟩
theorem setV_append (σ : L2.St) (a b : List (Nat × V)) : setV σ (a ++ b) = setV (setV σ a) b := by
  unfold setV
  rw [List.foldl_append]
end
def gN (i : Nat) : DG := fun x => some [(i, x)]
def gNil : DGs := fun xs => match xs with
  | [] => some []
  | _ => none
def gCons (g : DG) (r : DGs) : DGs := fun xs => match xs with
  | x :: xs => match g x, r xs with
    | some a, some b => some (a ++ b)
    | _, _ => none
  | [] => none
def gT (n : Nat) (r : DGs) : DG := fun x => match x with
  | .tup xs => if xs.length = n then r xs else none
  | .pr x y => if n = 2 then r [x, y] else none
  | _ => none
section
variable {X : Cx} {pos : Pos}
theorem xg_name {i : Nat} {x : Str} (hN : X.N.Nodup) (hi : X.N[i]? = some x) (hx : Loc X.env.scope x) (hf : X.fn x = true ∨ X.env.scope.names.lookup x = some .local := by first | exact .inl rfl | exact .inr rfl | assumption) : XG X (.Name x pos) (gN i) :=
  pg_imp (pg_name hN hi hx hf) fun v σ H Q ⟨L, S, y, as, R, r, h, k⟩ => by
    cases h
    exact k [(i, v)] ⟨rfl, .cons r .nil⟩
theorem xgs_nil : XGs X [] gNil := pgs_imp pgs_nil fun vs σ H Q ⟨L, S, y, as, R, r, h, k⟩ => by
  cases r with
  | nil =>
    cases h
    exact ⟨rfl, k [] ⟨rfl, .nil⟩⟩
  | cons a b => cases h
theorem xgs_cons {e : Expr} {es : List Expr} {g : DG} {gs : DGs} (h1 : XG X e g) (h2 : XGs X es gs) (hs : (assignEach (e :: es) X.env).map (·.2) = assign e X.env :: (assignEach es X.env).map (·.2) := by rfl) : XGs X (e :: es) (gCons g gs) :=
  pgs_imp (pgs_cons h1 h2 hs) fun vs σ H Q ⟨L, S, y, as, R, r, h, k⟩ => by
    cases r with
    | nil => cases h
    | @cons x v xs vs a b =>
      unfold gCons at h
      simp only at h
      split at h
      · cases h
        rename_i p q hp hq
        refine ⟨v, vs, rfl, L, S, x, p, R, a, hp, fun bs hb => ⟨L, S, xs, q, R, b, hq, fun cs hc => ?_⟩⟩
        rw [← setV_append]
        refine k _ ⟨?_, ?_⟩
        · rw [List.map_append, List.map_append, hb.1, hc.1]
        · rw [List.map_append, List.map_append]
          exact hb.2.append hc.2
      · cases h
theorem xg_tup {es : List Expr} {k : Nat} {gs : DGs} {n : Nat} (hc : X.calm = true) (h : XGs X es gs) (hn : (assignEach es X.env).length = n := by rfl) (hst : (assignEach es X.env).findIdx? (·.1) = none := by rfl) : XG X (.Tuple es k pos) (gT n gs) :=
  pg_imp (pg_tup hc h hn hst) fun v σ H Q ⟨L, S, y, as, R, r, h, k⟩ => by
    cases r with
    | tup hq rs =>
      unfold gT at h
      simp only at h
      split at h
      · rename_i hl
        exact ⟨_, _, rfl, hq.t, by rw [← rs.length]; exact hl, L, S, _, as, R, rs, h, k⟩
      · cases h
    | pr hq r1 r2 =>
      unfold gT at h
      simp only at h
      split at h
      · rename_i hl
        exact ⟨_, _, rfl, hq, by rw [hl]; rfl, L, S, _, as, R, .cons r1 (.cons r2 .nil), h, k⟩
      · cases h
    | _ => cases h
/-! blocks, small statements -/
def sNil : DS := fun e S => some (.nx, e, S)
def sCons (a b : DS) : DS := fun e S => match a e S with
  | some (.nx, e1, S1) => b e1 S1
  | r => r
theorem xss_nil : XSs X [] sNil := pss_imp pss_nil fun D σ H ⟨L, S, e, o, e', S', R, E, h, k⟩ => by
  cases h
  exact k L H Le.refl R σ E
theorem xss_cons {st : Stmt} {rest : List Stmt} {a b : DS} (h1 : XS X st a) (h2 : XSs X rest b) : XSs X (st :: rest) (sCons a b) := pss_imp (pss_cons h1 h2) fun D σ H ⟨L, S, e, o, e', S', R, E, h, k⟩ => by
  unfold sCons at h
  cases q : a e S with
  | none => rw [q] at h; cases h
  | some r =>
    obtain ⟨o1, e1, S1⟩ := r
    rw [q] at h
    refine ⟨L, S, e, o1, e1, S1, R, E, q, fun L1 H1 le1 R1 => ?_⟩
    cases o1 with
    | nx => exact fun σ1 E1 => ⟨L1, S1, e1, o, e', S', R1, E1, h, fun L2 H2 le2 => k L2 H2 (le1.trans le2)⟩
    | rt x => cases h; exact k L1 H1 le1 R1
    | bk => cases h; exact k L1 H1 le1 R1
    | ct => cases h; exact k L1 H1 le1 R1
theorem xss_one {st : Stmt} {a : DS} (h1 : XS X st a) : XSs X [st] a := pss_one h1
def sBrk : DS := fun e S => some (.bk, e, S)
def sCnt : DS := fun e S => some (.ct, e, S)
theorem xs_pass : XS X (.Pass pos) sNil := ps_imp ps_pass fun D σ H ⟨L, S, e, o, e', S', R, E, h, k⟩ => by
  cases h
  exact k L H Le.refl R σ E
theorem xs_break : XS X (.Break pos) sBrk := ps_imp ps_break fun D σ H ⟨L, S, e, o, e', S', R, E, h, k⟩ => by
  cases h
  exact k L H Le.refl R σ E
theorem xs_continue : XS X (.Continue pos) sCnt := ps_imp ps_continue fun D σ H ⟨L, S, e, o, e', S', R, E, h, k⟩ => by
  cases h
  exact k L H Le.refl R σ E
def sEx (d : DE) : DS := fun e S => bnd (d e S) fun _ S1 => some (.nx, e, S1)
def sRet (d : DE) : DS := fun e S => bnd (d e S) fun x S1 => some (.rt x, e, S1)
def sRetN : DS := fun e S => some (.rt .non, e, S)
variable {a : Expr} {d : DE}
theorem xs_expr (ha : XE X a d) (hs : swapsWith a none pos.line X.env = pure false := by rfl) : XS X (.Expr a pos) (sEx d) := ps_imp (ps_expr ha hs) fun D σ H ⟨L, S, e, o, e', S', R, E, h, k⟩ => by
  obtain ⟨x, S1, q, h⟩ := bnd_of h
  cases h
  exact ⟨L, S, e, x, _, R, E, q, fun L1 H1 v le1 R1 rv => k L1 H1 le1 R1 σ (E.mono le1)⟩
theorem xs_ret (ha : XE X a d) : XS X (.Return (some a) pos) (sRet d) := ps_imp (ps_ret ha) fun D σ H ⟨L, S, e, o, e', S', R, E, h, k⟩ => by
  obtain ⟨x, S1, q, h⟩ := bnd_of h
  cases h
  exact ⟨L, S, e, x, _, R, E, q, fun L1 H1 v le1 R1 rv => k L1 H1 le1 R1 v rv⟩
theorem xs_retN : XS X (.Return none pos) sRetN := ps_imp ps_retN fun D σ H ⟨L, S, e, o, e', S', R, E, h, k⟩ => by
  cases h
  exact k L H Le.refl R .non .non
def sIf (t : DT) (a b : DS) : DS := fun e S => bnd (t e S) fun k S1 => if k = true then a e S1 else b e S1
theorem xs_if {c : Expr} {A B : List Stmt} {t : DT} {u v : DS} (hc : XT X c t) (ha : XSs X A u) (hb : XSs X B v) : XS X (.If c A B pos) (sIf t u v) := ps_imp (ps_if hc ha hb) fun D σ H ⟨L, S, e, o, e', S', R, E, h, k⟩ => by
  obtain ⟨x, S1, q, h⟩ := bnd_of h
  refine ⟨L, S, e, x, S1, R, E, q, fun L1 H1 le1 R1 => ?_⟩
  cases x with
  | true =>
    simp only [if_true] at h ⊢
    exact ⟨L1, S1, e, o, e', S', R1, E.mono le1, h, fun L2 H2 le2 => k L2 H2 (le1.trans le2)⟩
  | false =>
    simp only [Bool.false_eq_true, if_false] at h ⊢
    exact ⟨L1, S1, e, o, e', S', R1, E.mono le1, h, fun L2 H2 le2 => k L2 H2 (le1.trans le2)⟩
def sto1 (g : DG) (e : Sl) (x : PV) (S : Sto) : Option (Out × Sl × Sto) := match g x with
  | some as => some (.nx, setP e as, S)
  | none => none
def sAsg (d : DE) (g : DG) : DS := fun e S => bnd (d e S) (sto1 g e)
theorem t_asg {K : PySem.W.Frag} {g : DG} (D : Ends) (σ : L2.St) (H : Hp) (h : tS K (sAsg d g) D σ H) : tAsg (tE K d) (tG K g) D σ H := by
  obtain ⟨L, S, e, o, e', S', R, E, h, k⟩ := h
  obtain ⟨x, S1, q, h⟩ := bnd_of h
  refine ⟨L, S, e, x, S1, R, E, q, fun L1 H1 v le1 R1 rv => ?_⟩
  unfold sto1 at h
  cases hg : g x with
  | none => rw [hg] at h; cases h
  | some as =>
    rw [hg] at h
    cases h
    exact ⟨L1, _, x, as, R1, rv, hg, fun bs hb => k L1 H1 le1 R1 _ ((E.mono le1).sets hb)⟩
theorem xs_asg {tg : Expr} {g : DG} (ha : XE X a d) (hg : XG X tg g) (hs : swapsWithSole [tg] a pos.line X.env = pure false := by rfl) (hw : swappedStores [tg] a X.env = pure none := by rfl)
    (h1 : (assignEach [tg] X.env).map (·.2) = [assign tg X.env] := by rfl) : XS X (.Assign [tg] a pos) (sAsg d g) := ps_imp (ps_asg ha hg hs hw h1) t_asg
def sSet (i : Nat) (d : DE) : DS := fun e S => bnd (d e S) fun x S1 => some (.nx, e.set i (some x), S1)
theorem t_set {K : PySem.W.Frag} {i : Nat} (D : Ends) (σ : L2.St) (H : Hp) (h : tS K (sSet i d) D σ H) : tAsg (tE K d) (gName i) D σ H := by
  obtain ⟨L, S, e, o, e', S', R, E, h, k⟩ := h
  obtain ⟨x, S1, q, h⟩ := bnd_of h
  cases h
  exact ⟨L, S, e, x, _, R, E, q, fun L1 H1 v le1 R1 rv => k L1 H1 le1 R1 _ ((E.mono le1).set i rv)⟩
theorem xs_set {i : Nat} {x : Str} {pos' : Pos} (hN : X.N.Nodup) (hi : X.N[i]? = some x) (hx : Loc X.env.scope x) (ha : XE X a d) (hs : swapsWith a (some (.Name x pos')) pos.line X.env = pure false := by rfl) (hf : X.fn x = true ∨ X.env.scope.names.lookup x = some .local := by first | exact .inl rfl | exact .inr rfl | assumption) :
    XS X (.Assign [.Name x pos'] a pos) (sSet i d) := ps_imp (ps_set hN hi hx ha hs hf) t_set
/-- a, b = x, y by swapped stores -/
def sPar (i j : Nat) (d : DA) : DS := fun e S => bnd (d e S) fun xs S1 => match xs with
  | [x, y] => some (.nx, (e.set i (some x)).set j (some y), S1)
  | _ => none
theorem xs_par {i j : Nat} {x y : Str} {b : Expr} {da : DA} {px py pt : Pos} {kt k2 pt2} (hc : X.calm = true) (hN : X.N.Nodup) (hi : X.N[i]? = some x) (hj : X.N[j]? = some y) (hij : i ≠ j)
    (hx : X.env.scope.names.lookup x = some .local) (hy : X.env.scope.names.lookup y = some .local) (ha : XA X [a, b] da)
    (hw : swappedStores [.Tuple [.Name x px, .Name y py] kt pt] (.Tuple [a, b] k2 pt2) X.env = pure (some [x, y]))
    (hs : swapsWithSole [.Tuple [.Name x px, .Name y py] kt pt] (.Tuple [a, b] k2 pt2) pos.line X.env = pure false := by rfl) :
    XS X (.Assign [.Tuple [.Name x px, .Name y py] kt pt] (.Tuple [a, b] k2 pt2) pos) (sPar i j da) := ps_imp (ps_par hc hN hi hj hij hx hy ha hw hs) fun D σ H ⟨L, S, e, o, e', S', R, E, h, k⟩ => by
  obtain ⟨xs, S1, q, h⟩ := bnd_of h
  refine ⟨L, S, e, xs, S1, R, E, q, fun L1 H1 us le1 R1 rus => ?_⟩
  split at h
  · cases h
    cases rus with
    | cons r1 rr =>
      cases rr with
      | cons r2 rr =>
        cases rr
        exact ⟨_, _, rfl, k L1 H1 le1 R1 _ (((E.mono le1).set i r1).set j r2)⟩
  · cases h
/-! o[i] = v -/
abbrev OSet := PV → PV → PV → Sto → Option Sto
def rSet (K : PySem.W.Frag) (o : OSet) : TSet := fun u i v H Q => ∃ L S x y z S', RS K L H S ∧ RP K L H x u ∧ RP K L H y i ∧ RP K L H z v ∧ o x y z S = some S' ∧ ∀ L' H', Le K L H L' H' → RS K L' H' S' → Q H'
def sSub (o : OSet) (d a i : DE) : DS := fun e S => bnd (d e S) fun z S1 => bnd (a e S1) fun x S2 => bnd (i e S2) fun y S3 => match o x y z S3 with
  | some S4 => some (.nx, e, S4)
  | none => none
theorem xs_sub {b c : Expr} {db dc : DE} {o : OSet} {tpos : Pos} (ha : XE X a d) (hb : XE X b db) (hc : XE X c dc) (hs : PSet X (rSet X.K o))
    (h1 : ∀ v, assign (.Subscript b c tpos) X.env v = (do
      let ov ← holding [v] (eval b X.env)
      let iv ← holding [v, ov] (eval c X.env)
      standAt tpos
      holding [v, ov, iv] (setItem ov iv v)
      release [v, ov, iv] []) := by intro _; rfl)
    (hs1 : swapsWithSole [.Subscript b c tpos] a pos.line X.env = pure false := by rfl) (hw : swappedStores [.Subscript b c tpos] a X.env = pure none := by rfl)
    (h2 : (assignEach [.Subscript b c tpos] X.env).map (·.2) = [assign (.Subscript b c tpos) X.env] := by rfl) : XS X (.Assign [.Subscript b c tpos] a pos) (sSub o d db dc) :=
  ps_imp (ps_asg ha (pg_sub hb hc hs h1) hs1 hw h2) fun D σ H ⟨L, S, e, o1, e', S', R, E, h, k⟩ => by
    obtain ⟨z, S1, q1, h⟩ := bnd_of h
    obtain ⟨x, S2, q2, h⟩ := bnd_of h
    obtain ⟨y, S3, q3, h⟩ := bnd_of h
    refine ⟨L, S, e, z, S1, R, E, q1, fun L1 H1 w le1 R1 rw => ?_⟩
    refine ⟨L1, S1, e, x, S2, R1, E.mono le1, q2, fun L2 H2 u le2 R2 ru => ?_⟩
    refine ⟨L2, S2, e, y, S3, R2, E.mono (le1.trans le2), q3, fun L3 H3 v le3 R3 rv => ?_⟩
    split at h
    · cases h
      rename_i S4 hS
      exact ⟨L3, S3, x, y, z, _, R3, ru.mono le3, rv, rw.mono (le2.trans le3), hS, fun L4 H4 le4 R4 => k L4 H4 (((le1.trans le2).trans le3).trans le4) R4 σ (E.mono (((le1.trans le2).trans le3).trans le4))⟩
    · cases h
/-! while -/
def wLoop (c : DT) (b : DS) : Nat → Sl → Sto → Option (Out × Sl × Sto)
  | 0, _, _ => none
  | f + 1, e, S => bnd (c e S) fun k S1 => if k = true then (match b e S1 with
      | some (.nx, e2, S2) => wLoop c b f e2 S2
      | some (.ct, e2, S2) => wLoop c b f e2 S2
      | some (.bk, e2, S2) => some (.nx, e2, S2)
      | some (.rt x, e2, S2) => some (.rt x, e2, S2)
      | none => none) else some (.nx, e, S1)
theorem wLoop_mono {c : DT} {b : DS} : ∀ (n : Nat) (e : Sl) (S : Sto) (r : Out × Sl × Sto), wLoop c b n e S = some r → wLoop c b (n + 1) e S = some r
  | 0, _, _, _, h => by cases h
  | n + 1, e, S, r, h => by
    unfold wLoop at h ⊢
    obtain ⟨k, S1, q, h⟩ := bnd_of h
    rw [q, bnd_some]
    cases k with
    | false => exact h
    | true =>
      simp only [if_true] at h ⊢
      cases hb : b e S1 with
      | none => rw [hb] at h; cases h
      | some r1 =>
        obtain ⟨o1, e1, S2⟩ := r1
        rw [hb] at h
        cases o1 with
        | nx => exact wLoop_mono n _ _ _ h
        | ct => exact wLoop_mono n _ _ _ h
        | bk => exact h
        | rt x => exact h
noncomputable def sWh (c : DT) (b : DS) : DS := fun e S => lim fun n => wLoop c b n e S
theorem sWh_of {c : DT} {b : DS} {e : Sl} {S : Sto} {r : Out × Sl × Sto} (n : Nat) (h : wLoop c b n e S = some r) : sWh c b e S = some r := lim_eq (fun n r => wLoop_mono n e S r) h
theorem xs_while {c : Expr} {body : List Stmt} {t : DT} {b : DS} (hp : PassesOwn (model X.prog X.w) X.A X.env X.xe) (hc : XT X c t) (hb : XSs X body b) : XS X (.While c body [] pos) (sWh t b) := ps_imp (ps_while hp hc hb) fun D σ H ⟨L, S, e, o, e', S', R, E, h, k⟩ => by
  obtain ⟨n, h⟩ := lim_of h
  refine ⟨fun m σ H => ∃ L S e o e' S', RS X.K L H S ∧ RE X.K L H e σ ∧ wLoop t b m e S = some (o, e', S') ∧ ∀ L' H', Le X.K L H L' H' → RS X.K L' H' S' → oEnd X.K D L' H' e' o, ⟨n, L, S, e, o, e', S', R, E, h, k⟩, ?_⟩
  rintro m σ H ⟨L, S, e, o, e', S', R, E, h, k⟩
  cases m with
  | zero => cases h
  | succ m =>
    unfold wLoop at h
    obtain ⟨x, S1, q, h⟩ := bnd_of h
    refine ⟨L, S, e, x, S1, R, E, q, fun L1 H1 le1 R1 => ?_⟩
    cases x with
    | false =>
      simp only [Bool.false_eq_true, if_false] at h ⊢
      cases h
      exact k L1 H1 le1 R1 σ (E.mono le1)
    | true =>
      simp only [if_true] at h ⊢
      refine ⟨fun σ' H' => ∃ L S e o e' S', RS X.K L H' S ∧ RE X.K L H' e σ' ∧ wLoop t b m e S = some (o, e', S') ∧ ∀ L' H'', Le X.K L H' L' H'' → RS X.K L' H'' S' → oEnd X.K D L' H'' e' o, fun σ' H' w => ⟨m, Nat.lt_succ_self m, w⟩, ?_⟩
      cases hb : b e S1 with
      | none => rw [hb] at h; cases h
      | some r1 =>
        obtain ⟨o1, e1, S2⟩ := r1
        rw [hb] at h
        refine ⟨L1, S1, e, o1, e1, S2, R1, E.mono le1, hb, fun L2 H2 le2 R2 => ?_⟩
        cases o1 with
        | nx => exact fun σ2 E2 => ⟨L2, S2, e1, o, e', S', R2, E2, h, fun L3 H3 le3 => k L3 H3 ((le1.trans le2).trans le3)⟩
        | ct => exact fun σ2 E2 => ⟨L2, S2, e1, o, e', S', R2, E2, h, fun L3 H3 le3 => k L3 H3 ((le1.trans le2).trans le3)⟩
        | bk =>
          cases h
          exact fun σ2 E2 => k L2 H2 (le1.trans le2) R2 σ2 E2
        | rt x =>
          cases h
          exact fun v rv => k L2 H2 (le1.trans le2) R2 v rv
/-! for -/
abbrev WK := Nat → Sto → Option (Option PV)
abbrev DI := Sl → Sto → Option (WK × Sto)
def WJ (K : PySem.W.Frag) (w : WK) (J : It) (L0 : List Addr) (H0 : Hp) : Prop :=
  ∀ (L : List Addr) (S : Sto) (H : Hp), Le K L0 H0 L H → RS K L H S → ∀ i, (w i S = some none → J.stop i H) ∧ (∀ x, w i S = some (some x) → J.go i H ∧ ∀ u H', J.yld i H u H' → Le K L H L H' ∧ RS K L H' S ∧ RP K L H' x u)
def tI (K : PySem.W.Frag) (d : DI) : TI := fun σ H R => ∃ L S e w S', RS K L H S ∧ RE K L H e σ ∧ d e S = some (w, S') ∧ ∀ L' H' J, Le K L H L' H' → RS K L' H' S' → WJ K w J L' H' → R J H'
abbrev XI (X : Cx) (tg e : Expr) (d : DI) : Prop := PI X tg e (tI X.K d)
def fLoop (w : WK) (g : DG) (b : DS) : Nat → Nat → Sl → Sto → Option (Out × Sl × Sto)
  | 0, _, _, _ => none
  | f + 1, i, e, S => match w i S with
    | some none => some (.nx, e, S)
    | some (some x) => (match g x with
      | some as => (match b (setP e as) S with
        | some (.nx, e2, S2) => fLoop w g b f (i + 1) e2 S2
        | some (.ct, e2, S2) => fLoop w g b f (i + 1) e2 S2
        | some (.bk, e2, S2) => some (.nx, e2, S2)
        | some (.rt x, e2, S2) => some (.rt x, e2, S2)
        | none => none)
      | none => none)
    | none => none
theorem fLoop_mono {w : WK} {g : DG} {b : DS} : ∀ (n i : Nat) (e : Sl) (S : Sto) (r : Out × Sl × Sto), fLoop w g b n i e S = some r → fLoop w g b (n + 1) i e S = some r
  | 0, _, _, _, _, h => by cases h
  | n + 1, i, e, S, r, h => by
    unfold fLoop at h ⊢
    cases hw : w i S with
    | none => rw [hw] at h; cases h
    | some y =>
      rw [hw] at h
      cases y with
      | none => exact h
      | some x =>
        simp only at h ⊢
        cases hg : g x with
        | none => rw [hg] at h; cases h
        | some as =>
          rw [hg] at h
          simp only at h ⊢
          cases hb : b (setP e as) S with
          | none => rw [hb] at h; cases h
          | some r1 =>
            obtain ⟨o1, e1, S2⟩ := r1
            rw [hb] at h
            cases o1 with
            | nx => exact fLoop_mono n _ _ _ _ h
            | ct => exact fLoop_mono n _ _ _ _ h
            | bk => exact h
            | rt x => exact h
noncomputable def sFor (d : DI) (g : DG) (b : DS) : DS := fun e S => bnd (d e S) fun w S1 => lim fun n => fLoop w g b n 0 e S1
theorem xs_for {tg iter : Expr} {body : List Stmt} {d : DI} {g : DG} {b : DS} (hp : PassesOwn (model X.prog X.w) X.A X.env X.xe) (hc : X.calm = true) (hi : XI X tg iter d) (hg : XG X tg g) (hb : XSs X body b)
    (hs : ∀ x, foldedSetIterable iter X.env x = pure x := by intro _; rfl) : XS X (.For tg iter body [] pos) (sFor d g b) := ps_imp (ps_for hp hc hi hg hb hs) fun D σ H ⟨L, S, e, o, e', S', R, E, h, k⟩ => by
  obtain ⟨w, S1, q, h⟩ := bnd_of h
  obtain ⟨n, h⟩ := lim_of h
  refine ⟨L, S, e, w, S1, R, E, q, fun L0 H0 J le0 R0 wj => ?_⟩
  refine ⟨fun i m σ H => ∃ L S e o e' S', Le X.K L0 H0 L H ∧ RS X.K L H S ∧ RE X.K L H e σ ∧ fLoop w g b m i e S = some (o, e', S') ∧ ∀ L' H', Le X.K L H L' H' → RS X.K L' H' S' → oEnd X.K D L' H' e' o,
    ⟨n, L0, S1, e, o, e', S', Le.refl, R0, E.mono le0, h, fun L' H' le => k L' H' (le0.trans le)⟩, ?_⟩
  rintro i m σ H ⟨L, S, e, o, e', S', le, R, E, h, k⟩
  cases m with
  | zero => cases h
  | succ m =>
    unfold fLoop at h
    obtain ⟨j1, j2⟩ := wj L S H le R i
    cases hw : w i S with
    | none => rw [hw] at h; cases h
    | some y =>
      rw [hw] at h
      cases y with
      | none =>
        cases h
        exact .inl ⟨j1 hw, k L H Le.refl R σ E⟩
      | some x =>
        simp only at h
        obtain ⟨go, yl⟩ := j2 x hw
        refine .inr ⟨go, fun σ' H' => ∃ L S e o e' S', Le X.K L0 H0 L H' ∧ RS X.K L H' S ∧ RE X.K L H' e σ' ∧ fLoop w g b m (i + 1) e S = some (o, e', S') ∧ ∀ L' H'', Le X.K L H' L' H'' → RS X.K L' H'' S' → oEnd X.K D L' H'' e' o,
          fun σ' H' q => ⟨m, Nat.lt_succ_self m, q⟩, fun u H1 hy => ?_⟩
        obtain ⟨le1, R1, ru⟩ := yl u H1 hy
        cases hg : g x with
        | none => rw [hg] at h; cases h
        | some as =>
          rw [hg] at h
          simp only at h
          refine ⟨L, S, x, as, R1, ru, hg, fun bs hbs => ?_⟩
          cases hb : b (setP e as) S with
          | none => rw [hb] at h; cases h
          | some r1 =>
            obtain ⟨o1, e1, S2⟩ := r1
            rw [hb] at h
            refine ⟨L, S, setP e as, o1, e1, S2, R1, (E.mono le1).sets hbs, hb, fun L2 H2 le2 R2 => ?_⟩
            cases o1 with
            | nx => exact fun σ2 E2 => ⟨L2, S2, e1, o, e', S', le.trans (le1.trans le2), R2, E2, h, fun L3 H3 le3 => k L3 H3 ((le1.trans le2).trans le3)⟩
            | ct => exact fun σ2 E2 => ⟨L2, S2, e1, o, e', S', le.trans (le1.trans le2), R2, E2, h, fun L3 H3 le3 => k L3 H3 ((le1.trans le2).trans le3)⟩
            | bk =>
              cases h
              exact fun σ2 E2 => k L2 H2 (le1.trans le2) R2 σ2 E2
            | rt x =>
              cases h
              exact fun v rv => k L2 H2 (le1.trans le2) R2 v rv
/-! comprehensions -/
def wipeP (e : Sl) : List Nat → Sl
  | [] => e
  | v :: vs => (wipeP e vs).set v none
theorem RE.wipe {K : PySem.W.Frag} {L : List Addr} {H : Hp} {e : Sl} {σ : L2.St} (h : RE K L H e σ) : ∀ vs : List Nat, RE K L H (wipeP e vs) (L2.wipe σ vs)
  | [] => h
  | v :: vs => (h.wipe vs).setN v
theorem wipe_get (σ : L2.St) : ∀ (vs : List Nat) (i : Nat), (L2.wipe σ vs)[i]? = if i ∈ vs ∧ i < σ.length then some none else σ[i]?
  | [], i => by simp [L2.wipe]
  | v :: vs, i => by
    unfold L2.wipe
    by_cases e : v = i
    · subst e
      by_cases hl : v < σ.length
      · rw [List.getElem?_set_self (by rw [L2.wipe_length]; exact hl), if_pos ⟨List.mem_cons_self, hl⟩]
      · rw [List.getElem?_eq_none (by rw [List.length_set, L2.wipe_length]; omega), if_neg (fun q => hl q.2), List.getElem?_eq_none (by omega)]
    · rw [List.getElem?_set_ne e, wipe_get σ vs i]
      have hm : (i ∈ v :: vs) ↔ i ∈ vs := by
        rw [List.mem_cons]
        exact ⟨fun q => q.elim (fun z => absurd z.symm e) id, .inr⟩
      simp only [hm]
theorem setV_length : ∀ (bs : List (Nat × V)) (σ : L2.St), (setV σ bs).length = σ.length
  | [], _ => rfl
  | b :: bs, σ => by
    show (setV (σ.set b.1 (some b.2)) bs).length = _
    rw [setV_length bs, List.length_set]
theorem setV_get : ∀ (bs : List (Nat × V)) (σ : L2.St) (i : Nat), i ∉ bs.map Prod.fst → (setV σ bs)[i]? = σ[i]?
  | [], _, _, _ => rfl
  | b :: bs, σ, i, h => by
    show (setV (σ.set b.1 (some b.2)) bs)[i]? = _
    have h1 : i ≠ b.1 ∧ i ∉ bs.map Prod.fst := by
      rw [List.map_cons, List.mem_cons, not_or] at h
      exact h
    rw [setV_get bs _ i h1.2, List.getElem?_set_ne (Ne.symm h1.1)]
theorem wipe_setV {σ : L2.St} {vs : List Nat} {bs : List (Nat × V)} (h : ∀ i ∈ bs.map Prod.fst, i ∈ vs) : L2.wipe (setV (L2.wipe σ vs) bs) vs = L2.wipe σ vs := by
  refine List.ext_getElem? fun i => ?_
  rw [wipe_get, wipe_get, setV_length, L2.wipe_length]
  by_cases c : i ∈ vs ∧ i < σ.length
  · rw [if_pos c, if_pos c]
  · rw [if_neg c, if_neg c]
    by_cases hi : i ∈ vs
    · have hl : σ.length ≤ i := Nat.le_of_not_lt fun q => c ⟨hi, q⟩
      rw [List.getElem?_eq_none (by rw [setV_length, L2.wipe_length]; exact hl), List.getElem?_eq_none hl]
    · rw [setV_get _ _ _ fun q => hi (h i q), wipe_get, if_neg c]
def cLoop (w : WK) (g : DG) (t : DT) (el : DE) (vs : List Nat) (e : Sl) : Nat → Nat → List PV → Sto → Option (List PV × Sto)
  | 0, _, _, _ => none
  | f + 1, i, acc, S => match w i S with
    | some none => some (acc, S)
    | some (some x) => (match g x with
      | some as => if (as.all fun p => vs.contains p.1) = true then bnd (t (setP e as) S) fun k S1 => if k = true then bnd (el (setP e as) S1) fun y S2 => cLoop w g t el vs e f (i + 1) (acc ++ [y]) S2 else cLoop w g t el vs e f (i + 1) acc S1 else none
      | none => none)
    | none => none
theorem cLoop_mono {w : WK} {g : DG} {t : DT} {el : DE} {vs : List Nat} {e : Sl} : ∀ (n i : Nat) (acc : List PV) (S : Sto) (r : List PV × Sto), cLoop w g t el vs e n i acc S = some r → cLoop w g t el vs e (n + 1) i acc S = some r
  | 0, _, _, _, _, h => by cases h
  | n + 1, i, acc, S, r, h => by
    unfold cLoop at h ⊢
    cases hw : w i S with
    | none => rw [hw] at h; cases h
    | some y =>
      rw [hw] at h
      cases y with
      | none => exact h
      | some x =>
        simp only at h ⊢
        cases hg : g x with
        | none => rw [hg] at h; cases h
        | some as =>
          rw [hg] at h
          simp only at h ⊢
          split at h
          · rename_i hv
            rw [if_pos hv]
            obtain ⟨k, S1, q, h⟩ := bnd_of h
            rw [q, bnd_some]
            cases k with
            | false => exact cLoop_mono n _ _ _ _ h
            | true =>
              simp only [if_true] at h ⊢
              obtain ⟨y, S2, q2, h⟩ := bnd_of h
              rw [q2, bnd_some]
              exact cLoop_mono n _ _ _ _ h
          · cases h
theorem cLoop_len {w : WK} {g : DG} {t : DT} {el : DE} {vs : List Nat} {e : Sl} : ∀ (n i : Nat) (acc : List PV) (S : Sto) (r : List PV × Sto), cLoop w g t el vs e n i acc S = some r → acc.length ≤ r.1.length
  | 0, _, _, _, _, h => by cases h
  | n + 1, i, acc, S, r, h => by
    unfold cLoop at h
    cases hw : w i S with
    | none => rw [hw] at h; cases h
    | some y =>
      rw [hw] at h
      cases y with
      | none => cases h; exact Nat.le_refl _
      | some x =>
        simp only at h
        cases hg : g x with
        | none => rw [hg] at h; cases h
        | some as =>
          rw [hg] at h
          simp only at h
          split at h
          · obtain ⟨k, S1, q, h⟩ := bnd_of h
            cases k with
            | false => exact cLoop_len n _ _ _ _ h
            | true =>
              simp only [if_true] at h
              obtain ⟨y, S2, q2, h⟩ := bnd_of h
              have := cLoop_len n _ _ _ _ h
              rw [List.length_append, List.length_singleton] at this
              omega
          · cases h
noncomputable def eLc (d : DI) (g : DG) (t : DT) (el : DE) (vs : List Nat) : DE := fun e S => bnd (d e S) fun w S1 => bnd (lim fun n => cLoop w g t el vs (wipeP e vs) n 0 [] S1) mkL
def tD' (K : PySem.W.Frag) (d : DT) : TT := tD K d
def dYes : DT := fun _ S => some (true, S)
theorem xpts_nil : PTs X [] (tD X.K dYes) := ⟨fun pins s σ H Q I ⟨L, S, e, x, S', R, E, h, k⟩ => by
  cases h
  exact pts_nil.run pins s σ H Q I (k L H Le.refl R)⟩
theorem xpts_one {c : Expr} {t : DT} (h : XT X c t) : PTs X [c] (tD X.K t) := pts_one h
theorem t_lc {K : PySem.W.Frag} {d : DI} {g : DG} {t : DT} {el : DE} {vs : List Nat} (σ : L2.St) (H : Hp) (Q : VK) (h : tE K (eLc d g t el vs) σ H Q) : tLc (tI K d) (tG K g) (tD K t) (tE K el) vs σ H Q := by
  obtain ⟨L, S, e, z, S', R, E, h, k⟩ := h
  obtain ⟨w, S1, q, h⟩ := bnd_of h
  obtain ⟨ys, S2, q2, h⟩ := bnd_of h
  obtain ⟨n, q2⟩ := lim_of q2
  refine ⟨L, S, e, w, S1, R, E, q, fun L0 H0 J le0 R0 wj D hD => ?_⟩
  have hlen : ys.length ≤ 16777216 := by
    unfold mkL at h
    split at h
    · assumption
    · cases h
  have ez : z = .loc S2.length ∧ S' = S2 ++ [.lst ys] := by
    unfold mkL at h
    rw [if_pos hlen] at h
    cases h
    exact ⟨rfl, rfl⟩
  obtain ⟨rfl, rfl⟩ := ez
  have hm : D ∉ L0 := fun h => R0.trk h hD
  have leD : Le K L0 H0 L0 (upd H0 D (.lst [])) := Le.new hD
  -- D stands outside of the store till the end
  refine ⟨fun i m H1 => ∃ L1 S1 acc vs1, Le K L0 H0 L1 H1 ∧ RS K L1 H1 S1 ∧ D ∉ L1 ∧ H1 D = some (.lst vs1) ∧ RPs K L1 H1 acc vs1 ∧ cLoop w g t el vs (wipeP e vs) m i acc S1 = some (ys, S2),
    ⟨n, L0, S1, [], [], leD, R0.new hD, hm, upd_same, .nil, q2⟩, ?_⟩
  rintro i m H1 ⟨L1, S3, acc, vs1, le1, R1, nD, eD, rA, hc⟩
  cases m with
  | zero => cases hc
  | succ m =>
    have hc0 := hc
    unfold cLoop at hc
    obtain ⟨j1, j2⟩ := wj L1 S3 H1 le1 R1 i
    cases hw : w i S3 with
    | none => rw [hw] at hc; cases hc
    | some y =>
      rw [hw] at hc
      cases y with
      | none =>
        cases hc
        exact .inl ⟨j1 hw, k (L1 ++ [D]) H1 (.ref D) (le0.trans (le1.come hD)) (R1.come eD nD rA) (.loc (by rw [← R1.len]; simp))⟩
      | some x =>
        simp only at hc
        obtain ⟨go, yl⟩ := j2 x hw
        refine .inr ⟨go, fun H' => ∃ L1 S1 acc vs1, Le K L0 H0 L1 H' ∧ RS K L1 H' S1 ∧ D ∉ L1 ∧ H' D = some (.lst vs1) ∧ RPs K L1 H' acc vs1 ∧ cLoop w g t el vs (wipeP e vs) m (i + 1) acc S1 = some (ys, S2),
          fun H' q => ⟨m, Nat.lt_succ_self m, q⟩, fun u H2 hy => ?_⟩
        obtain ⟨le2, R2, ru⟩ := yl u H2 hy
        cases hg : g x with
        | none => rw [hg] at hc; cases hc
        | some as =>
          rw [hg] at hc
          simp only at hc
          split at hc
          · rename_i hv
            obtain ⟨b, S4, q3, hc⟩ := bnd_of hc
            refine ⟨L1, S3, x, as, R2, ru, hg, fun bs hb => ⟨wipe_setV fun i hi => ?_, ?_⟩⟩
            · rw [← hb.1] at hi
              obtain ⟨p, hp, rfl⟩ := List.mem_map.mp hi
              have := List.all_eq_true.mp hv p hp
              simpa using this
            · have E2 : RE K L1 H2 (setP (wipeP e vs) as) (setV (L2.wipe σ vs) bs) := (((E.mono (le0.trans le1)).mono le2).wipe vs).sets hb
              refine ⟨L1, S3, _, b, S4, R2, E2, q3, fun L3 H3 le3 R3 => ?_⟩
              have dD : ∀ {L4 : List Addr} {H4 : Hp}, Le K L1 H1 L4 H4 → D ∉ L4 ∧ H4 D = some (.lst vs1) := fun {L4 H4} le => by
                refine ⟨fun hm => ?_, le.fr D _ eD nD⟩
                have h0 := le.nw D hm nD
                rw [eD] at h0
                cases h0
              cases b with
              | false =>
                simp only [Bool.false_eq_true, if_false] at hc ⊢
                obtain ⟨d1, d2⟩ := dD (le2.trans le3)
                exact ⟨L3, S4, acc, vs1, le1.trans (le2.trans le3), R3, d1, d2, rA.mono (le2.trans le3), hc⟩
              | true =>
                simp only [if_true] at hc ⊢
                obtain ⟨y, S5, q4, hc⟩ := bnd_of hc
                refine ⟨L3, S4, _, y, S5, R3, E2.mono le3, q4, fun L4 H4 v le4 R4 rv => ?_⟩
                have le14 : Le K L1 H1 L4 H4 := (le2.trans le3).trans le4
                obtain ⟨d1, d2⟩ := dD le14
                refine ⟨vs1, d2, ?_, ?_⟩
                · have hl := cLoop_len _ _ _ _ _ hc
                  rw [List.length_append, List.length_singleton] at hl
                  have := rA.length
                  rw [szl]
                  have hl' : acc.length + 1 ≤ ys.length := hl
                  omega
                · exact ⟨L4, S5, acc ++ [y], vs1 ++ [v], (le1.trans le14).out hD d2, R4.out d2 d1, d1, upd_same, ((rA.mono le14).append (.cons rv .nil)).monoW (Lw.out d2), hc⟩
          · cases hc
end
end EV
namespace EV
open PySem PySem.Spec PyProof.Rows L2
/-! steps of the machine that the layer lacks -/
section
variable {prog : Program} {w : World} {A : Around} {E : Value → Shared → Prop} {s : Shared}
/-- enumerate(v): the cell -/
theorem meets_enum {v : Value} {o : Obj} {H : Heap → Prop} (B : Begins v o H) :
    Meets (Builtin.«enumerate.__new__» ⟨[.type "enumerate", v], []⟩) (fun _ R s => H s.heap ∧
      R (.ok (.ret (.ref (s.heap.push o).objs.size))) { s with heap := (s.heap.push o).push { cls := .type "enumerate", data := .fields #[.none, .bool false, .ref s.heap.objs.size, rawInt 0, .none, .none] } }) :=
  .of_wp fun prog w A R s h => by
    obtain ⟨hp, g, d, tk, os⟩ := s
    obtain ⟨h1, h⟩ := h
    have subs := sub_enumerate
    have begin_ : ∀ {A' : Around} {E : Value → Shared → Prop} {Q : Value → Shared → Prop}, Q (.ref hp.objs.size) ⟨hp.push o, g, d, tk, os⟩ → wpAny (model prog w) A' (pyIter v) Q E ⟨hp, g, d, tk, os⟩ :=
      fun q => B.iter prog w _ _ ⟨hp, g, d, tk, os⟩ _ h1 q
    wp_walk using begin_
    refine wpAny_stack_any fun st => wpAny_pure ?_
    split
    · rename_i c _ _ _ _ _
      cases (c == Value.type "enumerate") <;> (wp_walk using begin_; exact ⟨_, rfl, h⟩)
    · wp_walk using begin_
      exact ⟨_, rfl, h⟩
theorem call_enum {v : Value} {o : Obj} {H : Heap → Prop} {Q : Value → Shared → Prop} (B : Begins v o H) (h1 : H s.heap)
    (h : ∀ h', IsEnum h' (s.heap.objs.size + 1) s.heap.objs.size 0 .none → h'.get? s.heap.objs.size = some o → h'.objs.size = s.heap.objs.size + 2 →
      (∀ b u, s.heap.get? b = some u → h'.get? b = some u) → Q (.ref (s.heap.objs.size + 1)) { s with heap := h' }) : wpAny (model prog w) A (call (.type "enumerate") [v]) Q E s := by
  refine callType_new F.called_enumerate (by decide) (F.typeCall_enumerate_1 _) (F.newCall_enumerate_1 _) (fun obj => F.args_object_init_2 obj _) F.entry_enumerate_new (meets_enum B) ⟨h1, ?_⟩
  have hz : (s.heap.push o).objs.size = s.heap.objs.size + 1 := Heap.size_push ..
  show _ ∧ _
  rw [hz]
  have he := Heap.get?_push_size (s.heap.push o) (o := { cls := .type "enumerate", data := .fields #[.none, .bool false, .ref s.heap.objs.size, rawInt 0, .none, .none] }) rfl
  rw [hz] at he
  exact ⟨⟨_, he, rfl⟩, h _ he (Heap.get?_push_of_some _ (Heap.get?_push_size _ B.free)) (by rw [Heap.size_push, hz]) fun b u x => Heap.get?_push_of_some _ (Heap.get?_push_of_some _ x)⟩
end
/-- the tuple at a, each item in a new pair -/
def IteT (K : PySem.W.Frag) (a : Addr) : It :=
  ⟨fun i H => ∃ (xs : List V) (x : V), SqT K H a xs ∧ xs[i]? = some x, fun i H v H' => ∃ T x, v = .ref T ∧ H T = none ∧ H' = upd H T (.tup [.int (i : Nat), x]) ∧ ∀ xs, SqT K H a xs → xs[i]? = some x, fun i H => ∃ xs : List V, SqT K H a xs ∧ xs.length ≤ i⟩
theorem turn_enumT {P : Program} {w : World} {K : PySem.W.Frag} {elts : List Expr} {kk : Nat} {tpos : Pos} (a e it : Addr) :
    Turn P w K (.Tuple elts kk tpos) (IteT K a) [e, it] e (fun i h => (∃ old, IsEnum h e it ((i : Nat) : Int) old) ∧ h.IsTupleIter it a i ∧ e ≠ it ∧ a ≠ it ∧ a ≠ e) where
  mem := by simp
  obj := fun i h st b hb => by
    obtain ⟨⟨old, he⟩, ⟨o, ho, hc, hd⟩, _⟩ := st
    have e2 : b = e ∨ b = it := by simpa using hb
    rcases e2 with z | z
    · rw [z]; exact ⟨_, he, fun v q => nomatch q⟩
    · rw [z]; exact ⟨o, ho, fun v q => by rw [hd] at q; cases q⟩
  keep := fun i h h' st k => let ⟨⟨old, he⟩, hi, hr⟩ := st; ⟨⟨old, k e (by simp) _ he⟩, hi.at fun o q => k it (by simp) o q, hr⟩
  item := by
    intro X hP hw hK hc i pins s σ H E I hf st hg
    subst hP hw hK
    obtain ⟨⟨old, he⟩, hit, hne, hai, hae⟩ := st
    obtain ⟨xs, x, hq, hx⟩ := hg
    obtain ⟨its, rv, p, hz⟩ := I.tuple hq
    obtain ⟨u, hu, ru⟩ := rv.get hx
    have hel : e < s.heap.objs.size := Heap.lt_size he
    have hil : it < s.heap.objs.size := by obtain ⟨_, q, _⟩ := hit; exact Heap.lt_size q
    have hilen : i < its.length := (List.getElem?_eq_some_iff.mp hu).1
    have D : Draws X.prog X.w X.A.in1 it [it, a] its.toArray.size (fun i v => its.toArray[i]? = some v) (fun i h => h.IsTupleIter it a i ∧ h.IsTuple a its.toArray) := Draws.tuple (show X.A.in1.handled = none from I.ok.hd hc) it a hai its.toArray
    refine wpAny_pyNext_enum_itemD D he ⟨hit, p⟩ (by simpa using hilen) hne (by simp [hne, Ne.symm hae]) fun y h' tk hy ho hst hT hsz hk => ?_
    have ey : y = u := by
      have : its.toArray[i]? = some u := by simpa using hu
      rw [this] at hy
      exact (Option.some.inj hy).symm
    subst ey
    refine ⟨_, rfl, wpAny_letOwnedTupleGo_enum (s := { s with heap := h', toks := tk + 1 }) ho fun h'' he' sb => ?_⟩
    have hT2 : h''.get? s.heap.objs.size = some { cls := .type "tuple", data := .seq #[.int i tk, y] } := (sb.2 _ (Nat.ne_of_gt hel)).trans hT
    have new : ObjOk X.prog X.w (upd H s.heap.objs.size (.tup [.int (i : Nat), x])) h'' s.heap.objs.size (.tup [.int (i : Nat), x]) :=
      ⟨by show 2 ≤ sizeLine; decide, [.int i tk, y], .cons ⟨_, rfl⟩ (.cons ru .nil), ⟨_, hT2, rfl, _, rfl⟩⟩
    have I1 : Inv X pins σ (upd H s.heap.objs.size (.tup [.int (i : Nat), x])) { s with heap := h'', toks := tk + 1 } :=
      I.turnedNew (ch := [e, it]) (fun b ob hb q => (sb.2 b (fun z => hb (by simp [z]))).trans (hk b ob (fun z => hb (by simp [z])) (fun z => hb (by simp [z])) q)) hf (Nat.le_refl _) new
    refine ⟨.ref s.heap.objs.size, _, I1, rfl, ⟨_, x, rfl, I.hok.fresh (Nat.le_refl _), rfl, fun ys hy => by rw [I.tuple_inj hy hq]; exact hx⟩, ⟨⟨y, ?_⟩, hst.1.at fun o q => (sb.2 it (Ne.symm hne)).trans q, hne, hai, hae⟩, fun b hb => ?_⟩
    · have e1 : ((i + 1 : Nat) : Int) = (i : Int) + 1 := by omega
      rw [e1]; exact he'
    · have hb' : b < s.heap.objs.size := by
        have e2 : b = e ∨ b = it := by simpa using hb
        rcases e2 with z | z
        · rw [z]; exact hel
        · rw [z]; exact hil
      rw [upd_ne (Nat.ne_of_lt hb')]
      exact (hf b hb).1
  done := by
    intro X hP hw hK hc i pins s σ H E I hf st hg
    subst hP hw hK
    obtain ⟨⟨old, he⟩, hit, hne, hai, hae⟩ := st
    obtain ⟨xs, hq, hx⟩ := hg
    obtain ⟨its, rv, p, hz⟩ := I.tuple hq
    obtain ⟨f0, f1, f2, f3, f4, f5⟩ := hf it (by simp)
    have hl := rv.length
    have D : Draws X.prog X.w X.A.in1 it [it, a] i (fun _ _ => False) (fun j h => j = i ∧ h.IsTupleIter it a j ∧ h.IsTuple a its.toArray) :=
      { live := fun _ _ st => let ⟨o, ho, _⟩ := st.2.1; ⟨o, ho⟩
        frame := fun _ _ _ st hk => ⟨st.1, st.2.1.at fun o e => hk it (by simp) o e, st.2.2.at fun o e => hk a (by simp) o e⟩
        item := fun j s Q E hj st _ => absurd st.1 (Nat.ne_of_lt hj)
        done := fun s Q E st hE => wpAny_nextOf_tuple_end (show X.A.in1.handled = none from I.ok.hd hc) st.2.1 st.2.2 (by simp; omega) hE }
    exact wpAny_pyNext_enum_endD D he ⟨rfl, hit, p⟩ fun h' eb => ⟨rfl, I.turned (t' := s.toks) (fun b o hb q => eb b o hb q) f0 f1 f3 f4 f5⟩
  self := fun A i s Q E st h => let ⟨⟨_, he⟩, _⟩ := st; wpAny_pyIter_enum he h
/-- enumerate(x), x a list or a tuple -/
def iEnumA (K : PySem.W.Frag) (ta : TA) : TI := fun σ H R => ta σ H fun vs H1 => ∃ a, vs = [.ref a] ∧ ((∃ xs, SqL K H1 a xs ∧ R (Ite K a) H1) ∨ ∃ xs, SqT K H1 a xs ∧ R (IteT K a) H1)
theorem pi_enumA {X : Cx} {e : Expr} {ta : TA} {p pos tpos : Pos} {elts : List Expr} {kk : Nat} (hg : Gl X "enumerate") (hm : X.mg "enumerate" = none) (ha : PA X [e] ta) (hs : starEach [e] X.env = [(false, eval e X.env)] := by rfl) :
    PI X (.Tuple elts kk tpos) (.Call (.Name "enumerate" p) [e] [] pos) (iEnumA X.K ta) := by
  refine ⟨fun pins s σ H R I h => ?_⟩
  refine Call_ (ld_blt I hg hm boot_enumerate (PyProof.Rows.callWith_type1 (thn (ha.run pos pins s σ H _ I h) fun us s1 ⟨vs, H1, I1, r1, q1⟩ => ?_) hs rfl))
  obtain ⟨a, ex, q1⟩ := q1
  subst ex
  cases r1 with
  | cons r rr =>
    cases rr
    cases r
    have two : ∀ b, b ∈ [s1.heap.objs.size + 1, s1.heap.objs.size] → FpOk X pins H1 b := fun b hb => by
      have e2 : b = s1.heap.objs.size + 1 ∨ b = s1.heap.objs.size := by simpa using hb
      have hle : s1.heap.objs.size ≤ b := by
        rcases e2 with z | z
        · rw [z]; exact Nat.le_add_right _ _
        · rw [z]; exact Nat.le_refl _
      exact I1.fpOk hle (I1.hok.fresh hle)
    rcases q1 with ⟨xs, hq, q⟩ | ⟨xs, hq, q⟩
    · obtain ⟨its, rv, pl, hz⟩ := I1.list hq
      refine call_enum (begins_list a its.toArray) pl.isList fun h' he hit hsz hk => wpAny_pyIter_enum he ?_
      have I2 : Inv X pins σ H1 { s1 with heap := h' } := I1.kept (t' := s1.toks) hk
      exact ⟨_, _, _, _, H1, rfl, I2, turn_enum a (s1.heap.objs.size + 1) s1.heap.objs.size, ⟨⟨.none, he⟩, ⟨_, hit, rfl, rfl⟩, Nat.succ_ne_self _⟩, two, q⟩
    · obtain ⟨its, rv, pl, hz⟩ := I1.tuple hq
      have hal : a < s1.heap.objs.size := let ⟨_, e, _⟩ := pl; Heap.lt_size e
      refine call_enum (begins_tuple a its.toArray) (show s1.heap.IsTuple a its.toArray from pl) fun h' he hit hsz hk => wpAny_pyIter_enum he ?_
      have I2 : Inv X pins σ H1 { s1 with heap := h' } := I1.kept (t' := s1.toks) hk
      exact ⟨_, _, _, _, H1, rfl, I2, turn_enumT a (s1.heap.objs.size + 1) s1.heap.objs.size, ⟨⟨.none, he⟩, ⟨_, hit, rfl, rfl⟩, Nat.succ_ne_self _, Nat.ne_of_lt hal, Nat.ne_of_lt (Nat.lt_succ_of_lt hal)⟩, two, q⟩
/-- a list or a tuple walked -/
def iSeqA (K : PySem.W.Frag) (tl : TE) : TI := fun σ H R => tl σ H fun x H1 => ∃ a, x = .ref a ∧ ((∃ xs, SqL K H1 a xs ∧ R (Itl K a) H1) ∨ ∃ xs, SqT K H1 a xs ∧ R (Itt K a) H1)
theorem pi_seqA {X : Cx} {tg l : Expr} {tl : TE} (hl : PE X l tl) : PI X tg l (iSeqA X.K tl) := by
  refine ⟨fun pins s σ H R I h => ?_⟩
  refine thn (hl.run pins s σ H _ I h) fun v s1 ⟨x, H1, I1, r1, a, e, q1⟩ => ?_
  subst e
  cases r1
  have one : ∀ b, b ∈ [s1.heap.objs.size] → FpOk X pins H1 b := fun b hb => by
    have e : b = s1.heap.objs.size := by simpa using hb
    subst e
    exact I1.fpOk (Nat.le_refl _) (I1.hok.fresh (Nat.le_refl _))
  rcases q1 with ⟨xs, hq, q⟩ | ⟨xs, hq, q⟩
  · obtain ⟨its, rv, p, hz⟩ := I1.list hq
    refine wpAny_pyIter_list p.isList ?_
    exact ⟨_, _, _, _, H1, rfl, I1.kept (t' := s1.toks) fun b o e => Heap.get?_push_of_some _ e, turn_list a _, ⟨_, Heap.get?_push_size _ rfl, rfl, rfl⟩, one, q⟩
  · obtain ⟨its, rv, p, hz⟩ := I1.tuple hq
    refine wpAny_pyIter_tuple (show s1.heap.IsTuple a its.toArray from p) ?_
    exact ⟨_, _, _, _, H1, rfl, I1.kept (t' := s1.toks) fun b o e => Heap.get?_push_of_some _ e, turn_tuple a _, ⟨_, Heap.get?_push_size _ rfl, rfl, rfl⟩, one, q⟩
/-! tuple * n, n below 2 -/
theorem tuple_mul1 (l : Addr) (items : Array Value) (n : Nat) (dd : Option Addr) (sl : Array (Option Value)) (x : Int) (u : Tok) (c0 : (decide (x < -(2 ^ 63)) || decide (x ≥ 2 ^ 63)) = false) (c1 : (items.isEmpty || x == 1) = true) :
    Meets (Builtin.«tuple.__mul__» ⟨[.ref l, .int x u], []⟩) (fun _ R s => s.heap.get? l = some { cls := .type "tuple", dict := dd, data := .seq items n, slots := sl } ∧ R (.ok (.ret (Value.ref l))) s) :=
  .of_wp fun prog w A R s h => by
    obtain ⟨hp, g, d, tk, os⟩ := s
    obtain ⟨hl, h⟩ := h
    have f1 := AutoSeq1.idx_int
    wp_walk using AutoSeq1.wpAny_loadPart' hl
    refine wpAny_ite_false (decide_eq_false (by rw [c0]; exact Bool.false_ne_true)) ?_
    wp_walk using AutoSeq1.wpAny_loadPart' hl
    exact ⟨_, rfl, h⟩
theorem tuple_mul0 (l : Addr) (items : Array Value) (n : Nat) (dd : Option Addr) (sl : Array (Option Value)) (x : Int) (u : Tok) (c0 : (decide (x < -(2 ^ 63)) || decide (x ≥ 2 ^ 63)) = false) (c1 : (items.isEmpty || x == 1) = false) (c2 : (decide (x ≤ 0) || items.isEmpty) = true) :
    Meets (Builtin.«tuple.__mul__» ⟨[.ref l, .int x u], []⟩) (fun _ R s => s.heap.get? l = some { cls := .type "tuple", dict := dd, data := .seq items n, slots := sl } ∧
      R (.ok (.ret (Value.ref s.heap.objs.size))) { s with heap := s.heap.push { cls := Value.type "tuple", data := Data.seq #[] }, toks := s.toks }) :=
  .of_wp fun prog w A R s h => by
    obtain ⟨hp, g, d, tk, os⟩ := s
    obtain ⟨hl, h⟩ := h
    have f1 := AutoSeq1.idx_int
    wp_walk using AutoSeq1.wpAny_loadPart' hl
    refine wpAny_ite_false (decide_eq_false (by rw [c0]; exact Bool.false_ne_true)) ?_
    wp_walk using AutoSeq1.wpAny_loadPart' hl
    repeat (first
      | (refine wpAny_ite_false (decide_eq_false (by rw [c1]; exact Bool.false_ne_true)) ?_; wp_walk using AutoSeq1.wpAny_loadPart' hl)
      | (refine wpAny_ite_true (decide_eq_true c2) ?_; wp_walk using AutoSeq1.wpAny_loadPart' hl))
    exact ⟨_, rfl, h⟩
/-- t * k -/
def rMulT (K : PySem.W.Frag) : R2 := fun x y H Q => ∃ l k xs, x = .ref l ∧ y = .int k ∧ SqT K H l xs ∧ -(2 ^ 63) ≤ k ∧ k < 2 ^ 63 ∧ xs.length * k.toNat ≤ sizeLine ∧
  ((xs = [] ∨ k = 1) → Q (.ref l) H) ∧ (¬ (xs = [] ∨ k = 1) → ∀ (p : Addr) (o : Obj), H p = none → o.dict = none → Q (.ref p) (upd H p (.frz o (.tup (List.replicate k.toNat xs).flatten))))
theorem op_mulT {X : Cx} : OpR X (binaryOp .Mult) (rMulT X.K) := by
  intro pins s σ H x y v u Q I rx ry h
  obtain ⟨l, k, xs, rfl, rfl, hT, k1, k2, hz, q1, q2⟩ := h
  cases rx
  obtain ⟨t, rfl⟩ := ry
  obtain ⟨its, r, ⟨⟨cls, dd, data, sl⟩, ho, hc, n, hd⟩, hs⟩ := I.tuple hT
  simp only at hc hd
  subst hc hd
  have hle : its.length = xs.length := r.length.symm
  have hem : its.toArray.isEmpty = decide (xs = []) := by
    cases its with
    | nil =>
      have : xs = [] := List.eq_nil_of_length_eq_zero hle.symm
      simp [this]
    | cons a b =>
      have : xs ≠ [] := fun e => by rw [e] at hle; cases hle
      simp [this]
  have c0 : (decide (k < -(2 ^ 63)) || decide (k ≥ 2 ^ 63)) = false := by
    rw [decide_eq_false (by omega), decide_eq_false (by omega)] <;> rfl
  have hmul : ((its.toArray.size : Nat) : Int) * k ≤ 16777216 := by
    have e : its.toArray.size = xs.length := by rw [List.size_toArray, hle]
    rw [e]
    by_cases hk : 0 ≤ k
    · have : ((xs.length * k.toNat : Nat) : Int) ≤ 16777216 := by rw [szl] at hz; omega
      rw [Int.natCast_mul, Int.toNat_of_nonneg hk] at this
      exact this
    · have : ((xs.length : Nat) : Int) * k ≤ 0 := Int.mul_nonpos_of_nonneg_of_nonpos (by omega) (by omega)
      omega
  by_cases cs : xs = [] ∨ k = 1
  · have c1 : (its.toArray.isEmpty || k == 1) = true := by
      rw [hem]
      rcases cs with e | e
      · simp [e]
      · simp [e]
    exact wpAny_binaryOp_repeat_ref (T := "tuple") (U := "int") (by decide) ⟨_, ho, rfl⟩ (fun s' => typeIs_int s' k t) noFill_tuple_mul F.fills_int_mul F.slot_int_rmul repeat_tuple F.slot_int_index.lookup
      (call_meets F.slot_int_rmul (typeIs_int s k t) F.entry_int_rmul (F.args_int_rmul_2 _ _) (int_rmul_tuple k t l its.toArray n dd sl)
        ⟨ho, rfl, ⟨_, ho, rfl⟩, call_meets F.slot_tuple_mul ⟨_, ho, rfl⟩ F.entry_tuple_mul (F.args_tuple_mul_2 _ _) (tuple_mul1 l its.toArray n dd sl k t c0 c1) ⟨ho, .ref l, H, I, rfl, q1 cs⟩⟩)
  · have c1 : (its.toArray.isEmpty || k == 1) = false := by
      rw [hem]
      have h1 : ¬ xs = [] := fun e => cs (.inl e)
      have h2 : ¬ k = 1 := fun e => cs (.inr e)
      simp [h1, h2]
    have flen : (List.replicate k.toNat its).flatten.length ≤ sizeLine := by
      rw [PyProof.Rows.lm_len_rep_flat, hle, Nat.mul_comm]
      exact hz
    have fin : EP X pins σ Q (.ref s.heap.objs.size) { s with heap := s.heap.push { cls := .type "tuple", data := .seq (List.replicate k.toNat its).flatten.toArray }, toks := s.toks } :=
      ⟨.ref s.heap.objs.size, _, laidX I (r.rep k.toNat) (by rw [PyProof.Rows.lm_len_rep_flat, Nat.mul_comm]; exact hz), rfl, q2 cs _ _ (I.hok.fresh (Nat.le_refl _)) rfl⟩
    by_cases hk : k ≤ 0
    · have c2 : (decide (k ≤ 0) || its.toArray.isEmpty) = true := by rw [decide_eq_true hk] <;> rfl
      have e0 : (List.replicate k.toNat its).flatten = [] := by
        rw [show k.toNat = 0 by omega]
        rfl
      rw [e0] at fin
      exact wpAny_binaryOp_repeat_ref (T := "tuple") (U := "int") (by decide) ⟨_, ho, rfl⟩ (fun s' => typeIs_int s' k t) noFill_tuple_mul F.fills_int_mul F.slot_int_rmul repeat_tuple F.slot_int_index.lookup
        (call_meets F.slot_int_rmul (typeIs_int s k t) F.entry_int_rmul (F.args_int_rmul_2 _ _) (int_rmul_tuple k t l its.toArray n dd sl)
          ⟨ho, rfl, ⟨_, ho, rfl⟩, call_meets F.slot_tuple_mul ⟨_, ho, rfl⟩ F.entry_tuple_mul (F.args_tuple_mul_2 _ _) (tuple_mul0 l its.toArray n dd sl k t c0 c1 c2) ⟨ho, fin⟩⟩)
    · have c2 : (decide (k ≤ 0) || its.toArray.isEmpty) = false := by
        have h1 : ¬ xs = [] := fun e => cs (.inl e)
        rw [hem, decide_eq_false hk, decide_eq_false h1] <;> rfl
      have c4 : Builtin.Tuple.tupleTooMany (((its.toArray.size : Nat) : Int) * k) = false := by
        unfold Builtin.Tuple.tupleTooMany
        rw [sizeLine_eq]
        exact decide_eq_false (by omega)
      refine wpAny_binaryOp_repeat_ref (T := "tuple") (U := "int") (by decide) ⟨_, ho, rfl⟩ (fun s' => typeIs_int s' k t) noFill_tuple_mul F.fills_int_mul F.slot_int_rmul repeat_tuple F.slot_int_index.lookup
        (call_meets F.slot_int_rmul (typeIs_int s k t) F.entry_int_rmul (F.args_int_rmul_2 _ _) (int_rmul_tuple k t l its.toArray n dd sl)
          ⟨ho, rfl, ⟨_, ho, rfl⟩, call_meets F.slot_tuple_mul ⟨_, ho, rfl⟩ F.entry_tuple_mul (F.args_tuple_mul_2 _ _) (tuple_mulW l its.toArray n dd sl k t c0 c1 c2 (by omega) c4 (by rw [size_rep, List.size_toArray]; exact flen)) ⟨ho, ?_⟩⟩)
      rw [size_rep]
      exact fin
end EV
namespace EV
open PySem PySem.Spec PyProof.Rows L2
/-! text * n -/
theorem mulOk_of {x : Str} {k : Int} (k1 : -(2 ^ 63) ≤ k) (k2 : k < 2 ^ 63) (hz : x.length * k.toNat ≤ 16777216) : MulOk x k := by
  refine ⟨?_, fun h1 h2 => ?_, fun h1 h2 => ?_⟩
  · rw [decide_eq_false (by omega), decide_eq_false (by omega)] <;> rfl
  · have hk : 0 < k := by omega
    have e : ((x.length * k.toNat : Nat) : Int) = (x.length : Int) * k := by
      rw [Int.natCast_mul, Int.toNat_of_nonneg (by omega)]
    have : (x.length : Int) * k ≤ 2 ^ 63 - 1 := by omega
    have := Int.le_ediv_of_mul_le hk this
    omega
  · unfold Builtin.Str.tooLong
    rw [szl]
    simp only [decide_eq_false_iff_not]
    omega
def rMulS : R2 := fun x y H Q => ∃ z k, x = .str z ∧ y = .int k ∧ -(2 ^ 63) ≤ k ∧ k < 2 ^ 63 ∧ z.length * k.toNat ≤ 16777216 ∧ Q (.str (Txt.mul z k)) H
theorem op_mulS {X : Cx} : OpR X (binaryOp .Mult) rMulS := by
  intro pins s σ H x y v u Q I rx ry ⟨z, k, hx, hy, k1, k2, hz, q⟩
  subst hx hy
  obtain ⟨t, rfl⟩ := rx
  obtain ⟨t2, rfl⟩ := ry
  exact SB.mul (mulOk_of k1 k2 hz) fun t' tk => ⟨.str _, H, I.tok tk, ⟨t', rfl⟩, q⟩
/-! list(reversed(list)) -/
section
variable {prog : Program} {w : World} {A : Around} {E : Value → Shared → Prop} {s : Shared}
theorem extend_rev {S it l : Addr} {items : Array Value} {R : Result → Shared → Prop} (hh : A.handled = none) (hit : s.heap.IsRevIter it l ((items.size : Int) - 1)) (hl : s.heap.IsList l items) (hne : l ≠ it) (hSi : S ≠ it) (hSl : S ≠ l) (hn : items.size ≤ sizeLine)
    (hS : s.heap.get? S = some { cls := .type "list", data := .seq #[] })
    (hR : ∀ (h' : Heap) (tk c : Nat) (acc : Array Value), (∀ b o, b ≠ it → b ≠ S → s.heap.get? b = some o → h'.get? b = some o) → h'.get? S = some { cls := .type "list", dict := none, data := .seq acc c, slots := #[] } → ItemsOf (fun i v => items[items.size - 1 - i]? = some v) acc items.size → R (.ok (.ret .none)) { s with heap := h', toks := tk }) :
    wpAny (model prog w) A.in1 (Builtin.List.listExtendWith (.ref S) (.ref it) .none)
      (fun fin s' => match fin with | .done f => R (.ok f) s' | .again c' => c'.quiet = true ∧ codeAny (model prog w) A c' R s') (fun e s' => R (.error e) s') s := by
  have W := (Walks.listRev (prog := prog) (w := w) (A := A.in1) hh it l hne items).toS
  have hSf : S ∉ [it, l] := by simp only [List.mem_cons, List.not_mem_nil, or_false, not_or]; exact ⟨hSi, hSl⟩
  have hT : s.TypeIs (.ref it) "list_reverseiterator" := hit.typeIs
  have h1 : Builtin.List.listSameRef (.ref S) (.ref it) = false := by simp [Builtin.List.listSameRef, hSi]
  unfold Builtin.List.listExtendWith
  refine wpAny_bind (wpAny_typeOf hT ?_)
  rw [if_neg (by rw [h1]; decide)]
  refine wpAny_bind (wpAny_pyIter_revIter hit ?_)
  refine wpAny_bind (wpAny_holding ?_)
  unfold Builtin.List.listLengthHint
  refine wpAny_bind (wpAny_specialOf hT RT.nolen_lri ?_)
  show wpAny _ A.in1 (specialOf (Value.ref it) (Str.ofString "__length_hint__") >>= _) _ _ _
  refine wpAny_bind (wpAny_specialOf hT RT.hint_lri ?_)
  generalize hid : ("list_reverseiterator.__length_hint__" : String) = id0
  wp_delta
  rw [show splitId id0 = some ("list_reverseiterator", "__length_hint__") from by subst hid; decide +kernel]
  subst hid
  refine wpAny_bind (wpAny_isInstance (b := true) hT (by rw [isSubtype_type]; kernel_rfl) ?_)
  refine wpAny_pure ?_
  rw [if_neg (by decide)]
  have e0 : ((items.size : Nat) : Int) - 1 - ((0 : Nat) : Int) = (items.size : Int) - 1 := by omega
  refine wpAny_pure ⟨plainId_quiet F.plain_extend_loop _, codeAny_extend_loopS W hn _ hSf _ items.size 0 _ _ _ rfl (Nat.zero_le _) ⟨Nat.zero_le _, by rw [e0]; exact hit, hl⟩ hS (ItemsOf.nil _) fun s' acc' c' hm hS' hacc => ?_⟩
  rw [Moved.eq_with hm] at hS' ⊢
  refine hR s'.heap s'.toks c' acc' (fun b o hb hb2 e => hm.heap b o (fun hmem => ?_) e) hS' hacc
  rcases List.mem_cons.mp hmem with e' | hmem
  · exact hb2 e'
  · exact hb (List.mem_singleton.mp hmem)
theorem call_list_rev {it l : Addr} {items : Array Value} {Q : Value → Shared → Prop} (hh : A.handled = none) (hit : s.heap.IsRevIter it l ((items.size : Int) - 1)) (hl : s.heap.IsList l items) (hne : l ≠ it) (hn : items.size ≤ sizeLine)
    (hQ : ∀ (h' : Heap) (tk c : Nat) (acc : Array Value), (∀ b o, b ≠ it → s.heap.get? b = some o → h'.get? b = some o) → h'.get? s.heap.objs.size = some { cls := .type "list", dict := none, data := .seq acc c, slots := #[] } →
      ItemsOf (fun i v => items[items.size - 1 - i]? = some v) acc items.size → Q (.ref s.heap.objs.size) { s with heap := h', toks := tk }) :
    wpAny (model prog w) A (call (.type "list") [.ref it]) Q E s := by
  obtain ⟨oi, hoi, _⟩ := id hit
  obtain ⟨ol, hol, _⟩ := id hl
  have hSi : s.heap.objs.size ≠ it := Nat.ne_of_gt (Heap.lt_size hoi)
  have hSl : s.heap.objs.size ≠ l := Nat.ne_of_gt (Heap.lt_size hol)
  refine callType_codes (Q₁ := fun obj s₁ => obj = .ref s.heap.objs.size ∧ s₁ = { s with heap := s.heap.push { cls := .type "list", data := .seq #[] } }) F.called_list (F.typeCall_list_1 _) F.entry_list_init
    (code_list_new _ ⟨rfl, rfl⟩) fun obj s₁ h₁ => ?_
  obtain ⟨rfl, rfl⟩ := h₁
  have hS : (s.heap.push { cls := .type "list", data := .seq #[] }).get? s.heap.objs.size = some { cls := .type "list", data := .seq #[] } := Heap.get?_push_size _ rfl
  refine ⟨⟨_, hS, rfl⟩, F.args_list_init_2 _ _, ?_⟩
  show wpAny _ A.in1.in1 (do let old ← Builtin.List.listItems (.ref s.heap.objs.size); Builtin.List.listUpdate (.ref s.heap.objs.size) (fun _ => #[]); letGo old.toList.reverse; Builtin.List.listExtendWith (.ref s.heap.objs.size) (.ref it) .none) _ _ _
  refine wpAny_bind ?_
  unfold Builtin.List.listItems
  refine wpAny_bind (wpAny_seqItems hS rfl (wpAny_pure ?_))
  show wpAny _ A.in1.in1 (updateSeq s.heap.objs.size (fun _ => #[]) >>= fun _ => letGo (#[] : Array Value).toList.reverse >>= fun _ => Builtin.List.listExtendWith (.ref s.heap.objs.size) (.ref it) .none) _ _ _
  refine wpAny_bind (wpAny_updateSeq hS rfl ?_)
  have hS₂ := Heap.get?_update_self (Obj.mapSeq (fun _ => (#[] : Array Value))) hS rfl
  have oth : ∀ b o, b ≠ s.heap.objs.size → s.heap.get? b = some o → ((s.heap.push { cls := .type "list", data := .seq #[] }).update s.heap.objs.size (Obj.mapSeq (fun _ => (#[] : Array Value)))).get? b = some o :=
    fun b o hb e => (Heap.get?_update_other _ _ (Ne.symm hb)).trans (Heap.get?_push_of_some _ e)
  refine wpAny_bind (wpAny_letGo ?_)
  refine extend_rev (A := A.in1) hh (hit.at fun o e => oth it o (Ne.symm hSi) e) (hl.at fun o e => oth l o (Ne.symm hSl) e) hne hSi hSl hn hS₂ fun h' tk c acc hk hS' hacc => ?_
  exact ⟨rfl, hQ h' tk c acc (fun b o hb e => hk b o hb (Nat.ne_of_lt (Heap.lt_size e)) (oth b o (Nat.ne_of_lt (Heap.lt_size e)) e)) hS' hacc⟩
end
/-- list(reversed(x)), x a list: a new list -/
def tLstRev (K : PySem.W.Frag) (te : TE) : TE := fun σ H Q => te σ H fun v H1 => ∃ (a : Addr) (xs : List V), v = .ref a ∧ SqL K H1 a xs ∧ ∀ q, H1 q = none → Q (.ref q) (upd H1 q (.lst xs.reverse))
theorem pe_lstRev {X : Cx} {e : Expr} {te : TE} {p p2 pos pos2 : Pos} (hc : X.calm = true) (hg : Gl X "list") (hm : X.mg "list" = none) (hg2 : Gl X "reversed") (hm2 : X.mg "reversed" = none) (he : PE X e te)
    (hs : starEach [e] X.env = (false, eval e X.env) :: starEach [] X.env := by rfl)
    (hs2 : starEach [.Call (.Name "reversed" p2) [e] [] pos2] X.env = (false, eval (.Call (.Name "reversed" p2) [e] [] pos2) X.env) :: starEach [] X.env := by rfl) :
    PE X (.Call (.Name "list" p) [.Call (.Name "reversed" p2) [e] [] pos2] [] pos) (tLstRev X.K te) := by
  refine ⟨fun pins s σ H Q I h => ?_⟩
  refine Call_ (ld_blt I hg hm boot_list (PyProof.Rows.callWith_type1 (args_cons (Call_ (ld_blt I hg2 hm2 PyProof.Rows.boot_reversed (PyProof.Rows.callWith_type1 (args_cons (thn (he.run pins s σ H _ I h) fun u s1 ⟨v, H1, I1, r1, q1⟩ => args_nil ?_) hs) hs rfl))) hs2) hs2 rfl))
  obtain ⟨a, xs, ev, hq, q⟩ := q1
  subst ev
  obtain rfl : u = Value.ref a := r1
  obtain ⟨its, rv, p', hz⟩ := I1.list hq
  refine call_reversed_list p'.isList (args_nil ?_)
  have k0 : ∀ b o, s1.heap.get? b = some o → (s1.heap.push (revObj a ((its.toArray.size : Int) - 1))).get? b = some o := fun b o e => Heap.get?_push_of_some _ e
  have I2 : Inv X pins σ H1 { s1 with heap := s1.heap.push (revObj a ((its.toArray.size : Int) - 1)) } := I1.kept (t' := s1.toks) k0
  obtain ⟨f0, f1, f2, f3, f4, f5⟩ := I1.fpOk (H' := H1) (b := s1.heap.objs.size) (Nat.le_refl _) (I1.hok.fresh (Nat.le_refl _))
  have hl := p'.isList
  obtain ⟨ol, hol, _⟩ := id hl
  have hne : a ≠ s1.heap.objs.size := Nat.ne_of_lt (Heap.lt_size hol)
  have hn : its.toArray.size ≤ sizeLine := by rw [List.size_toArray, ← rv.length]; exact hz
  refine call_list_rev (s := { s1 with heap := s1.heap.push (revObj a ((its.toArray.size : Int) - 1)) }) (I1.ok.hd hc) ⟨_, Heap.get?_push_size _ rfl, rfl, rfl⟩ (hl.push _) hne hn fun h' tk c acc hk hS hi => ?_
  have sz : (s1.heap.push (revObj a ((its.toArray.size : Int) - 1))).objs.size = s1.heap.objs.size + 1 := Heap.size_push ..
  have fr : H1 (s1.heap.push (revObj a ((its.toArray.size : Int) - 1))).objs.size = none := I2.hok.fresh (Nat.le_refl _)
  have rv2 := RT.vals_rev rv hi
  have hI : Inv X pins σ (upd H1 (s1.heap.push (revObj a ((its.toArray.size : Int) - 1))).objs.size (.lst xs.reverse)) { s1 with heap := h', toks := tk } := by
    refine I2.turnedNew (t' := tk) (ch := [s1.heap.objs.size]) (fun b o hb e => hk b o (fun z => hb (by simp [z])) e) (fun b hb => ?_) (Nat.le_refl _) (show ObjOk X.prog X.w _ _ _ (.lst xs.reverse) from ⟨by rw [List.length_reverse]; exact hz, acc.toList, c, rv2, by rw [Array.toArray_toList]; exact hS⟩)
    have e : b = s1.heap.objs.size := by simpa using hb
    subst e
    exact ⟨f0, f1, f2, f3, f4, f5⟩
  exact ⟨.ref _, _, hI, rfl, q _ fr⟩
end EV
namespace EV
open PySem PySem.Spec PyProof.Rows L2
/-! defs: what they promise, how they are called; no repr runs around -/
abbrev Fn := List PV → Sto → Option (PV × Sto)
def spD (K : PySem.W.Frag) (n : Nat) (f : Fn) (vs : List V) (H : Hp) (Q : VK) : Prop := ∃ L S xs x S', xs.length = n ∧ RS K L H S ∧ RPs K L H xs vs ∧ f xs S = some (x, S') ∧ ∀ L' H' v, Le K L H L' H' → RS K L' H' S' → RP K L' H' x v → Q v H'
structure FnG (P : Program) (w : World) (K : PySem.W.Frag) (mg : Str → Option Value) (base : Heap) (k : Nat) (f : Addr) (fd : FuncData) (ps : List Str) (g : Fn) : Prop where
  run : ∀ (A : Around) (outer : List Env) (s : Shared) (H : Hp) (args : Args) (us : List Value) (vs : List V) (Q : VK), A.guards = some [] → Room k A → Env0 P w K mg base A outer s H → BindsTo s fd args (ps.zip us) → Vals vs us → spD K ps.length g vs H Q →
    codeAny (model P w) A (.call (.ref f) args) (CR CX0 outer P w H s Q E0) s
theorem spD.len {K : PySem.W.Frag} {n : Nat} {f : Fn} {vs : List V} {H : Hp} {Q : VK} (h : spD K n f vs H Q) : vs.length = n := by
  obtain ⟨L, S, xs, x, S', hl, R, r, _⟩ := h
  rw [← r.length, hl]
def runD (N : Nat) (b : DS) : Fn := fun xs S => match b (xs.map some ++ List.replicate (N - xs.length) none) S with
  | some (.rt x, _, S') => some (x, S')
  | some (.nx, _, S') => some (.non, S')
  | _ => none
theorem RE.start {K : PySem.W.Frag} {L : List Addr} {H : Hp} {N : List Str} {xs : List PV} {vs : List V} (r : RPs K L H xs vs) : RE K L H (xs.map some ++ List.replicate (N.length - xs.length) none) (L2.start N vs) := by
  refine ⟨by simp [L2.start, r.length], fun i x q => ?_⟩
  by_cases c : i < xs.length
  · rw [List.getElem?_append_left (by simpa using c), List.getElem?_map] at q
    obtain ⟨y, hy, e⟩ := Option.map_eq_some_iff.mp q
    cases e
    obtain ⟨v, hv, rv⟩ := r.get hy
    refine ⟨v, ?_, rv⟩
    unfold L2.start
    rw [List.getElem?_append_left (by rw [List.length_map, ← r.length]; exact c), List.getElem?_map, hv]
    rfl
  · rw [List.getElem?_append_right (by simpa using c), List.getElem?_replicate] at q
    split at q <;> cases q
/-- a def of the text keeps what its body says -/
theorem fnG_of {P : Program} {w : World} {K : PySem.W.Frag} {mg : Str → Option Value} {base : Heap} {k : Nat} {f : Addr} {fd : FuncData} {name qual : Str} {params : Arguments} {body : List Stmt} {scope : Scope} {N ps : List Str} {b : DS} (F : FunD K name qual params body scope [] [] f fd) (S : FnScope N ps scope)
    (hbody : ∀ (cdv : Value) (A : Around) (outer : List Env) (s : Shared) (H : Hp), A.guards = some [] → Room k (A.deeper (envOfC qual scope s.heap.objs.size f cdv)) →
      XSs (cxOf CX0 P w K mg base N qual scope f cdv A outer s H E0).nox body b) : FnG P w K mg base (k + 1) f fd ps (runD N.length b) := by
  obtain ⟨oc, od, dV, kV, doc, pm, an, cdv, ct, osl, rfl, lk, hcd, _, _⟩ := F.ex
  refine ⟨fun A outer s H args us vs Q gd hr e0 hb r hsp => ?_⟩
  have hl : vs.length = ps.length := hsp.len
  have up : ∀ b o, base.get? b = some o → s.heap.get? b = some o := fun b o e => (e0.bs b o e).1
  have lim : s.heap.NoLimit := e0.mod.nolimit.keeps up
  have KX : K.In s.heap := e0.mod.kin.keeps up
  refine codeAny_call_function hr.depth (KX _ _ lk) rfl S.co S.gen rfl (PySem.W.codeRec_of KX hcd) (hb _ _ _ _ ?_)
  refine wpAny_newFunctionEnv_cells S.kind (fun ⟨n, v⟩ hy => (S.par n (List.of_mem_zip hy).1).elim .inl fun q => .inr ⟨q, PySem.W.cellsFrom_some _ _ _ (.inl q)⟩) fun env he s1 x => ?_
  subst he
  refine ⟨lim.keeps x.toInCall.keep, codeAny_func ?_⟩
  have I := inv_start (CX := CX0) (E := E0) S hr.hd e0 hl r x
  have hB := hbody cdv A outer s H gd (hr.deeper _)
  obtain ⟨L, S0, xs, z, S', hn, R, rx, hf, k⟩ := hsp
  have fin : ∀ {s' : Shared} {σ' : L2.St} {H' : Hp} {v : V} {u : Value}, Inv (cxOf CX0 P w K mg base N qual scope f cdv A outer s H E0).nox [] σ' H' s' → RelV v u → Q v H' → CE outer P w H s Q u s' :=
    fun {s' σ' H' v u} J rv q => ⟨v, H', J.os, J.bare, J.base, J.hok, rv, q⟩
  unfold runD at hf
  refine wpAny_mono (hB.run [] s1 (L2.start N vs) H { nx := fun _ H' => Q .non H', rt := Q } (I.wish _) ?_) (fun fl s' hs => ?_) fun e s' hs => hs.elim
  · cases hq : b (xs.map some ++ List.replicate (N.length - xs.length) none) S0 with
    | none => rw [hq] at hf; cases hf
    | some t =>
      obtain ⟨o, e1, S1⟩ := t
      rw [hq] at hf
      refine ⟨L, S0, _, o, e1, S1, R, RE.start rx, hq, fun L' H' le R' => ?_⟩
      cases o with
      | nx => cases hf; exact fun σ _ => k L' H' .non le R' .non
      | rt y => cases hf; exact fun v rv => k L' H' v le R' rv
      | bk => cases hf
      | ct => cases hf
  · cases fl with
    | ret u =>
      obtain ⟨v, σ', H', J, rv, q⟩ := hs
      exact fin J rv q
    | next =>
      obtain ⟨σ', H', J, q⟩ := hs
      exact fin (v := V.non) (u := Value.none) J rfl q
    | brk =>
      obtain ⟨_, _, _, q⟩ := hs
      exact False.elim q
    | cont =>
      obtain ⟨_, _, _, q⟩ := hs
      exact False.elim q
section
variable {X : Cx} {k : Nat} {f : Addr} {fd : FuncData} {ps ks : List Str} {g : Fn} {x : Str} {p pos : Pos} {e : Expr} {es : List Expr} {kws : List Keyword} {d : DA}
theorem run_G {args : Args} {pins : List (Addr × Obj)} {σ : L2.St} {H : Hp} {s : Shared} {Q : VK} {us : List Value} {vs : List V} {kw : List (Str × Value)} (F : FnG X.prog X.w X.K X.mg X.base k f fd ps g) (hG : X.A.guards = some []) (hr : Room k X.A) {us0 : List Value}
    (hb : BindsTo s fd ⟨us0, kw⟩ (ps.zip us)) (I : Inv X pins σ H s) (r : Vals vs us) (h : spD X.K ps.length g vs H Q) : wpAny (model X.prog X.w) X.A (call (.ref f) us0 kw) (EP X pins σ Q) X.xe s := by
  refine wpAny_call (codeAny_mono (F.run X.A X.stack s H ⟨us0, kw⟩ us vs Q hG hr I.env0 hb r h) fun r s' hq => ?_)
  cases r with
  | error e => exact False.elim hq
  | ok fl =>
    cases fl with
    | ret u => exact I.after hq
    | next => exact False.elim hq
    | brk => exact False.elim hq
    | cont => exact False.elim hq
theorem xe_call (F : FnG X.prog X.w X.K X.mg X.base k f fd ps g) (hG : X.A.guards = some []) (hr : Room k X.A) (hg : Gl X x) (hm : X.mg x = some (.ref f)) (hk : PySem.W.keepIn X.K (.ref f) = true) (hb : Binds X.K fd ps [])
    (ha : XA X (e :: es) d) (hn : (e :: es).length = ps.length := by rfl) (hdb : (x == ("__debug__" : Str)) = false := by decide) (he : starEach (e :: es) X.env = (false, eval e X.env) :: starEach es X.env := by rfl) (hpl : (backTo pos (starEach es X.env)).any (·.1) = false := by rfl) :
    XE X (.Call (.Name x p) (e :: es) [] pos) (eA (fun xs S => if xs.length = ps.length then g xs S else none) d) := by
  refine ⟨fun pins s σ H Q I ⟨L, S, sl, z, S', R, E, h1, k⟩ => ?_⟩
  obtain ⟨xs, S1, q1, h1⟩ := bnd_of h1
  refine wpAny_Call_Name_kw (ld_glob I hg hm ?_ hdb)
  refine PySem.W.callWith_K (h₀ := X.base) I.ok.mod.kin hk (thn (ha.run pos pins s σ H _ I ⟨L, S, sl, xs, S1, R, E, q1, fun L' H' v le R' r => (show (fun v H' => spD X.K ps.length g v H' Q) v H' from ?_)⟩) fun us s1 ⟨vs, H1, I1, r, q⟩ => ⟨I1.kIn, ?_⟩) he hpl
  · split at h1
    · rename_i hl
      exact ⟨L', S1, xs, z, S', hl, R', r, h1, fun L2 H2 w le2 => k L2 H2 w (le.trans le2)⟩
    · cases h1
  · have := hb s1 us I1.kIn (by rw [List.append_nil, ← r.length]; exact q.len)
    rw [List.append_nil] at this
    exact run_G (args := ⟨us, []⟩) F hG hr this I1 r q
/-- every argument by its name; nth: where the parameters' values stand among the written ones -/
def pick {α : Type} (nth : List Nat) (xs : List α) : List α := nth.filterMap fun i => xs[i]?
theorem pick_rel {K : PySem.W.Frag} {L : List Addr} {H : Hp} {xs : List PV} {vs : List V} (r : RPs K L H xs vs) : ∀ nth : List Nat, RPs K L H (pick nth xs) (pick nth vs)
  | [] => .nil
  | i :: nth => by
    have ih := pick_rel r nth
    unfold pick at ih ⊢
    rw [List.filterMap_cons, List.filterMap_cons]
    cases h : xs[i]? with
    | some x =>
      obtain ⟨v, hv, rv⟩ := r.get h
      rw [hv]
      exact .cons rv ih
    | none =>
      cases h2 : vs[i]? with
      | none => exact ih
      | some v =>
        obtain ⟨x, hx, _⟩ := r.get' h2
        rw [h] at hx
        cases hx
theorem pick_vals {vs : List V} {us : List Value} (r : Vals vs us) : ∀ nth : List Nat, Vals (pick nth vs) (pick nth us)
  | [] => .nil
  | i :: nth => by
    have ih := pick_vals r nth
    unfold pick at ih ⊢
    rw [List.filterMap_cons, List.filterMap_cons]
    cases h : vs[i]? with
    | some x =>
      obtain ⟨v, hv, rv⟩ := r.get h
      rw [hv]
      exact .cons rv ih
    | none =>
      rw [r.none_of h]
      exact ih
def BindsK (fd : FuncData) (ps ks : List Str) (nth : List Nat) : Prop := ∀ (s : Shared) (ws : List Value), ws.length = ks.length → BindsTo s fd ⟨[], ks.zip ws⟩ (ps.zip (pick nth ws))
theorem bindsK_of {K : PySem.W.Frag} {name qual : Str} {params : Arguments} {body : List Stmt} {scope : Scope} {nth : List Nat} (F : FunD K name qual params body scope [] [] f fd)
    (h : ∀ (kV doc pm : Value) (an : Option Addr) (cdv ct : Value) (ws : List Value), ws.length = ks.length → bindArgs (PySem.W.fnOf name qual params body scope .none kV doc pm an cdv ct) ⟨[], ks.zip ws⟩ = pure (ps.zip (pick nth ws))) : BindsK fd ps ks nth := by
  obtain ⟨oc, od, dV, kV, doc, pm, an, cdv, ct, osl, rfl, lk, hcd, hD, hK⟩ := F.ex
  rcases hD with ⟨_, rfl⟩ | ⟨e, _⟩
  · exact fun s ws hl => .of_eq (h kV doc pm an cdv ct ws hl)
  · exact absurd rfl e
theorem xe_callK {nth : List Nat} (F : FnG X.prog X.w X.K X.mg X.base k f fd ps g) (hG : X.A.guards = some []) (hr : Room k X.A) (hg : Gl X x) (hm : X.mg x = some (.ref f)) (hk : PySem.W.keepIn X.K (.ref f) = true) (hb : BindsK fd ps ks nth)
    (hkw : XK X kws d) (hn : kws.length = ks.length := by rfl) (hall : (backToKw pos (keywordEach kws X.env)).all (·.1.isSome) = true := by rfl) (hks : (backToKw pos (keywordEach kws X.env)).filterMap (·.1) = ks := by rfl)
    (hdb : (x == ("__debug__" : Str)) = false := by decide)
    (hpl : ((backTo pos (starEach [] X.env)).any (·.1) || (backToKw pos (keywordEach kws X.env)).any (·.1.isNone)) = false := by rfl) :
    XE X (.Call (.Name x p) [] kws pos) (eA (fun xs S => if (pick nth xs).length = ps.length ∧ xs.length = ks.length then g (pick nth xs) S else none) d) := by
  refine ⟨fun pins s σ H Q I ⟨L, S, sl, z, S', R, E, h1, k⟩ => ?_⟩
  obtain ⟨xs, S1, q1, h1⟩ := bnd_of h1
  refine wpAny_Call_Name_kw (ld_glob I hg hm ?_ hdb)
  refine PySem.W.callWith_KW0 (h₀ := X.base) I.ok.mod.kin hk hall (thn (hkw.run pos pins s σ H _ I ⟨L, S, sl, xs, S1, R, E, q1, fun L' H' v le R' r => (show (fun v H' => v.length = ks.length ∧ spD X.K ps.length g (pick nth v) H' Q) v H' from ?_)⟩) fun us s1 ⟨vs, H1, I1, r, hl, q⟩ => ⟨I1.kIn, ?_⟩) hpl
  · split at h1
    · rename_i hl
      refine ⟨by rw [← r.length]; exact hl.2, L', S1, pick nth xs, z, S', hl.1, R', pick_rel r nth, h1, fun L2 H2 w le2 => k L2 H2 w (le.trans le2)⟩
    · cases h1
  · rw [hks]
    exact run_G (args := ⟨[], ks.zip us⟩) F hG hr (hb s1 us (by rw [← r.length]; exact hl)) I1 (pick_vals r nth) q
end
end EV
namespace EV
open PySem PySem.Spec PyProof.Rows L2
section
open PySem.SeqAt PySem.AutoSeq1 PySem.MeetsSeq
theorem dict_eq_declines_int (l : Addr) (es : Array DictEntry) (n : Nat) (dd : Option Addr) (sl : Array (Option Value)) (b : Int) (u : Tok) :
    Meets (Builtin.«dict.__eq__» ⟨[.ref l, .int b u], []⟩) (fun _ R s => s.heap.get? l = some { cls := .type "dict", dict := dd, data := .dict es n, slots := sl } ∧ R (.ok (.ret .notImplemented)) s) :=
  .of_wp fun prog w A R s h => by
    obtain ⟨hp, g, d, tk, os⟩ := s
    obtain ⟨hl, h⟩ := h
    have f1 := PySem.F.sub_int_dict
    wp_walk using wpAny_load hl
    exact ⟨_, rfl, h⟩
theorem int_eq_declines_dict (b : Int) (u : Tok) (l : Addr) (c : Value) (es : Array DictEntry) (n : Nat) (dd : Option Addr) (sl : Array (Option Value)) :
    Meets (Builtin.«int.__eq__» ⟨[.int b u, .ref l], []⟩) (fun _ R s => s.heap.get? l = some { cls := c, dict := dd, data := .dict es n, slots := sl } ∧ R (.ok (.ret .notImplemented)) s) :=
  .of_wp fun prog w A R s h => by
    obtain ⟨hp, g, d, tk, os⟩ := s
    obtain ⟨hl, h⟩ := h
    wp_walk using wpAny_load hl
    exact ⟨_, rfl, h⟩
theorem rc_dict_int {A : Around} {s : Shared} {l : Addr} {es : Array DictEntry} {n : Nat} {dd : Option Addr} {sl : Array (Option Value)} (b : Int) (u : Tok) (ho : s.heap.get? l = some { cls := .type "dict", dict := dd, data := .dict es n, slots := sl }) (hu : A.units < cLine) :
    RcAt A s (.ref l) (.int b u) false := fun prog w E Q h => by
  exact rc_eq_decline_or (k := false) ⟨_, ho, rfl⟩ (typeIs_int s b u) (by decide) PySem.F.sub_int_dict PySem.F.slot_dict_eq PySem.F.slot_int_eq_refl
    (fun _ hq => call_meets PySem.F.slot_dict_eq ⟨_, ho, rfl⟩ PySem.F.entry_dict_eq (PySem.F.args_dict_eq_2 _ _) (dict_eq_declines_int l es n dd sl b u) ⟨ho, hq⟩)
    (fun _ hq => call_meets PySem.F.slot_int_eq_refl (typeIs_int s b u) PySem.F.entry_int_eq (PySem.F.args_int_eq_2 _ _) (int_eq_declines_dict b u l (.type "dict") es n dd sl) ⟨ho, hq⟩)
    (fun _ hq => wpAny_of_eq (rfl : isSame (.ref l) (.int b u) = pure false) hq) (.inr hu) h
theorem op_eq_dic {X : Cx} (hu : X.A.units + 64 < cLine) : OpR X (compareOp .Eq) (fun x y H Q => ∃ a ks i, x = .ref a ∧ y = .int i ∧ H a = some (.dK ks) ∧ Q (.bl false) H) := by
  intro pins s σ H x y v u Q I rx ry h
  obtain ⟨a, ks, i, rfl, rfl, e, q⟩ := h
  cases rx
  obtain ⟨t, rfl⟩ := ry
  obtain ⟨hz, hsm, vs, rkv, ⟨cls, dd, data, sl⟩, es, ep, ho, hex, hdat, _⟩ := dk_of I.hok e
  have hc := hex.1
  simp only at hc hdat
  subst hc hdat
  exact rc_dict_int i t ho (by omega) _ _ _ _ ⟨.bl false, H, I, rfl, q⟩
end
/-! data of any depth, for == and repr -/
def mapO {α β : Type} (f : α → Option β) : List α → Option (List β)
  | [] => some []
  | x :: r => match f x, mapO f r with
    | some y, some s => some (y :: s)
    | _, _ => none
def dat (S : Sto) : Nat → PV → Option PyData
  | _, .non => some .none
  | _, .bl b => some (.bool b)
  | _, .int i => some (.int i)
  | _, .str x => some (.str x)
  | _, .fl ns => some (.list (ns.map .int))
  | _, .pr _ _ => none
  | f + 1, .tup xs => (mapO (dat S f) xs).map .tuple
  | f + 1, .loc n => match S[n]? with
    | some (.lst xs) => (mapO (dat S f) xs).map .list
    | _ => none
  | 0, .tup _ => none
  | 0, .loc _ => none
section
variable {X : Cx} {pins : List (Addr × Obj)} {σ : L2.St} {H : Hp} {s : Shared} {L : List Addr} {S : Sto}
theorem dp_ints {K : PySem.W.Frag} : ∀ ns : List Int, DpAll K H (ns.map V.int) (ns.map PyData.int)
  | [] => .nil
  | n :: r => .cons (.int n) (dp_ints r)
theorem mapO_dp {K : PySem.W.Frag} {g : PV → Option PyData} (ih : ∀ x v d, RP K L H x v → g x = some d → Dp K H v d) : ∀ {xs : List PV} {vs : List V} {ds : List PyData}, RPs K L H xs vs → mapO g xs = some ds → DpAll K H vs ds
  | _, _, _, .nil, h => by cases h; exact .nil
  | _, _, _, .cons (x := x) (xs := xs) a b, h => by
    unfold mapO at h
    split at h
    · cases h
      rename_i y t h1 h2
      exact .cons (ih _ _ _ a h1) (mapO_dp ih b h2)
    · cases h
theorem dat_dp {K : PySem.W.Frag} (R : RS K L H S) : ∀ (f : Nat) (x : PV) (v : V) (d : PyData), RP K L H x v → dat S f x = some d → Dp K H v d := by
  intro f
  induction f with
  | zero =>
    intro x v d r h
    cases r with
    | non => cases h; exact .non
    | bl b => cases h; exact .bl b
    | int i => cases h; exact .int i
    | str x => cases h; exact .str x
    | fl q => cases h; exact .lst q.seq (dp_ints _)
    | tup _ _ => cases h
    | pr _ _ _ => cases h
    | loc _ => cases h
  | succ f ih =>
    intro x v d r h
    cases r with
    | non => cases h; exact .non
    | bl b => cases h; exact .bl b
    | int i => cases h; exact .int i
    | str x => cases h; exact .str x
    | fl q => cases h; exact .lst q.seq (dp_ints _)
    | tup hq rs =>
      unfold dat at h
      obtain ⟨ds, h1, h2⟩ := Option.map_eq_some_iff.mp h
      cases h2
      exact .tup hq.t (mapO_dp ih rs h1)
    | pr _ _ _ => cases h
    | @loc n a hL =>
      obtain ⟨o, hS, ro⟩ := R.at_ hL
      unfold dat at h
      rw [hS] at h
      cases o with
      | dic _ => cases h
      | lst xs =>
        obtain ⟨vs, e, rs⟩ := ro
        obtain ⟨ds, h1, h2⟩ := Option.map_eq_some_iff.mp h
        cases h2
        exact .lst (SqL.of e) (mapO_dp ih rs h1)
end
/-! operators -/
def opAdd : O2 := fun x y S => match x, y with
  | .int i, .int j => some (.int (i + j), S)
  | .str a, .str b => if a.length + b.length ≤ 16777216 then some (.str (a ++ b), S) else none
  | .tup a, .tup b => if a.length + b.length ≤ 16777216 then some (.tup (a ++ b), S) else none
  | .loc n, .loc m => match S[n]?, S[m]? with
    | some (.lst a), some (.lst b) => mkL (a ++ b) S
    | _, _ => none
  | _, _ => none
def opSub : O2 := fun x y S => match x, y with
  | .int i, .int j => some (.int (i - j), S)
  | _, _ => none
def small64 (i : Int) : Bool := decide (-(2 ^ 64) < i) && decide (i < 2 ^ 64)
def opMul : O2 := fun x y S => match x, y with
  | .int i, .int j => if (small64 i || small64 j) = true then some (.int (i * j), S) else none
  | .tup xs, .int k => if -(2 ^ 63) ≤ k ∧ k < 2 ^ 63 ∧ xs.length * k.toNat ≤ 16777216 then some (.tup (List.replicate k.toNat xs).flatten, S) else none
  | .str z, .int k => if -(2 ^ 63) ≤ k ∧ k < 2 ^ 63 ∧ z.length * k.toNat ≤ 16777216 then some (.str (Txt.mul z k), S) else none
  | .loc n, .int k => match S[n]? with
    | some (.lst xs) => if -(2 ^ 63) ≤ k ∧ k < 2 ^ 63 ∧ xs.length * k.toNat ≤ 16777216 then mkL (List.replicate k.toNat xs).flatten S else none
    | _ => none
  | _, _ => none
def opFdiv : O2 := fun x y S => match x, y with
  | .int i, .int j => if 0 < j ∧ j < 1073741824 then some (.int (i / j), S) else none
  | _, _ => none
def opMod : O2 := fun x y S => match x, y with
  | .int i, .int j => if 0 < j then some (.int (i % j), S) else none
  | _, _ => none
def opPow : O2 := fun x y S => match x, y with
  | .int i, .int j => if 0 ≤ j ∧ j ≤ 1000000 ∧ i.natAbs < 2 ^ 64 then some (.int (i ^ j.toNat), S) else none
  | _, _ => none
def opCmp (f : Int → Int → Bool) : O2 := fun x y S => match x, y with
  | .int i, .int j => some (.bl (f i j), S)
  | _, _ => none
def opLt : O2 := opCmp fun i j => decide (i < j)
def opLe : O2 := opCmp fun i j => decide (i ≤ j)
def opGt : O2 := opCmp fun i j => decide (j < i)
def opGe : O2 := opCmp fun i j => decide (j ≤ i)
def eqD (x y : PV) (S : Sto) : Option Bool := match dat S 66 x, dat S 66 y with
  | some d, some e => if (SeqAt.shaped d && SeqAt.shaped e) = true then some (PyData.eqv d e) else none
  | _, _ => none
def opEq : O2 := fun x y S => match x, y with
  | .str a, .str b => some (.bl (decide (a = b)), S)
  | .loc n, .int j => match S[n]? with
    | some (.dic _) => some (.bl false, S)
    | _ => (eqD (.loc n) (.int j) S).map fun b => (.bl b, S)
  | x, y => (eqD x y S).map fun b => (.bl b, S)
def opNe : O2 := fun x y S => match x, y with
  | .str a, .str b => some (.bl (!decide (a = b)), S)
  | x, y => (eqD x y S).map fun b => (.bl (!b), S)
def isN : PV → Bool
  | .non => true
  | _ => false
def opIs : O2 := fun x y S => match y with
  | .non => some (.bl (isN x), S)
  | _ => none
def opIsNot : O2 := fun x y S => match y with
  | .non => some (.bl (!isN x), S)
  | _ => none
def opNeg : O1 := fun x S => match x with
  | .int i => some (.int (-i), S)
  | _ => none
section
variable {X : Cx}
theorem small_ok {i j : Int} (h : (small64 i || small64 j) = true) : CMul i j := by
  unfold small64 at h
  rcases Bool.or_eq_true_iff.mp h with h | h <;> simp only [Bool.and_eq_true, decide_eq_true_eq] at h
  · exact .inl h
  · exact .inr h
theorem o_add : OpR X (binaryOp .Add) (r2 X.K opAdd) := by
  intro pins s σ H u v uu vv Q I ru rv ⟨L, S, x, y, z, S', R, rx, ry, h, k⟩
  cases rx with
  | int i =>
    cases ry with
    | int j =>
      cases h
      exact op_add pins s σ H _ _ uu vv Q I ru rv ⟨i, j, rfl, rfl, k L H _ Le.refl R (.int _)⟩
    | _ => cases h
  | str a =>
    cases ry with
    | str b =>
      unfold opAdd at h
      simp only at h
      split at h
      · cases h
        rename_i hl
        exact op_add_str pins s σ H _ _ uu vv Q I ru rv ⟨a, b, rfl, rfl, hl, k L H _ Le.refl R (.str _)⟩
      · cases h
    | _ => cases h
  | tup ha ra =>
    cases ry with
    | tup hb rb =>
      rename_i a vs xs b ws ys
      unfold opAdd at h
      simp only at h
      split at h
      · cases h
        rename_i hl
        refine op_catX pins s σ H _ _ uu vv Q I ru rv ⟨_, _, _, _, rfl, rfl, ha.t, hb.t, by rw [← ra.length, ← rb.length]; exact hl, fun e => ?_, fun e1 e2 => ?_, fun e1 e2 p o hp ho => ?_⟩
        · subst e
          cases ra
          exact k L H _ Le.refl R (.tup hb rb)
        · subst e2
          cases rb
          rw [List.append_nil] at k
          exact k L H _ Le.refl R (.tup ha ra)
        · exact k L _ _ (Le.new hp) (R.new hp) (.tup (.inl ⟨o, upd_same, ho⟩) ((ra.append rb).mono (Le.new hp)))
      · cases h
    | _ => cases h
  | @loc n a hL =>
    cases ry with
    | @loc m b hM =>
      unfold opAdd at h
      simp only at h
      split at h
      · rename_i xs ys h1 h2
        obtain ⟨a2, vs, e1, e2, l1, s1, d1, r1⟩ := own_ok R (.loc hL) (show ownOf (.loc n) S = some (n, xs) by unfold ownOf; simp only [h1])
        obtain ⟨b2, ws, e3, e4, l2, s2, d2, r2⟩ := own_ok R (.loc hM) (show ownOf (.loc m) S = some (m, ys) by unfold ownOf; simp only [h2])
        cases e2
        cases e4
        obtain ⟨q1, q2⟩ := mkL_ok R (r1.append r2) h k
        exact op_cat pins s σ H _ _ uu vv Q I ru rv ⟨_, _, _, _, rfl, rfl, d1, d2, by rw [← List.length_append]; exact q1, q2⟩
      · cases h
    | _ => cases h
  | _ => cases h
theorem o_sub : OpR X (binaryOp .Sub) (r2 X.K opSub) := by
  intro pins s σ H u v uu vv Q I ru rv ⟨L, S, x, y, z, S', R, rx, ry, h, k⟩
  cases rx with
  | int i =>
    cases ry with
    | int j =>
      cases h
      exact op_sub pins s σ H _ _ uu vv Q I ru rv ⟨i, j, rfl, rfl, k L H _ Le.refl R (.int _)⟩
    | _ => cases h
  | _ => cases h
theorem o_mul : OpR X (binaryOp .Mult) (r2 X.K opMul) := by
  intro pins s σ H u v uu vv Q I ru rv ⟨L, S, x, y, z, S', R, rx, ry, h, k⟩
  cases rx with
  | int i =>
    cases ry with
    | int j =>
      unfold opMul at h
      simp only at h
      split at h
      · cases h
        rename_i hs
        exact op_mul pins s σ H _ _ uu vv Q I ru rv ⟨i, j, rfl, rfl, small_ok hs, k L H _ Le.refl R (.int _)⟩
      · cases h
    | _ => cases h
  | str a =>
    cases ry with
    | int j =>
      unfold opMul at h
      simp only at h
      split at h
      · cases h
        rename_i hs
        exact op_mulS pins s σ H _ _ uu vv Q I ru rv ⟨a, j, rfl, rfl, hs.1, hs.2.1, hs.2.2, k L H _ Le.refl R (.str _)⟩
      · cases h
    | _ => cases h
  | @tup a vs xs ha ra =>
    cases ry with
    | int j =>
      unfold opMul at h
      simp only at h
      split at h
      · cases h
        rename_i hs
        refine op_mulT pins s σ H _ _ uu vv Q I ru rv ⟨a, j, vs, rfl, rfl, ha.t, hs.1, hs.2.1, by rw [← ra.length]; exact hs.2.2, fun e => ?_, fun e p o hp ho => ?_⟩
        · rcases e with e | e
          · subst e
            cases ra
            have : (List.replicate j.toNat ([] : List PV)).flatten = [] := by simp
            rw [this] at k
            exact k L H _ Le.refl R (.tup ha .nil)
          · subst e
            have : (List.replicate (1 : Int).toNat xs).flatten = xs := by simp
            rw [this] at k
            exact k L H _ Le.refl R (.tup ha ra)
        · exact k L _ _ (Le.new hp) (R.new hp) (.tup (.inl ⟨o, upd_same, ho⟩) ((ra.rep _).mono (Le.new hp)))
      · cases h
    | _ => cases h
  | @loc n a hL =>
    cases ry with
    | int j =>
      unfold opMul at h
      simp only at h
      split at h
      · rename_i xs h1
        split at h
        · rename_i hs
          obtain ⟨a2, vs, e1, e2, l1, s1, d1, r1⟩ := own_ok R (.loc hL) (show ownOf (.loc n) S = some (n, xs) by unfold ownOf; simp only [h1])
          cases e2
          obtain ⟨q1, q2⟩ := mkL_ok R (r1.rep j.toNat) h k
          exact op_rep pins s σ H _ _ uu vv Q I ru rv ⟨_, _, _, rfl, rfl, d1, hs.1, hs.2.1, by rw [← r1.length]; exact hs.2.2, q2⟩
        · cases h
      · cases h
    | _ => cases h
  | _ => cases h
theorem o_fdiv : OpR X (binaryOp .FloorDiv) (r2 X.K opFdiv) := by
  intro pins s σ H u v uu vv Q I ru rv ⟨L, S, x, y, z, S', R, rx, ry, h, k⟩
  cases rx with
  | int i =>
    cases ry with
    | int j =>
      unfold opFdiv at h
      simp only at h
      split at h
      · cases h
        rename_i hs
        exact op_fdiv pins s σ H _ _ uu vv Q I ru rv ⟨i, j, rfl, rfl, hs, k L H _ Le.refl R (.int _)⟩
      · cases h
    | _ => cases h
  | _ => cases h
theorem o_mod : OpR X (binaryOp .Mod) (r2 X.K opMod) := by
  intro pins s σ H u v uu vv Q I ru rv ⟨L, S, x, y, z, S', R, rx, ry, h, k⟩
  cases rx with
  | int i =>
    cases ry with
    | int j =>
      unfold opMod at h
      simp only at h
      split at h
      · cases h
        rename_i hs
        exact op_mod pins s σ H _ _ uu vv Q I ru rv ⟨i, j, rfl, rfl, hs, k L H _ Le.refl R (.int _)⟩
      · cases h
    | _ => cases h
  | _ => cases h
theorem o_pow : OpR X (binaryOp .Pow) (r2 X.K opPow) := by
  intro pins s σ H u v uu vv Q I ru rv ⟨L, S, x, y, z, S', R, rx, ry, h, k⟩
  cases rx with
  | int i =>
    cases ry with
    | int j =>
      unfold opPow at h
      simp only at h
      split at h
      · cases h
        rename_i hs
        exact op_pow pins s σ H _ _ uu vv Q I ru rv ⟨i, j, rfl, rfl, hs, k L H _ Le.refl R (.int _)⟩
      · cases h
    | _ => cases h
  | _ => cases h
theorem o_cmp {op : CmpOp} {f : Int → Int → Bool} (h0 : OpR X (compareOp op) (rI0 fun i j => .bl (f i j))) : OpR X (compareOp op) (r2 X.K (opCmp f)) := by
  intro pins s σ H u v uu vv Q I ru rv ⟨L, S, x, y, z, S', R, rx, ry, h, k⟩
  cases rx with
  | int i =>
    cases ry with
    | int j =>
      cases h
      exact h0 pins s σ H _ _ uu vv Q I ru rv ⟨i, j, rfl, rfl, k L H _ Le.refl R (.bl _)⟩
    | _ => cases h
  | _ => cases h
theorem o_lt : OpR X (compareOp .Lt) (r2 X.K opLt) := o_cmp op_lt
theorem o_le : OpR X (compareOp .LtE) (r2 X.K opLe) := o_cmp op_le
theorem o_gt : OpR X (compareOp .Gt) (r2 X.K opGt) := o_cmp op_gt
theorem o_ge : OpR X (compareOp .GtE) (r2 X.K opGe) := o_cmp op_ge
theorem eqD_ok {K : PySem.W.Frag} {L : List Addr} {H : Hp} {S : Sto} {x y : PV} {u v : V} {b : Bool} (R : RS K L H S) (rx : RP K L H x u) (ry : RP K L H y v) (h : eqD x y S = some b) : ∃ d e, Dp K H u d ∧ Dp K H v e ∧ SeqAt.shaped d = true ∧ SeqAt.shaped e = true ∧ PyData.eqv d e = b := by
  unfold eqD at h
  split at h
  · rename_i d e h1 h2
    split at h
    · rename_i hs
      cases h
      obtain ⟨s1, s2⟩ := Bool.and_eq_true_iff.mp hs
      exact ⟨d, e, dat_dp R _ _ _ _ rx h1, dat_dp R _ _ _ _ ry h2, s1, s2, rfl⟩
    · cases h
  · cases h
theorem o_eq (hu : X.A.units + 64 < cLine) : OpR X (compareOp .Eq) (r2 X.K opEq) := by
  intro pins s σ H u v uu vv Q I ru rv ⟨L, S, x, y, z, S', R, rx, ry, h, k⟩
  unfold opEq at h
  split at h
  · cases h
    rename_i a b
    cases rx
    cases ry
    have e : decide (V.str a = V.str b) = decide (a = b) := by
      by_cases q : a = b
      · rw [q]; simp
      · rw [decide_eq_false q, decide_eq_false fun z => q (V.str.inj z)]
    exact op_eq pins s σ H _ _ uu vv Q I ru rv ⟨rfl, by rw [e]; exact k L H _ Le.refl R (.bl _)⟩
  · rename_i n j
    split at h
    · rename_i kvs hS
      cases h
      cases ry
      cases rx with
      | @loc m a hL =>
        obtain ⟨o, hS', ro⟩ := R.at_ hL
        rw [hS] at hS'
        cases hS'
        obtain ⟨ks, e, _⟩ := ro
        exact op_eq_dic hu pins s σ H _ _ uu vv Q I ru rv ⟨a, ks, j, rfl, rfl, e, k L H _ Le.refl R (.bl _)⟩
    · obtain ⟨b, hb, e⟩ := Option.map_eq_some_iff.mp h
      cases e
      obtain ⟨d, e, h1, h2, s1, s2, rfl⟩ := eqD_ok R rx ry hb
      exact op_eqD hu pins s σ H u v uu vv Q I ru rv ⟨d, e, h1, h2, s1, s2, k L H _ Le.refl R (.bl _)⟩
  obtain ⟨b, hb, e⟩ := Option.map_eq_some_iff.mp h
  cases e
  obtain ⟨d, e, h1, h2, s1, s2, rfl⟩ := eqD_ok R rx ry hb
  exact op_eqD hu pins s σ H u v uu vv Q I ru rv ⟨d, e, h1, h2, s1, s2, k L H _ Le.refl R (.bl _)⟩
theorem o_ne (hu : X.A.units + 64 < cLine) : OpR X (compareOp .NotEq) (r2 X.K opNe) := by
  intro pins s σ H u v uu vv Q I ru rv ⟨L, S, x, y, z, S', R, rx, ry, h, k⟩
  unfold opNe at h
  split at h
  · cases h
    rename_i a b
    cases rx
    cases ry
    have e : decide (V.str a = V.str b) = decide (a = b) := by
      by_cases q : a = b
      · rw [q]; simp
      · rw [decide_eq_false q, decide_eq_false fun z => q (V.str.inj z)]
    exact op_ne pins s σ H _ _ uu vv Q I ru rv ⟨rfl, by rw [e]; exact k L H _ Le.refl R (.bl _)⟩
  obtain ⟨b, hb, e⟩ := Option.map_eq_some_iff.mp h
  cases e
  obtain ⟨d, e, h1, h2, s1, s2, rfl⟩ := eqD_ok R rx ry hb
  exact op_neD hu pins s σ H u v uu vv Q I ru rv ⟨d, e, h1, h2, s1, s2, k L H _ Le.refl R (.bl _)⟩
theorem isN_dec {K : PySem.W.Frag} {L : List Addr} {H : Hp} {x : PV} {u : V} (r : RP K L H x u) : decide (u = .non) = isN x := by
  cases r <;> rfl
theorem o_is : OpR X (compareOp .Is) (r2 X.K opIs) := by
  intro pins s σ H u v uu vv Q I ru rv ⟨L, S, x, y, z, S', R, rx, ry, h, k⟩
  cases ry with
  | non =>
    cases h
    exact op_isN pins s σ H u _ uu vv Q I ru rv ⟨rfl, by rw [isN_dec rx]; exact k L H _ Le.refl R (.bl _)⟩
  | _ => cases h
theorem o_isnot : OpR X (compareOp .IsNot) (r2 X.K opIsNot) := by
  intro pins s σ H u v uu vv Q I ru rv ⟨L, S, x, y, z, S', R, rx, ry, h, k⟩
  cases ry with
  | non =>
    cases h
    exact op_notN pins s σ H u _ uu vv Q I ru rv ⟨rfl, by rw [isN_dec rx]; exact k L H _ Le.refl R (.bl _)⟩
  | _ => cases h
theorem o_neg : UnR X (unaryOp .USub) (r1 X.K opNeg) := by
  intro pins s σ H u uu Q I ru ⟨L, S, x, z, S', R, rx, h, k⟩
  cases rx with
  | int i =>
    cases h
    exact un_neg pins s σ H _ uu Q I ru ⟨i, rfl, k L H _ Le.refl R (.int _)⟩
  | _ => cases h
end
/-! subscripts, slices, stores -/
def seqOf (x : PV) (S : Sto) : Option (List PV) := match x with
  | .tup xs => some xs
  | x => lstOf x S
def ixP (xs : List PV) (i : Int) : Option PV := (ixN xs.length i).bind fun j => xs[j]?
def opIx : O2 := fun x y S => match y with
  | .int i => match x with
    | .str z => if z.length ≤ 16777216 then (atI z.cps.toList i).map fun c => (.str ⟨#[c]⟩, S) else none
    | x => (seqOf x S).bind fun xs => (ixP xs i).map fun v => (v, S)
  | _ => none
section
variable {X : Cx}
theorem ixP_ok {K : PySem.W.Frag} {L : List Addr} {H : Hp} {xs : List PV} {vs : List V} {i : Int} {x : PV} (r : RPs K L H xs vs) (h : ixP xs i = some x) : ∃ v, atI vs i = some v ∧ RP K L H x v := by
  unfold ixP at h
  obtain ⟨j, h1, h2⟩ := Option.bind_eq_some_iff.mp h
  obtain ⟨v, hv, rv⟩ := r.get h2
  refine ⟨v, ?_, rv⟩
  unfold atI
  rw [← r.length, h1]
  exact hv
theorem ix_ok : IxR X (r2 X.K opIx) := by
  intro value slice pins s σ H u v uu vv Q I ru rv ⟨L, S, x, y, z, S', R, rx, ry, h, k⟩ hs
  cases ry with
  | int i =>
    cases rx with
    | str t =>
      unfold opIx at h
      simp only at h
      split at h
      · rename_i hl
        obtain ⟨c, hc, e⟩ := Option.map_eq_some_iff.mp h
        cases e
        exact ix_str value slice pins s σ H _ _ uu vv Q I ru rv ⟨t, i, c, rfl, rfl, hl, hc, k L H _ Le.refl R (.str _)⟩ hs
      · cases h
    | tup ht rt =>
      unfold opIx seqOf at h
      simp only at h
      obtain ⟨xs, h1, h2⟩ := Option.bind_eq_some_iff.mp h
      cases h1
      obtain ⟨w, hw, e⟩ := Option.map_eq_some_iff.mp h2
      cases e
      obtain ⟨v, hv, rv2⟩ := ixP_ok rt hw
      exact ix_tup value slice pins s σ H _ _ uu vv Q I ru rv ⟨_, _, i, v, rfl, rfl, ht.t, hv, k L H _ Le.refl R rv2⟩ hs
    | fl f =>
      unfold opIx seqOf at h
      simp only at h
      obtain ⟨xs, h1, h2⟩ := Option.bind_eq_some_iff.mp h
      obtain ⟨a, vs, e1, hq, rq⟩ := lst_ok R (.fl f) h1
      cases e1
      obtain ⟨w, hw, e⟩ := Option.map_eq_some_iff.mp h2
      cases e
      obtain ⟨v, hv, rv2⟩ := ixP_ok rq hw
      exact ix_list value slice pins s σ H _ _ uu vv Q I ru rv ⟨_, _, i, v, rfl, rfl, hq, hv, k L H _ Le.refl R rv2⟩ hs
    | loc hL =>
      unfold opIx seqOf at h
      simp only at h
      obtain ⟨xs, h1, h2⟩ := Option.bind_eq_some_iff.mp h
      obtain ⟨a, vs, e1, hq, rq⟩ := lst_ok R (.loc hL) h1
      cases e1
      obtain ⟨w, hw, e⟩ := Option.map_eq_some_iff.mp h2
      cases e
      obtain ⟨v, hv, rv2⟩ := ixP_ok rq hw
      exact ix_list value slice pins s σ H _ _ uu vv Q I ru rv ⟨_, _, i, v, rfl, rfl, hq, hv, k L H _ Le.refl R rv2⟩ hs
    | _ => cases h
  | _ => cases h
end
def cutP (xs : List PV) (lo hi : Option Int) : List PV := (xs.drop (HT.sIx xs.length 0 lo)).take (HT.sIx xs.length xs.length hi - HT.sIx xs.length 0 lo)
def opSl : OS := fun x lo hi S => match x with
  | .tup xs => some (.tup (cutP xs lo hi), S)
  | x => (lstOf x S).bind fun xs => if xs.length ≤ 16777216 then some (.loc S.length, S ++ [.lst (cutP xs lo hi)]) else none
section
variable {X : Cx}
theorem cut_ok {K : PySem.W.Frag} {L : List Addr} {H : Hp} {xs : List PV} {vs : List V} (r : RPs K L H xs vs) (lo hi : Option Int) : RPs K L H (cutP xs lo hi) (cutV vs lo hi) := by
  unfold cutP cutV
  rw [r.length]
  exact (r.drop _).take _
theorem cut_all {xs : List PV} {lo hi : Option Int} (h : HT.sIx xs.length 0 lo = 0 ∧ HT.sIx xs.length xs.length hi = xs.length) : cutP xs lo hi = xs := by
  unfold cutP
  rw [h.1, h.2]
  simp
theorem sl_ok : SlR X (rSl X.K opSl) := by
  intro pins s σ H u uu vl vu lo hi sl Q I ru hs pl pu ⟨L, S, x, z, S', R, rx, h, k⟩
  have lst : ∀ {a : Addr} {vs : List V} {xs : List PV}, u = .ref a → SqL X.K H a vs → RPs X.K L H xs vs → (if xs.length ≤ 16777216 then some (PV.loc S.length, S ++ [Ob.lst (cutP xs lo hi)]) else none) = some (z, S') → ∃ T id, typeLookup (.type T) "__getitem__" = pure (some (.builtin id)) ∧ s.TypeIs uu T ∧ wpAny (model X.prog X.w) X.A (getItem uu (.ref sl)) (EP X pins σ Q) X.xe s := by
    intro a vs xs e hq rq h
    subst e
    split at h
    · cases h
      refine sl_list pins s σ H _ uu vl vu lo hi sl Q I ru hs pl pu ⟨a, vs, rfl, hq, fun p hp => ?_⟩
      have le : Le X.K L H (L ++ [p]) (upd H p (.lst (cutV vs lo hi))) := Le.alloc hp
      exact k _ _ _ le (R.alloc hp ⟨_, upd_same, (cut_ok rq lo hi).mono le⟩) (.loc (by rw [← R.len]; simp))
    · cases h
  cases rx with
  | @tup a vs xs ht rt =>
    cases h
    refine sl_tupX pins s σ H _ uu vl vu lo hi sl Q I ru hs pl pu ⟨a, vs, rfl, ht.t, fun e => ?_, fun e p o hp ho => ?_⟩
    · rw [← rt.length] at e
      rw [cut_all e] at k
      exact k L H _ Le.refl R (.tup ht rt)
    · exact k L _ _ (Le.new hp) (R.new hp) (.tup (.inl ⟨o, upd_same, ho⟩) ((cut_ok rt lo hi).mono (Le.new hp)))
  | fl f =>
    unfold opSl at h
    simp only at h
    obtain ⟨xs, h1, h2⟩ := Option.bind_eq_some_iff.mp h
    obtain ⟨a, vs, e1, hq, rq⟩ := lst_ok R (.fl f) h1
    exact lst e1 hq rq h2
  | loc hL =>
    unfold opSl at h
    simp only at h
    obtain ⟨xs, h1, h2⟩ := Option.bind_eq_some_iff.mp h
    obtain ⟨a, vs, e1, hq, rq⟩ := lst_ok R (.loc hL) h1
    exact lst e1 hq rq h2
  | _ => cases h
end
def opSet : OSet := fun x y z S => match y with
  | .int i => (ownOf x S).bind fun p => (ixN p.2.length i).map fun j => S.set p.1 (.lst (p.2.set j z))
  | _ => none
theorem set_ok {X : Cx} : PSet X (rSet X.K opSet) := by
  intro pins s σ H o i v ov iv u Q I ro ri rv ⟨L, S, x, y, z, S', R, rx, ry, rz, h, k⟩
  cases ry with
  | int j =>
    obtain ⟨⟨n, xs⟩, h1, h2⟩ := Option.bind_eq_some_iff.mp h
    obtain ⟨m, h3, e⟩ := Option.map_eq_some_iff.mp h2
    subst e
    obtain ⟨a, vs, e1, e2, l1, s1, d1, r1⟩ := own_ok R rx h1
    subst e2
    have le : Le X.K L H L (upd H a (.lst (vs.set m v))) := Le.write R l1
    exact set_list pins s σ H _ _ v ov iv u Q I ro ri rv ⟨a, vs, j, m, rfl, rfl, d1, by rw [← r1.length]; exact h3, k L _ le (R.write l1 ⟨_, upd_same, (r1.set m rz).mono le⟩)⟩
  | _ => cases h
end EV
namespace EV
open PySem PySem.Spec PyProof.Rows L2
/-! built-in functions -/
def intOf : PV → Option Int
  | .int i => some i
  | _ => none
def blOf : PV → Option Bool
  | .bl b => some b
  | _ => none
theorem mapO_ints : ∀ {xs : List PV} {ns : List Int}, mapO intOf xs = some ns → xs = ns.map PV.int
  | [], _, h => by cases h; rfl
  | x :: r, _, h => by
    unfold mapO at h
    split at h
    · cases h
      rename_i y s h1 h2
      cases x <;> cases h1
      rw [mapO_ints h2]
      rfl
    · cases h
theorem mapO_bls : ∀ {xs : List PV} {ns : List Bool}, mapO blOf xs = some ns → xs = ns.map PV.bl
  | [], _, h => by cases h; rfl
  | x :: r, _, h => by
    unfold mapO at h
    split at h
    · cases h
      rename_i y s h1 h2
      cases x <;> cases h1
      rw [mapO_bls h2]
      rfl
    · cases h
def maxL (a : Int) : List Int → Int
  | [] => a
  | b :: r => maxL (if a < b then b else a) r
def minL (a : Int) : List Int → Int
  | [] => a
  | b :: r => minL (if b < a then b else a) r
theorem maxL_mem : ∀ (r : List Int) (a : Int), maxL a r ∈ a :: r
  | [], a => by simp [maxL]
  | b :: r, a => by
    unfold maxL
    have := maxL_mem r (if a < b then b else a)
    rcases List.mem_cons.mp this with e | e
    · rw [e]
      split <;> simp
    · simp [e]
theorem maxL_le : ∀ (r : List Int) (a y : Int), y ∈ a :: r → y ≤ maxL a r
  | [], a, y, h => by simp at h; simp [maxL, h]
  | b :: r, a, y, h => by
    unfold maxL
    have ih := maxL_le r (if a < b then b else a)
    have h0 := ih _ List.mem_cons_self
    rcases List.mem_cons.mp h with e | h
    · subst e
      split at h0 <;> rename_i c
      · rw [if_pos c]; omega
      · rw [if_neg c]; omega
    · rcases List.mem_cons.mp h with e | h
      · subst e
        split at h0 <;> rename_i c
        · rw [if_pos c]; omega
        · rw [if_neg c]; omega
      · exact ih y (List.mem_cons_of_mem _ h)
theorem minL_mem : ∀ (r : List Int) (a : Int), minL a r ∈ a :: r
  | [], a => by simp [minL]
  | b :: r, a => by
    unfold minL
    have := minL_mem r (if b < a then b else a)
    rcases List.mem_cons.mp this with e | e
    · rw [e]
      split <;> simp
    · simp [e]
theorem minL_le : ∀ (r : List Int) (a y : Int), y ∈ a :: r → minL a r ≤ y
  | [], a, y, h => by simp at h; simp [minL, h]
  | b :: r, a, y, h => by
    unfold minL
    have ih := minL_le r (if b < a then b else a)
    have h0 := ih _ List.mem_cons_self
    rcases List.mem_cons.mp h with e | h
    · subst e
      split at h0 <;> rename_i c
      · rw [if_pos c]; omega
      · rw [if_neg c]; omega
    · rcases List.mem_cons.mp h with e | h
      · subst e
        split at h0 <;> rename_i c
        · rw [if_pos c]; omega
        · rw [if_neg c]; omega
      · exact ih y (List.mem_cons_of_mem _ h)
def lenOf (x : PV) (S : Sto) : Option Nat := match x with
  | .str z => if z.length ≤ 16777216 then some z.length else none
  | x => (seqOf x S).map List.length
def fLen : ON := fun xs S => match xs with
  | [x] => (lenOf x S).map fun (n : Nat) => (PV.int (n : Int), S)
  | _ => none
def fAbs : ON := fun xs S => match xs with
  | [.int i] => some (.int (if i < 0 then -i else i), S)
  | _ => none
def fInt : ON := fun xs S => match xs with
  | [.int i] => some (.int i, S)
  | [.bl b] => some (.int (if b then 1 else 0), S)
  | _ => none
def fList : ON := fun xs S => match xs with
  | [x] => (seqOf x S).bind fun ys => mkL ys S
  | _ => none
def fTuple : ON := fun xs S => match xs with
  | [x] => (seqOf x S).map fun ys => (.tup ys, S)
  | _ => none
def fSum : ON := fun xs S => match xs with
  | [x] => (lstOf x S).bind fun ys => (mapO intOf ys).map fun ns => (.int ns.sum, S)
  | _ => none
def fMax : ON := fun xs S => match xs with
  | [x] => (lstOf x S).bind fun ys => match mapO intOf ys with
    | some (a :: r) => some (.int (maxL a r), S)
    | _ => none
  | [.int i, .int j] => some (.int (if j > i then j else i), S)
  | _ => none
def fMin : ON := fun xs S => match xs with
  | [x] => (lstOf x S).bind fun ys => match mapO intOf ys with
    | some (a :: r) => some (.int (minL a r), S)
    | _ => none
  | [.int i, .int j] => some (.int (if j < i then j else i), S)
  | _ => none
def fAny : ON := fun xs S => match xs with
  | [x] => (lstOf x S).bind fun ys => (mapO blOf ys).map fun bs => (.bl (bs.any id), S)
  | _ => none
def fAll : ON := fun xs S => match xs with
  | [x] => (lstOf x S).bind fun ys => (mapO blOf ys).map fun bs => (.bl (bs.all id), S)
  | _ => none
def showD (d : PyData) : Option Str := if (d.showable && !d.hasDict && decide (d.depth ≤ 64) && decide (d.shown.length ≤ 16777216)) = true then some d.shown else none
def isDisp : PV → Bool
  | .tup _ => true
  | .fl _ => true
  | .loc _ => true
  | _ => false
def fRepr : ON := fun xs S => match xs with
  | [x] => if isDisp x = true then ((dat S 66 x).bind showD).map fun t => (.str t, S) else none
  | _ => none
section
variable {X : Cx}
theorem RPs.one {K : PySem.W.Frag} {L : List Addr} {H : Hp} {x : PV} {us : List V} (r : RPs K L H [x] us) : ∃ u, us = [u] ∧ RP K L H x u := by
  cases r with
  | cons a b =>
    cases b
    exact ⟨_, rfl, a⟩
theorem RPs.two {K : PySem.W.Frag} {L : List Addr} {H : Hp} {x y : PV} {us : List V} (r : RPs K L H [x, y] us) : ∃ u v, us = [u, v] ∧ RP K L H x u ∧ RP K L H y v := by
  cases r with
  | cons a b =>
    cases b with
    | cons c d =>
      cases d
      exact ⟨_, _, rfl, a, c⟩
theorem seq_ok {K : PySem.W.Frag} {L : List Addr} {H : Hp} {S : Sto} (R : RS K L H S) {x : PV} {u : V} {xs : List PV} (r : RP K L H x u) (h : seqOf x S = some xs) : ∃ a vs, u = .ref a ∧ (SqL K H a vs ∨ SqT K H a vs) ∧ RPs K L H xs vs ∧ ((∃ ys, x = .tup ys) ∨ SqL K H a vs) := by
  cases r with
  | tup ht rt =>
    cases h
    exact ⟨_, _, rfl, .inr ht.t, rt, .inl ⟨_, rfl⟩⟩
  | fl f =>
    obtain ⟨a, vs, e, hq, rq⟩ := lst_ok R (.fl f) h
    exact ⟨a, vs, e, .inl hq, rq, .inr hq⟩
  | loc hL =>
    obtain ⟨a, vs, e, hq, rq⟩ := lst_ok R (.loc hL) h
    exact ⟨a, vs, e, .inl hq, rq, .inr hq⟩
  | _ => cases h
theorem c_len : CallR X (.builtin "len") (rN X.K fLen) := by
  intro pins s σ H us vs Q I rr ⟨L, S, xs, z, S', R, rx, h, k⟩
  unfold fLen at h
  split at h
  · rename_i x
    obtain ⟨u, rfl, ru⟩ := rx.one
    obtain ⟨n, hn, e⟩ := Option.map_eq_some_iff.mp h
    cases e
    cases ru with
    | str t =>
      unfold lenOf at hn
      simp only at hn
      split at hn
      · cases hn
        rename_i hl
        exact call_len_str pins s σ H _ vs Q I rr ⟨t, rfl, hl, k L H _ Le.refl R (.int _)⟩
      · cases hn
    | tup ht rt =>
      cases hn
      rw [rt.length] at k
      exact call_len_seq pins s σ H _ vs Q I rr ⟨_, _, rfl, .inr ht.t, k L H _ Le.refl R (.int _)⟩
    | fl f =>
      obtain ⟨ys, h1, e⟩ := Option.map_eq_some_iff.mp (show (seqOf (.fl _) S).map List.length = some n from hn)
      obtain ⟨a, ws, e2, hq, rq, _⟩ := seq_ok R (.fl f) h1
      cases e
      cases e2
      rw [rq.length] at k
      exact call_len_seq pins s σ H _ vs Q I rr ⟨_, _, rfl, hq, k L H _ Le.refl R (.int _)⟩
    | loc f =>
      obtain ⟨ys, h1, e⟩ := Option.map_eq_some_iff.mp (show (seqOf (.loc _) S).map List.length = some n from hn)
      obtain ⟨a, ws, e2, hq, rq, _⟩ := seq_ok R (.loc f) h1
      cases e
      cases e2
      rw [rq.length] at k
      exact call_len_seq pins s σ H _ vs Q I rr ⟨_, _, rfl, hq, k L H _ Le.refl R (.int _)⟩
    | _ => cases hn
  · cases h
theorem c_abs : CallR X (.builtin "abs") (rN X.K fAbs) := by
  intro pins s σ H us vs Q I rr ⟨L, S, xs, z, S', R, rx, h, k⟩
  unfold fAbs at h
  split at h
  · cases h
    obtain ⟨u, rfl, ru⟩ := rx.one
    cases ru
    exact call_abs pins s σ H _ vs Q I rr ⟨_, rfl, k L H _ Le.refl R (.int _)⟩
  · cases h
theorem c_int : CallR X (.type "int") (rN X.K fInt) := by
  intro pins s σ H us vs Q I rr ⟨L, S, xs, z, S', R, rx, h, k⟩
  unfold fInt at h
  split at h
  · cases h
    obtain ⟨u, rfl, ru⟩ := rx.one
    cases ru
    exact call_int1 pins s σ H _ vs Q I rr (.inl ⟨_, rfl, k L H _ Le.refl R (.int _)⟩)
  · cases h
    obtain ⟨u, rfl, ru⟩ := rx.one
    cases ru
    exact call_int1 pins s σ H _ vs Q I rr (.inr ⟨_, rfl, k L H _ Le.refl R (.int _)⟩)
  · cases h
theorem c_list : CallR X (.type "list") (rN X.K fList) := by
  intro pins s σ H us vs Q I rr ⟨L, S, xs, z, S', R, rx, h, k⟩
  unfold fList at h
  split at h
  · obtain ⟨u, rfl, ru⟩ := rx.one
    obtain ⟨ys, h1, h2⟩ := Option.bind_eq_some_iff.mp h
    obtain ⟨a, ws, e2, hq, rq, _⟩ := seq_ok R ru h1
    cases e2
    exact call_list_of pins s σ H _ vs Q I rr ⟨a, ws, rfl, hq, (mkL_ok R rq h2 k).2⟩
  · cases h
theorem c_tuple : CallR X (.type "tuple") (rN X.K fTuple) := by
  intro pins s σ H us vs Q I rr ⟨L, S, xs, z, S', R, rx, h, k⟩
  unfold fTuple at h
  split at h
  · obtain ⟨u, rfl, ru⟩ := rx.one
    obtain ⟨ys, h1, e⟩ := Option.map_eq_some_iff.mp h
    obtain ⟨a, ws, e2, hq, rq, hc⟩ := seq_ok R ru h1
    cases e
    cases e2
    rcases hc with ⟨zs, rfl⟩ | hl
    · cases ru with
      | tup ht rt =>
        cases h1
        exact call_tupleX pins s σ H _ vs Q I rr ⟨a, _, rfl, .inr ⟨ht.t, k L H _ Le.refl R (.tup ht rt)⟩⟩
    · exact call_tupleX pins s σ H _ vs Q I rr ⟨a, ws, rfl, .inl ⟨hl, fun p o hp ho => k L _ _ (Le.new hp) (R.new hp) (.tup (.inl ⟨o, upd_same, ho⟩) (rq.mono (Le.new hp)))⟩⟩
  · cases h
theorem c_sum (hc : X.calm = true) : CallR X (.builtin "sum") (rN X.K fSum) := by
  intro pins s σ H us vs Q I rr ⟨L, S, xs, z, S', R, rx, h, k⟩
  unfold fSum at h
  split at h
  · obtain ⟨u, rfl, ru⟩ := rx.one
    obtain ⟨ys, h1, h2⟩ := Option.bind_eq_some_iff.mp h
    obtain ⟨ns, h3, e⟩ := Option.map_eq_some_iff.mp h2
    obtain ⟨a, ws, e2, hq, rq⟩ := lst_ok R ru h1
    cases e
    cases e2
    cases mapO_ints h3
    cases rq.ints_of
    exact cr_sum hc pins s σ H _ vs Q I rr ⟨a, ns, rfl, hq, k L H _ Le.refl R (.int _)⟩
  · cases h
theorem c_max (hc : X.calm = true) : CallR X (.builtin "max") (rN X.K fMax) := by
  intro pins s σ H us vs Q I rr ⟨L, S, xs, z, S', R, rx, h, k⟩
  unfold fMax at h
  split at h
  · obtain ⟨u, rfl, ru⟩ := rx.one
    obtain ⟨ys, h1, h2⟩ := Option.bind_eq_some_iff.mp h
    obtain ⟨a, ws, e2, hq, rq⟩ := lst_ok R ru h1
    cases e2
    split at h2
    · rename_i a0 r h3
      cases h2
      cases mapO_ints h3
      cases rq.ints_of
      refine cr_max hc pins s σ H _ vs Q I rr ⟨a, a0 :: r, rfl, hq, by simp, fun m hm hle => ?_⟩
      have e : m = maxL a0 r := by
        have h1 := maxL_le r a0 m hm
        have h2 := hle _ (maxL_mem r a0)
        omega
      rw [e]
      exact k L H _ Le.refl R (.int _)
    · cases h2
  · cases h
    obtain ⟨u, v, rfl, ru, rv⟩ := rx.two
    cases ru
    cases rv
    exact call_max2 hc pins s σ H _ vs Q I rr ⟨_, _, rfl, k L H _ Le.refl R (.int _)⟩
  · cases h
theorem c_min (hc : X.calm = true) : CallR X (.builtin "min") (rN X.K fMin) := by
  intro pins s σ H us vs Q I rr ⟨L, S, xs, z, S', R, rx, h, k⟩
  unfold fMin at h
  split at h
  · obtain ⟨u, rfl, ru⟩ := rx.one
    obtain ⟨ys, h1, h2⟩ := Option.bind_eq_some_iff.mp h
    obtain ⟨a, ws, e2, hq, rq⟩ := lst_ok R ru h1
    cases e2
    split at h2
    · rename_i a0 r h3
      cases h2
      cases mapO_ints h3
      cases rq.ints_of
      refine cr_min hc pins s σ H _ vs Q I rr ⟨a, a0 :: r, rfl, hq, by simp, fun m hm hle => ?_⟩
      have e : m = minL a0 r := by
        have h1 := minL_le r a0 m hm
        have h2 := hle _ (minL_mem r a0)
        omega
      rw [e]
      exact k L H _ Le.refl R (.int _)
    · cases h2
  · cases h
    obtain ⟨u, v, rfl, ru, rv⟩ := rx.two
    cases ru
    cases rv
    exact call_min2 hc pins s σ H _ vs Q I rr ⟨_, _, rfl, k L H _ Le.refl R (.int _)⟩
  · cases h
theorem c_any (hc : X.calm = true) : CallR X (.builtin "any") (rN X.K fAny) := by
  intro pins s σ H us vs Q I rr ⟨L, S, xs, z, S', R, rx, h, k⟩
  unfold fAny at h
  split at h
  · obtain ⟨u, rfl, ru⟩ := rx.one
    obtain ⟨ys, h1, h2⟩ := Option.bind_eq_some_iff.mp h
    obtain ⟨ns, h3, e⟩ := Option.map_eq_some_iff.mp h2
    obtain ⟨a, ws, e2, hq, rq⟩ := lst_ok R ru h1
    cases e
    cases e2
    cases mapO_bls h3
    cases rq.bls_of
    exact cr_any hc pins s σ H _ vs Q I rr ⟨a, ns, rfl, hq, k L H _ Le.refl R (.bl _)⟩
  · cases h
theorem c_all (hc : X.calm = true) : CallR X (.builtin "all") (rN X.K fAll) := by
  intro pins s σ H us vs Q I rr ⟨L, S, xs, z, S', R, rx, h, k⟩
  unfold fAll at h
  split at h
  · obtain ⟨u, rfl, ru⟩ := rx.one
    obtain ⟨ys, h1, h2⟩ := Option.bind_eq_some_iff.mp h
    obtain ⟨ns, h3, e⟩ := Option.map_eq_some_iff.mp h2
    obtain ⟨a, ws, e2, hq, rq⟩ := lst_ok R ru h1
    cases e
    cases e2
    cases mapO_bls h3
    cases rq.bls_of
    exact cr_all hc pins s σ H _ vs Q I rr ⟨a, ns, rfl, hq, k L H _ Le.refl R (.bl _)⟩
  · cases h
theorem c_repr (hG : X.A.guards = some []) (hu : X.A.units + 65 < cLine) : CallR X (.builtin "repr") (rN X.K fRepr) := by
  intro pins s σ H us vs Q I rr ⟨L, S, xs, z, S', R, rx, h, k⟩
  unfold fRepr at h
  split at h
  · obtain ⟨u, rfl, ru⟩ := rx.one
    split at h
    · rename_i hd
      obtain ⟨t, h1, e⟩ := Option.map_eq_some_iff.mp h
      cases e
      obtain ⟨d, h2, h3⟩ := Option.bind_eq_some_iff.mp h1
      unfold showD at h3
      split at h3
      · rename_i hc
        cases h3
        simp only [Bool.and_eq_true, decide_eq_true_eq, Bool.not_eq_true'] at hc
        obtain ⟨⟨⟨c1, c2⟩, c3⟩, c4⟩ := hc
        cases rr with
        | cons r1 rr =>
          cases rr
          obtain ⟨as, rd⟩ := Dp.reads I d _ _ (dat_dp R _ _ _ _ ru h2) r1
          have hre : ∃ a, u = .ref a := by
            cases ru with
            | tup _ _ => exact ⟨_, rfl⟩
            | pr _ _ _ => exact ⟨_, rfl⟩
            | fl _ => exact ⟨_, rfl⟩
            | loc _ => exact ⟨_, rfl⟩
            | _ => cases hd
          obtain ⟨a, rfl⟩ := hre
          cases r1
          refine repr_of_reads' rd c1 (PyData.noDict_hsm c2) hG (by omega) (fun _ _ e => e) (fun h' t' tk hk => ?_) c4
          exact ⟨.str _, H, I.kept (t' := tk) hk, ⟨t', rfl⟩, k L H _ Le.refl R (.str _)⟩
      · cases h3
    · cases h
  · cases h
/-- isinstance(x, T), T a built-in type by its name -/
def isiB (n T : String) : Bool := n == T || (n == "bool" && T == "int")
def eIsi (T : String) (a : DE) : DE := fun e S => bnd (a e S) fun x S1 => (tyN x S1).map fun n => (.bl (isiB n T), S1)
theorem ty_ok {K : PySem.W.Frag} {L : List Addr} {H : Hp} {S : Sto} (R : RS K L H S) {x : PV} {u : V} {n : String} (r : RP K L H x u) (h : tyN x S = some n) : TyX K H u (.type n) ∧ n ∈ ["NoneType", "bool", "int", "str", "tuple", "list", "dict"] := by
  cases r with
  | non => cases h; exact ⟨.base .non, by decide⟩
  | bl b => cases h; exact ⟨.base (.bl b), by decide⟩
  | int i => cases h; exact ⟨.base (.int i), by decide⟩
  | str z => cases h; exact ⟨.base (.str z), by decide⟩
  | tup ht0 _ =>
    have ht := ht0.t
    cases h
    refine ⟨?_, by decide⟩
    rcases ht with (ht | ⟨o, ht⟩) | ⟨o, its, m, hk, hc, _⟩
    · exact .base (.tup ht)
    · exact .fTuple ht
    · exact .kTuple hk hc
  | pr _ _ _ => cases h
  | fl f =>
    cases h
    refine ⟨?_, by decide⟩
    rcases f with ⟨o, f⟩ | ⟨o, its, m, hk, hc, _⟩
    · exact .base (.frz f)
    · exact .kList hk hc
  | @loc m a hL =>
    obtain ⟨o, hS, ro⟩ := R.at_ hL
    unfold tyN at h
    simp only [hS] at h
    cases o with
    | lst xs =>
      cases h
      obtain ⟨vs, e, _⟩ := ro
      exact ⟨.base (.lst e), by decide⟩
    | dic kvs =>
      cases h
      obtain ⟨vs, e, _⟩ := ro
      exact ⟨.base (.dK e), by decide⟩
theorem kit_all (T : String) (hT : T ∈ ["bool", "int", "str", "tuple", "list", "dict"]) (n : String) (hn : n ∈ ["NoneType", "bool", "int", "str", "tuple", "list", "dict"]) : kitB n T = some (isiB n T) := by
  simp only [List.mem_cons, List.not_mem_nil, or_false] at hT hn
  rcases hT with rfl | rfl | rfl | rfl | rfl | rfl <;> rcases hn with rfl | rfl | rfl | rfl | rfl | rfl | rfl <;> decide +kernel
theorem xe_isi {a : Expr} {da : DE} {T : String} {t : Str} {p p2 pos : Pos} (ha : XE X a da) (hg : Gl X "isinstance") (hm : X.mg "isinstance" = none) (hgT : Gl X t) (hmT : X.mg t = none) (hvT : bootBuiltins t = some (.type T)) (hT : T ∈ ["bool", "int", "str", "tuple", "list", "dict"])
    (hn : t ≠ "__name__" := by decide) (hdb : (t == ("__debug__" : Str)) = false := by decide)
    (hs : starEach [a, .Name t p2] X.env = (false, eval a X.env) :: starEach [.Name t p2] X.env := by rfl) (hs2 : starEach [.Name t p2] X.env = (false, eval (.Name t p2) X.env) :: starEach [] X.env := by rfl)
    (hpl : (backTo pos (starEach [.Name t p2] X.env)).any (·.1) = false := by rfl) : XE X (.Call (.Name "isinstance" p) [a, .Name t p2] [] pos) (eIsi T da) := by
  have hpT : PE X (.Name t p2) (tC (.ty T)) := pe_bltn hgT hmT hvT rfl hn hdb
  refine pe_imp (pe_callB call_isi hg hm (by decide +kernel) (pa_cons ha (pa_cons hpT pa_nil hs2) hs) (by decide) (by decide) hs hpl) fun σ H Q ⟨L, S, e, z, S', R, E, h, k⟩ => ?_
  obtain ⟨x, S1, q, h⟩ := bnd_of h
  obtain ⟨n, hn, e2⟩ := Option.map_eq_some_iff.mp h
  cases e2
  refine ⟨L, S, e, x, _, R, E, q, fun L1 H1 u le1 R1 ru => ?_⟩
  obtain ⟨ty, mem⟩ := ty_ok R1 ru hn
  exact ⟨u, .ty T, .type n, .type T, isiB n T, rfl, .ty T, ty, kit_ty (kit_all T hT n mem), k L1 H1 _ le1 R1 (.bl _)⟩
/-- list(reversed(x)) -/
def eLRev (a : DE) : DE := fun e S => bnd (a e S) fun x S1 => (lstOf x S1).bind fun xs => mkL xs.reverse S1
theorem xe_lrev {a : Expr} {da : DE} {p p2 pos pos2 : Pos} (hc : X.calm = true) (hg : Gl X "list") (hm : X.mg "list" = none) (hg2 : Gl X "reversed") (hm2 : X.mg "reversed" = none) (ha : XE X a da)
    (hs : starEach [a] X.env = (false, eval a X.env) :: starEach [] X.env := by rfl)
    (hs2 : starEach [.Call (.Name "reversed" p2) [a] [] pos2] X.env = (false, eval (.Call (.Name "reversed" p2) [a] [] pos2) X.env) :: starEach [] X.env := by rfl) :
    XE X (.Call (.Name "list" p) [.Call (.Name "reversed" p2) [a] [] pos2] [] pos) (eLRev da) := pe_imp (pe_lstRev hc hg hm hg2 hm2 ha hs hs2) fun σ H Q ⟨L, S, e, z, S', R, E, h, k⟩ => by
  obtain ⟨x, S1, q, h⟩ := bnd_of h
  obtain ⟨xs, h1, h2⟩ := Option.bind_eq_some_iff.mp h
  refine ⟨L, S, e, x, S1, R, E, q, fun L1 H1 u le1 R1 ru => ?_⟩
  obtain ⟨a, vs, e1, hq, rq⟩ := lst_ok R1 ru h1
  exact ⟨a, vs, e1, hq, (mkL_ok R1 rq.rev h2 fun L2 H2 w le2 => k L2 H2 w (le1.trans le2)).2⟩
/-! methods of lists -/
def mAppend : OM := fun x xs S => match xs with
  | [y] => (ownOf x S).bind fun p => if p.2.length < 16777216 then some (.non, S.set p.1 (.lst (p.2 ++ [y]))) else none
  | _ => none
def mPop : OM := fun x xs S => match xs with
  | [] => (ownOf x S).bind fun p => (p.2[p.2.length - 1]?).map fun y => (y, S.set p.1 (.lst p.2.dropLast))
  | [.int i] => (ownOf x S).bind fun p => if -(2 ^ 63) ≤ i ∧ i < 2 ^ 63 then (seqIndex? i p.2.length).bind fun k => (p.2[k]?).map fun y => (y, S.set p.1 (.lst (p.2.eraseIdx k))) else none
  | _ => none
def mExtend : OM := fun x xs S => match xs with
  | [y] => (ownOf x S).bind fun p => (ownOf y S).bind fun q => if p.2.length + q.2.length ≤ 16777216 then some (.non, S.set p.1 (.lst (p.2 ++ q.2))) else none
  | _ => none
theorem m_append : MtR X "list.append" (rM X.K mAppend) := by
  intro pins s σ H u us v ws Q I ru rus ⟨L, S, x, xs, z, S', R, rx, rxs, h, k⟩
  unfold mAppend at h
  split at h
  · obtain ⟨w, rfl, rw⟩ := rxs.one
    obtain ⟨⟨n, ys⟩, h1, h2⟩ := Option.bind_eq_some_iff.mp h
    obtain ⟨a, vs, e1, e2, l1, s1, d1, r1⟩ := own_ok R rx h1
    subst e2
    split at h2
    · cases h2
      rename_i hl
      have le : Le X.K L H L (upd H a (.lst (vs ++ [w]))) := Le.write R l1
      exact mt_append pins s σ H _ _ v ws Q I ru rus ⟨a, vs, w, rfl, rfl, d1, by rw [← r1.length]; exact hl, k L _ _ le (R.write l1 ⟨_, upd_same, (r1.append (.cons rw .nil)).mono le⟩) .non⟩
    · cases h2
  · cases h
theorem m_pop : MtR X "list.pop" (rM X.K mPop) := by
  intro pins s σ H u us v ws Q I ru rus ⟨L, S, x, xs, z, S', R, rx, rxs, h, k⟩
  unfold mPop at h
  split at h
  · cases rxs
    obtain ⟨⟨n, ys⟩, h1, h2⟩ := Option.bind_eq_some_iff.mp h
    obtain ⟨a, vs, e1, e2, l1, s1, d1, r1⟩ := own_ok R rx h1
    subst e2
    obtain ⟨y, hy, e⟩ := Option.map_eq_some_iff.mp h2
    cases e
    obtain ⟨w, hw, rw⟩ := r1.get hy
    have le : Le X.K L H L (upd H a (.lst vs.dropLast)) := Le.write R l1
    have hl : ys.length = vs.length := r1.length
    simp only at hw
    rw [hl] at hw
    exact mt_pop pins s σ H _ _ v ws Q I ru rus ⟨a, vs, w, rfl, rfl, d1, hw, k L _ _ le (R.write l1 ⟨_, upd_same, r1.dropLast.mono le⟩) (rw.mono le)⟩
  · obtain ⟨w, rfl, rw⟩ := rxs.one
    cases rw
    obtain ⟨⟨n, ys⟩, h1, h2⟩ := Option.bind_eq_some_iff.mp h
    obtain ⟨a, vs, e1, e2, l1, s1, d1, r1⟩ := own_ok R rx h1
    subst e2
    split at h2
    · rename_i hb
      obtain ⟨m, hm, h3⟩ := Option.bind_eq_some_iff.mp h2
      obtain ⟨y, hy, e⟩ := Option.map_eq_some_iff.mp h3
      cases e
      obtain ⟨w, hw, rw⟩ := r1.get hy
      have le : Le X.K L H L (upd H a (.lst (vs.eraseIdx m))) := Le.write R l1
      exact mt_popAt pins s σ H _ _ v ws Q I ru rus ⟨a, vs, _, m, w, rfl, rfl, d1, hb.1, hb.2, by rw [← r1.length]; exact hm, hw, k L _ _ le (R.write l1 ⟨_, upd_same, (r1.eraseIdx m).mono le⟩) (rw.mono le)⟩
    · cases h2
  · cases h
theorem m_extend : MtR X "list.extend" (rM X.K mExtend) := by
  intro pins s σ H u us v ws Q I ru rus ⟨L, S, x, xs, z, S', R, rx, rxs, h, k⟩
  unfold mExtend at h
  split at h
  · obtain ⟨w, rfl, rw⟩ := rxs.one
    obtain ⟨⟨n, ys⟩, h1, h2⟩ := Option.bind_eq_some_iff.mp h
    obtain ⟨⟨m, zs⟩, h3, h4⟩ := Option.bind_eq_some_iff.mp h2
    obtain ⟨a, vs, e1, e2, l1, s1, d1, r1⟩ := own_ok R rx h1
    obtain ⟨b, ts, e3, e4, l2, s2, d2, r2⟩ := own_ok R rw h3
    subst e2
    subst e4
    split at h4
    · cases h4
      rename_i hl
      have le : Le X.K L H L (upd H a (.lst (vs ++ ts))) := Le.write R l1
      exact mt_extend pins s σ H _ _ v ws Q I ru rus ⟨a, b, vs, ts, rfl, rfl, d1, d2, by rw [← r1.length, ← r2.length]; exact hl, k L _ _ le (R.write l1 ⟨_, upd_same, (r1.append r2).mono le⟩) .non⟩
    · cases h4
  · cases h
end
/-! what is walked -/
def wT (xs : List PV) : WK := fun i _ => some xs[i]?
def wL (n : Nat) : WK := fun i S => match S[n]? with
  | some (.lst xs) => some xs[i]?
  | _ => none
def wR (lo : Int) (n : Nat) : WK := fun i _ => some (if i < n then some (.int (lo + i)) else none)
def wE (w : WK) : WK := fun i S => match w i S with
  | some (some x) => some (some (.pr (.int (i : Nat)) x))
  | r => r
def wZ (w u : WK) : WK := fun i S => match w i S, u i S with
  | some (some x), some (some y) => some (some (.pr x y))
  | some _, some _ => some none
  | _, _ => none
def wkOf (x : PV) (S : Sto) : Option WK := match x with
  | .tup xs => some (wT xs)
  | .fl ns => some (wT (ns.map PV.int))
  | .loc n => match S[n]? with
    | some (.lst _) => some (wL n)
    | _ => none
  | _ => none
def iSeq (d : DE) : DI := fun e S => bnd (d e S) fun x S1 => (wkOf x S1).map fun w => (w, S1)
def iRng (d : DA) : DI := fun e S => bnd (d e S) fun xs S1 => match xs with
  | [.int j] => if -(2 ^ 62) ≤ j ∧ j < 2 ^ 62 then some (wR 0 j.toNat, S1) else none
  | [.int i, .int j] => if -(2 ^ 62) ≤ i ∧ i < 2 ^ 62 ∧ -(2 ^ 62) ≤ j ∧ j < 2 ^ 62 then some (wR i (j - i).toNat, S1) else none
  | _ => none
def iEnu (d : DA) : DI := fun e S => bnd (d e S) fun xs S1 => match xs with
  | [x] => (wkOf x S1).map fun w => (wE w, S1)
  | _ => none
def iZip (d : DA) : DI := fun e S => bnd (d e S) fun xs S1 => match xs with
  | [.tup a, .tup b] => some (wZ (wT a) (wT b), S1)
  | [.loc n, .loc m] => (wkOf (.loc n) S1).bind fun w => (wkOf (.loc m) S1).map fun u => (wZ w u, S1)
  | _ => none
def isTp : PV → Bool
  | .tup _ => true
  | _ => false
abbrev SqK := PySem.W.Frag → Hp → Addr → List V → Prop
def WS (Sq : SqK) (K : PySem.W.Frag) (w : WK) (a : Addr) (L0 : List Addr) (H0 : Hp) : Prop :=
  ∀ (L : List Addr) (S : Sto) (H : Hp), Le K L0 H0 L H → RS K L H S → ∀ i, (w i S = some none → ∃ vs : List V, Sq K H a vs ∧ vs.length ≤ i) ∧ (∀ x, w i S = some (some x) → ∃ (vs : List V) (v : V), Sq K H a vs ∧ vs[i]? = some v ∧ RP K L H x v)
section
variable {K : PySem.W.Frag} {L0 : List Addr} {H0 : Hp} {S : Sto} {w w2 : WK} {a b : Addr}
theorem ws_rps {Sq : SqK} {xs : List PV} {vs : List V} (hq : ∀ L H, Le K L0 H0 L H → Sq K H a vs) (r : RPs K L0 H0 xs vs) : WS Sq K (wT xs) a L0 H0 := by
  intro L S H le R i
  refine ⟨fun h => ⟨vs, hq L H le, ?_⟩, fun x h => ?_⟩
  · have h : xs[i]? = none := Option.some.inj h
    rw [← r.length]
    exact List.getElem?_eq_none_iff.mp h
  · have h : xs[i]? = some x := Option.some.inj h
    obtain ⟨v, hv, rv⟩ := r.get h
    exact ⟨vs, v, hq L H le, hv, rv.mono le⟩
theorem wk_ok {x : PV} {u : V} (R : RS K L0 H0 S) (r : RP K L0 H0 x u) (h : wkOf x S = some w) : ∃ a vs, u = .ref a ∧ ((isTp x = false ∧ SqL K H0 a vs ∧ WS SqL K w a L0 H0) ∨ (isTp x = true ∧ SqT K H0 a vs ∧ WS SqT K w a L0 H0)) := by
  cases r with
  | tup ht0 rt =>
    have ht := ht0.t
    cases h
    exact ⟨_, _, rfl, .inr ⟨rfl, ht, ws_rps (fun L H le => le.tup _ _ ht) rt⟩⟩
  | fl f =>
    cases h
    refine ⟨_, _, rfl, .inl ⟨rfl, f.seq, ws_rps (fun L H le => ?_) (RPs.ints _)⟩⟩
    cases (RP.fl f : RP K L0 H0 _ _).mono le with
    | fl f' => exact f'.seq
  | @loc m c hL =>
    unfold wkOf at h
    obtain ⟨o, hS, ro⟩ := R.at_ hL
    simp only [hS] at h
    cases o with
    | lst xs =>
      cases h
      obtain ⟨vs, e, rv⟩ := ro
      refine ⟨c, vs, rfl, .inl ⟨rfl, SqL.of e, fun L S1 H le R1 i => ?_⟩⟩
      obtain ⟨o1, hS1, ro1⟩ := R1.at_ (le.pre _ _ hL)
      unfold wL
      rw [hS1]
      cases o1 with
      | lst ys =>
        obtain ⟨ws, e1, rw1⟩ := ro1
        refine ⟨fun h => ⟨ws, SqL.of e1, ?_⟩, fun y h => ?_⟩
        · have h : ys[i]? = none := Option.some.inj h
          rw [← rw1.length]
          exact List.getElem?_eq_none_iff.mp h
        · have h : ys[i]? = some y := Option.some.inj h
          obtain ⟨v, hv, rv⟩ := rw1.get h
          exact ⟨ws, v, SqL.of e1, hv, rv⟩
      | dic _ => exact ⟨fun h => (nomatch h), fun _ h => (nomatch h)⟩
    | dic _ => cases h
  | _ => cases h
theorem wj_list (h : WS SqL K w a L0 H0) : WJ K w (Itl K a) L0 H0 := fun L S H le R i => by
  obtain ⟨h1, h2⟩ := h L S H le R i
  refine ⟨h1, fun x hx => ?_⟩
  obtain ⟨vs, v, q, hv, rv⟩ := h2 x hx
  refine ⟨⟨vs, v, q, hv⟩, fun u H' y => ?_⟩
  obtain ⟨e, y⟩ := y
  subst e
  cases Option.some.inj (hv.symm.trans (y vs q))
  exact ⟨Le.refl, R, rv⟩
theorem wj_tup (h : WS SqT K w a L0 H0) : WJ K w (Itt K a) L0 H0 := fun L S H le R i => by
  obtain ⟨h1, h2⟩ := h L S H le R i
  refine ⟨h1, fun x hx => ?_⟩
  obtain ⟨vs, v, q, hv, rv⟩ := h2 x hx
  refine ⟨⟨vs, v, q, hv⟩, fun u H' y => ?_⟩
  obtain ⟨e, y⟩ := y
  subst e
  cases Option.some.inj (hv.symm.trans (y vs q))
  exact ⟨Le.refl, R, rv⟩
theorem wj_rng {lo : Int} {n : Nat} : WJ K (wR lo n) (Itr lo n) L0 H0 := fun L S H le R i => by
  unfold wR
  refine ⟨fun h => ?_, fun x hx => ?_⟩
  · split at h
    · cases h
    · rename_i c
      exact Nat.not_lt.mp c
  · split at hx
    · rename_i c
      cases hx
      refine ⟨c, fun u H' y => ?_⟩
      obtain ⟨e, y⟩ := y
      subst e
      subst y
      exact ⟨Le.refl, R, .int _⟩
    · cases hx
theorem wE_none {i : Nat} {S : Sto} (h : wE w i S = some none) : w i S = some none := by
  unfold wE at h
  split at h
  · cases h
  · exact h
theorem wE_some {i : Nat} {S : Sto} {x : PV} (h : wE w i S = some (some x)) : ∃ y, w i S = some (some y) ∧ x = .pr (.int (i : Nat)) y := by
  unfold wE at h
  split at h
  · rename_i y hy
    cases h
    exact ⟨y, hy, rfl⟩
  · rename_i hn
    exact absurd h (hn x)
theorem pair_ok {L : List Addr} {H : Hp} {T : Addr} {x y : PV} {u v : V} (R : RS K L H S) (hT : H T = none) (rx : RP K L H x u) (ry : RP K L H y v) :
    Le K L H L (upd H T (.tup [u, v])) ∧ RS K L (upd H T (.tup [u, v])) S ∧ RP K L (upd H T (.tup [u, v])) (.pr x y) (.ref T) :=
  ⟨Le.new hT, R.new hT, .pr (SqT.of upd_same) (rx.mono (Le.new hT)) (ry.mono (Le.new hT))⟩
theorem wj_enuL (h : WS SqL K w a L0 H0) : WJ K (wE w) (Ite K a) L0 H0 := fun L S H le R i => by
  obtain ⟨h1, h2⟩ := h L S H le R i
  refine ⟨fun e => h1 (wE_none e), fun x hx => ?_⟩
  obtain ⟨y, hy, e⟩ := wE_some hx
  subst e
  obtain ⟨vs, v, q, hv, rv⟩ := h2 y hy
  refine ⟨⟨vs, v, q, hv⟩, fun u H' ⟨T, z, e1, hT, e2, hz⟩ => ?_⟩
  cases Option.some.inj (hv.symm.trans (hz vs q))
  subst e1
  subst e2
  exact pair_ok R hT (.int _) rv
theorem wj_enuT (h : WS SqT K w a L0 H0) : WJ K (wE w) (IteT K a) L0 H0 := fun L S H le R i => by
  obtain ⟨h1, h2⟩ := h L S H le R i
  refine ⟨fun e => h1 (wE_none e), fun x hx => ?_⟩
  obtain ⟨y, hy, e⟩ := wE_some hx
  subst e
  obtain ⟨vs, v, q, hv, rv⟩ := h2 y hy
  refine ⟨⟨vs, v, q, hv⟩, fun u H' ⟨T, z, e1, hT, e2, hz⟩ => ?_⟩
  cases Option.some.inj (hv.symm.trans (hz vs q))
  subst e1
  subst e2
  exact pair_ok R hT (.int _) rv
theorem wZ_none {i : Nat} {S : Sto} (h : wZ w w2 i S = some none) : (w i S = some none ∧ ∃ r, w2 i S = some r) ∨ (w2 i S = some none ∧ ∃ r, w i S = some r) := by
  unfold wZ at h
  split at h
  · cases h
  · rename_i p q hn hp hq
    cases hpp : p with
    | none => exact .inl ⟨by rw [hp, hpp], q, hq⟩
    | some x =>
      cases hqq : q with
      | none => exact .inr ⟨by rw [hq, hqq], p, hp⟩
      | some y => subst hpp; subst hqq; exact absurd rfl (hn x y rfl)
  · cases h
theorem wZ_some {i : Nat} {S : Sto} {x : PV} (h : wZ w w2 i S = some (some x)) : ∃ y z, w i S = some (some y) ∧ w2 i S = some (some z) ∧ x = .pr y z := by
  unfold wZ at h
  split at h
  · rename_i y z hy hz
    cases h
    exact ⟨y, z, hy, hz, rfl⟩
  · cases h
  · cases h
theorem ws_sq {Sq : SqK} {L : List Addr} {H : Hp} {i : Nat} {r : Option PV} (h : WS Sq K w a L0 H0) (le : Le K L0 H0 L H) (R : RS K L H S) (e : w i S = some r) : ∃ vs, Sq K H a vs := by
  obtain ⟨h1, h2⟩ := h L S H le R i
  cases r with
  | none => exact let ⟨vs, q, _⟩ := h1 e; ⟨vs, q⟩
  | some x => exact let ⟨vs, _, q, _⟩ := h2 x e; ⟨vs, q⟩
theorem wj_zipL (h : WS SqL K w a L0 H0) (g : WS SqL K w2 b L0 H0) : WJ K (wZ w w2) (Itz K a b) L0 H0 := fun L S H le R i => by
  refine ⟨fun e => ?_, fun x hx => ?_⟩
  · rcases wZ_none e with ⟨e1, r, e2⟩ | ⟨e1, r, e2⟩
    · obtain ⟨vs, q, hl⟩ := (h L S H le R i).1 e1
      obtain ⟨ws, q2⟩ := ws_sq g le R e2
      exact ⟨vs, ws, q, q2, .inl hl⟩
    · obtain ⟨vs, q, hl⟩ := (g L S H le R i).1 e1
      obtain ⟨ws, q2⟩ := ws_sq h le R e2
      exact ⟨ws, vs, q2, q, .inr hl⟩
  · obtain ⟨y, z, hy, hz, e⟩ := wZ_some hx
    subst e
    obtain ⟨vs, v, q, hv, rv⟩ := (h L S H le R i).2 y hy
    obtain ⟨ws, v2, q2, hv2, rv2⟩ := (g L S H le R i).2 z hz
    refine ⟨⟨vs, ws, v, v2, q, q2, hv, hv2⟩, fun u H' ⟨T, x1, y1, e1, hT, e2, h3, h4⟩ => ?_⟩
    cases Option.some.inj (hv.symm.trans (h3 vs q))
    cases Option.some.inj (hv2.symm.trans (h4 ws q2))
    subst e1
    subst e2
    exact pair_ok R hT rv rv2
theorem wj_zipT (h : WS SqT K w a L0 H0) (g : WS SqT K w2 b L0 H0) : WJ K (wZ w w2) (RZ.ItzT K a b) L0 H0 := fun L S H le R i => by
  refine ⟨fun e => ?_, fun x hx => ?_⟩
  · rcases wZ_none e with ⟨e1, r, e2⟩ | ⟨e1, r, e2⟩
    · obtain ⟨vs, q, hl⟩ := (h L S H le R i).1 e1
      obtain ⟨ws, q2⟩ := ws_sq g le R e2
      exact ⟨vs, ws, q, q2, .inl hl⟩
    · obtain ⟨vs, q, hl⟩ := (g L S H le R i).1 e1
      obtain ⟨ws, q2⟩ := ws_sq h le R e2
      exact ⟨ws, vs, q2, q, .inr hl⟩
  · obtain ⟨y, z, hy, hz, e⟩ := wZ_some hx
    subst e
    obtain ⟨vs, v, q, hv, rv⟩ := (h L S H le R i).2 y hy
    obtain ⟨ws, v2, q2, hv2, rv2⟩ := (g L S H le R i).2 z hz
    refine ⟨⟨vs, ws, v, v2, q, q2, hv, hv2⟩, fun u H' ⟨T, x1, y1, e1, hT, e2, h3, h4⟩ => ?_⟩
    cases Option.some.inj (hv.symm.trans (h3 vs q))
    cases Option.some.inj (hv2.symm.trans (h4 ws q2))
    subst e1
    subst e2
    exact pair_ok R hT rv rv2
end
section
variable {X : Cx}
theorem xi_seq {tg l : Expr} {d : DE} (hl : XE X l d) : XI X tg l (iSeq d) := by
  refine ⟨fun pins s σ H R I ⟨L, S, e, w, S', Rs, E, h, k⟩ => (pi_seqA (tg := tg) hl).run pins s σ H R I ?_⟩
  obtain ⟨x, S1, q, h⟩ := bnd_of h
  obtain ⟨w', hw, e2⟩ := Option.map_eq_some_iff.mp h
  cases e2
  refine ⟨L, S, e, x, _, Rs, E, q, fun L1 H1 u le1 R1 ru => ?_⟩
  obtain ⟨a, vs, e1, hc⟩ := wk_ok R1 ru hw
  rcases hc with ⟨_, q1, ws⟩ | ⟨_, q1, ws⟩
  · exact ⟨a, e1, .inl ⟨vs, q1, k L1 H1 _ le1 R1 (wj_list ws)⟩⟩
  · exact ⟨a, e1, .inr ⟨vs, q1, k L1 H1 _ le1 R1 (wj_tup ws)⟩⟩
def iRngOne (d : DA) : DI := fun e S => bnd (d e S) fun xs S1 => match xs with
  | [.int j] => if -(2 ^ 62) ≤ j ∧ j < 2 ^ 62 then some (wR 0 j.toNat, S1) else none
  | _ => none
def iRngTwo (d : DA) : DI := fun e S => bnd (d e S) fun xs S1 => match xs with
  | [.int i, .int j] => if -(2 ^ 62) ≤ i ∧ i < 2 ^ 62 ∧ -(2 ^ 62) ≤ j ∧ j < 2 ^ 62 then some (wR i (j - i).toNat, S1) else none
  | _ => none
theorem xi_rng1 {tg a : Expr} {d : DA} {p pos : Pos} (hg : Gl X "range") (hm : X.mg "range" = none) (ha : XA X [a] d) (hs : starEach [a] X.env = [(false, eval a X.env)] := by rfl) : XI X tg (.Call (.Name "range" p) [a] [] pos) (iRngOne d) := by
  refine ⟨fun pins s σ H R I ⟨L, S, e, w, S', Rs, E, h, k⟩ => (pi_range1 (tg := tg) hg hm ha hs).run pins s σ H R I ?_⟩
  obtain ⟨xs, S1, q, h⟩ := bnd_of h
  refine ⟨L, S, e, xs, _, Rs, E, q, fun L1 H1 us le1 R1 ru => ?_⟩
  split at h
  · split at h
    · cases h
      rename_i hb
      obtain ⟨u, rfl, r⟩ := ru.one
      cases r
      exact ⟨_, rfl, hb.1, hb.2, k L1 H1 _ le1 R1 wj_rng⟩
    · cases h
  · cases h
theorem xi_rng2 {tg a b : Expr} {d : DA} {p pos : Pos} (hg : Gl X "range") (hm : X.mg "range" = none) (ha : XA X [a, b] d) (hs : starEach [a, b] X.env = [(false, eval a X.env), (false, eval b X.env)] := by rfl) (hs2 : starEach [b] X.env = [(false, eval b X.env)] := by rfl) :
    XI X tg (.Call (.Name "range" p) [a, b] [] pos) (iRngTwo d) := by
  refine ⟨fun pins s σ H R I ⟨L, S, e, w, S', Rs, E, h, k⟩ => (pi_range2 (tg := tg) hg hm ha hs hs2).run pins s σ H R I ?_⟩
  obtain ⟨xs, S1, q, h⟩ := bnd_of h
  refine ⟨L, S, e, xs, _, Rs, E, q, fun L1 H1 us le1 R1 ru => ?_⟩
  split at h
  · split at h
    · cases h
      rename_i hb
      obtain ⟨u, v, rfl, r, r'⟩ := ru.two
      cases r
      cases r'
      exact ⟨_, _, rfl, hb, k L1 H1 _ le1 R1 wj_rng⟩
    · cases h
  · cases h
theorem xi_enu {e0 : Expr} {d : DA} {p pos tpos : Pos} {elts : List Expr} {kk : Nat} (hg : Gl X "enumerate") (hm : X.mg "enumerate" = none) (ha : XA X [e0] d) (hs : starEach [e0] X.env = [(false, eval e0 X.env)] := by rfl) :
    XI X (.Tuple elts kk tpos) (.Call (.Name "enumerate" p) [e0] [] pos) (iEnu d) := by
  refine ⟨fun pins s σ H R I ⟨L, S, e, w, S', Rs, E, h, k⟩ => (pi_enumA hg hm ha hs).run pins s σ H R I ?_⟩
  obtain ⟨xs, S1, q, h⟩ := bnd_of h
  refine ⟨L, S, e, xs, _, Rs, E, q, fun L1 H1 us le1 R1 ru => ?_⟩
  split at h
  · obtain ⟨w', hw, e2⟩ := Option.map_eq_some_iff.mp h
    cases e2
    obtain ⟨u, rfl, r⟩ := ru.one
    obtain ⟨a, vs, e1, hc⟩ := wk_ok R1 r hw
    subst e1
    rcases hc with ⟨_, q1, ws⟩ | ⟨_, q1, ws⟩
    · exact ⟨a, rfl, .inl ⟨vs, q1, k L1 H1 _ le1 R1 (wj_enuL ws)⟩⟩
    · exact ⟨a, rfl, .inr ⟨vs, q1, k L1 H1 _ le1 R1 (wj_enuT ws)⟩⟩
  · cases h
def iZp (d : DA) : DI := fun e S => bnd (d e S) fun xs S1 => match xs with
  | [x, y] => if isTp x = isTp y then (wkOf x S1).bind fun w => (wkOf y S1).map fun u => (wZ w u, S1) else none
  | _ => none
theorem wk_okT {K : PySem.W.Frag} {L0 : List Addr} {H0 : Hp} {S : Sto} {w : WK} {x : PV} {u : V} (R : RS K L0 H0 S) (r : RP K L0 H0 x u) (h : wkOf x S = some w) (t : isTp x = true) : ∃ a vs, u = .ref a ∧ SqT K H0 a vs ∧ WS SqT K w a L0 H0 := by
  obtain ⟨a, vs, e, ⟨t', q, ws⟩ | ⟨t', q, ws⟩⟩ := wk_ok R r h
  · rw [t] at t'; cases t'
  · exact ⟨a, vs, e, q, ws⟩
theorem wk_okL {K : PySem.W.Frag} {L0 : List Addr} {H0 : Hp} {S : Sto} {w : WK} {x : PV} {u : V} (R : RS K L0 H0 S) (r : RP K L0 H0 x u) (h : wkOf x S = some w) (t : isTp x = false) : ∃ a vs, u = .ref a ∧ SqL K H0 a vs ∧ WS SqL K w a L0 H0 := by
  obtain ⟨a, vs, e, ⟨t', q, ws⟩ | ⟨t', q, ws⟩⟩ := wk_ok R r h
  · exact ⟨a, vs, e, q, ws⟩
  · rw [t] at t'; cases t'
theorem xi_zip {e0 e1 : Expr} {d : DA} {p pos tpos : Pos} {elts : List Expr} {kk : Nat} (hg : Gl X "zip") (hm : X.mg "zip" = none) (ha : XA X [e0, e1] d)
    (hs : starEach [e0, e1] X.env = (false, eval e0 X.env) :: starEach [e1] X.env := by rfl) (hpl : (backTo pos (starEach [e1] X.env)).any (·.1) = false := by rfl) :
    XI X (.Tuple elts kk tpos) (.Call (.Name "zip" p) [e0, e1] [] pos) (iZp d) := by
  refine ⟨fun pins s σ H R I ⟨L, S, e, w, S', Rs, E, h, k⟩ => (RZ.pi_zipA hg hm ha hs hpl).run pins s σ H R I ?_⟩
  obtain ⟨xs, S1, q, h⟩ := bnd_of h
  refine ⟨L, S, e, xs, _, Rs, E, q, fun L1 H1 us le1 R1 ru => ?_⟩
  split at h
  · split at h
    · rename_i x y ht
      obtain ⟨w1, hw1, h⟩ := Option.bind_eq_some_iff.mp h
      obtain ⟨w2, hw2, e2⟩ := Option.map_eq_some_iff.mp h
      cases e2
      obtain ⟨u, v, rfl, r, r'⟩ := ru.two
      cases hx : isTp x with
      | true =>
        rw [hx] at ht
        obtain ⟨a, vs, ea, q1, ws1⟩ := wk_okT R1 r hw1 hx
        obtain ⟨b, ws, eb, q2, ws2⟩ := wk_okT R1 r' hw2 ht.symm
        subst ea eb
        exact ⟨a, b, vs, ws, rfl, .inr ⟨q1, q2, k L1 H1 _ le1 R1 (wj_zipT ws1 ws2)⟩⟩
      | false =>
        rw [hx] at ht
        obtain ⟨a, vs, ea, q1, ws1⟩ := wk_okL R1 r hw1 hx
        obtain ⟨b, ws, eb, q2, ws2⟩ := wk_okL R1 r' hw2 ht.symm
        subst ea eb
        exact ⟨a, b, vs, ws, rfl, .inl ⟨q1, q2, k L1 H1 _ le1 R1 (wj_zipL ws1 ws2)⟩⟩
    · cases h
  · cases h
/-- a list comprehension -/
theorem xe_lc {elt tg iter : Expr} {ifs : List Expr} {scope : Scope} {own : List (Str × Nat)} {pos : Pos} {d : DI} {g : DG} {t : DT} {el : DE} (hc : X.calm = true) (hN : X.N.Nodup) (hi : XI X tg iter d) (ok : BlkOk X.N X.env.scope scope own)
    (hg : ∀ (s : Shared) (H : Hp) (C : Addr) (cl : List (Str × Addr)) (fp : List Addr), XG (X.blk s H scope (compEnvC scope cl C X.env) fp) tg g) (ht : ∀ (s : Shared) (H : Hp) (C : Addr) (cl : List (Str × Addr)) (fp : List Addr), PTs (X.blk s H scope (compEnvC scope cl C X.env) fp) ifs (tD X.K t))
    (he : ∀ (s : Shared) (H : Hp) (C : Addr) (cl : List (Str × Addr)) (fp : List Addr), XE (X.blk s H scope (compEnvC scope cl C X.env) fp) elt el) (hs : ∀ x, foldedSetIterable iter X.env x = pure x := by intro _; rfl) :
    XE X (.ListComp elt [⟨tg, iter, ifs, 0⟩] scope pos) (eLc d g t el (own.map (·.2))) := pe_imp (pe_lc hc hN hi ok hg ht he hs) fun σ H Q h => t_lc σ H Q h
theorem xs_setLc {i : Nat} {y : Str} {py : Pos} {elt tg iter : Expr} {ifs : List Expr} {scope : Scope} {own : List (Str × Nat)} {pos spos : Pos} {d : DI} {g : DG} {t : DT} {el : DE} (hc : X.calm = true) (hN : X.N.Nodup) (hy : X.N[i]? = some y) (hyl : X.env.scope.names.lookup y = some .local)
    (hsw : swapsWith (.ListComp elt [⟨tg, iter, ifs, 0⟩] scope pos) (some (.Name y py)) spos.line X.env = pure true) (hi : XI X tg iter d) (ok : BlkOk X.N X.env.scope scope own)
    (hg : ∀ (s : Shared) (H : Hp) (C : Addr) (cl : List (Str × Addr)) (fp : List Addr), XG (X.blk s H scope (compEnvC scope cl C X.env) fp) tg g) (ht : ∀ (s : Shared) (H : Hp) (C : Addr) (cl : List (Str × Addr)) (fp : List Addr), PTs (X.blk s H scope (compEnvC scope cl C X.env) fp) ifs (tD X.K t))
    (he : ∀ (s : Shared) (H : Hp) (C : Addr) (cl : List (Str × Addr)) (fp : List Addr), XE (X.blk s H scope (compEnvC scope cl C X.env) fp) elt el) (hs : ∀ x, foldedSetIterable iter X.env x = pure x := by intro _; rfl) :
    XS X (.Assign [.Name y py] (.ListComp elt [⟨tg, iter, ifs, 0⟩] scope pos) spos) (sSet i (eLc d g t el (own.map (·.2)))) :=
  ps_imp (ps_setLc hc hN hy hyl hsw hi ok hg ht he hs) fun D σ H h => by
    have h1 := t_set D σ H h
    exact t_lc σ H _ h1
end
end EV
namespace L2
theorem Room.units65 {k : Nat} {A : PySem.Around} (r : Room k A) : A.units + 65 < PySem.cLine := by have := r.un; omega
end L2
namespace EV
open PySem PySem.Spec PyProof.Rows L2
theorem FrL.of_only {K : PySem.W.Frag} {H : Hp} {a : Addr} {ns : List Int} (h : Only H) (q : SqL K H a (ns.map V.int)) : FrL K H a ns := by
  rcases q with (q | ⟨o, q⟩) | q
  · rcases h a with e | ⟨o, xs, e⟩ <;> (rw [q] at e; cases e)
  · exact .inl ⟨o, q⟩
  · exact .inr q
theorem RS.none {K : PySem.W.Frag} {H : Hp} : RS K [] H [] := ⟨rfl, fun n o a h => by simp at h, fun n m a h => by simp at h⟩
end EV
namespace EV
open PySem PySem.Spec PyProof.Rows L2
/-! an object beside the store comes into it -/
section
variable {K : PySem.W.Frag} {L L0 : List Addr} {H H0 : Hp} {S : Sto}
theorem RS.comeO {D : Addr} {o : Ob} (R : RS K L H S) (hn : D ∉ L) (ro : RO K (L ++ [D]) H D o) : RS K (L ++ [D]) H (S ++ [o]) := by
  have ln := R.len
  have up : Lw K L H (L ++ [D]) H := ⟨fun n a h => by
    rw [List.getElem?_append_left (List.getElem?_eq_some_iff.mp h).1]
    exact h, fun _ _ h => h, fun _ _ _ h => h⟩
  have two : ∀ (n : Nat) (a : Addr), (L ++ [D])[n]? = some a → (L[n]? = some a ∧ n < S.length) ∨ (n = S.length ∧ a = D) := fun n a h => by
    rcases Nat.lt_or_ge n L.length with c | c
    · rw [List.getElem?_append_left c] at h
      exact .inl ⟨h, by omega⟩
    · rw [List.getElem?_append_right c] at h
      have hz : n - L.length = 0 := by
        rcases Nat.eq_zero_or_pos (n - L.length) with z | z
        · exact z
        · rw [List.getElem?_eq_none_iff.mpr (by simp; omega)] at h; cases h
      rw [hz] at h
      cases h
      exact .inr ⟨by omega, rfl⟩
  refine ⟨by simp [ln], fun n ob a h1 h2 => ?_, fun n m a h1 h2 => ?_⟩
  · rcases two n a h2 with ⟨g, c⟩ | ⟨rfl, rfl⟩
    · rw [List.getElem?_append_left c] at h1
      exact (R.ob n ob a h1 g).monoW up fun _ z => z
    · have hS : (S ++ [o])[S.length]? = some o := by simp
      rw [hS] at h1
      cases h1
      exact ro
  · rcases two n a h1 with ⟨g1, _⟩ | ⟨e1, a1⟩ <;> rcases two m a h2 with ⟨g2, _⟩ | ⟨e2, a2⟩
    · exact R.inj n m a g1 g2
    · rw [a2] at g1; exact absurd (List.mem_of_getElem? g1) hn
    · rw [a1] at g2; exact absurd (List.mem_of_getElem? g2) hn
    · omega
theorem Lw.outK {D : Addr} {w : List (Key × V)} {u : HO} (hD : H D = some (.dK w)) : Lw K L H L (upd H D u) := ⟨fun _ _ h => h, fun a xs h => sqt_upd (fun u0 e => by
    rw [hD] at e
    cases e
    exact .inr ⟨_, rfl⟩) h, fun a ob v h => by
  rw [upd_ne]
  · exact h
  · rintro rfl
    rw [hD] at h
    cases h⟩
theorem RS.outK {D : Addr} {w : List (Key × V)} {u : HO} (R : RS K L H S) (hD : H D = some (.dK w)) (hn : D ∉ L) : RS K L (upd H D u) S where
  len := R.len
  ob := fun n o a h1 h2 => (R.ob n o a h1 h2).monoW (Lw.outK hD) fun v e => by
    rw [upd_ne]
    · exact e
    · rintro rfl
      exact hn (List.mem_of_getElem? h2)
  inj := R.inj
theorem Le.outK {D : Addr} {w : List (Key × V)} {u : HO} (le : Le K L0 H0 L H) (h0 : H0 D = none) (hD : H D = some (.dK w)) : Le K L0 H0 L (upd H D u) where
  pre := le.pre
  tup := fun a xs h => (Lw.outK (K := K) (L := L) hD).tup a xs (le.tup a xs h)
  frz := fun a o v h => (Lw.outK (K := K) (L := L) hD).frz a o v (le.frz a o v h)
  fr := fun a o h n => by
    rw [upd_ne (ne_of_none h h0)]
    exact le.fr a o h n
  nw := le.nw
end
/-! displays of dicts -/
def keyP (x : PV) : Option Key := match x with
  | .int i => some (.inl i)
  | .str x => some (.inr x)
  | _ => none
theorem keyP_ok {K : PySem.W.Frag} {L : List Addr} {H : Hp} {x : PV} {v : V} {k : Key} (r : RP K L H x v) (h : keyP x = some k) : v = kV k := by
  cases r <;> cases h <;> rfl
def dPairs : List (DE × DE) → Sl → Sto → Option (List (PV × PV) × Sto)
  | [], _, S => some ([], S)
  | (a, b) :: r, e, S => bnd (a e S) fun x S1 => bnd (b e S1) fun y S2 => bnd (dPairs r e S2) fun ps S3 => some ((x, y) :: ps, S3)
def keyed : List (PV × PV) → Option (List (Key × PV))
  | [] => some []
  | (x, y) :: r => (keyP x).bind fun k => (keyed r).map fun ks => (k, y) :: ks
def eDic (ds : List (DE × DE)) : DE := fun e S => bnd (dPairs ds e S) fun ps S1 => (keyed ps).bind fun kvs => if kvs.length ≤ 15 ∧ (kvs.map Prod.fst).Nodup then some (.loc S1.length, S1 ++ [.dic kvs]) else none
inductive RPP (K : PySem.W.Frag) (L : List Addr) (H : Hp) : List (PV × PV) → List (V × V) → Prop
  | nil : RPP K L H [] []
  | cons {x y : PV} {u v : V} {ps : List (PV × PV)} {vs : List (V × V)} : RP K L H x u → RP K L H y v → RPP K L H ps vs → RPP K L H ((x, y) :: ps) ((u, v) :: vs)
theorem t_pairs {K : PySem.W.Frag} : ∀ (ds : List (DE × DE)) (σ : L2.St) (H : Hp) (L : List Addr) (S : Sto) (e : Sl) (ps : List (PV × PV)) (S' : Sto) (Q : List (V × V) → Hp → Prop), RS K L H S → RE K L H e σ → dPairs ds e S = some (ps, S') →
    (∀ L' H' vs, Le K L H L' H' → RS K L' H' S' → RPP K L' H' ps vs → Q vs H') → tPairs (ds.map fun p => (tE K p.1, tE K p.2)) σ H Q
  | [], σ, H, L, S, e, ps, S', Q, R, E, h, k => by
    cases h
    exact k L H [] Le.refl R .nil
  | (a, b) :: r, σ, H, L, S, e, ps, S', Q, R, E, h, k => by
    obtain ⟨x, S1, q1, h⟩ := bnd_of h
    obtain ⟨y, S2, q2, h⟩ := bnd_of h
    obtain ⟨qs, S3, q3, h⟩ := bnd_of h
    cases h
    refine ⟨L, S, e, x, S1, R, E, q1, fun L1 H1 u le1 R1 ru => ?_⟩
    refine ⟨L1, S1, e, y, S2, R1, E.mono le1, q2, fun L2 H2 v le2 R2 rv => ?_⟩
    exact t_pairs r σ H2 L2 S2 e qs _ _ R2 (E.mono (le1.trans le2)) q3 fun L3 H3 vs le3 R3 rvs => k L3 H3 _ ((le1.trans le2).trans le3) R3 (.cons (ru.mono (le2.trans le3)) (rv.mono le3) rvs)
theorem keyed_ok {K : PySem.W.Frag} {L : List Addr} {H : Hp} : ∀ {ps : List (PV × PV)} {vs : List (V × V)} {kvs : List (Key × PV)}, RPP K L H ps vs → keyed ps = some kvs → ∃ ks : List (Key × V), vs = ks.map (fun kv => (kV kv.1, kv.2)) ∧ RK K L H kvs ks
  | _, _, _, .nil, h => by
    cases h
    exact ⟨[], rfl, rfl, .nil⟩
  | _, _, _, .cons (v := v) r1 r2 rr, h => by
    obtain ⟨k, h1, h2⟩ := Option.bind_eq_some_iff.mp h
    obtain ⟨ks, h3, e⟩ := Option.map_eq_some_iff.mp h2
    cases e
    obtain ⟨ks', e1, e2, e3⟩ := keyed_ok rr h3
    exact ⟨(k, v) :: ks', by rw [e1, keyP_ok r1 h1]; rfl, by simp [e2], .cons r2 e3⟩
theorem valV_no {k : Key} : ∀ {kvs : List (Key × V)}, k ∉ kvs.map Prod.fst → valV kvs k = none
  | [], _ => rfl
  | p :: r, h => by
    rw [valV_neg (fun z => h (by rw [← z]; simp))]
    exact valV_no fun z => h (by simp only [List.map_cons, List.mem_cons]; exact .inr z)
theorem merge_new : ∀ {more kvs : List (Key × V)}, ((kvs ++ more).map Prod.fst).Nodup → mergeK kvs more = kvs ++ more
  | [], kvs, _ => by simp [mergeK]
  | p :: r, kvs, h => by
    have hp : p.1 ∉ kvs.map Prod.fst := by
      rw [List.map_append, List.nodup_append] at h
      intro hm
      exact h.2.2 p.1 hm p.1 (by simp) rfl
    show mergeK (putK kvs p.1 p.2) r = _
    rw [putK_new _ (valV_no hp), merge_new (by simpa using h)]
    simp
theorem xe_disp {X : Cx} {pos : Pos} {keys : List (Option Expr)} {values : List Expr} {ds : List (DE × DE)} (h : PPs X pos keys values (ds.map fun p => (tE X.K p.1, tE X.K p.2))) (hall : keys.all (·.isSome) = true := by rfl) (hl : keys.length = values.length := by rfl) (h0 : keys ≠ [] := by simp)
    (h15 : keys.length ≤ 15 := by decide) : XE X (.Dict keys values pos) (eDic ds) := pe_imp (pe_disp h hall hl h0 h15) fun σ H Q ⟨L, S, e, z, S', R, E, h, k⟩ => by
  obtain ⟨ps, S1, q1, h⟩ := bnd_of h
  obtain ⟨kvs, h1, h⟩ := Option.bind_eq_some_iff.mp h
  split at h
  · rename_i hc
    cases h
    intro p hp
    have hn : p ∉ L := fun m => R.trk m hp
    refine t_pairs ds σ (upd H p (.dK [])) L S e ps S1 _ (R.new hp) (E.mono (Le.new hp)) q1 fun L2 H2 vs le2 R2 rvs => ?_
    have e2 : H2 p = some (.dK []) := le2.fr p _ upd_same hn
    have hn2 : p ∉ L2 := fun m => by
      have := le2.nw p m hn
      rw [upd_same] at this
      cases this
    obtain ⟨ks, e3, rk⟩ := keyed_ok rvs h1
    have hks : ks.map Prod.fst = kvs.map Prod.fst := rk.1.symm
    have hm : mergeK [] ks = ks := by
      have := merge_new (kvs := []) (more := ks) (by rw [List.nil_append, hks]; exact hc.2)
      simpa using this
    have hlen : ks.length ≤ 15 := by
      have e4 := congrArg List.length hks
      simp only [List.length_map] at e4
      rw [e4]; exact hc.1
    refine ⟨e2, ks, e3, hlen, ?_⟩
    rw [hm]
    have le0 : Le X.K L H L (upd H p (.dK [])) := Le.new hp
    have leA : Le X.K L H L2 (upd H2 p (.dK ks)) := (le0.trans le2).outK hp e2
    have up : Lw X.K L2 H2 (L2 ++ [p]) (upd H2 p (.dK ks)) := by
      have w1 : Lw X.K L2 H2 L2 (upd H2 p (.dK ks)) := Lw.outK e2
      exact ⟨fun n a h => by
        rw [List.getElem?_append_left (List.getElem?_eq_some_iff.mp h).1]
        exact h, w1.tup, w1.frz⟩
    have R3 : RS X.K (L2 ++ [p]) (upd H2 p (.dK ks)) (S1 ++ [.dic kvs]) := (R2.outK e2 hn2).comeO hn2 ⟨ks, upd_same, rk.1, rk.2.monoW up⟩
    exact k _ _ _ (leA.come hp) R3 (.loc (by rw [← R2.len]; simp))
  · cases h
theorem xps_nil {X : Cx} {pos : Pos} : PPs X pos [] [] (([] : List (DE × DE)).map fun p => (tE X.K p.1, tE X.K p.2)) := pps_nil
theorem xps_cons {X : Cx} {pos : Pos} {k v : Expr} {ks : List (Option Expr)} {vs : List Expr} {a b : DE} {ds : List (DE × DE)} (hk : XE X k a) (hv : XE X v b) (hr : PPs X pos ks vs (ds.map fun p => (tE X.K p.1, tE X.K p.2))) :
    PPs X pos (some k :: ks) (v :: vs) (((a, b) :: ds).map fun p => (tE X.K p.1, tE X.K p.2)) := pps_cons hk hv hr
/-! repr of data with dicts -/
def SysD (h : Heap) : Prop := ∃ o, h.get? sysModules = some o ∧ o.cls = .type "dict"
def keyD : Key → PyData
  | .inl i => .int i
  | .inr x => .str x
def datD (S : Sto) : Nat → PV → Option PyData
  | _, .non => some .none
  | _, .bl b => some (.bool b)
  | _, .int i => some (.int i)
  | _, .str x => some (.str x)
  | _, .fl ns => some (.list (ns.map .int))
  | _, .pr _ _ => none
  | f + 1, .tup xs => (mapO (datD S f) xs).map .tuple
  | f + 1, .loc n => match S[n]? with
    | some (.lst xs) => (mapO (datD S f) xs).map .list
    | some (.dic kvs) => (mapO (datD S f) (kvs.map Prod.snd)).map fun ds => .dict ((kvs.map fun p => keyD p.1).zip ds)
    | _ => none
  | 0, .tup _ => none
  | 0, .loc _ => none
section
variable {X : Cx} {pins : List (Addr × Obj)} {σ : L2.St} {H : Hp} {s : Shared} {L : List Addr} {S : Sto}
theorem key_reads {h : Heap} {u : Value} {k : Key} (hk : (mixKind X.prog X.w).is k u = true) : Reads h u (keyD k) [] := by
  rcases keyIs_shape (show keyIs k u = true from hk) with ⟨i, t, rfl, rfl⟩ | ⟨x, t, rfl, rfl⟩
  · exact .int _ _
  · exact .str _ _
theorem keys_reads {h : Heap} : ∀ {es : List DictEntry} {vs : List (Key × Value)}, PySem.Pairs (mixKind X.prog X.w) es vs → ReadsAll h (es.map (·.key)) (vs.map fun p => keyD p.1) []
  | _, _, .nil => .nil
  | _, _, .cons h1 _ r => ReadsAll.cons (as := []) (bs := []) (key_reads h1) (keys_reads r)
theorem vals_eq : ∀ {es : List DictEntry} {vs : List (Key × Value)}, PySem.Pairs (mixKind X.prog X.w) es vs → es.map (·.val) = vs.map Prod.snd
  | _, _, .nil => rfl
  | _, _, .cons _ h2 r => by simp [h2, vals_eq r]
theorem kv_split : ∀ {ks : List (Key × V)} {vs : List (Key × Value)}, KV ks vs → ks.map Prod.fst = vs.map Prod.fst ∧ Vals (ks.map Prod.snd) (vs.map Prod.snd)
  | _, _, .nil => ⟨rfl, .nil⟩
  | _, _, .cons h r => by
    obtain ⟨a, b⟩ := kv_split r
    exact ⟨by simp [h.1, a], .cons h.2 b⟩
theorem readsAll_of {K : PySem.W.Frag} {g : PV → Option PyData} (ih : ∀ x v u d, RP K L H x v → RelV v u → g x = some d → ∃ as, Reads s.heap u d as ∧ sysModules ∉ as) :
    ∀ {xs : List PV} {vs : List V} {us : List Value} {ds : List PyData}, RPs K L H xs vs → Vals vs us → mapO g xs = some ds → ∃ as, ReadsAll s.heap us ds as ∧ sysModules ∉ as
  | _, _, _, _, .nil, .nil, h => by
    cases h
    exact ⟨[], .nil, by simp⟩
  | _, _, _, _, .cons (x := x) (xs := xs) a b, .cons r rr, h => by
    unfold mapO at h
    split at h
    · cases h
      rename_i y t h1 h2
      obtain ⟨as, q1, n1⟩ := ih _ _ _ _ a r h1
      obtain ⟨bs, q2, n2⟩ := readsAll_of ih b rr h2
      exact ⟨as ++ bs, .cons q1 q2, by simp [n1, n2]⟩
    · cases h
theorem ints_reads {h : Heap} : ∀ {ns : List Int} {us : List Value}, Vals (ns.map V.int) us → ReadsAll h us (ns.map PyData.int) []
  | [], _, .nil => .nil
  | n :: r, _, .cons h1 h2 => by
    obtain ⟨t, rfl⟩ := h1
    exact ReadsAll.cons (as := []) (bs := []) (.int n t) (ints_reads h2)
theorem dat_reads (R : RS X.K L H S) (I : L2.Inv X pins σ H s) (hS : SysD X.base) : ∀ (f : Nat) (x : PV) (v : V) (u : Value) (d : PyData), RP X.K L H x v → RelV v u → datD S f x = some d → ∃ as, Reads s.heap u d as ∧ sysModules ∉ as := by
  obtain ⟨so, hso, hsc⟩ := hS
  have hsys : s.heap.get? sysModules = some so := I.bk _ _ hso
  have notL : ∀ {a : Addr} {o : Obj}, s.heap.get? a = some o → o.cls = .type "list" → sysModules ≠ a := fun {a o} e c z => by
    rw [← z, hsys] at e
    cases e
    rw [hsc] at c
    exact absurd c (by decide)
  intro f
  induction f with
  | zero =>
    intro x v u d r ru h
    cases r with
    | non => cases h; cases ru; exact ⟨[], .none, by simp⟩
    | bl b => cases h; cases ru; exact ⟨[], .bool b, by simp⟩
    | int i => cases h; obtain ⟨t, rfl⟩ := ru; exact ⟨[], .int i t, by simp⟩
    | str x => cases h; obtain ⟨t, rfl⟩ := ru; exact ⟨[], .str x t, by simp⟩
    | fl q =>
      cases h
      cases ru
      obtain ⟨its, rv, ⟨o, n, ho, hc, _, hd⟩, _⟩ := I.list q.seq
      exact ⟨_, .list ho hc hd (ints_reads rv), by simp [notL ho hc]⟩
    | tup _ _ => cases h
    | pr _ _ _ => cases h
    | loc _ => cases h
  | succ f ih =>
    intro x v u d r ru h
    cases r with
    | non => cases h; cases ru; exact ⟨[], .none, by simp⟩
    | bl b => cases h; cases ru; exact ⟨[], .bool b, by simp⟩
    | int i => cases h; obtain ⟨t, rfl⟩ := ru; exact ⟨[], .int i t, by simp⟩
    | str x => cases h; obtain ⟨t, rfl⟩ := ru; exact ⟨[], .str x t, by simp⟩
    | fl q =>
      cases h
      cases ru
      obtain ⟨its, rv, ⟨o, n, ho, hc, _, hd⟩, _⟩ := I.list q.seq
      exact ⟨_, .list ho hc hd (ints_reads rv), by simp [notL ho hc]⟩
    | tup hq rs =>
      unfold datD at h
      obtain ⟨ds, h1, h2⟩ := Option.map_eq_some_iff.mp h
      cases h2
      cases ru
      obtain ⟨its, rv, ⟨o, ho, hc, n, hd⟩, _⟩ := I.tuple hq.t
      obtain ⟨as, q1, n1⟩ := readsAll_of ih rs rv h1
      exact ⟨as, .tuple ho hc hd q1, n1⟩
    | pr _ _ _ => cases h
    | @loc n a hL =>
      obtain ⟨o, hSn, ro⟩ := R.at_ hL
      unfold datD at h
      rw [hSn] at h
      cases ru
      cases o with
      | lst xs =>
        obtain ⟨vs, e, rs⟩ := ro
        obtain ⟨ds, h1, h2⟩ := Option.map_eq_some_iff.mp h
        cases h2
        obtain ⟨its, rv, ⟨o, n, ho, hc, _, hd⟩, _⟩ := I.list (SqL.of e)
        obtain ⟨as, q1, n1⟩ := readsAll_of ih rs rv h1
        exact ⟨_, .list ho hc hd q1, by simp [notL ho hc, n1]⟩
      | dic kvs =>
        obtain ⟨ks, e, rk1, rk2⟩ := ro
        obtain ⟨ds, h1, h2⟩ := Option.map_eq_some_iff.mp h
        cases h2
        obtain ⟨hz, hsm, vs, rkv, o, es, ep, ho, hex, hdat, hko, hpr, hnd⟩ := dk_of I.hok e
        obtain ⟨k1, k2⟩ := kv_split rkv
        have hlen : ds.length = kvs.length := by
          have : ∀ {xs : List PV} {ds : List PyData}, mapO (datD S f) xs = some ds → ds.length = xs.length := by
            intro xs
            induction xs with
            | nil => intro ds h; cases h; rfl
            | cons x r ihl =>
              intro ds h
              unfold mapO at h
              split at h
              · cases h
                rename_i h2
                simp [ihl h2]
              · cases h
          have := this h1
          simpa using this
        obtain ⟨bs, q2, n2⟩ := readsAll_of ih rk2 k2 h1
        have keys := keys_reads (h := s.heap) hpr
        have kk : (vs.map fun p => keyD p.1) = (kvs.map fun p => keyD p.1) := by
          have e5 : vs.map Prod.fst = kvs.map Prod.fst := by rw [← k1, ← rk1]
          have := congrArg (List.map keyD) e5
          simpa [List.map_map, Function.comp_def] using this
        rw [kk] at keys
        rw [← vals_eq hpr] at q2
        have z1 : (((kvs.map fun p => keyD p.1).zip ds).map (·.1)) = kvs.map fun p => keyD p.1 := List.map_fst_zip (by simp [hlen])
        have z2 : (((kvs.map fun p => keyD p.1).zip ds).map (·.2)) = ds := List.map_snd_zip (by simp [hlen])
        refine ⟨a :: [] ++ bs, .dict ho hex.1 hdat (by rw [z1]; exact keys) (by rw [z2]; exact q2), ?_⟩
        simp only [List.cons_append, List.nil_append, List.mem_cons, not_or]
        exact ⟨fun z => by rw [← z] at hsm; simp at hsm, n2⟩
end
def showE (d : PyData) : Option Str := if (d.showable && decide (d.depth ≤ 64) && decide (d.shown.length ≤ 16777216)) = true then some d.shown else none
def fReprD : ON := fun xs S => match xs with
  | [x] => ((datD S 66 x).bind showE).map fun t => (.str t, S)
  | _ => none
theorem c_reprD {X : Cx} (hS : SysD X.base) (hG : X.A.guards = some []) (hu : X.A.units + 65 < cLine) : CallR X (.builtin "repr") (rN X.K fReprD) := by
  intro pins s σ H us vs Q I rr ⟨L, S, xs, z, S', R, rx, h, k⟩
  unfold fReprD at h
  split at h
  · obtain ⟨u, rfl, ru⟩ := rx.one
    obtain ⟨t, h1, e⟩ := Option.map_eq_some_iff.mp h
    cases e
    obtain ⟨d, h2, h3⟩ := Option.bind_eq_some_iff.mp h1
    unfold showE at h3
    split at h3
    · rename_i hc
      cases h3
      simp only [Bool.and_eq_true, decide_eq_true_eq] at hc
      obtain ⟨⟨c1, c3⟩, c4⟩ := hc
      cases rr with
      | @cons _ w0 _ _ r1 rr =>
        cases rr
        have disp : (∃ a, u = .ref a) → wpAny (model X.prog X.w) X.A (call (.builtin "repr") [w0]) (EP X pins σ Q) X.xe s := fun ⟨a, ha⟩ => by
          subst ha
          obtain ⟨as, rd, nsys⟩ := dat_reads R I hS _ _ _ _ _ ru r1 h2
          cases r1
          refine repr_of_reads' rd c1 (fun _ => nsys) hG (by omega) (fun _ _ e => e) (fun h' t' tk hk => ?_) c4
          exact ⟨.str _, H, I.kept (t' := tk) hk, ⟨t', rfl⟩, k L H _ Le.refl R (.str _)⟩
        cases ru with
        | tup _ _ => exact disp ⟨_, rfl⟩
        | pr _ _ _ => exact disp ⟨_, rfl⟩
        | fl _ => exact disp ⟨_, rfl⟩
        | loc _ => exact disp ⟨_, rfl⟩
        | non =>
          cases h2
          cases r1
          exact PySem.P.repr_of_none ⟨.str _, H, I.tok _, ⟨_, rfl⟩, k L H _ Le.refl R (.str _)⟩
        | bl b =>
          cases h2
          cases r1
          exact PySem.P.repr_of_bool ⟨.str _, H, I.tok _, ⟨_, rfl⟩, k L H _ Le.refl R (.str _)⟩
        | int i =>
          cases h2
          obtain ⟨t, rfl⟩ := r1
          exact PySem.P.repr_of_int (by simpa [PyData.showable] using c1) ⟨.str _, H, I.tok _, ⟨_, rfl⟩, k L H _ Le.refl R (.str _)⟩
        | str z =>
          cases h2
          obtain ⟨t, rfl⟩ := r1
          exact PySem.P.repr_of_str ⟨.str _, H, I.tok _, ⟨_, rfl⟩, k L H _ Le.refl R (.str _)⟩ (by
            have c5 := c4
            simp only [PyData.shown] at c5
            exact c5)
    · cases h3
  · cases h
/-! what never runs -/
def sNo : DS := fun _ _ => none
def eNo : DE := fun _ _ => none
theorem xs_no {X : Cx} {st : Stmt} : XS X st sNo := ⟨fun pins s σ H D I ⟨_, _, _, _, _, _, _, _, h, _⟩ => nomatch h⟩
theorem xe_no {X : Cx} {e : Expr} : XE X e eNo := ⟨fun pins s σ H Q I ⟨_, _, _, _, _, _, _, h, _⟩ => nomatch h⟩
/-! str(an int), three names at once -/
def fStr : ON := fun xs S => match xs with
  | [.int i] => if i.natAbs.log2 < 1920 then some (.str (toString i), S) else none
  | _ => none
theorem c_str {X : Cx} : CallR X (.type "str") (rN X.K fStr) := by
  intro pins s σ H us vs Q I rr ⟨L, S, xs, z, S', R, rx, h, k⟩
  unfold fStr at h
  split at h
  · split at h
    · cases h
      rename_i hl
      obtain ⟨u, rfl, ru⟩ := rx.one
      cases ru
      exact call_str_int pins s σ H _ vs Q I rr ⟨_, rfl, hl, k L H _ Le.refl R (.str _)⟩
    · cases h
  · cases h
def sPar3 (i j l : Nat) (d : DA) : DS := fun e S => bnd (d e S) fun xs S1 => match xs with
  | [x, y, z] => some (.nx, ((e.set i (some x)).set j (some y)).set l (some z), S1)
  | _ => none
theorem xs_par3 {X : Cx} {i j l : Nat} {x y z : Str} {a b c : Expr} {da : DA} {px py pz pt pos : Pos} {kt k2 pt2} (hc : X.calm = true) (hN : X.N.Nodup) (hi : X.N[i]? = some x) (hj : X.N[j]? = some y) (hl : X.N[l]? = some z) (hij : i ≠ j) (hil : i ≠ l) (hjl : j ≠ l)
    (hx : X.env.scope.names.lookup x = some .local) (hy : X.env.scope.names.lookup y = some .local) (hz : X.env.scope.names.lookup z = some .local) (ha : XA X [a, b, c] da)
    (hw : swappedStores [.Tuple [.Name x px, .Name y py, .Name z pz] kt pt] (.Tuple [a, b, c] k2 pt2) X.env = pure (some [x, y, z]))
    (hs : swapsWithSole [.Tuple [.Name x px, .Name y py, .Name z pz] kt pt] (.Tuple [a, b, c] k2 pt2) pos.line X.env = pure false := by rfl) :
    XS X (.Assign [.Tuple [.Name x px, .Name y py, .Name z pz] kt pt] (.Tuple [a, b, c] k2 pt2) pos) (sPar3 i j l da) := ps_imp (L2.ps_par3 hc hN hi hj hl hij hil hjl hx hy hz ha hw hs) fun D σ H ⟨L, S, e, o, e', S', R, E, h, k⟩ => by
  obtain ⟨xs, S1, q, h⟩ := bnd_of h
  refine ⟨L, S, e, xs, S1, R, E, q, fun L1 H1 us le1 R1 rus => ?_⟩
  split at h
  · cases h
    cases rus with
    | cons r1 rr =>
      cases rr with
      | cons r2 rr =>
        cases rr with
        | cons r3 rr =>
          cases rr
          exact ⟨_, _, _, rfl, k L1 H1 le1 R1 _ ((((E.mono le1).set i r1).set j r2).set l r3)⟩
  · cases h
end EV
namespace EV
open PySem PySem.Spec PyProof.Rows L2
/-! the end of a law, and the head's hook: the defs, the facts, and what stands at sys.modules -/
theorem law_G {P : Program} {w : World} {K : PySem.W.Frag} {mg mb : Str → Option Value} {k : Nat} {fa a : Addr} {fd : FuncData} {x : Str} {g : Fn} {s₁ : Shared} {vs : List Value} {ns : List Int}
    (KX : K.In s₁.heap) (hns : s₁.heap.Ns mainGlobals mg) (hb : s₁.heap.Ns builtinsNs mb) (hbb : ∀ x : Str, x ≠ "__name__" → mb x = bootBuiltins x) (hlim : s₁.heap.NoLimit) (hg : s₁.gens = #[])
    (ha : s₁.heap.get? a = some { cls := .type "list", data := .seq vs.toArray }) (hi : IntsAre vs ns) (hl : ns.length ≤ sizeLine) (hr : Room k callerA) (hsys : SysD s₁.heap)
    (F : ∀ base : Heap, SysD base → FnG P w K mg base k fa fd [x] g) (hbind : ∀ (s : Shared) (u : Value), BindsTo s fd ⟨[u], []⟩ [(x, u)])
    (hsp : ∃ S', g [.fl ns] [] = some (.bl true, S')) :
    codeAny (model P w) callerA (.call (.ref fa) ⟨[.ref a], []⟩) (fun r s' => r = .ok (.ret (.bool true)) ∧ OldK s₁.heap s'.heap ∧ s'.os = s₁.os ∧ AllBare s'.gens) s₁ := by
  have pre : ∃ H : Hp, Only H ∧ SqL K H a (ns.map V.int) ∧ HOk P w H s₁.heap ∧ (∀ b, H b ≠ none → b = a ∧ K.lookup a = none) := by
    cases hk : K.lookup a with
    | some o =>
      have e := (KX a o hk).symm.trans ha
      cases e
      exact ⟨fun _ => none, fun _ => .inl rfl, .inr ⟨_, vs.toArray, _, hk, rfl, rfl, rfl, by rw [List.size_toArray, hi.length]; exact hl, by simpa using vals_ints hi⟩, (fun _ _ z => by cases z), fun _ z => absurd rfl z⟩
    | none =>
      refine ⟨fun b => if b = a then some (.frz { cls := .type "list", data := .seq vs.toArray } (.lst (ns.map V.int))) else none, fun b => ?_, .inl (.inr ⟨_, if_pos rfl⟩), fun b u z => ?_, fun b z => ⟨?_, rfl⟩⟩
      · by_cases c : b = a
        · exact .inr ⟨_, _, if_pos c⟩
        · exact .inl (if_neg c)
      · by_cases c : b = a
        · cases (if_pos c).symm.trans z
          subst c
          exact ⟨ha, by rw [List.length_map]; exact hl, vs, _, vals_ints hi, ha⟩
        · cases (if_neg c).symm.trans z
      · by_cases c : b = a
        · exact c
        · exact absurd (if_neg c) z
  obtain ⟨H, hO, hS, hok, hA⟩ := pre
  have back : ∀ {b : Addr} {o : Obj}, s₁.heap.get? b = some o → b ≠ a → (hidT s₁.heap H).get? b = some o := fun {b o} e n => hidT_get e (by
    cases q : H b with
    | none => rfl
    | some u => exact absurd (hA b (by rw [q]; simp)).1 n)
  have dict : ∀ {b : Addr} {m : Str → Option Value}, s₁.heap.Ns b m → (hidT s₁.heap H).Ns b m := fun {b m} ⟨o, es, ep, e, d, r⟩ => ⟨o, es, ep, back e (fun z => by
    subst z
    cases ha.symm.trans e
    cases d), d, r⟩
  have hKb : K.In (hidT s₁.heap H) := fun b o e => hidT_get (KX b o e) (by
    cases q : H b with
    | none => rfl
    | some u =>
      obtain ⟨e1, e2⟩ := hA b (by rw [q]; simp)
      subst e1
      cases e2.symm.trans e)
  have hM : Mod K mg (hidT s₁.heap H) := ⟨hKb, dict hns, ⟨mb, dict hb, hbb⟩, hlim.elim fun mc h => ⟨mc, dict h.1, h.2⟩⟩
  have e0 : Env0 P w K mg (hidT s₁.heap H) callerA [] s₁ H := ⟨rfl, hM, fun b o e => of_hidT e, Nat.le_of_eq (hidT_size _ _), trivial, fun b hb => absurd (show b ∈ ([] : List Addr) from hb) (by simp), hok, .of_eq hg⟩
  have hSB : SysD (hidT s₁.heap H) := by
    obtain ⟨o, e, ho⟩ := hsys
    refine ⟨o, back e fun z => ?_, ho⟩
    rw [z, ha] at e
    cases e
    exact absurd (show Value.type "list" = Value.type "dict" from ho) (by decide)
  obtain ⟨S', hsp⟩ := hsp
  refine codeAny_mono ((F _ hSB).run callerA [] s₁ H ⟨[.ref a], []⟩ [.ref a] [.ref a] (fun v _ => v = .bl true) rfl hr e0 (hbind s₁ (.ref a)) (.cons rfl .nil)
    ⟨[], [], [.fl ns], .bl true, S', rfl, RS.none, .cons (.fl (FrL.of_only hO hS)) .nil, hsp, fun L' H' v _ _ rv => by cases rv; rfl⟩) fun r s' h => ?_
  match r, h with
  | .ok (.ret u), h =>
    obtain ⟨v, H', os, bare, un, hok', r', q⟩ := h
    obtain rfl : v = .bl true := q
    obtain rfl : u = Value.bool true := r'
    refine ⟨rfl, OldK.of_keep fun b o e => ?_, os, bare⟩
    rcases hO b with z | ⟨o1, xs, z⟩
    · exact un.keep b o e z (by intro z; exact absurd (show b ∈ ([] : List Addr) from z) (by simp)) (by simp)
    · have z2 := un.frzs b o1 _ z
      cases (hok b _ z).1.symm.trans e
      exact (hok' b _ z2).1
theorem walk_G {l : PySem.W.OpenLaw} {n k : Nat} {q : Program} {loose : List Str} {XP : (Str → Option Value) → Heap → Prop} {YP : World → Heap → Prop} {d : DefRec} {x : Str} {g : Fn}
    (hn : l.most = some n) (hn2 : n ≤ sizeLine) (hdf : d.params.defaults = []) (hr : Room k callerA)
    (F : ∀ (w : World) (mg : Str → Option Value) (fa : Addr) (h : Heap), YP w h → h.Ns mainGlobals mg → mg d.name = some (.ref fa) →
      ∃ (K : PySem.W.Frag) (fd : FuncData), K.In h ∧ (∀ (s : Shared) (u : Value), BindsTo s fd ⟨[u], []⟩ [(x, u)]) ∧ ∀ base : Heap, SysD base → FnG l.prog w K mg base k fa fd [x] g) (hY : ∀ w h, YP w h → SysD h)
    (hg : ∀ ns : List Int, ns.length ≤ n → ∃ S', g [.fl ns] [] = some (.bl true, S')) :
    PySem.W.WalkO q loose XP YP l.row.toRowW d [] (fun f vs => PySem.call f vs) := by
  refine Att.attach_call hn hdf fun w s₀ s₁ mg mb fa o pm cd doc a vs ns G Y ho hd hcd hmg hobj hints hlen hgens => ?_
  obtain ⟨K, fd, KX, hb, hF⟩ := F w mg fa _ Y G.T.g hmg
  exact law_G KX G.T.g G.T.b G.T.builtins G.T.nolimit hgens hobj hints (Nat.le_trans hlen hn2) hr (hY _ _ Y) hF hb (hg ns hlen)
def sysB (g : Addr → Option Obj) : Bool := match g sysModules with
  | some o => (match o.cls with
    | .type t => t == "dict"
    | _ => false)
  | none => false
theorem sysB_of {h : Heap} (e : sysB h.get? = true) : SysD h := by
  unfold sysB at e
  split at e
  · rename_i o ho
    split at e
    · rename_i t ht
      exact ⟨o, ho, by rw [ht, beq_iff_eq.mp e]⟩
    · cases e
  · cases e
def hookS (n : Nat) (fa : List He.Fa) (fn : List He.DefD) : PySem.W.Hook where
  α := He.AlD × Bool
  obs := fun s => (He.obsDG n fa fn s.heap.get?, sysB s.heap.get?)
  val := fun _ => (He.valD fn, true)
  says := fun _ h => (∃ K : PySem.W.Frag, K.In h ∧ He.SaysD fa fn K) ∧ SysD h
  of := fun _ _ e => ⟨⟨_, He.frG_in, congrArg Prod.fst e⟩, sysB_of (congrArg Prod.snd e)⟩
  keeps := fun _ _ _ ⟨⟨K, hK, c⟩, ⟨o, e, ho⟩⟩ k => ⟨⟨K, PySem.W.Frag.In.keeps hK k, c⟩, o, k _ _ e, ho⟩
def obS (n : Nat) (fa : List He.Fa) (fn : List He.DefD) (g : Addr → Option Obj) : He.AlD × Bool := (He.obsDG n fa fn g, sysB g)
theorem obS_eq {n : Nat} {fa : List He.Fa} {fn : List He.DefD} {g : Addr → Option Obj} {s : Shared} (h : ∀ a, g a = s.heap.get? a) : obS n fa fn g = (hookS n fa fn).obs s := by
  have e : g = s.heap.get? := funext h
  rw [e] <;> rfl
end EV
namespace EV
open PySem PySem.Spec PyProof.Rows L2
/-! dicts: d[k], k in d, d[k] = v, d.get(k, x); in on sequences -/
def dicOf (x : PV) (S : Sto) : Option (Nat × List (Key × PV)) := match x with
  | .loc n => (match S[n]? with
    | some (.dic kvs) => some (n, kvs)
    | _ => none)
  | _ => none
def valP (kvs : List (Key × PV)) (k : Key) : Option PV := (kvs.find? fun kv => decide (kv.1 = k)).map (·.2)
def putP (kvs : List (Key × PV)) (k : Key) (v : PV) : List (Key × PV) :=
  if kvs.any (fun kv => decide (kv.1 = k)) then kvs.map (fun kv => if kv.1 = k then (kv.1, v) else kv) else kvs ++ [(k, v)]
section
variable {K : PySem.W.Frag} {L : List Addr} {H : Hp} {S : Sto}
theorem dic_ok (R : RS K L H S) {x : PV} {u : V} {n : Nat} {kvs : List (Key × PV)} (r : RP K L H x u) (h : dicOf x S = some (n, kvs)) : ∃ a ks, x = .loc n ∧ u = .ref a ∧ L[n]? = some a ∧ S[n]? = some (.dic kvs) ∧ H a = some (.dK ks) ∧ RK K L H kvs ks := by
  cases r with
  | @loc m a hL =>
    unfold dicOf at h
    obtain ⟨o, hS, ro⟩ := R.at_ hL
    simp only [hS] at h
    cases o with
    | lst _ => cases h
    | dic kv =>
      cases h
      obtain ⟨ks, e, rk⟩ := ro
      exact ⟨a, ks, rfl, rfl, hL, hS, e, rk⟩
  | _ => cases h
theorem rk_nil : RK K L H [] [] := ⟨rfl, .nil⟩
theorem rk_cons {p : Key × PV} {q : Key × V} {a : List (Key × PV)} {b : List (Key × V)} (h : RK K L H (p :: a) (q :: b)) : p.1 = q.1 ∧ RP K L H p.2 q.2 ∧ RK K L H a b := by
  obtain ⟨h1, h2⟩ := h
  simp only [List.map_cons, List.cons.injEq] at h1
  cases h2 with
  | cons r1 r2 => exact ⟨h1.1, r1, h1.2, r2⟩
theorem rk_len {a : List (Key × PV)} {b : List (Key × V)} (h : RK K L H a b) : a.length = b.length := by
  have := congrArg List.length h.1
  simpa using this
theorem rk_val (k : Key) : ∀ {a : List (Key × PV)} {b : List (Key × V)}, RK K L H a b → (∀ x, valP a k = some x → ∃ v, valV b k = some v ∧ RP K L H x v) ∧ (valP a k = none → valV b k = none)
  | [], [], _ => ⟨fun _ h => (nomatch h), fun _ => rfl⟩
  | [], q :: b, h => by have := rk_len h; simp at this
  | p :: a, [], h => by have := rk_len h; simp at this
  | p :: a, q :: b, h => by
    obtain ⟨h1, h2, h3⟩ := rk_cons h
    obtain ⟨i1, i2⟩ := rk_val k h3
    by_cases c : p.1 = k
    · have e1 : valP (p :: a) k = some p.2 := by simp [valP, List.find?_cons, c]
      have e2 : valV (q :: b) k = some q.2 := valV_pos (by rw [← h1]; exact c)
      rw [e1, e2]
      exact ⟨fun x e => by cases e; exact ⟨_, rfl, h2⟩, fun e => by cases e⟩
    · have e1 : valP (p :: a) k = valP a k := by simp [valP, List.find?_cons, c]
      have e2 : valV (q :: b) k = valV b k := valV_neg (by rw [← h1]; exact c)
      rw [e1, e2]
      exact ⟨i1, i2⟩
end
def opIxA : O2 := fun x y S => match dicOf x S with
  | some (_, kvs) => (keyP y).bind fun k => (valP kvs k).map fun v => (v, S)
  | none => opIx x y S
def inS (neg : Bool) : O2 := fun x y S => match dicOf y S with
  | some (_, kvs) => (keyP x).map fun k => (.bl (neg ^^ (valP kvs k).isSome), S)
  | none => match x, y with
    | .str a, .str b => (match a.cps.toList with
      | [c] => some (.bl (neg ^^ decide (c ∈ b.cps.toList)), S)
      | _ => none)
    | x, y => (match dat S 66 x, dat S 66 y with
      | some d, some (.list ds) => if (SeqAt.shaped d && SeqAt.shaped (.list ds)) = true then some (.bl (neg ^^ ds.any fun z => PyData.eqv z d), S) else none
      | _, _ => none)
def opIn : O2 := inS false
def opNotIn : O2 := inS true
section
variable {X : Cx}
theorem ix_dic (hu : X.A.units + 64 < cLine) : IxR X (fun x y H Q => ∃ a v, x = .ref a ∧ DGet H a y (some v) ∧ Q v H) := by
  intro value slice pins s σ H x y v u Q I rx ry h hs
  obtain ⟨a, w, rfl, g, q⟩ := h
  obtain rfl : v = Value.ref a := rx
  exact tail_any (dict_typeIs I g) PySem.F.slot_dict_getitem.lookup (d_getItem (by omega) I g ry fun w' s' I' r' => ⟨w, H, I', r', q⟩) hs
theorem ix_okA (hu : X.A.units + 64 < cLine) : IxR X (r2 X.K opIxA) := by
  intro value slice pins s σ H u v uu vv Q I ru rv ⟨L, S, x, y, z, S', R, rx, ry, h, k⟩ hs
  unfold opIxA at h
  split at h
  · rename_i n kvs hd
    obtain ⟨kk, h1, h2⟩ := Option.bind_eq_some_iff.mp h
    obtain ⟨w, hw, e⟩ := Option.map_eq_some_iff.mp h2
    cases e
    obtain ⟨a, ks, e1, e2, hL, hS, hH, rk⟩ := dic_ok R rx hd
    obtain ⟨v', hv', rv'⟩ := (rk_val kk rk).1 _ hw
    have ek := keyP_ok ry h1
    subst ek e2
    refine ix_dic hu value slice pins s σ H _ _ uu vv Q I ru rv ⟨a, v', rfl, ?_, k L H _ Le.refl R rv'⟩ hs
    rw [← hv']
    exact .k hH
  · exact ix_ok value slice pins s σ H u v uu vv Q I ru rv ⟨L, S, x, y, z, S', R, rx, ry, h, k⟩ hs
theorem o_in_dic (hu : X.A.units + 64 < cLine) : OpR X (compareOp .In) (fun x y H Q => ∃ a o, y = .ref a ∧ DGet H a x o ∧ Q (.bl o.isSome) H) := by
  intro pins s σ H x y v u Q I rx ry h
  obtain ⟨a, o, rfl, g, q⟩ := h
  cases ry
  exact d_in (by omega) I g rx fun s' I' => ⟨.bl _, H, I', rfl, q⟩
theorem o_notin_dic (hu : X.A.units + 64 < cLine) : OpR X (compareOp .NotIn) (fun x y H Q => ∃ a o, y = .ref a ∧ DGet H a x o ∧ Q (.bl (!o.isSome)) H) := by
  intro pins s σ H x y v u Q I rx ry h
  obtain ⟨a, o, rfl, g, q⟩ := h
  cases ry
  exact d_notIn (by omega) I g rx fun s' I' => ⟨.bl _, H, I', rfl, q⟩
theorem some_val {K : PySem.W.Frag} {L : List Addr} {H : Hp} {kvs : List (Key × PV)} {ks : List (Key × V)} (rk : RK K L H kvs ks) (k : Key) : (valP kvs k).isSome = (valV ks k).isSome := by
  obtain ⟨h1, h2⟩ := rk_val k rk
  cases e : valP kvs k with
  | none => rw [h2 e]; rfl
  | some x => obtain ⟨v, hv, _⟩ := h1 x e; rw [hv]; rfl
theorem o_in (hu : X.A.units + 65 < cLine) : OpR X (compareOp .In) (r2 X.K opIn) := by
  intro pins s σ H u v uu vv Q I ru rv ⟨L, S, x, y, z, S', R, rx, ry, h, k⟩
  unfold opIn inS at h
  split at h
  · rename_i n kvs hd
    obtain ⟨kk, h1, e⟩ := Option.map_eq_some_iff.mp h
    cases e
    obtain ⟨a, ks, e1, e2, hL, hS, hH, rk⟩ := dic_ok R ry hd
    have ek := keyP_ok rx h1
    subst ek e2
    rw [some_val rk kk] at k
    exact o_in_dic (by omega) pins s σ H _ _ uu vv Q I ru rv ⟨a, _, rfl, .k hH, by rw [Bool.false_xor] at k; exact k L H _ Le.refl R (.bl _)⟩
  · split at h
    · rename_i a b hdn
      split at h
      · rename_i c hc
        cases h
        cases rx
        cases ry
        have ea : a = ⟨#[c]⟩ := by
          obtain ⟨⟨l⟩⟩ := a
          have : l = [c] := hc
          subst this
          rfl
        subst ea
        rw [Bool.false_xor] at k
        exact op_in_sign pins s σ H _ _ uu vv Q I ru rv ⟨c, b, rfl, rfl, k L H _ Le.refl R (.bl _)⟩
      · cases h
    · split at h
      · rename_i d ds h1 h2
        split at h
        · rename_i hs
          cases h
          obtain ⟨s1, s2⟩ := Bool.and_eq_true_iff.mp hs
          rw [Bool.false_xor] at k
          exact op_inD hu pins s σ H _ _ uu vv Q I ru rv ⟨d, ds, dat_dp R _ _ _ _ rx h1, dat_dp R _ _ _ _ ry h2, s1, s2, k L H _ Le.refl R (.bl _)⟩
        · cases h
      · cases h
theorem o_notin (hu : X.A.units + 65 < cLine) : OpR X (compareOp .NotIn) (r2 X.K opNotIn) := by
  intro pins s σ H u v uu vv Q I ru rv ⟨L, S, x, y, z, S', R, rx, ry, h, k⟩
  unfold opNotIn inS at h
  split at h
  · rename_i n kvs hd
    obtain ⟨kk, h1, e⟩ := Option.map_eq_some_iff.mp h
    cases e
    obtain ⟨a, ks, e1, e2, hL, hS, hH, rk⟩ := dic_ok R ry hd
    have ek := keyP_ok rx h1
    subst ek e2
    rw [some_val rk kk] at k
    exact o_notin_dic (by omega) pins s σ H _ _ uu vv Q I ru rv ⟨a, _, rfl, .k hH, by rw [Bool.true_xor] at k; exact k L H _ Le.refl R (.bl _)⟩
  · split at h
    · rename_i a b hdn
      split at h
      · rename_i c hc
        cases h
        cases rx
        cases ry
        have ea : a = ⟨#[c]⟩ := by
          obtain ⟨⟨l⟩⟩ := a
          have : l = [c] := hc
          subst this
          rfl
        subst ea
        rw [Bool.true_xor] at k
        exact op_notIn_sign pins s σ H _ _ uu vv Q I ru rv ⟨c, b, rfl, rfl, k L H _ Le.refl R (.bl _)⟩
      · cases h
    · split at h
      · rename_i d ds h1 h2
        split at h
        · rename_i hs
          cases h
          obtain ⟨s1, s2⟩ := Bool.and_eq_true_iff.mp hs
          rw [Bool.true_xor] at k
          exact op_notInD hu pins s σ H _ _ uu vv Q I ru rv ⟨d, ds, dat_dp R _ _ _ _ rx h1, dat_dp R _ _ _ _ ry h2, s1, s2, k L H _ Le.refl R (.bl _)⟩
        · cases h
      · cases h
/-- d[k] = v on a dict, l[i] = v on a list -/
def opSetA : OSet := fun x y z S => match dicOf x S with
  | some (n, kvs) => (keyP y).bind fun k => if kvs.length < 16777216 then some (S.set n (.dic (putP kvs k z))) else none
  | none => opSet x y z S
theorem rk_put {K : PySem.W.Frag} {L : List Addr} {H : Hp} {x : PV} {v : V} (k : Key) (r : RP K L H x v) {a : List (Key × PV)} {b : List (Key × V)} (h : RK K L H a b) : RK K L H (putP a k x) (putK b k v) := by
  have any_eq : a.any (fun kv => decide (kv.1 = k)) = b.any (fun kv => decide (kv.1 = k)) := by
    have e := h.1
    have : ∀ {a : List (Key × PV)} {b : List (Key × V)}, a.map Prod.fst = b.map Prod.fst → a.any (fun kv => decide (kv.1 = k)) = b.any (fun kv => decide (kv.1 = k)) := by
      intro a
      induction a with
      | nil => intro b e; cases b with
        | nil => rfl
        | cons _ _ => cases e
      | cons p a ih => intro b e; cases b with
        | nil => cases e
        | cons q b =>
          simp only [List.map_cons, List.cons.injEq] at e
          simp only [List.any_cons, e.1, ih e.2]
    exact this e
  unfold putP putK
  rw [any_eq]
  split
  · have : ∀ {a : List (Key × PV)} {b : List (Key × V)}, RK K L H a b → RK K L H (a.map (fun kv => if kv.1 = k then (kv.1, x) else kv)) (b.map (fun kv => if kv.1 = k then (kv.1, v) else kv)) := by
      intro a
      induction a with
      | nil => intro b h; cases b with
        | nil => exact rk_nil
        | cons _ _ => have := rk_len h; simp at this
      | cons p a ih => intro b h; cases b with
        | nil => have := rk_len h; simp at this
        | cons q b =>
          obtain ⟨h1, h2, h3⟩ := rk_cons h
          obtain ⟨i1, i2⟩ := ih h3
          simp only [List.map_cons]
          by_cases c : p.1 = k
          · rw [if_pos c, if_pos (by rw [← h1]; exact c)]
            exact ⟨by simp [h1]; simpa using i1, .cons r (by simpa using i2)⟩
          · rw [if_neg c, if_neg (by rw [← h1]; exact c)]
            exact ⟨by simp [h1]; simpa using i1, .cons h2 (by simpa using i2)⟩
    exact this h
  · refine ⟨by simp [h.1], ?_⟩
    rw [List.map_append, List.map_append]
    exact h.2.append (.cons r .nil)
theorem set_okA (hu : X.A.units + 64 < cLine) : PSet X (rSet X.K opSetA) := by
  intro pins s σ H o i v ov iv u Q I ro ri rv ⟨L, S, x, y, z, S', R, rx, ry, rz, h, k⟩
  unfold opSetA at h
  split at h
  · rename_i n kvs hd
    obtain ⟨kk, h1, h2⟩ := Option.bind_eq_some_iff.mp h
    split at h2
    · rename_i hl
      cases h2
      obtain ⟨a, ks, e1, e2, hL, hS, hH, rk⟩ := dic_ok R rx hd
      have ek := keyP_ok ry h1
      subst ek e2
      cases ro
      have le : Le X.K L H L (upd H a (.dK (putK ks kk v))) := Le.write R hL
      refine d_setItem (by omega) I (.k hH (by rw [← rk_len rk]; exact hl)) ri rv fun s' I' => ⟨_, I', k L _ le (R.write hL ?_)⟩
      have rk2 := rk_put kk rz rk
      exact ⟨_, upd_same, rk2.1, rk2.2.mono le⟩
    · cases h2
  · exact set_ok pins s σ H o i v ov iv u Q I ro ri rv ⟨L, S, x, y, z, S', R, rx, ry, rz, h, k⟩
/-- {} -/
def eDic0 : DE := fun _ S => some (.loc S.length, S ++ [.dic []])
theorem xe_dic0 {pos : Pos} : XE X (.Dict [] [] pos) eDic0 := pe_imp pe_dnewK fun σ H Q ⟨L, S, e, z, S', R, E, h, k⟩ => by
  cases h
  intro p hp
  exact k _ _ _ (Le.alloc hp) (R.alloc hp ⟨[], upd_same, rfl, .nil⟩) (.loc (by rw [← R.len]; simp))
end
end EV
namespace EV
open PySem PySem.Spec PyProof.Rows L2
/-! range(a, b, c) walked -/
def Itr3 (lo c : Int) (n : Nat) : It := ⟨fun i _ => i < n, fun i H x H' => H' = H ∧ x = .int (lo + (i : Nat) * c), fun i _ => n ≤ i⟩
theorem turn_range3 {P : Program} {w : World} {K : PySem.W.Frag} {tg : Expr} (it : Addr) (lo c : Int) (n : Nat) : Turn P w K tg (Itr3 lo c n) [it] it (fun i h => IsRangeIter h it (lo + (i : Nat) * c) ((n : Int) - (i : Nat)) c) where
  mem := by simp
  obj := fun i h st b hb => by
    have e : b = it := by simpa using hb
    subst e
    exact ⟨_, st, fun v z => by
      have z' : Data.fields _ = Data.cell v := z
      cases z'⟩
  keep := fun i h h' st k => k it (by simp) _ st
  item := by
    intro X hP hw hK hc i pins s σ H E I hf st hg
    subst hP hw hK
    obtain ⟨f0, f1, f2, f3, f4, f5⟩ := hf it (by simp)
    have hlt : i < n := hg
    refine wpAny_pyNext_range_item st (by omega) fun h' st' sb => ?_
    have I1 : L2.Inv X pins σ H { s with heap := h', toks := s.toks + 1 } := I.turned (fun b o hb e => (sb.2 b hb).trans e) f0 f1 f3 f4 f5
    have st2 : IsRangeIter h' it (lo + ((i + 1 : Nat) : Int) * c) ((n : Int) - ((i + 1 : Nat) : Int)) c := by
      have e1 : lo + ((i + 1 : Nat) : Int) * c = lo + (i : Nat) * c + c := by rw [Int.natCast_add, Int.add_mul]; omega
      have e2 : (n : Int) - ((i + 1 : Nat) : Int) = (n : Int) - (i : Nat) - 1 := by omega
      rw [e1, e2]
      exact st'
    exact ⟨_, rfl, go_of (s := { s with heap := h', toks := s.toks + 1 }) (n := "range_iterator") st2 rfl rfl (by decide) ⟨.int (lo + (i : Nat) * c), H, I1, ⟨_, rfl⟩, ⟨rfl, rfl⟩, st2, fun b hb => (hf b hb).1⟩⟩
  done := by
    intro X hP hw hK hc i pins s σ H E I hf st hg
    subst hP hw hK
    obtain ⟨f0, f1, f2, f3, f4, f5⟩ := hf it (by simp)
    exact wpAny_pyNext_range_end (I.ok.hd hc) st (by have : n ≤ i := hg; omega) fun h' eb => ⟨rfl, I.turned (t' := s.toks) (fun b o hb e => eb b o hb e) f0 f1 f3 f4 f5⟩
  self := fun _ _ _ _ _ st h => wpAny_pyIter_rangeiter st h
def okR (a b c : Int) : Bool := Builtin.Range.small a b c && decide (c ≠ 0) && !Builtin.divisionGoesByPylong (b - a) c && decide (0 ≤ Builtin.Range.rangeSize a b c)
def wR3 (lo c : Int) (n : Nat) : WK := fun i _ => some (if i < n then some (.int (lo + (i : Nat) * c)) else none)
def iRngThree (d : DA) : DI := fun e S => bnd (d e S) fun xs S1 => match xs with
  | [.int i, .int j, .int c] => if okR i j c = true then some (wR3 i c (Builtin.Range.rangeSize i j c).toNat, S1) else none
  | _ => none
theorem wj_rng3 {K : PySem.W.Frag} {L0 : List Addr} {H0 : Hp} {lo c : Int} {n : Nat} : WJ K (wR3 lo c n) (Itr3 lo c n) L0 H0 := fun L S H le R i => by
  unfold wR3
  refine ⟨fun h => ?_, fun x hx => ?_⟩
  · split at h
    · cases h
    · rename_i q
      exact Nat.not_lt.mp q
  · split at hx
    · rename_i q
      cases hx
      refine ⟨q, fun u H' y => ?_⟩
      obtain ⟨e, y⟩ := y
      subst e
      subst y
      exact ⟨Le.refl, R, .int _⟩
    · cases hx
theorem RPs.three {K : PySem.W.Frag} {L : List Addr} {H : Hp} {x y z : PV} {us : List V} (r : RPs K L H [x, y, z] us) : ∃ u v w, us = [u, v, w] ∧ RP K L H x u ∧ RP K L H y v ∧ RP K L H z w := by
  cases r with
  | cons a b =>
    obtain ⟨v, w, e, h1, h2⟩ := b.two
    exact ⟨_, v, w, by rw [e], a, h1, h2⟩
theorem xi_rng3 {X : Cx} {tg a b c : Expr} {d : DA} {p pos : Pos} (hg : Gl X "range") (hm : X.mg "range" = none) (ha : XA X [a, b, c] d) (hs : starEach [a, b, c] X.env = (false, eval a X.env) :: starEach [b, c] X.env := by rfl) (hpl : (backTo pos (starEach [b, c] X.env)).any (·.1) = false := by rfl) :
    XI X tg (.Call (.Name "range" p) [a, b, c] [] pos) (iRngThree d) := by
  refine ⟨fun pins s σ H R I ⟨L, S, e, w, S', Rs, E, h, k⟩ => ?_⟩
  obtain ⟨xs, S1, q, h⟩ := bnd_of h
  refine Call_ (ld_blt I hg hm boot_range (PyProof.Rows.callWith_type1 (thn (ha.run pos pins s σ H _ I ⟨L, S, e, xs, S1, Rs, E, q, fun L1 H1 us le1 R1 ru => (show (fun us H1 => ∃ i j c : Int, us = [.int i, .int j, .int c] ∧ okR i j c = true ∧ R (Itr3 i c (Builtin.Range.rangeSize i j c).toNat) H1) us H1 from ?_)⟩) fun us s1 ⟨vs, H1, I1, r1, q1⟩ => ?_) hs hpl))
  · split at h
    · split at h
      · rename_i hok
        cases h
        obtain ⟨u, v, w, e1, r1, r2, r3⟩ := ru.three
        subst e1
        cases r1
        cases r2
        cases r3
        exact ⟨_, _, _, rfl, hok, k L1 H1 _ le1 R1 wj_rng3⟩
      · cases h
    · cases h
  · obtain ⟨i, j, c, ex, hok, q1⟩ := q1
    subst ex
    cases r1 with
    | cons r1 rr =>
      cases rr with
      | cons r2 rr =>
        cases rr with
        | cons r3 rr =>
          cases rr
          obtain ⟨t, rfl⟩ := r1
          obtain ⟨t', rfl⟩ := r2
          obtain ⟨t'', rfl⟩ := r3
          unfold okR at hok
          simp only [Bool.and_eq_true, decide_eq_true_eq, Bool.not_eq_true'] at hok
          obtain ⟨⟨⟨h1, h2⟩, h3⟩, h4⟩ := hok
          refine call_range_3 h2 ?_ (.inl h3)
          refine wpAny_pyIter_range (IsRange.new ..) h1 ?_
          have I2 : L2.Inv X pins σ H1 { s1 with heap := s1.heap.push { cls := .type "range", data := .fields #[.int i t, .int j t', .int c t''] }, toks := s1.toks } := I1.kept fun b o e => Heap.get?_push_of_some _ e
          refine ⟨(s1.heap.push { cls := .type "range", data := .fields #[.int i t, .int j t', .int c t''] }).objs.size, [(s1.heap.push { cls := .type "range", data := .fields #[.int i t, .int j t', .int c t''] }).objs.size], _, _, H1, rfl,
            I2.kept (t' := s1.toks) fun b o e => Heap.get?_push_of_some _ e, turn_range3 _ i c (Builtin.Range.rangeSize i j c).toNat, ?_, fun b hb => ?_, q1⟩
          · have e1 : i + ((0 : Nat) : Int) * c = i := by simp
            have e2 : (((Builtin.Range.rangeSize i j c).toNat : Nat) : Int) - ((0 : Nat) : Int) = Builtin.Range.rangeSize i j c := by omega
            show IsRangeIter _ _ (i + ((0 : Nat) : Int) * c) ((((Builtin.Range.rangeSize i j c).toNat : Nat) : Int) - ((0 : Nat) : Int)) c
            rw [e1, e2]
            exact Heap.get?_push_size _ rfl
          · have e : b = (s1.heap.push { cls := .type "range", data := .fields #[.int i t, .int j t', .int c t''] }).objs.size := by simpa using hb
            subst e
            exact I2.fpOk (Nat.le_refl _) (I2.hok.fresh (Nat.le_refl _))
end EV
namespace EV
open PySem PySem.Spec PyProof.Rows L2
/-! in, over flat items of a list or a tuple -/
def vOf (x : PV) : Option V := match x with
  | .non => some .non
  | .bl b => some (.bl b)
  | .int i => some (.int i)
  | .str z => some (.str z)
  | _ => none
theorem vOf_ok {K : PySem.W.Frag} {L : List Addr} {H : Hp} {x : PV} {u v : V} (r : RP K L H x u) (h : vOf x = some v) : u = v ∧ flatV v = true := by
  cases r <;> first
    | (cases h; exact ⟨rfl, rfl⟩)
    | cases h
theorem vOfs_ok {K : PySem.W.Frag} {L : List Addr} {H : Hp} : ∀ {xs : List PV} {us vs : List V}, RPs K L H xs us → mapO vOf xs = some vs → us = vs ∧ vs.all flatV = true
  | _, _, _, .nil, h => by cases h; exact ⟨rfl, rfl⟩
  | _, _, _, .cons a b, h => by
    unfold mapO at h
    split at h
    · cases h
      rename_i h1 h2
      obtain ⟨e1, f1⟩ := vOf_ok a h1
      obtain ⟨e2, f2⟩ := vOfs_ok b h2
      exact ⟨by rw [e1, e2], by simp [f1, f2]⟩
    · cases h
def inFlat (x y : PV) (S : Sto) : Option Bool := (vOf x).bind fun v => (seqOf y S).bind fun ys => (mapO vOf ys).map fun vs => inV v vs
def opInA (neg : Bool) : O2 := fun x y S => match inFlat x y S with
  | some b => some (.bl (neg ^^ b), S)
  | none => inS neg x y S
section
variable {X : Cx}
theorem flat_ok {K : PySem.W.Frag} {L : List Addr} {H : Hp} {S : Sto} (R : RS K L H S) {x y : PV} {u v : V} {b : Bool} (rx : RP K L H x u) (ry : RP K L H y v) (h : inFlat x y S = some b) :
    ∃ p xs, v = .ref p ∧ (SqL K H p xs ∨ SqT K H p xs) ∧ flatV u = true ∧ xs.all flatV = true ∧ inV u xs = b := by
  obtain ⟨w, h1, h2⟩ := Option.bind_eq_some_iff.mp h
  obtain ⟨ys, h3, h4⟩ := Option.bind_eq_some_iff.mp h2
  obtain ⟨vs, h5, e⟩ := Option.map_eq_some_iff.mp h4
  obtain ⟨e1, f1⟩ := vOf_ok rx h1
  obtain ⟨a, ws, e2, hq, rq, _⟩ := seq_ok R ry h3
  obtain ⟨e3, f3⟩ := vOfs_ok rq h5
  subst e1 e2 e3
  exact ⟨a, _, rfl, hq, f1, f3, e⟩
theorem o_inA (hu : X.A.units + 65 < cLine) : OpR X (compareOp .In) (r2 X.K (opInA false)) := by
  intro pins s σ H u v uu vv Q I ru rv ⟨L, S, x, y, z, S', R, rx, ry, h, k⟩
  unfold opInA at h
  split at h
  · rename_i b hb
    cases h
    obtain ⟨p, xs, e, hq, f1, f2, e2⟩ := flat_ok R rx ry hb
    refine op_in_seq pins s σ H _ _ uu vv Q I ru rv ⟨p, xs, e, hq, f1, f2, ?_⟩
    rw [Bool.false_xor] at k
    rw [if_neg (by decide), e2]
    exact k L H _ Le.refl R (.bl _)
  · exact o_in hu pins s σ H u v uu vv Q I ru rv ⟨L, S, x, y, z, S', R, rx, ry, h, k⟩
theorem o_notinA (hu : X.A.units + 65 < cLine) : OpR X (compareOp .NotIn) (r2 X.K (opInA true)) := by
  intro pins s σ H u v uu vv Q I ru rv ⟨L, S, x, y, z, S', R, rx, ry, h, k⟩
  unfold opInA at h
  split at h
  · rename_i b hb
    cases h
    obtain ⟨p, xs, e, hq, f1, f2, e2⟩ := flat_ok R rx ry hb
    refine op_notIn_seq pins s σ H _ _ uu vv Q I ru rv ⟨p, xs, e, hq, f1, f2, ?_⟩
    rw [Bool.true_xor] at k
    rw [if_pos rfl, e2]
    exact k L H _ Le.refl R (.bl _)
  · exact o_notin hu pins s σ H u v uu vv Q I ru rv ⟨L, S, x, y, z, S', R, rx, ry, h, k⟩
end
/-! reversed(x) walked -/
def wRv (q n : Nat) : WK := fun i S => if i < n then (match S[q]? with
  | some (.lst xs) => (xs[n - 1 - i]?).map some
  | _ => none) else some none
def wRt (xs : List PV) : WK := fun i _ => if i < xs.length then (xs[xs.length - 1 - i]?).map some else some none
def rvOf (x : PV) (S : Sto) : Option WK := match x with
  | .tup xs => some (wRt xs)
  | .fl ns => some (wRt (ns.map PV.int))
  | .loc q => (match S[q]? with
    | some (.lst xs) => some (wRv q xs.length)
    | _ => none)
  | _ => none
def iRv (d : DE) : DI := fun e S => bnd (d e S) fun x S1 => (rvOf x S1).map fun w => (w, S1)
section
variable {K : PySem.W.Frag} {L0 : List Addr} {H0 : Hp} {S : Sto}
theorem wj_rv {q : Nat} {a : Addr} {n : Nat} (hL : L0[q]? = some a) : WJ K (wRv q n) (Itv K a n) L0 H0 := fun L S1 H le R i => by
  unfold wRv
  refine ⟨fun h => ?_, fun x hx => ?_⟩
  · split at h
    · split at h
      · obtain ⟨y, _, e⟩ := Option.map_eq_some_iff.mp h
        cases e
      · cases h
    · rename_i c
      exact Nat.not_lt.mp c
  · split at hx
    · rename_i c
      obtain ⟨o, hS, ro⟩ := R.at_ (le.pre _ _ hL)
      rw [hS] at hx
      cases o with
      | dic _ => cases hx
      | lst xs =>
        obtain ⟨y, hy, e⟩ := Option.map_eq_some_iff.mp hx
        cases e
        obtain ⟨vs, e, rv⟩ := ro
        obtain ⟨v, hv, r⟩ := rv.get hy
        refine ⟨⟨c, vs, v, SqL.of e, hv⟩, fun u H' ⟨e1, h1⟩ => ?_⟩
        subst e1
        cases Option.some.inj (hv.symm.trans (h1 vs (SqL.of e)))
        exact ⟨Le.refl, R, r⟩
    · cases hx
theorem wj_rt {Sq : SqK} {a : Addr} {xs : List PV} {vs : List V} {J : It} (hJ : ∀ i H, (J.go i H ↔ i < vs.length ∧ ∃ (xs : List V) (x : V), Sq K H a xs ∧ xs[vs.length - 1 - i]? = some x) ∧ (∀ x H', J.yld i H x H' → H' = H ∧ ∀ xs, Sq K H a xs → xs[vs.length - 1 - i]? = some x) ∧ (vs.length ≤ i → J.stop i H))
    (hq : ∀ L H, Le K L0 H0 L H → Sq K H a vs) (r : RPs K L0 H0 xs vs) : WJ K (wRt xs) J L0 H0 := fun L S1 H le R i => by
  obtain ⟨j1, j2, j3⟩ := hJ i H
  unfold wRt
  rw [r.length]
  refine ⟨fun h => ?_, fun x hx => ?_⟩
  · split at h
    · obtain ⟨y, _, e⟩ := Option.map_eq_some_iff.mp h
      cases e
    · rename_i c
      exact j3 (Nat.not_lt.mp c)
  · split at hx
    · rename_i c
      obtain ⟨y, hy, e⟩ := Option.map_eq_some_iff.mp hx
      cases e
      obtain ⟨v, hv, rr⟩ := r.get hy
      refine ⟨j1.mpr ⟨c, vs, v, hq L H le, hv⟩, fun u H' hy' => ?_⟩
      obtain ⟨e1, h1⟩ := j2 u H' hy'
      subst e1
      cases Option.some.inj (hv.symm.trans (h1 vs (hq L _ le)))
      exact ⟨Le.refl, R, rr.mono le⟩
    · cases hx
end
theorem xi_rv {X : Cx} {tg e0 : Expr} {d : DE} {p pos : Pos} (hg : Gl X "reversed") (hm : X.mg "reversed" = none) (he : XE X e0 d) (hs : starEach [e0] X.env = (false, eval e0 X.env) :: starEach [] X.env := by rfl) : XI X tg (.Call (.Name "reversed" p) [e0] [] pos) (iRv d) := by
  refine ⟨fun pins s σ H R I ⟨L, S, e, w, S', Rs, E, h, k⟩ => (RT.pi_revA (tg := tg) hg hm he hs).run pins s σ H R I ?_⟩
  obtain ⟨x, S1, q, h⟩ := bnd_of h
  obtain ⟨w', hw, e2⟩ := Option.map_eq_some_iff.mp h
  cases e2
  refine ⟨L, S, e, x, _, Rs, E, q, fun L1 H1 u le1 R1 ru => ?_⟩
  cases ru with
  | @tup a vs xs ht0 rt =>
    have ht := ht0.t
    cases hw
    refine ⟨a, vs, rfl, .inr ⟨ht, k L1 H1 _ le1 R1 (wj_rt (Sq := SqT) (vs := vs) (fun i H => ⟨Iff.rfl, fun x H' y => y, fun h => h⟩) (fun L H le => le.tup _ _ ht) rt)⟩⟩
  | @fl a ns f =>
    cases hw
    refine ⟨a, ns.map V.int, rfl, .inl ⟨f.seq, k L1 H1 _ le1 R1 (wj_rt (Sq := SqL) (vs := ns.map V.int) (fun i H => ⟨Iff.rfl, fun x H' y => y, fun h => h⟩) (fun L H le => ?_) (RPs.ints _))⟩⟩
    cases (RP.fl f : RP _ L1 H1 _ _).mono le with
    | fl f' => exact f'.seq
  | @loc m a hL =>
    obtain ⟨o, hS, ro⟩ := R1.at_ hL
    unfold rvOf at hw
    simp only [hS] at hw
    cases o with
    | dic _ => cases hw
    | lst xs =>
      cases hw
      obtain ⟨vs, e1, rv⟩ := ro
      refine ⟨a, vs, rfl, .inl ⟨SqL.of e1, ?_⟩⟩
      rw [← rv.length]
      exact k L1 H1 _ le1 R1 (wj_rv hL)
  | _ => cases hw
/-! more methods -/
def mInsert : OM := fun x xs S => match xs with
  | [.int i, y] => (ownOf x S).bind fun p => if p.2.length < 16777216 ∧ 0 ≤ i ∧ i < 2 ^ 63 then some (.non, S.set p.1 (.lst (p.2.take i.toNat ++ [y] ++ p.2.drop i.toNat))) else none
  | _ => none
def mReverse : OM := fun x xs S => match xs with
  | [] => (ownOf x S).bind fun p => some (.non, S.set p.1 (.lst p.2.reverse))
  | _ => none
section
variable {X : Cx}
theorem m_insert : MtR X "list.insert" (rM X.K mInsert) := by
  intro pins s σ H u us v ws Q I ru rus ⟨L, S, x, xs, z, S', R, rx, rxs, h, k⟩
  unfold mInsert at h
  split at h
  · rename_i i y
    obtain ⟨u1, u2, e0, ri, ry⟩ := rxs.two
    subst e0
    cases ri
    obtain ⟨⟨n, ys⟩, h1, h2⟩ := Option.bind_eq_some_iff.mp h
    obtain ⟨a, vs, e1, e2, l1, s1, d1, r1⟩ := own_ok R rx h1
    subst e2
    split at h2
    · rename_i hc
      cases h2
      have le : Le X.K L H L (upd H a (.lst (vs.take i.toNat ++ [u2] ++ vs.drop i.toNat))) := Le.write R l1
      exact mt_insert pins s σ H _ _ v ws Q I ru rus ⟨a, vs, _, u2, rfl, rfl, d1, by rw [← r1.length]; exact hc.1, hc.2.1, hc.2.2, k L _ _ le (R.write l1 ⟨_, upd_same, (((r1.take _).append (.cons ry .nil)).append (r1.drop _)).mono le⟩) .non⟩
    · cases h2
  · cases h
theorem m_reverse : MtR X "list.reverse" (rM X.K mReverse) := by
  intro pins s σ H u us v ws Q I ru rus ⟨L, S, x, xs, z, S', R, rx, rxs, h, k⟩
  unfold mReverse at h
  split at h
  · cases rxs
    obtain ⟨⟨n, ys⟩, h1, h2⟩ := Option.bind_eq_some_iff.mp h
    obtain ⟨a, vs, e1, e2, l1, s1, d1, r1⟩ := own_ok R rx h1
    subst e2
    cases h2
    have le : Le X.K L H L (upd H a (.lst vs.reverse)) := Le.write R l1
    exact mt_reverse pins s σ H _ _ v ws Q I ru rus ⟨a, vs, rfl, rfl, d1, k L _ _ le (R.write l1 ⟨_, upd_same, r1.rev.mono le⟩) .non⟩
  · cases h
end
/-- sorted(ints) -/
noncomputable def fSorted : ON := fun xs S => match xs with
  | [x] => (lstOf x S).bind fun ys => (mapO intOf ys).bind fun ns => mkL ((ns.mergeSort fun a b => decide (a ≤ b)).map PV.int) S
  | _ => none
theorem sorted_unique {a b : List Int} (p : a.Perm b) (ha : a.Pairwise (· ≤ ·)) (hb : b.Pairwise (· ≤ ·)) : a = b :=
  List.Perm.eq_of_pairwise (fun x y _ _ h1 h2 => Int.le_antisymm h1 h2) ha hb p
theorem c_sorted {X : Cx} : CallR X (.builtin "sorted") (rN X.K fSorted) := by
  intro pins s σ H us vs Q I rr ⟨L, S, xs, z, S', R, rx, h, k⟩
  unfold fSorted at h
  split at h
  · obtain ⟨u, rfl, ru⟩ := rx.one
    obtain ⟨ys, h1, h2⟩ := Option.bind_eq_some_iff.mp h
    obtain ⟨ns, h3, h4⟩ := Option.bind_eq_some_iff.mp h2
    obtain ⟨a, ws, e2, hq, rq⟩ := lst_ok R ru h1
    cases e2
    cases mapO_ints h3
    cases rq.ints_of
    refine cr_sortedI pins s σ H _ vs Q I rr ⟨a, ns, rfl, hq, fun ns' p hp hpw hn => ?_⟩
    have e : ns' = ns.mergeSort fun a b => decide (a ≤ b) := by
      refine sorted_unique (hp.trans (List.mergeSort_perm ns _).symm) hpw ?_
      have := List.pairwise_mergeSort (le := fun (a b : Int) => decide (a ≤ b)) (fun a b c h1 h2 => by simp at *; omega) (fun a b => by simp; omega) ns
      exact this.imp fun h => by simpa using h
    subst e
    exact (mkL_ok R (RPs.ints _) h4 k).2 p hn
  · cases h
end EV
namespace EV
open PySem PySem.Spec PyProof.Rows L2
/-! e[::-1] on a list -/
def eRevS (a : DE) : DE := fun e S => bnd (a e S) fun x S1 => (lstOf x S1).bind fun xs => mkL xs.reverse S1
section
variable {X : Cx}
theorem xe_revS {e0 : Expr} {d : DE} {k : Nat} {p1 p2 p3 pos : Pos} (he : XE X e0 d) : XE X (.Subscript e0 (.Slice none none (some (.UnaryOp .USub (.Constant (.int 1) k p1) p2)) p3) pos) (eRevS d) := pe_imp (pe_revL he) fun σ H Q ⟨L, S, e, z, S', R, E, h1, kk⟩ => by
  obtain ⟨x, S1, q1, h1⟩ := bnd_of h1
  obtain ⟨xs, h2, h3⟩ := Option.bind_eq_some_iff.mp h1
  refine ⟨L, S, e, x, S1, R, E, q1, fun L1 H1 u le1 R1 ru => ?_⟩
  obtain ⟨a, vs, e1, hq, rq⟩ := lst_ok R1 ru h2
  exact ⟨a, vs, e1, hq, fun p hp => (mkL_ok R1 rq.rev h3 fun L2 H2 w le2 R2 rw => kk L2 H2 w (le1.trans le2) R2 rw).2 p hp⟩
end
/-! list.index over flat items -/
def ixFl (v : V) : List V → Nat → Option Nat
  | [], _ => none
  | z :: r, j => if eqV z v then some j else ixFl v r (j + 1)
theorem ixFl_ok {v : V} : ∀ {ys : List V} {i j : Nat}, ixFl v ys i = some j → i ≤ j ∧ (∃ z, ys[j - i]? = some z ∧ eqV z v = true) ∧ ∀ (m : Nat) (z' : V), m < j - i → ys[m]? = some z' → eqV z' v = false
  | [], _, _, h => by cases h
  | z :: r, i, j, h => by
    unfold ixFl at h
    split at h
    · rename_i c
      cases h
      exact ⟨Nat.le_refl _, ⟨z, by simp, c⟩, fun m z' hm => absurd hm (by omega)⟩
    · rename_i c
      obtain ⟨h1, ⟨y, h2, h3⟩, h4⟩ := ixFl_ok h
      have e : j - i = (j - (i + 1)) + 1 := by omega
      refine ⟨by omega, ⟨y, by rw [e]; simpa using h2, h3⟩, fun m z' hm hz => ?_⟩
      cases m with
      | zero =>
        simp at hz
        subst hz
        simpa using c
      | succ m => exact h4 m z' (by omega) (by simpa using hz)
def mIndex : OM := fun x xs S => match xs with
  | [y] => (lstOf x S).bind fun ys => (vOf y).bind fun v => (mapO vOf ys).bind fun vs => (ixFl v vs 0).map fun j => (.int (j : Nat), S)
  | _ => none
section
variable {X : Cx}
theorem m_index : MtR X "list.index" (rM X.K mIndex) := by
  intro pins s σ H u us v ws Q I ru rus ⟨L, S, x, xs, z, S', R, rx, rxs, h, k⟩
  unfold mIndex at h
  split at h
  · rename_i y
    obtain ⟨u1, e0, ry⟩ := rxs.one
    subst e0
    obtain ⟨ys, h1, h2⟩ := Option.bind_eq_some_iff.mp h
    obtain ⟨w, h3, h4⟩ := Option.bind_eq_some_iff.mp h2
    obtain ⟨vs, h5, h6⟩ := Option.bind_eq_some_iff.mp h4
    obtain ⟨j, h7, e⟩ := Option.map_eq_some_iff.mp h6
    cases e
    obtain ⟨a, vs', e1, hq, rq⟩ := lst_ok R rx h1
    obtain ⟨e2, f2⟩ := vOf_ok ry h3
    obtain ⟨e3, f3⟩ := vOfs_ok rq h5
    subst e1 e2 e3
    obtain ⟨_, ⟨z, hz, hzj⟩, hno⟩ := ixFl_ok h7
    exact mt_index pins s σ H _ _ v ws Q I ru rus ⟨a, _, _, j, z, rfl, rfl, hq, f2, f3, by simpa using hz, hzj, fun m z' hm => hno m z' (by omega), k L H _ Le.refl R (.int _)⟩
  · cases h
end
/-! sep.join(texts) -/
def strOf : PV → Option Str
  | .str z => some z
  | _ => none
theorem mapO_strs {K : PySem.W.Frag} {L : List Addr} {H : Hp} : ∀ {xs : List PV} {us : List V} {zs : List Str}, RPs K L H xs us → mapO strOf xs = some zs → us = zs.map V.str
  | _, _, _, .nil, h => by cases h; rfl
  | _, _, _, .cons a b, h => by
    unfold mapO at h
    split at h
    · cases h
      rename_i h1 h2
      have e := mapO_strs b h2
      cases a <;> cases h1
      rw [e]
      rfl
    · cases h
def mJoin : OM := fun x xs S => match x, xs with
  | .str a, [y] => (seqOf y S).bind fun ys => (mapO strOf ys).bind fun zs => if (zs.map (·.length)).sum + zs.length * a.length ≤ 16777216 then some (.str (Txt.join a zs), S) else none
  | _, _ => none
section
variable {X : Cx}
theorem m_join : MtR X "str.join" (rM X.K mJoin) := by
  intro pins s σ H u us v ws Q I ru rus ⟨L, S, x, xs, z, S', R, rx, rxs, h, k⟩
  unfold mJoin at h
  split at h
  · rename_i a y
    obtain ⟨u1, e0, ry⟩ := rxs.one
    subst e0
    cases rx
    obtain ⟨ys, h1, h2⟩ := Option.bind_eq_some_iff.mp h
    obtain ⟨zs, h3, h4⟩ := Option.bind_eq_some_iff.mp h2
    split at h4
    · rename_i hc
      cases h4
      obtain ⟨p, vs, e1, hq, rq, _⟩ := seq_ok R ry h1
      cases mapO_strs rq h3
      subst e1
      exact mt_join pins s σ H _ _ v ws Q I ru rus ⟨a, p, zs, rfl, rfl, hq, hc, k L H _ Le.refl R (.str _)⟩
    · cases h4
  · cases h
end
end EV
namespace EV
theorem units64 {n : Nat} (h : n + 65 < PySem.cLine) : n + 64 < PySem.cLine := by omega
end EV
namespace EV
open PySem PySem.Spec PyProof.Rows L2
/-! t == (), t != (), l == [], l != [], of whatever -/
def isNil (xs : List PV) : Bool := xs.isEmpty
def nilQ (x y : PV) (S : Sto) : Option Bool := match x, y with
  | .tup xs, .tup [] => some (isNil xs)
  | .loc q, .loc r => (match S[q]?, S[r]? with
    | some (.lst xs), some (.lst []) => some (isNil xs)
    | _, _ => none)
  | _, _ => none
def opEqA : O2 := fun x y S => match nilQ x y S with
  | some b => some (.bl b, S)
  | none => opEq x y S
def opNeA : O2 := fun x y S => match nilQ x y S with
  | some b => some (.bl (!b), S)
  | none => opNe x y S
section
variable {X : Cx}
theorem nilQ_ok {K : PySem.W.Frag} {L : List Addr} {H : Hp} {S : Sto} (R : RS K L H S) {x y : PV} {u v : V} {b : Bool} (rx : RP K L H x u) (ry : RP K L H y v) (h : nilQ x y S = some b) :
    ∃ p q xs, u = .ref p ∧ v = .ref q ∧ ((SqT K H p xs ∧ SqT K H q []) ∨ (SqL K H p xs ∧ SqL K H q [])) ∧ xs.isEmpty = b := by
  unfold nilQ at h
  split at h
  · cases h
    cases rx with
    | @tup a vs _ ht rt =>
      cases ry with
      | @tup b ws _ ht2 rt2 =>
        cases rt2
        exact ⟨a, b, vs, rfl, rfl, .inl ⟨ht.t, ht2.t⟩, by cases rt <;> rfl⟩
  · split at h
    · rename_i h1 h2
      cases h
      cases rx with
      | @loc m a hL =>
        cases ry with
        | @loc m2 a2 hL2 =>
          obtain ⟨o, hS, ro⟩ := R.at_ hL
          rw [h1] at hS
          cases hS
          obtain ⟨vs, e, rv⟩ := ro
          obtain ⟨o2, hS2, ro2⟩ := R.at_ hL2
          rw [h2] at hS2
          cases hS2
          obtain ⟨vs2, e2, rv2⟩ := ro2
          cases rv2
          exact ⟨a, a2, vs, rfl, rfl, .inr ⟨SqL.of e, SqL.of e2⟩, by cases rv <;> rfl⟩
    · cases h
  · cases h
theorem op_eq_nil (hu : X.A.units < cLine) : OpR X (compareOp .Eq) (fun x y H Q => ∃ a b xs, x = .ref a ∧ y = .ref b ∧ ((SqT X.K H a xs ∧ SqT X.K H b []) ∨ (SqL X.K H a xs ∧ SqL X.K H b [])) ∧ Q (.bl xs.isEmpty) H) := by
  intro pins s σ H x y v u Q I rx ry h
  obtain ⟨a, b, xs, rfl, rfl, hab, q⟩ := h
  cases rx
  cases ry
  rcases hab with ⟨ha, hb⟩ | ⟨ha, hb⟩
  · obtain ⟨its, r1, p1, _⟩ := I.tuple ha
    obtain ⟨its2, r2, p2, _⟩ := I.tuple hb
    cases r2
    refine SeqAt.eq_tupleAt (e := fun _ => true) p1 p2 hu (fun j h1 h2 => absurd h2 (by simp)) ⟨.bl xs.isEmpty, H, I, ?_, q⟩
    show Value.bool _ = Value.bool _
    cases r1 <;> simp
  · obtain ⟨its, r1, p1, _⟩ := I.list ha
    obtain ⟨its2, r2, p2, _⟩ := I.list hb
    cases r2
    cases r1 with
    | nil => exact SeqAt.eq_listAt (e := fun _ => true) p1.isList p2.isList rfl hu (fun j h1 h2 => absurd h2 (by simp)) ⟨.bl true, H, I, rfl, q⟩
    | cons _ _ => exact SeqAt.eq_list_lengthsAt p1.isList p2.isList (by simp) hu ⟨.bl false, H, I, rfl, q⟩
theorem op_ne_nil (hu : X.A.units < cLine) : OpR X (compareOp .NotEq) (fun x y H Q => ∃ a b xs, x = .ref a ∧ y = .ref b ∧ ((SqT X.K H a xs ∧ SqT X.K H b []) ∨ (SqL X.K H a xs ∧ SqL X.K H b [])) ∧ Q (.bl (!xs.isEmpty)) H) := by
  intro pins s σ H x y v u Q I rx ry h
  obtain ⟨a, b, xs, rfl, rfl, hab, q⟩ := h
  cases rx
  cases ry
  rcases hab with ⟨ha, hb⟩ | ⟨ha, hb⟩
  · obtain ⟨its, r1, p1, _⟩ := I.tuple ha
    obtain ⟨its2, r2, p2, _⟩ := I.tuple hb
    cases r2
    refine SeqAt.RcNeAt.tuples (e := fun _ => true) p1 p2 hu (fun j h1 h2 => absurd h2 (by simp)) _ _ _ _ ⟨.bl (!xs.isEmpty), H, I, ?_, q⟩
    show Value.bool _ = Value.bool _
    cases r1 <;> simp
  · obtain ⟨its, r1, p1, _⟩ := I.list ha
    obtain ⟨its2, r2, p2, _⟩ := I.list hb
    cases r2
    cases r1 with
    | nil => exact SeqAt.RcNeAt.lists (e := fun _ => true) p1.isList p2.isList rfl hu (fun j h1 h2 => absurd h2 (by simp)) _ _ _ _ ⟨.bl false, H, I, rfl, q⟩
    | cons _ _ => exact SeqAt.RcNeAt.lists_lengths p1.isList p2.isList (by simp) hu _ _ _ _ ⟨.bl true, H, I, rfl, q⟩
theorem o_eqA (hu : X.A.units + 64 < cLine) : OpR X (compareOp .Eq) (r2 X.K opEqA) := by
  intro pins s σ H u v uu vv Q I ru rv ⟨L, S, x, y, z, S', R, rx, ry, h, k⟩
  unfold opEqA at h
  split at h
  · rename_i b hb
    cases h
    obtain ⟨p, q, xs, e1, e2, hq, e3⟩ := nilQ_ok R rx ry hb
    exact op_eq_nil (by omega) pins s σ H _ _ uu vv Q I ru rv ⟨p, q, xs, e1, e2, hq, by rw [e3]; exact k L H _ Le.refl R (.bl _)⟩
  · exact o_eq hu pins s σ H u v uu vv Q I ru rv ⟨L, S, x, y, z, S', R, rx, ry, h, k⟩
theorem o_neA (hu : X.A.units + 64 < cLine) : OpR X (compareOp .NotEq) (r2 X.K opNeA) := by
  intro pins s σ H u v uu vv Q I ru rv ⟨L, S, x, y, z, S', R, rx, ry, h, k⟩
  unfold opNeA at h
  split at h
  · rename_i b hb
    cases h
    obtain ⟨p, q, xs, e1, e2, hq, e3⟩ := nilQ_ok R rx ry hb
    exact op_ne_nil (by omega) pins s σ H _ _ uu vv Q I ru rv ⟨p, q, xs, e1, e2, hq, by rw [e3]; exact k L H _ Le.refl R (.bl _)⟩
  · exact o_ne hu pins s σ H u v uu vv Q I ru rv ⟨L, S, x, y, z, S', R, rx, ry, h, k⟩
end
/-! t.index(k), whole numbers -/
def mIndexT : OM := fun x xs S => match x, xs with
  | .tup ys, [.int k] => (mapO intOf ys).bind fun ns => if k ∈ ns then some (.int (ns.idxOf k : Nat), S) else none
  | _, _ => none
theorem m_indexT {X : Cx} : MtR X "tuple.index" (rM X.K mIndexT) := by
  intro pins s σ H u us v ws Q I ru rus ⟨L, S, x, xs, z, S', R, rx, rxs, h, k⟩
  unfold mIndexT at h
  split at h
  · rename_i ys i
    obtain ⟨u1, e0, ry⟩ := rxs.one
    subst e0
    cases ry
    obtain ⟨ns, h1, h2⟩ := Option.bind_eq_some_iff.mp h
    split at h2
    · rename_i hc
      cases h2
      cases mapO_ints h1
      cases rx with
      | @tup a vs _ ht rt =>
        cases rt.ints_of
        cases ru
        obtain ⟨t', et⟩ := vals1 rus
        obtain ⟨e1, t'', e2⟩ := et
        subst e1 e2
        obtain ⟨its, r, p, _⟩ := I.tuple ht.t
        exact PySem.SeqAt.tuple_index_ints p (intsAre_of r) hc ⟨V.int (ns.idxOf i : Nat), H, I.tok _, ⟨_, rfl⟩, k L H _ Le.refl R (.int _)⟩
    · cases h2
  · cases h
/-! a method of a tuple that was made -/
def eMT (o : OM) (a : DE) (d : DA) : DE := fun e S => bnd (a e S) fun x S1 => match x with
  | .tup ys => bnd (d e S1) fun xs S2 => o (.tup ys) xs S2
  | _ => none
theorem xe_bmT {X : Cx} {a b : Expr} {es : List Expr} {da : DE} {ds : DA} {name : Str} {apos cpos : Pos} {id : String} {o : OM} (pa : PlainAttrs "tuple") (slot : Slot "tuple" name id) (hty : typeOf (.builtin id) = pure (.type "method_descriptor")) (hm : MtR X id (rM X.K o)) (ho : XE X a da) (ha : XA X (b :: es) ds)
    (hbase : attributeBase a name X.env (eval a X.env) = eval a X.env := by rfl)
    (hfew : ((backTo cpos (starEach (b :: es) X.env)).all (fun x => !x.1) && (backToKw cpos (keywordEach [] X.env)).all (fun x => x.1.isSome)
      && decide ((b :: es).length + ([] : List Keyword).length + (if ([] : List Keyword).isEmpty then 0 else 1) < 30)) = true := by rfl)
    (hline : (apos.endLine == cpos.line) = true := by rfl) (hs : starEach (b :: es) X.env = (false, eval b X.env) :: starEach es X.env := by rfl) (hplain : (backTo cpos (starEach es X.env)).any (·.1) = false := by rfl) :
    XE X (.Call (.Attribute a name apos) (b :: es) [] cpos) (eMT o da ds) := by
  refine ⟨fun pins s σ H Q I ⟨L, S, e, z, S', R, E, h1, k⟩ => ?_⟩
  obtain ⟨x, S1, q1, h1⟩ := bnd_of h1
  refine wpAny_Call_method_late hbase hfew hline rfl (thn (ho.run pins s σ H (fun u H1 => ∃ L1, Le X.K L H L1 H1 ∧ RS X.K L1 H1 S1 ∧ RP X.K L1 H1 x u) I ⟨L, S, e, x, S1, R, E, q1, fun L1 H1 u le1 R1 ru => ⟨L1, le1, R1, ru⟩⟩) fun v s1 ⟨u, H1, I1, r1, L1, le1, R1, ru⟩ => ?_)
  cases ru with
  | @tup ad vs ys ht rt =>
    cases r1
    obtain ⟨its, r, p, _⟩ := I1.tuple ht.t
    have hA := ha.run cpos pins s1 σ H1 (fun us H2 => ∃ xs L2 S2, o (.tup ys) xs S2 = some (z, S') ∧ Le X.K L1 H1 L2 H2 ∧ RS X.K L2 H2 S2 ∧ RPs X.K L2 H2 xs us) I1 (by
      obtain ⟨xs, S2, q2, h1⟩ := bnd_of h1
      exact ⟨L1, S1, e, xs, S2, R1, E.mono le1, q2, fun L2 H2 us le2 R2 rus => ⟨xs, L2, S2, h1, le2, R2, rus⟩⟩)
    refine ⟨"tuple", id, pa, slot, hty, p.typeIs, fun a e0 => ?_, ?_⟩
    · cases e0
      rcases ht with ⟨o, h, hd⟩ | ⟨o, its, n, hk, hd, _⟩
      · exact ⟨o, (I1.hok _ _ h).1, hd⟩
      · exact ⟨o, I1.kIn _ o hk, hd⟩
    rw [hs] at hA ⊢
    refine Calls.callWith_builtin (by show (false || (backTo cpos (starEach es X.env)).any (·.1)) = false; rw [hplain] <;> rfl) (Calls.evalArgs_plain ?_)
    exact thn hA fun us s2 ⟨vs2, H2, I2, r2, xs, L2, S2, h2, le2, R2, rus⟩ => hm pins s2 σ H2 (.ref ad) vs2 (.ref ad) us Q I2 rfl r2 ⟨L2, S2, .tup ys, xs, z, S', R2, (RP.tup ht rt).mono le2, rus, h2, fun L3 H3 w le3 => k L3 H3 w ((le1.trans le2).trans le3)⟩
  | _ => cases h1
end EV
namespace EV
open PySem PySem.Spec PyProof.Rows L2
/-! min of a tuple of whole numbers -/
noncomputable def fMinT : ON := fun xs S => match xs with
  | [.tup ys] => (match mapO intOf ys with
    | some (a :: r) => some (.int (r.foldl min a), S)
    | _ => none)
  | xs => fMin xs S
theorem reads_of_ints {h : Heap} : ∀ {ns : List Int} {us : List Value}, IntsAre us ns → ReadsAll h us (ns.map PyData.int) []
  | _, _, .nil => .nil
  | _, _, .cons n t r => .cons (.int n t) (reads_of_ints r)
theorem depth_ints0 : ∀ ns : List Int, PyData.depthAll (ns.map PyData.int) = 0
  | [] => rfl
  | n :: r => by simp only [List.map_cons, PyData.depthAll, depth_ints0 r, PyData.depth, Nat.max_self]
theorem c_minT {X : Cx} (hc : X.calm = true) (hu : X.A.units + 65 < cLine) : CallR X (.builtin "min") (rN X.K fMinT) := by
  intro pins s σ H us vs Q I rr ⟨L, S, xs, z, S', R, rx, h, k⟩
  unfold fMinT at h
  split at h
  · obtain ⟨u, rfl, ru⟩ := rx.one
    split at h
    · rename_i a r h3
      cases h
      cases mapO_ints h3
      cases ru with
      | @tup p ws _ ht rt =>
        cases rt.ints_of
        obtain ⟨its, r1, pl, _⟩ := I.tuple ht.t
        rw [Vals.ref1 rr]
        have hi := intsAre_of r1
        have hr : ReadsAll s.heap its.toArray.toList (PyData.int a :: r.map PyData.int) [] := reads_of_ints hi
        refine PySem.W.min_tuple_data (I.ok.hd hc) pl hr ⟨fun x hx y hy => ?_, fun x hx => ?_⟩ ?_ fun i v h' tk bs hv hrd hk => ?_
        · rw [← List.map_cons (f := PyData.int)] at hx hy
          obtain ⟨i, _, rfl⟩ := List.mem_map.mp hx
          obtain ⟨j, _, rfl⟩ := List.mem_map.mp hy
          rfl
        · rw [← List.map_cons (f := PyData.int)] at hx
          obtain ⟨i, _, rfl⟩ := List.mem_map.mp hx
          exact fun h => (nomatch h)
        · rw [← List.map_cons (f := PyData.int), depth_ints0]
          omega
        · rw [PySem.W.minD_ints] at hrd
          cases hrd
          exact ⟨V.int (r.foldl min a), H, I.kept hk, ⟨_, rfl⟩, k L H _ Le.refl R (.int _)⟩
    · cases h
  · exact c_min hc pins s σ H us vs Q I rr ⟨L, S, xs, z, S', R, rx, h, k⟩
end EV
namespace EV
open PySem PySem.Spec PyProof.Rows L2
/-! what a denotation does, as a predicate on what comes -/
def Rn {α : Type} (r : Option (α × Sto)) (Q : α → Sto → Prop) : Prop := ∃ x S, r = some (x, S) ∧ Q x S
def Rs (r : Option (Out × Sl × Sto)) (Q : Out → Sl → Sto → Prop) : Prop := ∃ o e S, r = some (o, e, S) ∧ Q o e S
section
variable {α β : Type} {Q Q' : α → Sto → Prop} {q q' : Out → Sl → Sto → Prop} {e : Sl} {S : Sto}
theorem Rn.mono {r : Option (α × Sto)} (h : Rn r Q) (k : ∀ x S, Q x S → Q' x S) : Rn r Q' := let ⟨x, S, a, b⟩ := h; ⟨x, S, a, k x S b⟩
theorem Rs.mono {r : Option (Out × Sl × Sto)} (h : Rs r q) (k : ∀ o e S, q o e S → q' o e S) : Rs r q' := let ⟨o, e, S, a, b⟩ := h; ⟨o, e, S, a, k o e S b⟩
@[simp] theorem rn_some {x : α} : Rn (some (x, S)) Q ↔ Q x S := ⟨fun ⟨_, _, a, b⟩ => by cases a; exact b, fun h => ⟨_, _, rfl, h⟩⟩
@[simp] theorem rn_none : Rn (none : Option (α × Sto)) Q ↔ False := ⟨fun ⟨_, _, a, _⟩ => (nomatch a), False.elim⟩
@[simp] theorem rs_some {o : Out} : Rs (some (o, e, S)) q ↔ q o e S := ⟨fun ⟨_, _, _, a, b⟩ => by cases a; exact b, fun h => ⟨_, _, _, rfl, h⟩⟩
@[simp] theorem rs_none : Rs none q ↔ False := ⟨fun ⟨_, _, _, a, _⟩ => (nomatch a), False.elim⟩
@[simp] theorem rn_bnd {a : Option (β × Sto)} {f : β → Sto → Option (α × Sto)} : Rn (bnd a f) Q ↔ Rn a fun x S => Rn (f x S) Q := by
  cases a with
  | none => exact ⟨fun ⟨_, _, h, _⟩ => (nomatch h), fun ⟨_, _, h, _⟩ => (nomatch h)⟩
  | some p => obtain ⟨x, S⟩ := p; exact ⟨fun h => ⟨x, S, rfl, h⟩, fun ⟨_, _, h, k⟩ => by cases h; exact k⟩
@[simp] theorem rs_bnd {a : Option (β × Sto)} {f : β → Sto → Option (Out × Sl × Sto)} : Rs (bnd a f) q ↔ Rn a fun x S => Rs (f x S) q := by
  cases a with
  | none => exact ⟨fun ⟨_, _, _, h, _⟩ => (nomatch h), fun ⟨_, _, h, _⟩ => (nomatch h)⟩
  | some p => obtain ⟨x, S⟩ := p; exact ⟨fun h => ⟨x, S, rfl, h⟩, fun ⟨_, _, h, k⟩ => by cases h; exact k⟩
@[simp] theorem rn_ite {c : Prop} [Decidable c] {a b : Option (α × Sto)} : Rn (if c then a else b) Q ↔ (c → Rn a Q) ∧ (¬ c → Rn b Q) := by
  by_cases h : c
  · rw [if_pos h]; exact ⟨fun k => ⟨fun _ => k, fun z => absurd h z⟩, fun k => k.1 h⟩
  · rw [if_neg h]; exact ⟨fun k => ⟨fun z => absurd z h, fun _ => k⟩, fun k => k.2 h⟩
theorem rn_g {c : Prop} [Decidable c] {a : Option (α × Sto)} : Rn (if c then a else none) Q ↔ c ∧ Rn a Q := by
  by_cases h : c
  · rw [if_pos h]; exact ⟨fun k => ⟨h, k⟩, fun k => k.2⟩
  · rw [if_neg h]; exact ⟨fun k => (rn_none.mp k).elim, fun k => absurd k.1 h⟩
@[simp] theorem rs_ite {c : Prop} [Decidable c] {a b : Option (Out × Sl × Sto)} : Rs (if c then a else b) q ↔ (c → Rs a q) ∧ (¬ c → Rs b q) := by
  by_cases h : c
  · rw [if_pos h]; exact ⟨fun k => ⟨fun _ => k, fun z => absurd h z⟩, fun k => k.1 h⟩
  · rw [if_neg h]; exact ⟨fun k => ⟨fun z => absurd z h, fun _ => k⟩, fun k => k.2 h⟩
end
section
variable {e : Sl} {S : Sto} {Q : PV → Sto → Prop} {q : Out → Sl → Sto → Prop} {QT : Bool → Sto → Prop} {QA : List PV → Sto → Prop} {QO : Option Int → Sto → Prop}
/-! expressions -/
@[simp] theorem rn_var {i : Nat} : Rn (eVar i e S) Q ↔ (match e[i]? with
    | some (some x) => Q x S
    | _ => False) := by
  unfold eVar
  cases e[i]? with
  | none => simp
  | some o => cases o <;> simp
@[simp] theorem rn_c {x : PV} : Rn (eC x e S) Q ↔ Q x S := rn_some
@[simp] theorem rn_op {o : O2} {a b : DE} : Rn (eOp o a b e S) Q ↔ Rn (a e S) fun x S1 => Rn (b e S1) fun y S2 => Rn (o x y S2) Q := by unfold eOp; simp
@[simp] theorem rn_un {o : O1} {a : DE} : Rn (eUn o a e S) Q ↔ Rn (a e S) fun x S1 => Rn (o x S1) Q := by unfold eUn; simp
@[simp] theorem rn_asB {b : Bool} : Rn (asB (.bl b) S) QT ↔ QT b S := rn_some
@[simp] theorem rn_dE {a : DE} : Rn (dE a e S) QT ↔ Rn (a e S) fun x S1 => Rn (asB x S1) QT := by unfold dE; simp
@[simp] theorem rn_ch {o o' : O2} {a b c : DE} : Rn (eCh o o' a b c e S) Q ↔ Rn (a e S) fun x S1 => Rn (b e S1) fun y S2 => Rn (o x y S2) fun k S3 => Rn (asB k S3) fun k S3 => (k = true → Rn (c e S3) fun z S4 => Rn (o' y z S4) Q) ∧ (k = false → Q (.bl false) S3) := by unfold eCh; simp
@[simp] theorem rn_dAnd {a b : DT} : Rn (dAnd a b e S) QT ↔ Rn (a e S) fun k S1 => (k = true → Rn (b e S1) QT) ∧ (k = false → QT false S1) := by unfold dAnd; simp
@[simp] theorem rn_dOr {a b : DT} : Rn (dOr a b e S) QT ↔ Rn (a e S) fun k S1 => (k = true → QT true S1) ∧ (k = false → Rn (b e S1) QT) := by unfold dOr; simp
@[simp] theorem rn_dNot {a : DT} : Rn (dNot a e S) QT ↔ Rn (a e S) fun k S1 => QT (!k) S1 := by unfold dNot; simp
@[simp] theorem rn_dYes : Rn (dYes e S) QT ↔ QT true S := rn_some
@[simp] theorem rn_and {a b : DE} : Rn (eAnd a b e S) Q ↔ Rn (a e S) fun x S1 => Rn (asB x S1) fun k S1 => (k = true → Rn (b e S1) Q) ∧ (k = false → Q (.bl false) S1) := by unfold eAnd; simp
@[simp] theorem rn_or {a b : DE} : Rn (eOr a b e S) Q ↔ Rn (a e S) fun x S1 => Rn (asB x S1) fun k S1 => (k = true → Q (.bl true) S1) ∧ (k = false → Rn (b e S1) Q) := by unfold eOr; simp
@[simp] theorem rn_not {a : DE} : Rn (eNot a e S) Q ↔ Rn (a e S) fun x S1 => Rn (asB x S1) fun k S1 => Q (.bl (!k)) S1 := by unfold eNot; simp
@[simp] theorem rn_if {t : DT} {a b : DE} : Rn (eIf t a b e S) Q ↔ Rn (t e S) fun k S1 => (k = true → Rn (a e S1) Q) ∧ (k = false → Rn (b e S1) Q) := by unfold eIf; simp
@[simp] theorem rn_aNil : Rn (aNil e S) QA ↔ QA [] S := rn_some
@[simp] theorem rn_aCons {a : DE} {r : DA} : Rn (aCons a r e S) QA ↔ Rn (a e S) fun x S1 => Rn (r e S1) fun xs S2 => QA (x :: xs) S2 := by unfold aCons; simp
@[simp] theorem rn_A {g : ON} {d : DA} : Rn (eA g d e S) Q ↔ Rn (d e S) fun xs S1 => Rn (g xs S1) Q := by unfold eA; simp
@[simp] theorem rn_mkT {xs : List PV} : Rn (mkT xs S) Q ↔ xs.length ≤ 16777216 ∧ Q (.tup xs) S := by unfold mkT; rw [rn_g, rn_some]
@[simp] theorem rn_mkL {xs : List PV} : Rn (mkL xs S) Q ↔ xs.length ≤ 16777216 ∧ Q (.loc S.length) (S ++ [.lst xs]) := by unfold mkL; rw [rn_g, rn_some]
@[simp] theorem rn_oNon : Rn (oNon e S) QO ↔ QO none S := rn_some
@[simp] theorem rn_asI {i : Int} : Rn (asI (.int i) S) QO ↔ QO (some i) S := rn_some
@[simp] theorem rn_oSm {a : DE} : Rn (oSm a e S) QO ↔ Rn (a e S) fun x S1 => Rn (asI x S1) QO := by unfold oSm; simp
@[simp] theorem rn_sl {o : OS} {a : DE} {l h : DO} : Rn (eSl o a l h e S) Q ↔ Rn (a e S) fun x S1 => Rn (l e S1) fun i S2 => Rn (h e S2) fun j S3 => Rn (o x i j S3) Q := by unfold eSl; simp
@[simp] theorem rn_M {T : String} {o : OM} {a : DE} {d : DA} : Rn (eM T o a d e S) Q ↔ Rn (a e S) fun x S1 => isTy T x S1 = true ∧ Rn (d e S1) fun xs S2 => Rn (o x xs S2) Q := by unfold eM; simp only [rn_bnd, rn_g]
theorem rn_isi {T : String} {a : DE} : Rn (eIsi T a e S) Q ↔ Rn (a e S) fun x S1 => ∃ n, tyN x S1 = some n ∧ Q (.bl (isiB n T)) S1 := by
  unfold eIsi
  rw [rn_bnd]
  constructor
  · exact fun h => h.mono fun x S1 ⟨z, S2, h, k⟩ => by
      obtain ⟨n, h1, h2⟩ := Option.map_eq_some_iff.mp h
      cases h2
      exact ⟨n, h1, k⟩
  · exact fun h => h.mono fun x S1 ⟨n, h, k⟩ => ⟨_, _, by rw [h]; rfl, k⟩
@[simp] theorem rn_lrev {a : DE} : Rn (eLRev a e S) Q ↔ Rn (a e S) fun x S1 => ∃ xs, lstOf x S1 = some xs ∧ xs.length ≤ 16777216 ∧ Q (.loc S1.length) (S1 ++ [.lst xs.reverse]) := by
  unfold eLRev
  rw [rn_bnd]
  constructor
  · exact fun h => h.mono fun x S1 ⟨z, S2, h, k⟩ => by
      obtain ⟨n, h1, h2⟩ := Option.bind_eq_some_iff.mp h
      have := rn_mkL.mp (⟨z, S2, h2, k⟩ : Rn (mkL n.reverse S1) Q)
      rw [List.length_reverse] at this
      exact ⟨n, h1, this⟩
  · exact fun h => h.mono fun x S1 ⟨n, h, l, k⟩ => by
      rw [h]
      exact rn_mkL.mpr ⟨by rw [List.length_reverse]; exact l, k⟩
/-! operators on known kinds -/
@[simp] theorem rn_add_i {i j : Int} : Rn (opAdd (.int i) (.int j) S) Q ↔ Q (.int (i + j)) S := rn_some
@[simp] theorem rn_add_t {a b : List PV} : Rn (opAdd (.tup a) (.tup b) S) Q ↔ a.length + b.length ≤ 16777216 ∧ Q (.tup (a ++ b)) S := by unfold opAdd; rw [rn_g, rn_some]
@[simp] theorem rn_sub_i {i j : Int} : Rn (opSub (.int i) (.int j) S) Q ↔ Q (.int (i - j)) S := rn_some
@[simp] theorem rn_mul_i {i j : Int} : Rn (opMul (.int i) (.int j) S) Q ↔ (small64 i || small64 j) = true ∧ Q (.int (i * j)) S := by unfold opMul; rw [rn_g, rn_some]
@[simp] theorem rn_fdiv_i {i j : Int} : Rn (opFdiv (.int i) (.int j) S) Q ↔ (0 < j ∧ j < 1073741824) ∧ Q (.int (i / j)) S := by unfold opFdiv; simp only [rn_ite, rn_some, rn_none, imp_false, Classical.not_not]; exact ⟨fun h => ⟨h.2, h.1 h.2⟩, fun h => ⟨fun _ => h.2, h.1⟩⟩
@[simp] theorem rn_mod_i {i j : Int} : Rn (opMod (.int i) (.int j) S) Q ↔ 0 < j ∧ Q (.int (i % j)) S := by unfold opMod; simp only [rn_ite, rn_some, rn_none, imp_false, Classical.not_not]; exact ⟨fun h => ⟨h.2, h.1 h.2⟩, fun h => ⟨fun _ => h.2, h.1⟩⟩
theorem rn_pow_i {i j : Int} : Rn (opPow (.int i) (.int j) S) Q ↔ (0 ≤ j ∧ j ≤ 1000000 ∧ i.natAbs < 2 ^ 64) ∧ Q (.int (i ^ j.toNat)) S := by unfold opPow; simp only [rn_ite, rn_some, rn_none, imp_false, Classical.not_not]; exact ⟨fun h => ⟨h.2, h.1 h.2⟩, fun h => ⟨fun _ => h.2, h.1⟩⟩
@[simp] theorem rn_lt_i {i j : Int} : Rn (opLt (.int i) (.int j) S) Q ↔ Q (.bl (decide (i < j))) S := rn_some
@[simp] theorem rn_le_i {i j : Int} : Rn (opLe (.int i) (.int j) S) Q ↔ Q (.bl (decide (i ≤ j))) S := rn_some
@[simp] theorem rn_gt_i {i j : Int} : Rn (opGt (.int i) (.int j) S) Q ↔ Q (.bl (decide (j < i))) S := rn_some
@[simp] theorem rn_ge_i {i j : Int} : Rn (opGe (.int i) (.int j) S) Q ↔ Q (.bl (decide (j ≤ i))) S := rn_some
@[simp] theorem rn_neg_i {i : Int} : Rn (opNeg (.int i) S) Q ↔ Q (.int (-i)) S := rn_some
theorem shape_i {i : Int} : SeqAt.shaped (.int i) = true := rfl
@[simp] theorem rn_eq_i {i j : Int} : Rn (opEq (.int i) (.int j) S) Q ↔ Q (.bl (i == j)) S := rn_some
@[simp] theorem rn_ne_i {i j : Int} : Rn (opNe (.int i) (.int j) S) Q ↔ Q (.bl (!(i == j))) S := rn_some
@[simp] theorem rn_eq_b {i j : Bool} : Rn (opEq (.bl i) (.bl j) S) Q ↔ Q (.bl (i == j)) S := rn_some
@[simp] theorem rn_eq_s {i j : Str} : Rn (opEq (.str i) (.str j) S) Q ↔ Q (.bl (decide (i = j))) S := rn_some
@[simp] theorem rn_is {x : PV} : Rn (opIs x .non S) Q ↔ Q (.bl (isN x)) S := rn_some
@[simp] theorem rn_isnot {x : PV} : Rn (opIsNot x .non S) Q ↔ Q (.bl (!isN x)) S := rn_some
theorem rn_ix {x : PV} {xs : List PV} {i : Int} {v : PV} (hs : (∀ z, x ≠ .str z)) (h : seqOf x S = some xs) (hv : ixP xs i = some v) (k : Q v S) : Rn (opIx x (.int i) S) Q := by
  unfold opIx
  cases x with
  | str z => exact absurd rfl (hs z)
  | _ => simp only [h, Option.bind_some, hv, Option.map_some]; exact rn_some.mpr k
theorem ixP_nat {xs : List PV} {n : Nat} {v : PV} (h : xs[n]? = some v) : ixP xs (n : Int) = some v := by
  have hl : n < xs.length := by
    rcases Nat.lt_or_ge n xs.length with c | c
    · exact c
    · rw [List.getElem?_eq_none_iff.mpr c] at h; cases h
  unfold ixP ixN
  rw [if_pos (Int.natCast_nonneg n), if_pos (by omega)]
  simpa using h
theorem ixP_int {xs : List PV} {i : Int} {v : PV} (h0 : 0 ≤ i) (h : xs[i.toNat]? = some v) : ixP xs i = some v := by
  have := ixP_nat h
  rwa [Int.toNat_of_nonneg h0] at this
theorem ixP_last {xs : List PV} {v : PV} (h : xs.getLast? = some v) : ixP xs (-1) = some v := by
  rw [List.getLast?_eq_getElem?] at h
  have hl : 0 < xs.length := by
    cases xs with
    | nil => cases h
    | cons _ _ => simp
  unfold ixP ixN
  rw [if_neg (by omega), if_pos (by omega)]
  have e : (-1 + ((xs.length : Nat) : Int)).toNat = xs.length - 1 := by omega
  rw [e]
  exact h
@[simp] theorem rn_sl_t {xs : List PV} {lo hi : Option Int} : Rn (opSl (.tup xs) lo hi S) Q ↔ Q (.tup (cutP xs lo hi)) S := rn_some
theorem cut_from {xs : List PV} (n : Nat) : cutP xs (some n) none = xs.drop n := by
  unfold cutP
  rw [HT.sIx_nat, HT.sIx_none]
  rcases Nat.le_total n xs.length with h | h
  · rw [Nat.min_eq_left h]; exact List.take_of_length_le (by simp)
  · rw [Nat.min_eq_right h, List.drop_eq_nil_of_le (Nat.le_refl _), List.drop_eq_nil_of_le h]; simp
theorem cut_to {xs : List PV} (n : Nat) : cutP xs none (some n) = xs.take n := by
  unfold cutP
  rw [HT.sIx_nat, HT.sIx_none]
  simp [List.take_eq_take_iff]
/-! statements -/
def kN (r : Sl → Sto → Prop) (q : Out → Sl → Sto → Prop) : Out → Sl → Sto → Prop
  | .nx, e, S => r e S
  | o, e, S => q o e S
@[simp] theorem kN_nx {r : Sl → Sto → Prop} : kN r q .nx e S ↔ r e S := Iff.rfl
@[simp] theorem kN_rt {r : Sl → Sto → Prop} {x : PV} : kN r q (.rt x) e S ↔ q (.rt x) e S := Iff.rfl
@[simp] theorem kN_bk {r : Sl → Sto → Prop} : kN r q .bk e S ↔ q .bk e S := Iff.rfl
@[simp] theorem kN_ct {r : Sl → Sto → Prop} : kN r q .ct e S ↔ q .ct e S := Iff.rfl
@[simp] theorem rs_nil : Rs (sNil e S) q ↔ q .nx e S := rs_some
@[simp] theorem rs_cons {a b : DS} : Rs (sCons a b e S) q ↔ Rs (a e S) (kN (fun e S => Rs (b e S) q) q) := by
  unfold sCons
  cases h : a e S with
  | none => simp
  | some p =>
    obtain ⟨o, e1, S1⟩ := p
    cases o <;> simp
@[simp] theorem rs_brk : Rs (sBrk e S) q ↔ q .bk e S := rs_some
@[simp] theorem rs_cnt : Rs (sCnt e S) q ↔ q .ct e S := rs_some
@[simp] theorem rs_ex {d : DE} : Rs (sEx d e S) q ↔ Rn (d e S) fun _ S1 => q .nx e S1 := by unfold sEx; simp
@[simp] theorem rs_ret {d : DE} : Rs (sRet d e S) q ↔ Rn (d e S) fun x S1 => q (.rt x) e S1 := by unfold sRet; simp
@[simp] theorem rs_retN : Rs (sRetN e S) q ↔ q (.rt .non) e S := rs_some
@[simp] theorem rs_if {t : DT} {a b : DS} : Rs (sIf t a b e S) q ↔ Rn (t e S) fun k S1 => (k = true → Rs (a e S1) q) ∧ (k = false → Rs (b e S1) q) := by unfold sIf; simp
@[simp] theorem rs_set {i : Nat} {d : DE} : Rs (sSet i d e S) q ↔ Rn (d e S) fun x S1 => q .nx (e.set i (some x)) S1 := by unfold sSet; simp
@[simp] theorem rs_par {i j : Nat} {d : DA} : Rs (sPar i j d e S) q ↔ Rn (d e S) fun xs S1 => ∃ x y, xs = [x, y] ∧ q .nx ((e.set i (some x)).set j (some y)) S1 := by
  unfold sPar
  rw [rs_bnd]
  constructor
  · exact fun h => h.mono fun xs S1 h => by
      split at h
      · exact ⟨_, _, rfl, rs_some.mp h⟩
      · exact (rs_none.mp h).elim
  · exact fun h => h.mono fun xs S1 ⟨x, y, e1, h⟩ => by
      subst e1
      exact rs_some.mpr h
@[simp] theorem rs_sub {o : OSet} {d a i : DE} : Rs (sSub o d a i e S) q ↔ Rn (d e S) fun z S1 => Rn (a e S1) fun x S2 => Rn (i e S2) fun y S3 => ∃ S4, o x y z S3 = some S4 ∧ q .nx e S4 := by
  unfold sSub
  rw [rs_bnd]
  have key : ∀ z S1, Rs (bnd (a e S1) fun x S2 => bnd (i e S2) fun y S3 => match o x y z S3 with
      | some S4 => some (.nx, e, S4)
      | none => none) q ↔ Rn (a e S1) fun x S2 => Rn (i e S2) fun y S3 => ∃ S4, o x y z S3 = some S4 ∧ q .nx e S4 := by
    intro z S1
    rw [rs_bnd]
    have k2 : ∀ x S2, Rs (bnd (i e S2) fun y S3 => match o x y z S3 with
      | some S4 => some (.nx, e, S4)
      | none => none) q ↔ Rn (i e S2) fun y S3 => ∃ S4, o x y z S3 = some S4 ∧ q .nx e S4 := by
      intro x S2
      rw [rs_bnd]
      have k3 : ∀ y S3, Rs (match o x y z S3 with
        | some S4 => some (Out.nx, e, S4)
        | none => none) q ↔ ∃ S4, o x y z S3 = some S4 ∧ q .nx e S4 := by
        intro y S3
        cases o x y z S3 with
        | none => simp
        | some S4 => simp
      simp only [k3]
    simp only [k2]
  constructor
  · exact fun h => h.mono fun z S1 h => (key z S1).mp h
  · exact fun h => h.mono fun z S1 h => (key z S1).mpr h
@[simp] theorem rn_runD {N : Nat} {b : DS} {xs : List PV} : Rn (runD N b xs S) Q ↔ Rs (b (xs.map some ++ List.replicate (N - xs.length) none) S) fun o _ S' => match o with
    | .rt x => Q x S'
    | .nx => Q .non S'
    | _ => False := by
  unfold runD
  cases b (xs.map some ++ List.replicate (N - xs.length) none) S with
  | none => simp
  | some p =>
    obtain ⟨o, e1, S1⟩ := p
    cases o <;> simp
/-- a def called on as many values as it has parameters -/
theorem rn_call {n : Nat} {f : Fn} {xs : List PV} (h : xs.length = n) : Rn (if xs.length = n then f xs S else none) Q ↔ Rn (f xs S) Q := by rw [if_pos h]
end
/-! loops -/
theorem wh_rule {t : DT} {b : DS} {q : Out → Sl → Sto → Prop} (I : Nat → Sl → Sto → Prop)
    (step : ∀ m e S, I m e S → Rn (t e S) fun k S1 => (k = true → Rs (b e S1) fun o e2 S2 => match o with
      | .nx => ∃ m', m' < m ∧ I m' e2 S2
      | .ct => ∃ m', m' < m ∧ I m' e2 S2
      | .bk => q .nx e2 S2
      | .rt x => q (.rt x) e2 S2) ∧ (k = false → q .nx e S1)) : ∀ (m : Nat) (e : Sl) (S : Sto), I m e S → Rs (sWh t b e S) q := by
  have key : ∀ (m : Nat) (e : Sl) (S : Sto), I m e S → ∃ n, Rs (wLoop t b n e S) q := by
    intro m
    induction m using Nat.strongRecOn with
    | _ m ih =>
      intro e S hI
      obtain ⟨k, S1, h1, h2, h3⟩ := step m e S hI
      cases k with
      | false =>
        refine ⟨1, ?_⟩
        unfold wLoop
        rw [h1, bnd_some]
        simpa using h3 rfl
      | true =>
        obtain ⟨o, e2, S2, h4, h5⟩ := h2 rfl
        cases o with
        | nx =>
          obtain ⟨m', hm, hI'⟩ := h5
          obtain ⟨n, hn⟩ := ih m' hm e2 S2 hI'
          refine ⟨n + 1, ?_⟩
          unfold wLoop
          rw [h1, bnd_some, if_pos rfl, h4]
          exact hn
        | ct =>
          obtain ⟨m', hm, hI'⟩ := h5
          obtain ⟨n, hn⟩ := ih m' hm e2 S2 hI'
          refine ⟨n + 1, ?_⟩
          unfold wLoop
          rw [h1, bnd_some, if_pos rfl, h4]
          exact hn
        | bk =>
          refine ⟨1, ?_⟩
          unfold wLoop
          rw [h1, bnd_some, if_pos rfl, h4]
          exact rs_some.mpr h5
        | rt x =>
          refine ⟨1, ?_⟩
          unfold wLoop
          rw [h1, bnd_some, if_pos rfl, h4]
          exact rs_some.mpr h5
  intro m e S hI
  obtain ⟨n, o, e2, S2, h, k⟩ := key m e S hI
  exact ⟨o, e2, S2, sWh_of n h, k⟩
theorem fLoop_rule {w : WK} {g : DG} {b : DS} {q : Out → Sl → Sto → Prop} (xs : List PV) (I : Nat → Sl → Sto → Prop) (hw : ∀ i e S, i ≤ xs.length → I i e S → w i S = some xs[i]?)
    (step : ∀ i x e S, xs[i]? = some x → I i e S → ∃ as, g x = some as ∧ Rs (b (setP e as) S) fun o e2 S2 => match o with
      | .nx => I (i + 1) e2 S2
      | .ct => I (i + 1) e2 S2
      | .bk => q .nx e2 S2
      | .rt x => q (.rt x) e2 S2) (fin : ∀ e S, I xs.length e S → q .nx e S) : ∀ (m i : Nat) (e : Sl) (S : Sto), i + m = xs.length → I i e S → Rs (fLoop w g b (m + 1) i e S) q := by
  intro m
  induction m with
  | zero =>
    intro i e S hi hI
    unfold fLoop
    have e0 : xs[i]? = none := List.getElem?_eq_none_iff.mpr (by omega)
    rw [hw i e S (by omega) hI, e0]
    have : i = xs.length := by omega
    subst this
    exact rs_some.mpr (fin e S hI)
  | succ m ih =>
    intro i e S hi hI
    unfold fLoop
    have hl : i < xs.length := by omega
    have e0 : xs[i]? = some xs[i] := List.getElem?_eq_getElem hl
    rw [hw i e S (by omega) hI, e0]
    obtain ⟨as, hg, o, e2, S2, h4, h5⟩ := step i _ e S e0 hI
    simp only [hg, h4]
    cases o with
    | nx => exact ih (i + 1) e2 S2 (by omega) h5
    | ct => exact ih (i + 1) e2 S2 (by omega) h5
    | bk => exact rs_some.mpr h5
    | rt x => exact rs_some.mpr h5
theorem for_rule {d : DI} {w : WK} {g : DG} {b : DS} {e : Sl} {S S1 : Sto} {q : Out → Sl → Sto → Prop} (xs : List PV) (I : Nat → Sl → Sto → Prop) (hd : d e S = some (w, S1)) (h0 : I 0 e S1) (hw : ∀ i e S, i ≤ xs.length → I i e S → w i S = some xs[i]?)
    (step : ∀ i x e S, xs[i]? = some x → I i e S → ∃ as, g x = some as ∧ Rs (b (setP e as) S) fun o e2 S2 => match o with
      | .nx => I (i + 1) e2 S2
      | .ct => I (i + 1) e2 S2
      | .bk => q .nx e2 S2
      | .rt x => q (.rt x) e2 S2) (fin : ∀ e S, I xs.length e S → q .nx e S) : Rs (sFor d g b e S) q := by
  obtain ⟨o, e2, S2, h, k⟩ := fLoop_rule xs I hw step fin xs.length 0 e S1 (by omega) h0
  refine ⟨o, e2, S2, ?_, k⟩
  unfold sFor
  rw [hd, bnd_some]
  exact lim_eq (fun n r => fLoop_mono n 0 e S1 r) h
theorem cLoop_rule {w : WK} {g : DG} {t : DT} {el : DE} {vs : List Nat} {e : Sl} {Q : List PV → Sto → Prop} (xs : List PV) (I : Nat → List PV → Sto → Prop) (hw : ∀ i acc S, i ≤ xs.length → I i acc S → w i S = some xs[i]?)
    (step : ∀ i x acc S, xs[i]? = some x → I i acc S → ∃ as, g x = some as ∧ (as.all fun p => vs.contains p.1) = true ∧ Rn (t (setP e as) S) fun k S2 => (k = true → Rn (el (setP e as) S2) fun y S3 => I (i + 1) (acc ++ [y]) S3) ∧ (k = false → I (i + 1) acc S2))
    (fin : ∀ acc S, I xs.length acc S → Q acc S) : ∀ (m i : Nat) (acc : List PV) (S : Sto), i + m = xs.length → I i acc S → Rn (cLoop w g t el vs e (m + 1) i acc S) Q := by
  intro m
  induction m with
  | zero =>
    intro i acc S hi hI
    unfold cLoop
    have e0 : xs[i]? = none := List.getElem?_eq_none_iff.mpr (by omega)
    rw [hw i acc S (by omega) hI, e0]
    have : i = xs.length := by omega
    subst this
    exact rn_some.mpr (fin acc S hI)
  | succ m ih =>
    intro i acc S hi hI
    unfold cLoop
    have hl : i < xs.length := by omega
    have e0 : xs[i]? = some xs[i] := List.getElem?_eq_getElem hl
    rw [hw i acc S (by omega) hI, e0]
    obtain ⟨as, hg, hv, k, S2, h4, h5, h6⟩ := step i _ acc S e0 hI
    simp only [hg, hv, if_true, h4, bnd_some]
    cases k with
    | false => exact ih (i + 1) acc S2 (by omega) (h6 rfl)
    | true =>
      obtain ⟨y, S3, h7, h8⟩ := h5 rfl
      simp only [if_true, h7, bnd_some]
      exact ih (i + 1) _ S3 (by omega) h8
theorem lc_rule {d : DI} {w : WK} {g : DG} {t : DT} {el : DE} {vs : List Nat} {e : Sl} {S S1 : Sto} {Q : PV → Sto → Prop} (xs : List PV) (I : Nat → List PV → Sto → Prop) (hd : d e S = some (w, S1)) (h0 : I 0 [] S1) (hw : ∀ i acc S, i ≤ xs.length → I i acc S → w i S = some xs[i]?)
    (step : ∀ i x acc S, xs[i]? = some x → I i acc S → ∃ as, g x = some as ∧ (as.all fun p => vs.contains p.1) = true ∧ Rn (t (setP (wipeP e vs) as) S) fun k S2 => (k = true → Rn (el (setP (wipeP e vs) as) S2) fun y S3 => I (i + 1) (acc ++ [y]) S3) ∧ (k = false → I (i + 1) acc S2))
    (fin : ∀ acc S, I xs.length acc S → acc.length ≤ 16777216 ∧ Q (.loc S.length) (S ++ [.lst acc])) : Rn (eLc d g t el vs e S) Q := by
  obtain ⟨ys, S2, h, k⟩ := cLoop_rule (Q := fun acc S => acc.length ≤ 16777216 ∧ Q (.loc S.length) (S ++ [.lst acc])) xs I hw step fin xs.length 0 [] S1 (by omega) h0
  unfold eLc
  rw [hd, bnd_some, rn_bnd]
  exact ⟨ys, S2, lim_eq (fun n r => cLoop_mono n 0 [] S1 r) h, rn_mkL.mpr k⟩
end EV
namespace EV
open PySem PySem.Spec PyProof.Rows L2
/-! a bag of draws: the list b of a list c of ints and two ints; what else stands stays -/
structure BagW (S : Sto) (b c : Nat) (cs : List Int) (d m : Int) : Prop where
  hb : S[b]? = some (.lst [.loc c, .int d, .int m])
  hc : S[c]? = some (.lst (cs.map PV.int))
  ne : b ≠ c
  hd : 0 ≤ d
  hm : 0 ≤ m
  hm2 : m < 2147483647
def BagAt (S : Sto) (b c : Nat) : Prop := ∃ cs d m, BagW S b c cs d m
structure Ex (b c : Nat) (S S' : Sto) : Prop where
  len : S.length ≤ S'.length
  at_ : ∀ i, i < S.length → i ≠ b → i ≠ c → S'[i]? = S[i]?
structure Ext (b c : Nat) (S S' : Sto) : Prop extends Ex b c S S' where
  bag : BagAt S' b c
theorem lt_of_get {α : Type} {S : List α} {i : Nat} {o : α} (h : S[i]? = some o) : i < S.length := by
  rcases Nat.lt_or_ge i S.length with c | c
  · exact c
  · rw [List.getElem?_eq_none_iff.mpr c] at h; cases h
theorem get_app {α : Type} {S T : List α} {i : Nat} {o : α} (h : S[i]? = some o) : (S ++ T)[i]? = some o := by
  rw [List.getElem?_append_left (lt_of_get h)]; exact h
theorem get_new {α : Type} {S T : List α} {o : α} : (S ++ o :: T)[S.length]? = some o := by simp
section
variable {S S' S'' T : Sto} {b c : Nat} {cs cs' : List Int} {d d' m m' : Int} {o : Ob}
theorem Ex.refl : Ex b c S S := ⟨Nat.le_refl _, fun _ _ _ _ => rfl⟩
theorem Ex.trans (h : Ex b c S S') (k : Ex b c S' S'') : Ex b c S S'' := ⟨Nat.le_trans h.len k.len, fun i hi hb hc => (k.at_ i (Nat.lt_of_lt_of_le hi h.len) hb hc).trans (h.at_ i hi hb hc)⟩
theorem Ex.app : Ex b c S (S ++ T) := ⟨by simp, fun i hi _ _ => List.getElem?_append_left hi⟩
theorem Ex.setB : Ex b c S (S.set b o) := ⟨by simp, fun i _ hb _ => by rw [List.getElem?_set_ne (fun z => hb z.symm)]⟩
theorem Ex.setC : Ex b c S (S.set c o) := ⟨by simp, fun i _ _ hc => by rw [List.getElem?_set_ne (fun z => hc z.symm)]⟩
theorem Ex.get (h : Ex b c S S') {i : Nat} (hs : S[i]? = some o) (hb : i ≠ b) (hc : i ≠ c) : S'[i]? = some o := (h.at_ i (lt_of_get hs) hb hc).trans hs
theorem BagW.at_ (h : BagW S b c cs d m) : BagAt S b c := ⟨cs, d, m, h⟩
theorem BagW.app (h : BagW S b c cs d m) : BagW (S ++ T) b c cs d m := ⟨get_app h.hb, get_app h.hc, h.ne, h.hd, h.hm, h.hm2⟩
theorem BagAt.app (h : BagAt S b c) : BagAt (S ++ T) b c := let ⟨cs, d, m, h⟩ := h; ⟨cs, d, m, h.app⟩
theorem BagW.setB (h : BagW S b c cs d m) (hd : 0 ≤ d') (hm : 0 ≤ m') (hm2 : m' < 2147483647) : BagW (S.set b (.lst [.loc c, .int d', .int m'])) b c cs d' m' :=
  ⟨by rw [List.getElem?_set_self (lt_of_get h.hb)], by rw [List.getElem?_set_ne h.ne]; exact h.hc, h.ne, hd, hm, hm2⟩
theorem BagW.setC (h : BagW S b c cs d m) : BagW (S.set c (.lst (cs'.map PV.int))) b c cs' d m :=
  ⟨by rw [List.getElem?_set_ne h.ne.symm]; exact h.hb, by rw [List.getElem?_set_self (lt_of_get h.hc)], h.ne, h.hd, h.hm, h.hm2⟩
theorem Ext.refl (h : BagAt S b c) : Ext b c S S := ⟨Ex.refl, h⟩
theorem Ext.trans (h : Ext b c S S') (k : Ext b c S' S'') : Ext b c S S'' := ⟨h.toEx.trans k.toEx, k.bag⟩
theorem Ext.app (h : Ext b c S S') : Ext b c S (S' ++ T) := ⟨h.toEx.trans Ex.app, h.bag.app⟩
theorem BagW.lstB (h : BagW S b c cs d m) : lstOf (.loc b) S = some [.loc c, .int d, .int m] := by unfold lstOf; simp only [h.hb]
theorem BagW.lstC (h : BagW S b c cs d m) : lstOf (.loc c) S = some (cs.map PV.int) := by unfold lstOf; simp only [h.hc]
theorem lst_at {n : Nat} {xs : List PV} (h : S[n]? = some (.lst xs)) : lstOf (.loc n) S = some xs := by unfold lstOf; simp only [h]
theorem own_at {n : Nat} {xs : List PV} (h : S[n]? = some (.lst xs)) : ownOf (.loc n) S = some (n, xs) := by unfold ownOf; simp only [h]
variable {Q : PV → Sto → Prop}
theorem ix_loc {n : Nat} {xs : List PV} {i : Int} {v : PV} (h : S[n]? = some (.lst xs)) (hv : ixP xs i = some v) : Rn (opIx (.loc n) (.int i) S) Q ↔ Q v S := by
  unfold opIx seqOf
  simp only [lst_at h, Option.bind_some, hv, Option.map_some, rn_some]
theorem ix_tup {xs : List PV} {i : Int} {v : PV} (hv : ixP xs i = some v) : Rn (opIx (.tup xs) (.int i) S) Q ↔ Q v S := by
  unfold opIx seqOf
  simp only [Option.bind_some, hv, Option.map_some, rn_some]
theorem BagW.ix0 (h : BagW S b c cs d m) : Rn (opIx (.loc b) (.int 0) S) Q ↔ Q (.loc c) S := ix_loc h.hb rfl
theorem BagW.ix1 (h : BagW S b c cs d m) : Rn (opIx (.loc b) (.int 1) S) Q ↔ Q (.int d) S := ix_loc h.hb rfl
theorem BagW.ix2 (h : BagW S b c cs d m) : Rn (opIx (.loc b) (.int 2) S) Q ↔ Q (.int m) S := ix_loc h.hb rfl
theorem BagW.set1 (h : BagW S b c cs d m) (x : PV) : opSet (.loc b) (.int 1) x S = some (S.set b (.lst [.loc c, x, .int m])) := by
  unfold opSet
  simp only [own_at h.hb, Option.bind_some]
  rfl
theorem BagW.set2 (h : BagW S b c cs d m) (x : PV) : opSet (.loc b) (.int 2) x S = some (S.set b (.lst [.loc c, .int d, x])) := by
  unfold opSet
  simp only [own_at h.hb, Option.bind_some]
  rfl
theorem mapO_int (f : Nat) : ∀ cs : List Int, mapO (dat S f) (cs.map PV.int) = some (cs.map PyData.int)
  | [] => rfl
  | i :: r => by
    show mapO (dat S f) (.int i :: r.map PV.int) = _
    unfold mapO
    rw [show dat S f (.int i) = some (.int i) by cases f <;> rfl, mapO_int f r]
    rfl
theorem lay_ints : ∀ cs : List Int, PyData.canLayAll0 (cs.map PyData.int) = true
  | [] => rfl
  | i :: r => by
    show PyData.canLayAll0 (PyData.int i :: r.map PyData.int) = true
    simp only [PyData.canLayAll0, PyData.canLay0, Bool.true_and]
    exact lay_ints r
theorem depth_ints : ∀ cs : List Int, PyData.depthAll (cs.map PyData.int) = 0
  | [] => rfl
  | i :: r => by
    show PyData.depthAll (PyData.int i :: r.map PyData.int) = 0
    unfold PyData.depthAll
    rw [depth_ints r]
    rfl
theorem ne_nil {k : Nat} (h : S[c]? = some (.lst (cs.map PV.int))) (hk : S[k]? = some (.lst [])) : Rn (opNe (.loc c) (.loc k) S) Q ↔ Q (.bl (!cs.isEmpty)) S := by
  have h1 : dat S 66 (.loc c) = some (.list (cs.map PyData.int)) := by
    unfold dat
    simp only [h, mapO_int 65 cs, Option.map_some]
  have h2 : dat S 66 (.loc k) = some (.list []) := by
    unfold dat
    simp only [hk]
    rfl
  have s1 : SeqAt.shaped (.list (cs.map PyData.int)) = true := by
    unfold SeqAt.shaped
    simp only [PyData.canLay0, lay_ints, PyData.depth, depth_ints, Bool.true_and]
    rfl
  have e1 : PyData.eqv (.list (cs.map PyData.int)) (.list []) = cs.isEmpty := by
    cases cs <;> simp [PyData.eqv, PyData.eqvAll]
  unfold opNe eqD
  simp only [h1, h2, s1, e1, show SeqAt.shaped (.list []) = true from rfl, Bool.and_self, if_true, Option.map_some, rn_some]
theorem pop_ints {Q : PV → Sto → Prop} {x : Int} (h : S[c]? = some (.lst ((cs ++ [x]).map PV.int))) : Rn (mPop (.loc c) [] S) Q ↔ Q (.int x) (S.set c (.lst (cs.map PV.int))) := by
  unfold mPop
  simp only [own_at h, Option.bind_some]
  have e1 : ((cs ++ [x]).map PV.int)[((cs ++ [x]).map PV.int).length - 1]? = some (.int x) := by simp
  have e2 : ((cs ++ [x]).map PV.int).dropLast = cs.map PV.int := by simp
  rw [e1, e2]
  exact rn_some
theorem isTy_lst {n : Nat} {xs : List PV} (h : S[n]? = some (.lst xs)) : isTy "list" (.loc n) S = true := by
  unfold isTy tyN
  simp only [h]
  decide
end
@[simp] theorem rn_int_i {i : Int} {S : Sto} {Q : PV → Sto → Prop} : Rn (fInt [.int i] S) Q ↔ Q (.int i) S := rn_some
theorem rn_len {x : PV} {n : Nat} {S : Sto} {Q : PV → Sto → Prop} (h : lenOf x S = some n) : Rn (fLen [x] S) Q ↔ Q (.int n) S := by
  unfold fLen
  simp only [h, Option.map_some, rn_some]
end EV
namespace EV
open PySem PySem.Spec PyProof.Rows L2
/-! lists side by side -/
inductive All2 {α β : Type} (R : α → β → Prop) : List α → List β → Prop
  | nil : All2 R [] []
  | cons {x : α} {y : β} {xs : List α} {ys : List β} : R x y → All2 R xs ys → All2 R (x :: xs) (y :: ys)
theorem All2.len {α β : Type} {R : α → β → Prop} : ∀ {xs : List α} {ys : List β}, All2 R xs ys → ys.length = xs.length
  | _, _, .nil => rfl
  | _, _, .cons _ h => by simp [h.len]
theorem All2.snoc {α β : Type} {R : α → β → Prop} : ∀ {xs : List α} {ys : List β} {x : α} {y : β}, All2 R xs ys → R x y → All2 R (xs ++ [x]) (ys ++ [y])
  | _, _, _, _, .nil, h => .cons h .nil
  | _, _, _, _, .cons a r, h => .cons a (r.snoc h)
theorem All2.get {α β : Type} {R : α → β → Prop} : ∀ {xs : List α} {ys : List β} {i : Nat} {y : β}, All2 R xs ys → ys[i]? = some y → ∃ x, xs[i]? = some x ∧ R x y
  | _, _, _, _, .nil, h => by cases h
  | _, _, 0, _, .cons a _, h => ⟨_, rfl, by cases h; exact a⟩
  | _, _, i + 1, _, .cons _ r, h => r.get (i := i) h
theorem All2.mem {α β : Type} {R : α → β → Prop} : ∀ {xs : List α} {ys : List β} {y : β}, All2 R xs ys → y ∈ ys → ∃ x, x ∈ xs ∧ R x y
  | _, _, _, .nil, h => by cases h
  | _, _, _, .cons a r, h => by
    rcases List.mem_cons.mp h with e | e
    · subst e; exact ⟨_, List.mem_cons_self, a⟩
    · obtain ⟨x, hx, hr⟩ := r.mem e; exact ⟨x, List.mem_cons_of_mem _ hx, hr⟩
/-- values that all are ints of a kind -/
theorem ints_of {P : Int → Prop} : ∀ {ys : List PV}, (∀ y ∈ ys, ∃ k, y = .int k ∧ P k) → ∃ ns : List Int, ys = ns.map PV.int ∧ ∀ k ∈ ns, P k
  | [], _ => ⟨[], rfl, fun _ h => nomatch h⟩
  | y :: r, h => by
    obtain ⟨k, rfl, hk⟩ := h y List.mem_cons_self
    obtain ⟨ns, rfl, hn⟩ := ints_of (ys := r) fun z hz => h z (List.mem_cons_of_mem _ hz)
    exact ⟨k :: ns, rfl, fun z hz => by
      rcases List.mem_cons.mp hz with e | e
      · subst e; exact hk
      · exact hn z e⟩
/-! loops and comprehensions, from what is walked -/
section
variable {S : Sto} {e : Sl}
theorem rn_di {d : DI} {Q : WK → Sto → Prop} : Rn (d e S) Q ↔ ∃ w S1, d e S = some (w, S1) ∧ Q w S1 := Iff.rfl
@[simp] theorem rn_iSeq {d : DE} {Q : WK → Sto → Prop} : Rn (iSeq d e S) Q ↔ Rn (d e S) fun x S1 => ∃ w, wkOf x S1 = some w ∧ Q w S1 := by
  unfold iSeq
  rw [rn_bnd]
  constructor
  · exact fun h => h.mono fun x S1 ⟨z, S2, h, k⟩ => by
      obtain ⟨w, h1, h2⟩ := Option.map_eq_some_iff.mp h
      cases h2
      exact ⟨_, h1, k⟩
  · exact fun h => h.mono fun x S1 ⟨w, h, k⟩ => ⟨w, S1, by simp only [h, Option.map_some], k⟩
@[simp] theorem rn_iRng1 {d : DA} {Q : WK → Sto → Prop} : Rn (iRngOne d e S) Q ↔ Rn (d e S) fun xs S1 => ∃ j : Int, xs = [.int j] ∧ (-(2 ^ 62) ≤ j ∧ j < 2 ^ 62) ∧ Q (wR 0 j.toNat) S1 := by
  unfold iRngOne
  rw [rn_bnd]
  constructor
  · exact fun h => h.mono fun x S1 h => by
      split at h
      · obtain ⟨h1, h2⟩ := rn_g.mp h
        exact ⟨_, rfl, h1, rn_some.mp h2⟩
      · exact (rn_none.mp h).elim
  · exact fun h => h.mono fun x S1 ⟨j, e1, h1, h2⟩ => by
      subst e1
      exact rn_g.mpr ⟨h1, rn_some.mpr h2⟩
@[simp] theorem rn_iEnu {d : DA} {Q : WK → Sto → Prop} : Rn (iEnu d e S) Q ↔ Rn (d e S) fun xs S1 => ∃ x w, xs = [x] ∧ wkOf x S1 = some w ∧ Q (wE w) S1 := by
  unfold iEnu
  rw [rn_bnd]
  constructor
  · exact fun h => h.mono fun x S1 h => by
      split at h
      · obtain ⟨z, S2, h, k⟩ := h
        obtain ⟨w, h1, h2⟩ := Option.map_eq_some_iff.mp h
        cases h2
        exact ⟨_, w, rfl, h1, k⟩
      · exact (rn_none.mp h).elim
  · exact fun h => h.mono fun x S1 ⟨j, w, e1, h1, h2⟩ => by
      subst e1
      exact ⟨wE w, S1, by simp only [h1, Option.map_some], h2⟩
@[simp] theorem rn_iZp {d : DA} {Q : WK → Sto → Prop} : Rn (iZp d e S) Q ↔ Rn (d e S) fun xs S1 => ∃ x y w u, xs = [x, y] ∧ isTp x = isTp y ∧ wkOf x S1 = some w ∧ wkOf y S1 = some u ∧ Q (wZ w u) S1 := by
  unfold iZp
  rw [rn_bnd]
  constructor
  · exact fun h => h.mono fun x S1 h => by
      split at h
      · obtain ⟨h1, z, S2, h, k⟩ := rn_g.mp h
        obtain ⟨w, h2, h⟩ := Option.bind_eq_some_iff.mp h
        obtain ⟨u, h3, h4⟩ := Option.map_eq_some_iff.mp h
        cases h4
        exact ⟨_, _, w, u, rfl, h1, h2, h3, k⟩
      · exact (rn_none.mp h).elim
  · exact fun h => h.mono fun x S1 ⟨x, y, w, u, e1, h1, h2, h3, k⟩ => by
      subst e1
      exact rn_g.mpr ⟨h1, wZ w u, S1, by simp only [h2, h3, Option.bind_some, Option.map_some], k⟩
@[simp] theorem wk_tup {xs : List PV} : wkOf (.tup xs) S = some (wT xs) := rfl
theorem wk_loc {n : Nat} {xs : List PV} (h : S[n]? = some (.lst xs)) : wkOf (.loc n) S = some (wL n) := by unfold wkOf; simp only [h]
theorem wL_at {n : Nat} {xs : List PV} (h : S[n]? = some (.lst xs)) (i : Nat) : wL n i S = some xs[i]? := by unfold wL; simp only [h]
theorem wR_at {n : Nat} {lo : Int} (i : Nat) : wR lo n i S = some ((List.range n).map fun j : Nat => PV.int (lo + j))[i]? := by
  unfold wR
  by_cases h : i < n
  · rw [if_pos h, List.getElem?_map, List.getElem?_range h]; rfl
  · rw [if_neg h, List.getElem?_eq_none_iff.mpr (by simp; omega)]
def enuL (xs : List PV) : List PV := xs.mapIdx fun i x => .pr (.int (i : Nat)) x
theorem wE_at {w : WK} {xs : List PV} {i : Nat} (h : w i S = some xs[i]?) : wE w i S = some (enuL xs)[i]? := by
  unfold wE enuL
  rw [h, List.getElem?_mapIdx]
  cases xs[i]? <;> rfl
def zipL (xs ys : List PV) : List PV := List.zipWith (fun x y => PV.pr x y) xs ys
theorem wZ_at {w u : WK} {xs ys : List PV} {i : Nat} (h : w i S = some xs[i]?) (k : u i S = some ys[i]?) : wZ w u i S = some (zipL xs ys)[i]? := by
  unfold wZ zipL
  rw [h, k, List.getElem?_zipWith]
  cases xs[i]? <;> cases ys[i]? <;> rfl
theorem enu_get {xs : List PV} {i : Nat} {x : PV} (h : (enuL xs)[i]? = some x) : ∃ y, xs[i]? = some y ∧ x = .pr (.int (i : Nat)) y := by
  unfold enuL at h
  rw [List.getElem?_mapIdx] at h
  obtain ⟨y, h1, h2⟩ := Option.map_eq_some_iff.mp h
  exact ⟨y, h1, h2.symm⟩
theorem enu_mem {xs : List PV} {x : PV} (h : x ∈ enuL xs) : ∃ (i : Nat) (y : PV), xs[i]? = some y ∧ x = .pr (.int (i : Nat)) y := by
  obtain ⟨i, hi⟩ := List.getElem?_of_mem h
  obtain ⟨y, h1, h2⟩ := enu_get hi
  exact ⟨i, y, h1, h2⟩
theorem enu_len {xs : List PV} : (enuL xs).length = xs.length := by simp [enuL]
theorem for_rn {d : DI} {g : DG} {b : DS} {q : Out → Sl → Sto → Prop} (xs : List PV) (I : Nat → Sl → Sto → Prop) (hd : Rn (d e S) fun w S1 => I 0 e S1 ∧ ∀ i e S, I i e S → w i S = some xs[i]?)
    (st : ∀ i x e S, xs[i]? = some x → I i e S → ∃ as, g x = some as ∧ Rs (b (setP e as) S) fun o e2 S2 => match o with
      | .nx => I (i + 1) e2 S2
      | .ct => I (i + 1) e2 S2
      | .bk => q .nx e2 S2
      | .rt x => q (.rt x) e2 S2) (fin : ∀ e S, I xs.length e S → q .nx e S) : Rs (sFor d g b e S) q := by
  obtain ⟨w, S1, hd, h0, hw⟩ := hd
  exact for_rule xs I hd h0 (fun i e S _ h => hw i e S h) st fin
/-- a comprehension without an if: J stays, R ties each element to its place -/
theorem lc_map {d : DI} {g : DG} {el : DE} {vs : List Nat} {Q : PV → Sto → Prop} (xs : List PV) (R : PV → PV → Prop) (J : Sto → Prop) (hd : Rn (d e S) fun w S1 => J S1 ∧ ∀ i S, J S → w i S = some xs[i]?) (hl : xs.length ≤ 16777216)
    (st : ∀ x ∈ xs, ∀ S, J S → ∃ as, g x = some as ∧ (as.all fun p => vs.contains p.1) = true ∧ Rn (el (setP (wipeP e vs) as) S) fun y S3 => R x y ∧ J S3)
    (fin : ∀ ys S, All2 R xs ys → J S → Q (.loc S.length) (S ++ [.lst ys])) : Rn (eLc d g dYes el vs e S) Q := by
  obtain ⟨w, S1, hd, h0, hw⟩ := hd
  refine lc_rule xs (fun i acc S => All2 R (xs.take i) acc ∧ J S) hd ⟨.nil, h0⟩ (fun i acc S _ hI => hw i S hI.2) (fun i x acc S hx ⟨hA, hJ⟩ => ?_) (fun acc S ⟨hA, hJ⟩ => ?_)
  · obtain ⟨as, hg, hv, hr⟩ := st x (List.mem_of_getElem? hx) S hJ
    refine ⟨as, hg, hv, rn_dYes.mpr ⟨fun _ => hr.mono fun y S3 ⟨r, j⟩ => ⟨?_, j⟩, fun z => (nomatch z)⟩⟩
    rw [List.take_add_one, hx]
    exact hA.snoc r
  · rw [List.take_length] at hA
    exact ⟨by rw [hA.len]; exact hl, fin acc S hA hJ⟩
/-- a comprehension that only picks and maps -/
theorem lc_fm {d : DI} {g : DG} {t : DT} {el : DE} {vs : List Nat} {Q : PV → Sto → Prop} (xs : List PV) (S1 : Sto) (f : PV → Option PV) (hd : Rn (d e S) fun w S2 => S2 = S1 ∧ ∀ i, w i S1 = some xs[i]?) (hl : xs.length ≤ 16777216)
    (st : ∀ x ∈ xs, ∃ as, g x = some as ∧ (as.all fun p => vs.contains p.1) = true ∧ Rn (t (setP (wipeP e vs) as) S1) fun k S2 => S2 = S1 ∧ (k = true → Rn (el (setP (wipeP e vs) as) S1) fun y S3 => S3 = S1 ∧ f x = some y) ∧ (k = false → f x = none))
    (fin : Q (.loc S1.length) (S1 ++ [.lst (xs.filterMap f)])) : Rn (eLc d g t el vs e S) Q := by
  obtain ⟨w, S2, hd, rfl, hw⟩ := hd
  refine lc_rule xs (fun i acc S => acc = (xs.take i).filterMap f ∧ S = S2) hd ⟨rfl, rfl⟩ (fun i acc S _ hI => hI.2 ▸ hw i) (fun i x acc S hx ⟨hA, hJ⟩ => ?_) (fun acc S ⟨hA, hJ⟩ => ?_)
  · subst hJ
    obtain ⟨as, hg, hv, hr⟩ := st x (List.mem_of_getElem? hx)
    refine ⟨as, hg, hv, hr.mono fun k S2 ⟨e1, h1, h2⟩ => ?_⟩
    subst e1
    refine ⟨fun hk => (h1 hk).mono fun y S3 ⟨e2, h3⟩ => ⟨?_, e2⟩, fun hk => ⟨?_, rfl⟩⟩
    · rw [List.take_add_one, hx, hA, List.filterMap_append]
      simp [h3]
    · rw [List.take_add_one, hx, hA, List.filterMap_append]
      simp [h2 hk]
  · rw [List.take_length] at hA
    subst hA hJ
    exact ⟨Nat.le_trans (List.length_filterMap_le _ _) hl, fin⟩
end
/-! a sequence that the bag does not touch -/
def SeqIs (b c : Nat) (S : Sto) (x : PV) (xs : List PV) : Prop := x = .tup xs ∨ ∃ n, x = .loc n ∧ n ≠ b ∧ n ≠ c ∧ S[n]? = some (.lst xs)
section
variable {S S' : Sto} {b c : Nat} {x : PV} {xs : List PV} {Q : PV → Sto → Prop}
theorem SeqIs.ex (h : SeqIs b c S x xs) (k : Ex b c S S') : SeqIs b c S' x xs := by
  rcases h with h | ⟨n, e, hb, hc, h⟩
  · exact .inl h
  · exact .inr ⟨n, e, hb, hc, k.get h hb hc⟩
theorem SeqIs.len (h : SeqIs b c S x xs) : Rn (fLen [x] S) Q ↔ Q (.int xs.length) S := by
  refine rn_len ?_
  rcases h with rfl | ⟨n, rfl, hb, hc, h⟩
  · rfl
  · unfold lenOf seqOf
    simp only [lst_at h, Option.map_some]
theorem SeqIs.ix (h : SeqIs b c S x xs) {i : Int} {v : PV} (hv : ixP xs i = some v) : Rn (opIx x (.int i) S) Q ↔ Q v S := by
  rcases h with rfl | ⟨n, rfl, hb, hc, h⟩
  · exact ix_tup hv
  · exact ix_loc h hv
theorem new_ne {n : Nat} (h : BagAt S b c) (hn : S.length ≤ n) : n ≠ b ∧ n ≠ c := by
  obtain ⟨cs, d, m, h⟩ := h
  have := lt_of_get h.hb
  have := lt_of_get h.hc
  constructor <;> omega
theorem SeqIs.new (h : BagAt S b c) : SeqIs b c (S ++ [.lst xs]) (.loc S.length) xs :=
  .inr ⟨_, rfl, (new_ne h (Nat.le_refl _)).1, (new_ne h (Nat.le_refl _)).2, get_new⟩
theorem BagAt.setQ {q : Nat} {o : Ob} (h : BagAt S b c) (hb : q ≠ b) (hc : q ≠ c) : BagAt (S.set q o) b c := by
  obtain ⟨cs, d, m, h⟩ := h
  exact ⟨cs, d, m, by rw [List.getElem?_set_ne hb]; exact h.hb, by rw [List.getElem?_set_ne hc]; exact h.hc, h.ne, h.hd, h.hm, h.hm2⟩
theorem Ext.setQ {q : Nat} {o : Ob} (h : Ext b c S S') (hq : S.length ≤ q) (hb : q ≠ b) (hc : q ≠ c) : Ext b c S (S'.set q o) :=
  ⟨⟨by simpa using h.len, fun i hi hb' hc' => by rw [List.getElem?_set_ne (by omega)]; exact h.at_ i hi hb' hc'⟩, h.bag.setQ hb hc⟩
end
/-! what repr shows -/
def NzB : PV → Prop
  | .non => True
  | .bl _ => True
  | .int i => i.natAbs < 2 ^ 200
  | .str z => (reprText z).length ≤ 203
  | _ => False
/-- stores that agree but at P -/
structure ExP (P : Nat → Prop) (S S' : Sto) : Prop where
  len : S.length ≤ S'.length
  at_ : ∀ i, i < S.length → ¬ P i → S'[i]? = S[i]?
def SeqP (P : Nat → Prop) (S : Sto) (x : PV) (xs : List PV) : Prop := x = .tup xs ∨ ∃ n, x = .loc n ∧ ¬ P n ∧ S[n]? = some (.lst xs)
def Nz (P : Nat → Prop) (S : Sto) : List Nat → PV → Prop
  | [], x => NzB x
  | n :: ns, x => NzB x ∨ ∃ xs, SeqP P S x xs ∧ xs.length ≤ n ∧ ∀ y ∈ xs, Nz P S ns y
def Wt : List Nat → Nat
  | [] => 203
  | n :: ns => 204 + n * (Wt ns + 2)
section
variable {S S' S'' : Sto} {P P' : Nat → Prop} {x : PV} {xs : List PV}
theorem ExP.refl : ExP P S S := ⟨Nat.le_refl _, fun _ _ _ => rfl⟩
theorem ExP.trans (h : ExP P S S') (k : ExP P S' S'') : ExP P S S'' := ⟨Nat.le_trans h.len k.len, fun i hi hp => (k.at_ i (Nat.lt_of_lt_of_le hi h.len) hp).trans (h.at_ i hi hp)⟩
theorem ExP.app {T : Sto} : ExP P S (S ++ T) := ⟨by simp, fun i hi _ => List.getElem?_append_left hi⟩
theorem ExP.set {q : Nat} {o : Ob} (h : P q) : ExP P S (S.set q o) := ⟨by simp, fun i _ hp => by rw [List.getElem?_set_ne (fun z => hp (by rw [← z]; exact h))]⟩
theorem ExP.get (h : ExP P S S') {i : Nat} {o : Ob} (hs : S[i]? = some o) (hp : ¬ P i) : S'[i]? = some o := (h.at_ i (lt_of_get hs) hp).trans hs
theorem Ex.toP {b c : Nat} (h : Ex b c S S') (hb : P b) (hc : P c) : ExP P S S' := ⟨h.len, fun i hi hp => h.at_ i hi (fun z => hp (z ▸ hb)) (fun z => hp (z ▸ hc))⟩
theorem SeqP.ex (k : ExP P S S') (h : SeqP P S x xs) : SeqP P S' x xs := by
  rcases h with h | ⟨n, e, hp, h⟩
  · exact .inl h
  · exact .inr ⟨n, e, hp, k.get h hp⟩
theorem NzB.nz (h : NzB x) : ∀ ns, Nz P S ns x
  | [] => h
  | _ :: _ => .inl h
theorem Nz.ex (k : ExP P S S') : ∀ {ns : List Nat} {x : PV}, Nz P S ns x → Nz P S' ns x
  | [], _, h => h
  | _ :: _, _, .inl h => .inl h
  | _ :: _, _, .inr ⟨xs, hs, hl, h⟩ => .inr ⟨xs, hs.ex k, hl, fun y hy => (h y hy).ex k⟩
theorem Nz.sub (k : ∀ n, P' n → P n) : ∀ {ns : List Nat} {x : PV}, Nz P S ns x → Nz P' S ns x
  | [], _, h => h
  | _ :: _, _, .inl h => .inl h
  | _ :: _, _, .inr ⟨xs, hs, hl, h⟩ => .inr ⟨xs, hs.elim .inl fun ⟨n, e, hp, h⟩ => .inr ⟨n, e, fun z => hp (k n z), h⟩, hl, fun y hy => (h y hy).sub k⟩
theorem Nz.ty : ∀ {ns : List Nat}, Nz P S ns x → ∃ n, tyN x S = some n := by
  have base : NzB x → ∃ n, tyN x S = some n := fun h => by
    cases x with
    | loc _ => exact False.elim h
    | pr _ _ => exact False.elim h
    | _ => exact ⟨_, rfl⟩
  intro ns h
  cases ns with
  | nil => exact base h
  | cons n ns =>
    rcases h with h | ⟨xs, rfl | ⟨m, rfl, _, hm⟩, _⟩
    · exact base h
    · exact ⟨_, rfl⟩
    · exact ⟨"list", by unfold tyN; simp only [hm]⟩
theorem Nz.items {n : Nat} {ns : List Nat} (h : Nz P S (n :: ns) (.tup xs)) : xs.length ≤ n ∧ ∀ y ∈ xs, Nz P S ns y := by
  rcases h with h | ⟨ys, e | ⟨m, e, _⟩, hl, h⟩
  · exact False.elim h
  · cases e; exact ⟨hl, h⟩
  · cases e
theorem NzB.dat (h : NzB x) : ∃ d, (∀ S f, dat S f x = some d) ∧ d.showable = true ∧ d.hasDict = false ∧ d.depth = 0 ∧ d.shown.length ≤ 203 := by
  cases x with
  | non => exact ⟨.none, fun S f => by cases f <;> rfl, rfl, rfl, rfl, by decide⟩
  | bl v => exact ⟨.bool v, fun S f => by cases f <;> rfl, rfl, rfl, rfl, by cases v <;> decide⟩
  | int i =>
    have h : i.natAbs < 2 ^ 200 := h
    have hlog : i.natAbs.log2 < 200 := by
      by_cases z : i.natAbs = 0
      · rw [z]; decide
      · exact (Nat.log2_lt z).mpr h
    refine ⟨.int i, fun S f => by cases f <;> rfl, by simp only [PyData.showable]; exact decide_eq_true (by omega), rfl, rfl, ?_⟩
    have := int_text_length_le (a := i) (k := 200) (by decide) hlog
    show (Str.ofString (toString i)).length ≤ 203
    rw [PySem.ofString_length]
    omega
  | str z => exact ⟨.str z, fun S f => by cases f <;> rfl, rfl, rfl, rfl, by simp only [PyData.shown]; exact h⟩
  | _ => exact False.elim h
theorem Wt_ge : ∀ ns, 203 ≤ Wt ns
  | [] => Nat.le_refl _
  | n :: ns => by unfold Wt; omega
theorem text_len (ts : List Str) : (listText ts).length ≤ 2 + piled ts ∧ (tupleText ts).length ≤ 3 + piled ts := by
  constructor
  · cases ts with
    | nil => decide
    | cons t r =>
      unfold listText
      rw [strLen_append]
      have e : textFrom 0 "[" (t :: r) = textFrom 1 ((("[" : String) : Str) ++ (if 0 > 0 then ", " else "" : String) ++ t) r := rfl
      rw [e, textFrom_length_pos _ _ _ (by decide), strLen_append, strLen_append, piled_cons]
      have e1 : ((("[" : String) : Str)).length = 1 := rfl
      have e2 : ((("]" : String) : Str)).length = 1 := rfl
      have e3 : ((if 0 > 0 then ", " else "" : String) : Str).length = 0 := rfl
      rw [e1, e2, e3]
      omega
  · unfold tupleText
    rw [strLen_append, strLen_append]
    have e1 : ((("(" : String) : Str)).length = 1 := rfl
    have e3 : (((if ts.length == 1 then ",)" else ")" : String) : Str)).length ≤ 2 := by split <;> decide
    rw [e1]
    by_cases h : ts = []
    · subst h; simp only [piled_nil]; have : (Str.join ", " []).length = 0 := rfl; omega
    · have := join_length_add ts h; omega
theorem mapO_all {f : PV → Option PyData} {P : PyData → Prop} : ∀ {xs : List PV}, (∀ x ∈ xs, ∃ d, f x = some d ∧ P d) → ∃ ds, mapO f xs = some ds ∧ (∀ d ∈ ds, P d) ∧ ds.length = xs.length
  | [], _ => ⟨[], rfl, (fun _ h => by cases h), rfl⟩
  | x :: r, h => by
    obtain ⟨d, h1, p1⟩ := h x List.mem_cons_self
    obtain ⟨ds, h2, p2, l2⟩ := mapO_all (xs := r) fun z hz => h z (List.mem_cons_of_mem _ hz)
    refine ⟨d :: ds, by unfold mapO; rw [h1, h2], fun z hz => ?_, by simp [l2]⟩
    rcases List.mem_cons.mp hz with e | e
    · subst e; exact p1
    · exact p2 z e
def DOk (n m : Nat) (d : PyData) : Prop := d.showable = true ∧ d.hasDict = false ∧ d.depth ≤ n ∧ d.shown.length ≤ m
theorem all_ok {n m : Nat} : ∀ {ds : List PyData}, (∀ d ∈ ds, DOk n m d) → PyData.showableAll ds = true ∧ PyData.hasDictAll ds = false ∧ PyData.depthAll ds ≤ n ∧ piled (PyData.shownAll ds) ≤ ds.length * (m + 2)
  | [], _ => ⟨rfl, rfl, Nat.zero_le _, Nat.zero_le _⟩
  | d :: r, h => by
    obtain ⟨a1, a2, a3, a4⟩ := h d List.mem_cons_self
    obtain ⟨b1, b2, b3, b4⟩ := all_ok (ds := r) fun z hz => h z (List.mem_cons_of_mem _ hz)
    refine ⟨by simp only [PyData.showableAll, a1, b1, Bool.and_self], by simp only [PyData.hasDictAll, a2, b2, Bool.or_self], by simp only [PyData.depthAll]; omega, ?_⟩
    simp only [PyData.shownAll, piled_cons, List.length_cons]
    rw [Nat.succ_mul]
    omega
/-- its datum, the same in every store that grows from this one -/
theorem Nz.dat : ∀ {ns : List Nat} {x : PV}, Nz P S ns x → ∃ d, (∀ S' f, ExP P S S' → ns.length ≤ f → dat S' f x = some d) ∧ DOk ns.length (Wt ns) d := by
  intro ns
  induction ns with
  | nil =>
    intro x h
    obtain ⟨d, h1, h2, h3, h4, h5⟩ := NzB.dat h
    exact ⟨d, fun S' f _ _ => h1 S' f, h2, h3, by rw [h4]; exact Nat.zero_le _, h5⟩
  | cons n ns ih =>
    intro x h
    rcases h with h | ⟨xs, hs, hl, hy⟩
    · obtain ⟨d, h1, h2, h3, h4, h5⟩ := NzB.dat h
      exact ⟨d, fun S' f _ _ => h1 S' f, h2, h3, by rw [h4]; exact Nat.zero_le _, Nat.le_trans h5 (Wt_ge _)⟩
    · have hx : ∃ ds, (∀ S' f, ExP P S S' → ns.length ≤ f → mapO (EV.dat S' f) xs = some ds) ∧ (∀ d ∈ ds, DOk ns.length (Wt ns) d) ∧ ds.length = xs.length := by
        clear hs hl
        induction xs with
        | nil => exact ⟨[], fun _ _ _ _ => rfl, (fun _ h => by cases h), rfl⟩
        | cons x r ihr =>
          obtain ⟨d, h1, p1⟩ := ih (hy x List.mem_cons_self)
          obtain ⟨ds, h2, p2, l2⟩ := ihr fun z hz => hy z (List.mem_cons_of_mem _ hz)
          refine ⟨d :: ds, fun S' f k hf => by unfold mapO; rw [h1 S' f k hf, h2 S' f k hf], fun z hz => ?_, by simp [l2]⟩
          rcases List.mem_cons.mp hz with e | e
          · subst e; exact p1
          · exact p2 z e
      obtain ⟨ds, h1, h2, h3⟩ := hx
      obtain ⟨a1, a2, a3, a4⟩ := all_ok h2
      have bound : piled (PyData.shownAll ds) ≤ n * (Wt ns + 2) := Nat.le_trans a4 (Nat.mul_le_mul_right _ (by omega))
      obtain ⟨t1, t2⟩ := text_len (PyData.shownAll ds)
      rcases hs with rfl | ⟨k, rfl, hb, hk⟩
      · refine ⟨.tuple ds, fun S' f kx hf => ?_, by simp only [PyData.showable, a1], by simp only [PyData.hasDict, a2], by simp only [PyData.depth, List.length_cons]; omega, by simp only [PyData.shown]; unfold Wt; omega⟩
        cases f with
        | zero => simp at hf
        | succ f =>
          unfold EV.dat
          rw [h1 S' f kx (by simpa using hf)]
          rfl
      · refine ⟨.list ds, fun S' f kx hf => ?_, by simp only [PyData.showable, a1], by simp only [PyData.hasDict, a2], by simp only [PyData.depth, List.length_cons]; omega, by simp only [PyData.shown]; unfold Wt; omega⟩
        cases f with
        | zero => simp at hf
        | succ f =>
          unfold EV.dat
          rw [kx.get hk hb]
          simp only [h1 S' f kx (by simpa using hf), Option.map_some]
theorem repr_ok {ns : List Nat} (h : Nz P S ns x) (hd : isDisp x = true) (hn : ns.length ≤ 64) (hw : Wt ns ≤ 16777216) : ∃ t, ∀ S' {Q : PV → Sto → Prop}, ExP P S S' → (Rn (fRepr [x] S') Q ↔ Q (.str t) S') := by
  obtain ⟨d, h1, h2, h3, h4, h5⟩ := h.dat
  refine ⟨d.shown, fun S' Q k => ?_⟩
  unfold fRepr
  simp only [hd, if_true, h1 S' 66 k (by omega), Option.bind_some]
  unfold showD
  rw [if_pos (by simp only [h2, h3, Bool.not_false, Bool.true_and, Bool.and_self, Bool.and_eq_true, decide_eq_true_eq]; omega)]
  simp only [Option.map_some, rn_some]
end
end EV
namespace EV
open PySem PySem.Spec PyProof.Rows L2
section
variable {S : Sto} {q : Nat} {xs : List PV} {Q : PV → Sto → Prop}
theorem seq_at (h : S[q]? = some (.lst xs)) : seqOf (.loc q) S = some xs := by unfold seqOf; exact lst_at h
theorem rn_len_l (h : S[q]? = some (.lst xs)) : Rn (fLen [.loc q] S) Q ↔ Q (.int xs.length) S := rn_len (by
  show (seqOf (.loc q) S).map List.length = _
  rw [seq_at h]
  rfl)
theorem rn_len_t : Rn (fLen [.tup xs] S) Q ↔ Q (.int xs.length) S := rn_len rfl
theorem set_at {z : PV} {a : Int} (h : S[q]? = some (.lst xs)) (h0 : 0 ≤ a) (h1 : a.toNat < xs.length) : opSet (.loc q) (.int a) z S = some (S.set q (.lst (xs.set a.toNat z))) := by
  unfold opSet ixN
  simp only [own_at h, Option.bind_some]
  rw [if_pos h0, if_pos (by omega)]
  rfl
theorem rn_tuple {x : PV} (h : seqOf x S = some xs) : Rn (fTuple [x] S) Q ↔ Q (.tup xs) S := by
  unfold fTuple
  simp only [h, Option.map_some, rn_some]
theorem rn_list {x : PV} (h : seqOf x S = some xs) : Rn (fList [x] S) Q ↔ xs.length ≤ 16777216 ∧ Q (.loc S.length) (S ++ [.lst xs]) := by
  unfold fList
  simp only [h, Option.bind_some, rn_mkL]
theorem mapO_intL : ∀ ns : List Int, mapO intOf (ns.map PV.int) = some ns
  | [] => rfl
  | i :: r => by
    show mapO intOf (.int i :: r.map PV.int) = _
    unfold mapO
    rw [mapO_intL r]
    rfl
theorem mapO_blL : ∀ ns : List Bool, mapO blOf (ns.map PV.bl) = some ns
  | [] => rfl
  | i :: r => by
    show mapO blOf (.bl i :: r.map PV.bl) = _
    unfold mapO
    rw [mapO_blL r]
    rfl
theorem rn_sum {ns : List Int} (h : S[q]? = some (.lst (ns.map PV.int))) : Rn (fSum [.loc q] S) Q ↔ Q (.int ns.sum) S := by
  unfold fSum
  simp only [lst_at h, Option.bind_some, mapO_intL, Option.map_some, rn_some]
theorem rn_max {a : Int} {r : List Int} (h : S[q]? = some (.lst ((a :: r).map PV.int))) : Rn (fMax [.loc q] S) Q ↔ Q (.int (maxL a r)) S := by
  unfold fMax
  simp only [lst_at h, Option.bind_some, mapO_intL, rn_some]
theorem rn_all {bs : List Bool} (h : S[q]? = some (.lst (bs.map PV.bl))) : Rn (fAll [.loc q] S) Q ↔ Q (.bl (bs.all id)) S := by
  unfold fAll
  simp only [lst_at h, Option.bind_some, mapO_blL, Option.map_some, rn_some]
theorem rn_any {bs : List Bool} (h : S[q]? = some (.lst (bs.map PV.bl))) : Rn (fAny [.loc q] S) Q ↔ Q (.bl (bs.any id)) S := by
  unfold fAny
  simp only [lst_at h, Option.bind_some, mapO_blL, Option.map_some, rn_some]
theorem rn_append {y : PV} (h : S[q]? = some (.lst xs)) : Rn (mAppend (.loc q) [y] S) Q ↔ xs.length < 16777216 ∧ Q .non (S.set q (.lst (xs ++ [y]))) := by
  unfold mAppend
  simp only [own_at h, Option.bind_some, rn_g, rn_some]
theorem rn_mul_t {k : Int} (h : 0 ≤ k) (h1 : k < 1000) (h2 : xs.length ≤ 1000) : Rn (opMul (.tup xs) (.int k) S) Q ↔ Q (.tup (List.replicate k.toNat xs).flatten) S := by
  unfold opMul
  have h3 : xs.length * k.toNat ≤ 1000 * 1000 := Nat.mul_le_mul h2 (by omega)
  rw [rn_g, rn_some]
  exact ⟨fun z => z.2, fun z => ⟨⟨by omega, by omega, by omega⟩, z⟩⟩
theorem rn_mul_s {k : Int} {z : Str} (h : 0 ≤ k) (h1 : k < 1000) (h2 : z.length ≤ 1000) : Rn (opMul (.str z) (.int k) S) Q ↔ Q (.str (Txt.mul z k)) S := by
  unfold opMul
  have h3 : z.length * k.toNat ≤ 1000 * 1000 := Nat.mul_le_mul h2 (by omega)
  rw [rn_g, rn_some]
  exact ⟨fun z => z.2, fun z => ⟨⟨by omega, by omega, by omega⟩, z⟩⟩
theorem rn_add_l {n m : Nat} {a b : List PV} (h : S[n]? = some (.lst a)) (k : S[m]? = some (.lst b)) : Rn (opAdd (.loc n) (.loc m) S) Q ↔ (a ++ b).length ≤ 16777216 ∧ Q (.loc S.length) (S ++ [.lst (a ++ b)]) := by
  unfold opAdd
  simp only [h, k, rn_mkL]
theorem rn_sl_l {lo hi : Option Int} (h : S[q]? = some (.lst xs)) (hl : xs.length ≤ 16777216) : Rn (opSl (.loc q) lo hi S) Q ↔ Q (.loc S.length) (S ++ [.lst (cutP xs lo hi)]) := by
  unfold opSl
  simp only [lst_at h, Option.bind_some]
  rw [rn_g, rn_some]
  exact ⟨fun z => z.2, fun z => ⟨hl, z⟩⟩
theorem rn_sl_f {ns : List Int} {lo hi : Option Int} (hl : ns.length ≤ 16777216) : Rn (opSl (.fl ns) lo hi S) Q ↔ Q (.loc S.length) (S ++ [.lst (cutP (ns.map PV.int) lo hi)]) := by
  unfold opSl lstOf
  simp only [Option.bind_some]
  rw [rn_g, rn_some]
  exact ⟨fun z => z.2, fun z => ⟨by simpa using hl, z⟩⟩
end
@[simp] theorem rn_abs_i {i : Int} {S : Sto} {Q : PV → Sto → Prop} : Rn (fAbs [.int i] S) Q ↔ Q (.int (if i < 0 then -i else i)) S := rn_some
theorem cut_init {xs : List PV} : cutP xs none (some (-1)) = xs.dropLast := by
  unfold cutP
  rw [HT.sIx_none]
  have e : HT.sIx xs.length xs.length (some (-1)) = xs.length - 1 := by
    unfold HT.sIx
    first
      | (simp only []; omega)
      | (split <;> omega)
      | (simp; omega)
  rw [e]
  simp [List.dropLast_eq_take]
theorem cut_fromI {xs : List PV} {i : Int} (h : 0 ≤ i) : cutP xs (some i) none = xs.drop i.toNat := by
  have := cut_from (xs := xs) i.toNat
  rwa [Int.toNat_of_nonneg h] at this
theorem cut_toI {xs : List PV} {i : Int} (h : 0 ≤ i) : cutP xs none (some i) = xs.take i.toNat := by
  have := cut_to (xs := xs) i.toNat
  rwa [Int.toNat_of_nonneg h] at this
theorem isi_NoneType_bool : isiB "NoneType" "bool" = false := by decide
theorem isi_NoneType_int : isiB "NoneType" "int" = false := by decide
theorem isi_NoneType_str : isiB "NoneType" "str" = false := by decide
theorem isi_NoneType_tuple : isiB "NoneType" "tuple" = false := by decide
theorem isi_NoneType_list : isiB "NoneType" "list" = false := by decide
theorem isi_NoneType_dict : isiB "NoneType" "dict" = false := by decide
theorem isi_bool_bool : isiB "bool" "bool" = true := by decide
theorem isi_bool_int : isiB "bool" "int" = true := by decide
theorem isi_bool_str : isiB "bool" "str" = false := by decide
theorem isi_bool_tuple : isiB "bool" "tuple" = false := by decide
theorem isi_bool_list : isiB "bool" "list" = false := by decide
theorem isi_bool_dict : isiB "bool" "dict" = false := by decide
theorem isi_int_bool : isiB "int" "bool" = false := by decide
theorem isi_int_int : isiB "int" "int" = true := by decide
theorem isi_int_str : isiB "int" "str" = false := by decide
theorem isi_int_tuple : isiB "int" "tuple" = false := by decide
theorem isi_int_list : isiB "int" "list" = false := by decide
theorem isi_int_dict : isiB "int" "dict" = false := by decide
theorem isi_str_bool : isiB "str" "bool" = false := by decide
theorem isi_str_int : isiB "str" "int" = false := by decide
theorem isi_str_str : isiB "str" "str" = true := by decide
theorem isi_str_tuple : isiB "str" "tuple" = false := by decide
theorem isi_str_list : isiB "str" "list" = false := by decide
theorem isi_str_dict : isiB "str" "dict" = false := by decide
theorem isi_tuple_bool : isiB "tuple" "bool" = false := by decide
theorem isi_tuple_int : isiB "tuple" "int" = false := by decide
theorem isi_tuple_str : isiB "tuple" "str" = false := by decide
theorem isi_tuple_tuple : isiB "tuple" "tuple" = true := by decide
theorem isi_tuple_list : isiB "tuple" "list" = false := by decide
theorem isi_tuple_dict : isiB "tuple" "dict" = false := by decide
theorem isi_list_bool : isiB "list" "bool" = false := by decide
theorem isi_list_int : isiB "list" "int" = false := by decide
theorem isi_list_str : isiB "list" "str" = false := by decide
theorem isi_list_tuple : isiB "list" "tuple" = false := by decide
theorem isi_list_list : isiB "list" "list" = true := by decide
theorem isi_list_dict : isiB "list" "dict" = false := by decide
theorem isi_dict_bool : isiB "dict" "bool" = false := by decide
theorem isi_dict_int : isiB "dict" "int" = false := by decide
theorem isi_dict_str : isiB "dict" "str" = false := by decide
theorem isi_dict_tuple : isiB "dict" "tuple" = false := by decide
theorem isi_dict_list : isiB "dict" "list" = false := by decide
theorem isi_dict_dict : isiB "dict" "dict" = true := by decide
section
variable {S : Sto} {e : Sl} {Q : PV → Sto → Prop} {T : String} {a : DE}
theorem ty_non : tyN .non S = some "NoneType" := rfl
theorem ty_bl {v : Bool} : tyN (.bl v) S = some "bool" := rfl
theorem ty_int {i : Int} : tyN (.int i) S = some "int" := rfl
theorem ty_str {z : Str} : tyN (.str z) S = some "str" := rfl
theorem ty_tup {xs : List PV} : tyN (.tup xs) S = some "tuple" := rfl
theorem ty_fl {xs : List Int} : tyN (.fl xs) S = some "list" := rfl
theorem ty_lst {q : Nat} {xs : List PV} (h : S[q]? = some (.lst xs)) : tyN (.loc q) S = some "list" := by unfold tyN; simp only [h]
end
theorem All2.map_eq {α β : Type} {f : α → β} : ∀ {xs : List α} {ys : List β}, All2 (fun x y => y = f x) xs ys → ys = xs.map f
  | _, _, .nil => rfl
  | _, _, .cons h r => by rw [h, r.map_eq]; rfl
end EV
namespace EV
open PySem PySem.Spec PyProof.Rows L2
/-! what repr shows, measured by a sum; dicts of one text key among it -/
def shB (n : Nat) : PV → Prop
  | .non => 4 ≤ n
  | .bl _ => 5 ≤ n
  | .int i => i.natAbs.log2 < 1920 ∧ (toString i).length ≤ n
  | .str z => (reprText z).length ≤ n
  | _ => False
def tot (ns : List Nat) : Nat := (ns.map (· + 2)).sum
def Nv (P : Nat → Prop) (S : Sto) : Nat → Nat → PV → Prop
  | 0, n, x => shB n x
  | d + 1, n, x => shB n x ∨ (∃ xs ns, SeqP P S x xs ∧ All2 (fun y m => Nv P S d m y) xs ns ∧ tot ns + 3 ≤ n) ∨
      ∃ (m : Nat) (z : Str) (v : PV) (nv : Nat), x = .loc m ∧ ¬ P m ∧ S[m]? = some (.dic [(.inr z, v)]) ∧ Nv P S d nv v ∧ (reprText z).length + nv + 4 ≤ n
def Rw (P : Nat → Prop) (S : Sto) (d n : Nat) (xs : List PV) : Prop := ∃ ns, All2 (fun y m => Nv P S d m y) xs ns ∧ tot ns ≤ n
section
variable {P P' : Nat → Prop} {S S' : Sto} {d n m : Nat} {x : PV} {xs ys : List PV}
theorem shB.mono (h : shB n x) (k : n ≤ m) : shB m x := by
  cases x with
  | non => exact Nat.le_trans h k
  | bl _ => exact Nat.le_trans h k
  | int i => exact ⟨h.1, Nat.le_trans h.2 k⟩
  | str z => exact Nat.le_trans h k
  | _ => exact h
theorem shB.nv (h : shB n x) : ∀ d, Nv P S d n x
  | 0 => h
  | _ + 1 => .inl h
theorem Nv.mono (h : Nv P S d n x) (k : n ≤ m) : Nv P S d m x := by
  cases d with
  | zero => exact shB.mono h k
  | succ d =>
    rcases h with h | ⟨xs, ns, h1, h2, h3⟩ | ⟨q, z, v, nv, h1, h2, h3, h4, h5⟩
    · exact .inl (h.mono k)
    · exact .inr (.inl ⟨xs, ns, h1, h2, by omega⟩)
    · exact .inr (.inr ⟨q, z, v, nv, h1, h2, h3, h4, by omega⟩)
theorem All2.imp {α β : Type} {R R' : α → β → Prop} (k : ∀ x y, R x y → R' x y) : ∀ {xs : List α} {ys : List β}, All2 R xs ys → All2 R' xs ys
  | _, _, .nil => .nil
  | _, _, .cons h r => .cons (k _ _ h) (r.imp k)
theorem Nv.up : ∀ {d : Nat} {n : Nat} {x : PV}, Nv P S d n x → Nv P S (d + 1) n x := by
  intro d
  induction d with
  | zero => intro n x h; exact .inl h
  | succ d ih =>
    intro n x h
    rcases h with h | ⟨xs, ns, h1, h2, h3⟩ | ⟨q, z, v, nv, h1, h2, h3, h4, h5⟩
    · exact .inl h
    · exact .inr (.inl ⟨xs, ns, h1, h2.imp fun _ _ h => ih h, h3⟩)
    · exact .inr (.inr ⟨q, z, v, nv, h1, h2, h3, ih h4, h5⟩)
theorem Nv.ex (k : ExP P S S') : ∀ {d : Nat} {n : Nat} {x : PV}, Nv P S d n x → Nv P S' d n x := by
  intro d
  induction d with
  | zero => intro n x h; exact h
  | succ d ih =>
    intro n x h
    rcases h with h | ⟨xs, ns, h1, h2, h3⟩ | ⟨q, z, v, nv, h1, h2, h3, h4, h5⟩
    · exact .inl h
    · exact .inr (.inl ⟨xs, ns, h1.ex k, h2.imp fun _ _ h => ih h, h3⟩)
    · exact .inr (.inr ⟨q, z, v, nv, h1, h2, k.get h3 h2, ih h4, h5⟩)
theorem Nv.ty (h : Nv P S d n x) : ∃ t, tyN x S = some t := by
  have base : shB n x → ∃ t, tyN x S = some t := fun h => by
    cases x with
    | loc _ => exact False.elim h
    | pr _ _ => exact False.elim h
    | _ => exact ⟨_, rfl⟩
  cases d with
  | zero => exact base h
  | succ d =>
    rcases h with h | ⟨xs, ns, rfl | ⟨m, rfl, _, hm⟩, _⟩ | ⟨q, z, v, nv, rfl, h2, h3, _⟩
    · exact base h
    · exact ⟨_, rfl⟩
    · exact ⟨"list", ty_lst hm⟩
    · exact ⟨"dict", by unfold tyN; simp only [h3]⟩
theorem Nv.row (h : Nv P S (d + 1) n (.tup xs)) : Rw P S d n xs := by
  rcases h with h | ⟨ys, ns, e | ⟨m, e, _⟩, h2, h3⟩ | ⟨q, z, v, nv, e, _⟩
  · exact False.elim h
  · cases e
    exact ⟨ns, h2, by omega⟩
  · cases e
  · cases e
theorem Rw.tup (h : Rw P S d n xs) (k : n + 3 ≤ m) : Nv P S (d + 1) m (.tup xs) := let ⟨ns, h1, h2⟩ := h; .inr (.inl ⟨xs, ns, .inl rfl, h1, by omega⟩)
theorem Rw.lst {q : Nat} (h : Rw P S d n xs) (hq : ¬ P q) (hS : S[q]? = some (.lst xs)) (k : n + 3 ≤ m) : Nv P S (d + 1) m (.loc q) := let ⟨ns, h1, h2⟩ := h; .inr (.inl ⟨xs, ns, .inr ⟨q, rfl, hq, hS⟩, h1, by omega⟩)
theorem Rw.mono (h : Rw P S d n xs) (k : n ≤ m) : Rw P S d m xs := let ⟨ns, h1, h2⟩ := h; ⟨ns, h1, Nat.le_trans h2 k⟩
theorem Rw.ex (k : ExP P S S') (h : Rw P S d n xs) : Rw P S' d n xs := let ⟨ns, h1, h2⟩ := h; ⟨ns, h1.imp fun _ _ h => h.ex k, h2⟩
theorem Rw.up (h : Rw P S d n xs) : Rw P S (d + 1) n xs := let ⟨ns, h1, h2⟩ := h; ⟨ns, h1.imp fun _ _ h => h.up, h2⟩
theorem Rw.nil : Rw P S d n [] := ⟨[], .nil, Nat.zero_le _⟩
theorem tot_cons (a : Nat) (r : List Nat) : tot (a :: r) = (a + 2) + tot r := rfl
theorem tot_append (a b : List Nat) : tot (a ++ b) = tot a + tot b := by simp [tot]
theorem Rw.cons (h : Nv P S d n x) (r : Rw P S d m xs) {k : Nat} (e : n + 2 + m ≤ k) : Rw P S d k (x :: xs) := let ⟨ns, h1, h2⟩ := r; ⟨n :: ns, .cons h h1, by rw [tot_cons]; omega⟩
theorem All2.append {α β : Type} {R : α → β → Prop} : ∀ {xs xs' : List α} {ys ys' : List β}, All2 R xs ys → All2 R xs' ys' → All2 R (xs ++ xs') (ys ++ ys')
  | _, _, _, _, .nil, h => h
  | _, _, _, _, .cons a r, h => .cons a (r.append h)
theorem Rw.append (h : Rw P S d n xs) (r : Rw P S d m ys) {k : Nat} (e : n + m ≤ k) : Rw P S d k (xs ++ ys) := let ⟨ns, h1, h2⟩ := h; let ⟨ms, r1, r2⟩ := r; ⟨ns ++ ms, h1.append r1, by rw [tot_append]; omega⟩
theorem Rw.split : ∀ {xs ys : List PV} {n : Nat}, Rw P S d n (xs ++ ys) → Rw P S d n xs ∧ Rw P S d n ys
  | [], ys, n, h => ⟨Rw.nil, h⟩
  | x :: xs, ys, n, ⟨ns, h1, h2⟩ => by
    cases h1 with
    | @cons _ a _ as h r =>
      rw [tot_cons] at h2
      obtain ⟨p, q⟩ := Rw.split (n := n - (a + 2)) ⟨as, r, by omega⟩
      exact ⟨p.cons h (by omega), q.mono (by omega)⟩
theorem Rw.take (h : Rw P S d n xs) (k : Nat) : Rw P S d n (xs.take k) := (Rw.split (ys := xs.drop k) (by rw [List.take_append_drop]; exact h)).1
theorem Rw.drop (h : Rw P S d n xs) (k : Nat) : Rw P S d n (xs.drop k) := (Rw.split (xs := xs.take k) (by rw [List.take_append_drop]; exact h)).2
theorem Rw.mem (h : Rw P S d n xs) (hx : x ∈ xs) : Nv P S d n x := by
  obtain ⟨as, bs, rfl⟩ := List.append_of_mem hx
  obtain ⟨ns, h1, h2⟩ := (Rw.split h).2
  cases h1 with
  | cons h r => rw [tot_cons] at h2; exact h.mono (by omega)
theorem Rw.rep (k : Nat) (h : Nv P S d n x) : Rw P S d (k * (n + 2)) (List.replicate k x) := by
  induction k with
  | zero => exact Rw.nil
  | succ k ih =>
    rw [List.replicate_succ]
    exact Rw.cons h ih (by rw [Nat.succ_mul]; omega)
theorem Rw.all (c : Nat) : ∀ {xs : List PV}, (∀ y ∈ xs, Nv P S d c y) → Rw P S d (xs.length * (c + 2)) xs
  | [], _ => Rw.nil
  | x :: r, h => Rw.cons (h x List.mem_cons_self) (Rw.all c fun y hy => h y (List.mem_cons_of_mem _ hy)) (by rw [List.length_cons, Nat.succ_mul]; omega)
theorem sh_int {i : Int} {k : Nat} (hk : 0 < k) (hk2 : k ≤ 500) (h : i.natAbs < 10 ^ k) : shB (k + 1) (.int i) := by
  refine ⟨?_, int_text_length_le10 hk h⟩
  by_cases z : i.natAbs = 0
  · rw [z]; decide
  · rw [Nat.log2_lt z]
    refine Nat.lt_of_lt_of_le h ?_
    refine Nat.le_trans (Nat.pow_le_pow_right (by decide) hk2) ?_
    exact Nat.le_of_ble_eq_true (by decide +kernel)
theorem keyD_shown (z : Str) : (keyD (.inr z)).shown = reprText z := by simp only [keyD, PyData.shown]
theorem dict_len (p : Str) : (dictText [p]).length ≤ p.length + 2 := by
  have e : dictText [p] = ("{" : Str) ++ p ++ "}" := by
    first
      | rfl
      | simp [dictText]
  rw [e, strLen_append, strLen_append]
  have e1 : ((("{" : String) : Str)).length = 1 := rfl
  have e2 : ((("}" : String) : Str)).length = 1 := rfl
  omega
def DOn (n m : Nat) (d : PyData) : Prop := d.showable = true ∧ d.depth ≤ n ∧ d.shown.length ≤ m
theorem all_on {n : Nat} : ∀ {ds : List PyData} {ms : List Nat}, All2 (fun d m => DOn n m d) ds ms → PyData.showableAll ds = true ∧ PyData.depthAll ds ≤ n ∧ piled (PyData.shownAll ds) ≤ tot ms
  | _, _, .nil => ⟨rfl, Nat.zero_le _, Nat.zero_le _⟩
  | _, _, .cons (ys := ms) h r => by
    obtain ⟨a1, a3, a4⟩ := h
    obtain ⟨b1, b3, b4⟩ := all_on r
    refine ⟨by simp only [PyData.showableAll, a1, b1, Bool.and_self], by simp only [PyData.depthAll]; omega, ?_⟩
    simp only [PyData.shownAll, piled_cons, tot_cons]
    omega
theorem shB.dat (h : shB n x) : ∃ e, (∀ S f, datD S f x = some e) ∧ DOn 0 n e := by
  cases x with
  | non => exact ⟨.none, fun S f => by cases f <;> rfl, rfl, Nat.le_refl _, h⟩
  | bl v => exact ⟨.bool v, fun S f => by cases f <;> rfl, rfl, Nat.le_refl _, Nat.le_trans (by cases v <;> decide) h⟩
  | int i =>
    refine ⟨.int i, fun S f => by cases f <;> rfl, by simp only [PyData.showable]; exact decide_eq_true h.1, Nat.le_refl _, ?_⟩
    show (Str.ofString (toString i)).length ≤ n
    rw [PySem.ofString_length]
    exact h.2
  | str z => exact ⟨.str z, fun S f => by cases f <;> rfl, rfl, Nat.le_refl _, by simp only [PyData.shown]; exact h⟩
  | _ => exact False.elim h
theorem Nv.dat : ∀ {d : Nat} {n : Nat} {x : PV}, Nv P S d n x → ∃ e, (∀ S' f, ExP P S S' → d ≤ f → datD S' f x = some e) ∧ DOn d n e := by
  intro d
  induction d with
  | zero =>
    intro n x h
    obtain ⟨e, h1, h2⟩ := shB.dat h
    exact ⟨e, fun S' f _ _ => h1 S' f, h2⟩
  | succ d ih =>
    intro n x h
    rcases h with h | ⟨xs, ns, hs, ha, hn⟩ | ⟨q, z, v, nv, rfl, h2, h3, h4, h5⟩
    · obtain ⟨e, h1, h2, h3, h4⟩ := shB.dat h
      exact ⟨e, fun S' f _ _ => h1 S' f, h2, by omega, h4⟩
    · have hx : ∀ {xs : List PV} {ns : List Nat}, All2 (fun y m => Nv P S d m y) xs ns → ∃ ds, (∀ S' f, ExP P S S' → d ≤ f → mapO (datD S' f) xs = some ds) ∧ All2 (fun e m => DOn d m e) ds ns := by
        intro xs ns ha
        induction ha with
        | nil => exact ⟨[], fun _ _ _ _ => rfl, .nil⟩
        | cons h r ihr =>
          obtain ⟨e, e1, e2⟩ := ih h
          obtain ⟨ds, f1, f2⟩ := ihr
          exact ⟨e :: ds, fun S' f k hf => by unfold mapO; rw [e1 S' f k hf, f1 S' f k hf], .cons e2 f2⟩
      obtain ⟨ds, h1, h2⟩ := hx ha
      obtain ⟨a1, a3, a4⟩ := all_on h2
      obtain ⟨t1, t2⟩ := text_len (PyData.shownAll ds)
      rcases hs with rfl | ⟨k, rfl, hb, hk⟩
      · refine ⟨.tuple ds, fun S' f kx hf => ?_, by simp only [PyData.showable, a1], by simp only [PyData.depth]; omega, by simp only [PyData.shown]; omega⟩
        cases f with
        | zero => simp at hf
        | succ f =>
          unfold datD
          rw [h1 S' f kx (by omega)]
          rfl
      · refine ⟨.list ds, fun S' f kx hf => ?_, by simp only [PyData.showable, a1], by simp only [PyData.depth]; omega, by simp only [PyData.shown]; omega⟩
        cases f with
        | zero => simp at hf
        | succ f =>
          unfold datD
          rw [kx.get hk hb]
          simp only [h1 S' f kx (by omega), Option.map_some]
    · obtain ⟨e, e1, e2, e3, e4⟩ := ih h4
      refine ⟨.dict [(keyD (.inr z), e)], fun S' f kx hf => ?_, by simp only [PyData.showable, PyData.showableKv, e2, keyD, Bool.and_self], by simp only [PyData.depth, PyData.depthKv, keyD]; omega, ?_⟩
      · cases f with
        | zero => simp at hf
        | succ f =>
          unfold datD
          rw [kx.get h3 h2]
          simp only [List.map_cons, List.map_nil, mapO, e1 S' f kx (by omega), Option.map_some]
          rfl
      · simp only [PyData.shown, PyData.shownKv]
        refine Nat.le_trans (dict_len _) ?_
        rw [strLen_append, strLen_append, keyD_shown]
        have e1 : (((": " : String) : Str)).length = 2 := rfl
        omega
theorem reprD_ok (h : Nv P S d n x) (hd : d ≤ 64) (hn : n ≤ 16777216) : ∃ t, ∀ S' {Q : PV → Sto → Prop}, ExP P S S' → (Rn (fReprD [x] S') Q ↔ Q (.str t) S') := by
  obtain ⟨e, h1, h2, h3, h4⟩ := h.dat
  refine ⟨e.shown, fun S' Q k => ?_⟩
  unfold fReprD
  simp only [h1 S' 66 k (by omega), Option.bind_some]
  unfold showE
  rw [if_pos (by simp only [h2, Bool.true_and, Bool.and_eq_true, decide_eq_true_eq]; omega)]
  simp only [Option.map_some, rn_some]
end
@[simp] theorem rs_asg {d : DE} {g : DG} {e : Sl} {S : Sto} {q : Out → Sl → Sto → Prop} : Rs (sAsg d g e S) q ↔ Rn (d e S) fun x S1 => ∃ as, g x = some as ∧ q .nx (setP e as) S1 := by
  unfold sAsg
  rw [rs_bnd]
  constructor
  · exact fun h => h.mono fun x S1 h => by
      unfold sto1 at h
      cases hg : g x with
      | none => simp only [hg] at h; exact (rs_none.mp h).elim
      | some as => simp only [hg] at h; exact ⟨as, rfl, rs_some.mp h⟩
  · exact fun h => h.mono fun x S1 ⟨as, h1, h2⟩ => by
      unfold sto1
      simp only [h1]
      exact rs_some.mpr h2
@[simp] theorem rs_par3 {i j l : Nat} {d : DA} {e : Sl} {S : Sto} {q : Out → Sl → Sto → Prop} : Rs (sPar3 i j l d e S) q ↔ Rn (d e S) fun xs S1 => ∃ x y z, xs = [x, y, z] ∧ q .nx (((e.set i (some x)).set j (some y)).set l (some z)) S1 := by
  unfold sPar3
  rw [rs_bnd]
  constructor
  · exact fun h => h.mono fun xs S1 h => by
      split at h
      · exact ⟨_, _, _, rfl, rs_some.mp h⟩
      · exact (rs_none.mp h).elim
  · exact fun h => h.mono fun xs S1 ⟨x, y, z, e1, h⟩ => by
      subst e1
      exact rs_some.mpr h
theorem All2.two {α β : Type} {R : α → β → Prop} : ∀ {xs : List α} {ys : List β}, All2 R xs ys → ys.length = xs.length := All2.len
theorem Rw.len {P : Nat → Prop} {S : Sto} {d n : Nat} {xs : List PV} (h : Rw P S d n xs) : 2 * xs.length ≤ n := by
  obtain ⟨ns, h1, h2⟩ := h
  have h3 := h1.len
  have : ∀ ms : List Nat, 2 * ms.length ≤ tot ms := by
    intro ms
    induction ms with
    | nil => exact Nat.le_refl _
    | cons a r ih => rw [tot_cons, List.length_cons]; omega
  have := this ns
  omega
end EV
namespace EV
open PySem PySem.Spec PyProof.Rows L2
/-! what repr shows, measured by a sum; dicts of any keys among it -/
def kOk : Key → Bool
  | .inl i => decide (i.natAbs.log2 < 1920)
  | .inr _ => true
def keyT (kvs : List (Key × PV)) : Nat := (kvs.map fun p => (keyD p.1).shown.length + 2).sum
theorem dict_text (ps : List Str) : (dictText ps).length ≤ piled ps + 2 := by
  have e : (dictText ps).length = 1 + (Str.join ", " ps).length + 1 := by
    unfold dictText
    rw [strLen_append, strLen_append]; rfl
  by_cases h : ps = []
  · subst h; simp [piled] at *; rw [e]; decide
  · have h2 := join_length_add ps h
    omega
theorem kv_on {n : Nat} : ∀ (kvs : List (Key × PV)) {ds : List PyData} {ms : List Nat}, All2 (fun d m => DOn n m d) ds ms → kvs.all (fun p => kOk p.1) = true → ds.length = kvs.length →
    PyData.showableKv ((kvs.map fun p => keyD p.1).zip ds) = true ∧ PyData.depthKv ((kvs.map fun p => keyD p.1).zip ds) ≤ n ∧ piled (PyData.shownKv ((kvs.map fun p => keyD p.1).zip ds)) ≤ keyT kvs + tot ms
  | [], _, _, .nil, _, _ => ⟨by simp [PyData.showableKv], by simp [PyData.depthKv], by simp [PyData.shownKv, piled]⟩
  | [], _, _, .cons _ _, _, h => by cases h
  | _ :: _, _, _, .nil, _, h => by cases h
  | p :: r, _, _, .cons (ys := ms) h hr, hk, hl => by
    obtain ⟨a1, a3, a4⟩ := h
    rw [List.all_cons, Bool.and_eq_true] at hk
    obtain ⟨b1, b3, b4⟩ := kv_on r hr hk.2 (Nat.succ.inj hl)
    have k1 : (keyD p.1).showable = true ∧ (keyD p.1).depth = 0 := by
      have := hk.1
      cases e : p.1 with
      | inl i => rw [e] at this; exact ⟨by simp only [keyD, PyData.showable]; exact this, by simp only [keyD, PyData.depth]⟩
      | inr z => exact ⟨by simp only [keyD, PyData.showable], by simp only [keyD, PyData.depth]⟩
    have e2 : (((": " : String) : Str)).length = 2 := rfl
    refine ⟨by simp only [List.map_cons, List.zip_cons_cons, PyData.showableKv, k1.1, a1, b1, Bool.and_self], by simp only [List.map_cons, List.zip_cons_cons, PyData.depthKv]; omega, ?_⟩
    simp only [List.map_cons, List.zip_cons_cons, PyData.shownKv, piled_cons, tot_cons, strLen_append, keyT, List.sum_cons]
    unfold keyT at b4
    omega
def Nd (P : Nat → Prop) (S : Sto) : Nat → Nat → PV → Prop
  | 0, n, x => shB n x
  | d + 1, n, x => shB n x ∨ (∃ xs ns, SeqP P S x xs ∧ All2 (fun y m => Nd P S d m y) xs ns ∧ tot ns + 3 ≤ n) ∨
      ∃ (m : Nat) (kvs : List (Key × PV)) (ns : List Nat), x = .loc m ∧ ¬ P m ∧ S[m]? = some (.dic kvs) ∧ All2 (fun y m => Nd P S d m y) (kvs.map (·.2)) ns ∧ kvs.all (fun p => kOk p.1) = true ∧ keyT kvs + tot ns + 2 ≤ n
def Rd (P : Nat → Prop) (S : Sto) (d n : Nat) (xs : List PV) : Prop := ∃ ns, All2 (fun y m => Nd P S d m y) xs ns ∧ tot ns ≤ n
section
variable {P P' : Nat → Prop} {S S' : Sto} {d n m : Nat} {x : PV} {xs ys : List PV}
theorem shB.nd (h : shB n x) : ∀ d, Nd P S d n x
  | 0 => h
  | _ + 1 => .inl h
theorem Nd.mono (h : Nd P S d n x) (k : n ≤ m) : Nd P S d m x := by
  cases d with
  | zero => exact shB.mono h k
  | succ d =>
    rcases h with h | ⟨xs, ns, h1, h2, h3⟩ | ⟨q, kvs, ns, h1, h2, h3, h4, h5, h6⟩
    · exact .inl (h.mono k)
    · exact .inr (.inl ⟨xs, ns, h1, h2, by omega⟩)
    · exact .inr (.inr ⟨q, kvs, ns, h1, h2, h3, h4, h5, by omega⟩)
theorem Nd.up : ∀ {d : Nat} {n : Nat} {x : PV}, Nd P S d n x → Nd P S (d + 1) n x := by
  intro d
  induction d with
  | zero => intro n x h; exact .inl h
  | succ d ih =>
    intro n x h
    rcases h with h | ⟨xs, ns, h1, h2, h3⟩ | ⟨q, kvs, ns, h1, h2, h3, h4, h5, h6⟩
    · exact .inl h
    · exact .inr (.inl ⟨xs, ns, h1, h2.imp fun _ _ h => ih h, h3⟩)
    · exact .inr (.inr ⟨q, kvs, ns, h1, h2, h3, h4.imp fun _ _ h => ih h, h5, h6⟩)
theorem Nd.ex (k : ExP P S S') : ∀ {d : Nat} {n : Nat} {x : PV}, Nd P S d n x → Nd P S' d n x := by
  intro d
  induction d with
  | zero => intro n x h; exact h
  | succ d ih =>
    intro n x h
    rcases h with h | ⟨xs, ns, h1, h2, h3⟩ | ⟨q, kvs, ns, h1, h2, h3, h4, h5, h6⟩
    · exact .inl h
    · exact .inr (.inl ⟨xs, ns, h1.ex k, h2.imp fun _ _ h => ih h, h3⟩)
    · exact .inr (.inr ⟨q, kvs, ns, h1, h2, k.get h3 h2, h4.imp fun _ _ h => ih h, h5, h6⟩)
theorem Nd.ty (h : Nd P S d n x) : ∃ t, tyN x S = some t := by
  have base : shB n x → ∃ t, tyN x S = some t := fun h => by
    cases x with
    | loc _ => exact False.elim h
    | pr _ _ => exact False.elim h
    | _ => exact ⟨_, rfl⟩
  cases d with
  | zero => exact base h
  | succ d =>
    rcases h with h | ⟨xs, ns, rfl | ⟨m, rfl, _, hm⟩, _⟩ | ⟨q, kvs, ns, rfl, h2, h3, _⟩
    · exact base h
    · exact ⟨_, rfl⟩
    · exact ⟨"list", ty_lst hm⟩
    · exact ⟨"dict", by unfold tyN; simp only [h3]⟩
theorem Nd.row (h : Nd P S (d + 1) n (.tup xs)) : Rd P S d n xs := by
  rcases h with h | ⟨ys, ns, e | ⟨m, e, _⟩, h2, h3⟩ | ⟨q, kvs, ns, e, _⟩
  · exact False.elim h
  · cases e
    exact ⟨ns, h2, by omega⟩
  · cases e
  · cases e
theorem Rd.tup (h : Rd P S d n xs) (k : n + 3 ≤ m) : Nd P S (d + 1) m (.tup xs) := let ⟨ns, h1, h2⟩ := h; .inr (.inl ⟨xs, ns, .inl rfl, h1, by omega⟩)
theorem Rd.lst {q : Nat} (h : Rd P S d n xs) (hq : ¬ P q) (hS : S[q]? = some (.lst xs)) (k : n + 3 ≤ m) : Nd P S (d + 1) m (.loc q) := let ⟨ns, h1, h2⟩ := h; .inr (.inl ⟨xs, ns, .inr ⟨q, rfl, hq, hS⟩, h1, by omega⟩)
theorem Rd.mono (h : Rd P S d n xs) (k : n ≤ m) : Rd P S d m xs := let ⟨ns, h1, h2⟩ := h; ⟨ns, h1, Nat.le_trans h2 k⟩
theorem Rd.ex (k : ExP P S S') (h : Rd P S d n xs) : Rd P S' d n xs := let ⟨ns, h1, h2⟩ := h; ⟨ns, h1.imp fun _ _ h => h.ex k, h2⟩
theorem Rd.up (h : Rd P S d n xs) : Rd P S (d + 1) n xs := let ⟨ns, h1, h2⟩ := h; ⟨ns, h1.imp fun _ _ h => h.up, h2⟩
theorem Rd.nil : Rd P S d n [] := ⟨[], .nil, Nat.zero_le _⟩
theorem Rd.cons (h : Nd P S d n x) (r : Rd P S d m xs) {k : Nat} (e : n + 2 + m ≤ k) : Rd P S d k (x :: xs) := let ⟨ns, h1, h2⟩ := r; ⟨n :: ns, .cons h h1, by rw [tot_cons]; omega⟩
theorem Rd.append (h : Rd P S d n xs) (r : Rd P S d m ys) {k : Nat} (e : n + m ≤ k) : Rd P S d k (xs ++ ys) := let ⟨ns, h1, h2⟩ := h; let ⟨ms, r1, r2⟩ := r; ⟨ns ++ ms, h1.append r1, by rw [tot_append]; omega⟩
theorem Rd.split : ∀ {xs ys : List PV} {n : Nat}, Rd P S d n (xs ++ ys) → Rd P S d n xs ∧ Rd P S d n ys
  | [], ys, n, h => ⟨Rd.nil, h⟩
  | x :: xs, ys, n, ⟨ns, h1, h2⟩ => by
    cases h1 with
    | @cons _ a _ as h r =>
      rw [tot_cons] at h2
      obtain ⟨p, q⟩ := Rd.split (n := n - (a + 2)) ⟨as, r, by omega⟩
      exact ⟨p.cons h (by omega), q.mono (by omega)⟩
theorem Rd.take (h : Rd P S d n xs) (k : Nat) : Rd P S d n (xs.take k) := (Rd.split (ys := xs.drop k) (by rw [List.take_append_drop]; exact h)).1
theorem Rd.drop (h : Rd P S d n xs) (k : Nat) : Rd P S d n (xs.drop k) := (Rd.split (xs := xs.take k) (by rw [List.take_append_drop]; exact h)).2
theorem Rd.mem (h : Rd P S d n xs) (hx : x ∈ xs) : Nd P S d n x := by
  obtain ⟨as, bs, rfl⟩ := List.append_of_mem hx
  obtain ⟨ns, h1, h2⟩ := (Rd.split h).2
  cases h1 with
  | cons h r => rw [tot_cons] at h2; exact h.mono (by omega)
theorem Rd.rep (k : Nat) (h : Nd P S d n x) : Rd P S d (k * (n + 2)) (List.replicate k x) := by
  induction k with
  | zero => exact Rd.nil
  | succ k ih =>
    rw [List.replicate_succ]
    exact Rd.cons h ih (by rw [Nat.succ_mul]; omega)
theorem Rd.all (c : Nat) : ∀ {xs : List PV}, (∀ y ∈ xs, Nd P S d c y) → Rd P S d (xs.length * (c + 2)) xs
  | [], _ => Rd.nil
  | x :: r, h => Rd.cons (h x List.mem_cons_self) (Rd.all c fun y hy => h y (List.mem_cons_of_mem _ hy)) (by rw [List.length_cons, Nat.succ_mul]; omega)
theorem Nd.dat : ∀ {d : Nat} {n : Nat} {x : PV}, Nd P S d n x → ∃ e, (∀ S' f, ExP P S S' → d ≤ f → datD S' f x = some e) ∧ DOn d n e := by
  intro d
  induction d with
  | zero =>
    intro n x h
    obtain ⟨e, h1, h2⟩ := shB.dat h
    exact ⟨e, fun S' f _ _ => h1 S' f, h2⟩
  | succ d ih =>
    intro n x h
    rcases h with h | ⟨xs, ns, hs, ha, hn⟩ | ⟨q, kvs, ns, rfl, h2, h3, h4, h5, h6⟩
    · obtain ⟨e, h1, h2, h3, h4⟩ := shB.dat h
      exact ⟨e, fun S' f _ _ => h1 S' f, h2, by omega, h4⟩
    · have hx : ∀ {xs : List PV} {ns : List Nat}, All2 (fun y m => Nd P S d m y) xs ns → ∃ ds, (∀ S' f, ExP P S S' → d ≤ f → mapO (datD S' f) xs = some ds) ∧ All2 (fun e m => DOn d m e) ds ns := by
        intro xs ns ha
        induction ha with
        | nil => exact ⟨[], fun _ _ _ _ => rfl, .nil⟩
        | cons h r ihr =>
          obtain ⟨e, e1, e2⟩ := ih h
          obtain ⟨ds, f1, f2⟩ := ihr
          exact ⟨e :: ds, fun S' f k hf => by unfold mapO; rw [e1 S' f k hf, f1 S' f k hf], .cons e2 f2⟩
      obtain ⟨ds, h1, h2⟩ := hx ha
      obtain ⟨a1, a3, a4⟩ := all_on h2
      obtain ⟨t1, t2⟩ := text_len (PyData.shownAll ds)
      rcases hs with rfl | ⟨k, rfl, hb, hk⟩
      · refine ⟨.tuple ds, fun S' f kx hf => ?_, by simp only [PyData.showable, a1], by simp only [PyData.depth]; omega, by simp only [PyData.shown]; omega⟩
        cases f with
        | zero => simp at hf
        | succ f =>
          unfold datD
          rw [h1 S' f kx (by omega)]
          rfl
      · refine ⟨.list ds, fun S' f kx hf => ?_, by simp only [PyData.showable, a1], by simp only [PyData.depth]; omega, by simp only [PyData.shown]; omega⟩
        cases f with
        | zero => simp at hf
        | succ f =>
          unfold datD
          rw [kx.get hk hb]
          simp only [h1 S' f kx (by omega), Option.map_some]
    · have hx : ∀ {xs : List PV} {ns : List Nat}, All2 (fun y m => Nd P S d m y) xs ns → ∃ ds, (∀ S' f, ExP P S S' → d ≤ f → mapO (datD S' f) xs = some ds) ∧ All2 (fun e m => DOn d m e) ds ns ∧ ds.length = xs.length := by
        intro xs ns ha
        induction ha with
        | nil => exact ⟨[], fun _ _ _ _ => rfl, .nil, rfl⟩
        | cons h r ihr =>
          obtain ⟨e, e1, e2⟩ := ih h
          obtain ⟨ds, f1, f2, f3⟩ := ihr
          exact ⟨e :: ds, fun S' f k hf => by unfold mapO; rw [e1 S' f k hf, f1 S' f k hf], .cons e2 f2, by simp [f3]⟩
      obtain ⟨ds, g1, g2, g3⟩ := hx h4
      obtain ⟨a1, a3, a4⟩ := kv_on kvs g2 h5 (by rw [g3, List.length_map])
      have t1 := dict_text (PyData.shownKv ((kvs.map fun p => keyD p.1).zip ds))
      refine ⟨.dict ((kvs.map fun p => keyD p.1).zip ds), fun S' f kx hf => ?_, by simp only [PyData.showable, a1], by simp only [PyData.depth]; omega, by simp only [PyData.shown]; omega⟩
      cases f with
      | zero => simp at hf
      | succ f =>
        unfold datD
        rw [kx.get h3 h2]
        simp only [g1 S' f kx (by omega), Option.map_some]
theorem reprG_ok (h : Nd P S d n x) (hd : d ≤ 64) (hn : n ≤ 16777216) : ∃ t, ∀ S' {Q : PV → Sto → Prop}, ExP P S S' → (Rn (fReprD [x] S') Q ↔ Q (.str t) S') := by
  obtain ⟨e, h1, h2, h3, h4⟩ := h.dat
  refine ⟨e.shown, fun S' Q k => ?_⟩
  unfold fReprD
  simp only [h1 S' 66 k (by omega), Option.bind_some]
  unfold showE
  rw [if_pos (by simp only [h2, Bool.true_and, Bool.and_eq_true, decide_eq_true_eq]; omega)]
  simp only [Option.map_some, rn_some]
end
/-! rules for the newer operators -/
section
variable {Q : PV → Sto → Prop} {S : Sto}
@[simp] theorem rn_eqA_t {xs : List PV} : Rn (opEqA (.tup xs) (.tup []) S) Q ↔ Q (.bl (isNil xs)) S := rn_some
@[simp] theorem rn_neA_t {xs : List PV} : Rn (opNeA (.tup xs) (.tup []) S) Q ↔ Q (.bl (!isNil xs)) S := rn_some
theorem rn_eqA_l {q r : Nat} {xs : List PV} (h : S[q]? = some (.lst xs)) (k : S[r]? = some (.lst [])) : Rn (opEqA (.loc q) (.loc r) S) Q ↔ Q (.bl (isNil xs)) S := by
  unfold opEqA nilQ
  simp only [h, k]
  exact rn_some
theorem rn_neA_l {q r : Nat} {xs : List PV} (h : S[q]? = some (.lst xs)) (k : S[r]? = some (.lst [])) : Rn (opNeA (.loc q) (.loc r) S) Q ↔ Q (.bl (!isNil xs)) S := by
  unfold opNeA nilQ
  simp only [h, k]
  exact rn_some
@[simp] theorem rn_revS {a : DE} {e : Sl} : Rn (eRevS a e S) Q ↔ Rn (a e S) fun x S1 => Rn ((lstOf x S1).bind fun xs => mkL xs.reverse S1) Q := by unfold eRevS; rw [rn_bnd]
theorem rn_rev_l {q : Nat} {xs : List PV} (h : S[q]? = some (.lst xs)) (hl : xs.length ≤ 16777216) : Rn ((lstOf (.loc q) S).bind fun xs => mkL xs.reverse S) Q ↔ Q (.loc S.length) (S ++ [.lst xs.reverse]) := by
  unfold lstOf
  simp only [h, Option.bind_some, mkL, List.length_reverse, hl, if_true]
  exact rn_some
theorem mapO_vInts (ns : List Int) : mapO vOf (ns.map PV.int) = some (ns.map V.int) := by
  induction ns with
  | nil => rfl
  | cons n r ih => simp only [List.map_cons, mapO, vOf, ih]
theorem mapO_int1 (ns : List Int) : mapO intOf (ns.map PV.int) = some ns := by
  induction ns with
  | nil => rfl
  | cons n r ih => simp only [List.map_cons, mapO, intOf, ih]
theorem inV_ints (i : Int) (ns : List Int) : inV (.int i) (ns.map V.int) = decide (i ∈ ns) := by
  induction ns with
  | nil => rfl
  | cons n r ih =>
    have e : inV (.int i) ((n :: r).map V.int) = ((n == i) || inV (.int i) (r.map V.int)) := by
      first
        | rfl
        | simp [inV, eqV]
    rw [e, ih]
    by_cases c : n = i
    · subst c; simp
    · have c2 : ¬ i = n := fun h => c h.symm
      simp [c, c2]
@[simp] theorem rn_in_t {neg : Bool} {i : Int} {ns : List Int} : Rn (opInA neg (.int i) (.tup (ns.map PV.int)) S) Q ↔ Q (.bl (neg ^^ decide (i ∈ ns))) S := by
  unfold opInA inFlat seqOf
  simp only [show vOf (.int i) = some (.int i) from rfl, Option.bind_some, mapO_vInts, Option.map_some, inV_ints]
  exact rn_some
theorem rn_in_l {neg : Bool} {i : Int} {q : Nat} {ns : List Int} (h : S[q]? = some (.lst (ns.map PV.int))) : Rn (opInA neg (.int i) (.loc q) S) Q ↔ Q (.bl (neg ^^ decide (i ∈ ns))) S := by
  unfold opInA inFlat seqOf lstOf
  simp only [show vOf (.int i) = some (.int i) from rfl, h, Option.bind_some, mapO_vInts, Option.map_some, inV_ints]
  exact rn_some
theorem rn_index_t {k : Int} {ns : List Int} (h : k ∈ ns) : Rn (mIndexT (.tup (ns.map PV.int)) [.int k] S) Q ↔ Q (.int (ns.idxOf k : Nat)) S := by
  unfold mIndexT
  simp only [mapO_int1, Option.bind_some, if_pos h]
  exact rn_some
/-- range(a, b, -1), b at least -1 -/
theorem okR_down {a b : Int} (h1 : -1000 ≤ b) (h2 : b ≤ a) (h3 : a ≤ 100000) : okR a b (-1) = true ∧ (Builtin.Range.rangeSize a b (-1)).toNat = (a - b).toNat := by
  have hsz : Builtin.Range.rangeSize a b (-1) = a - b := by
    unfold Builtin.Range.rangeSize
    rw [if_neg (by decide)]
    by_cases c : a > b
    · rw [if_pos c]
      have e : (a - b - 1) / (-(-1) : Int) = a - b - 1 := by rw [show (-(-1) : Int) = 1 from rfl, Int.ediv_one]
      rw [e]; omega
    · rw [if_neg c]; omega
  refine ⟨?_, by rw [hsz]⟩
  have hp : Builtin.divisionGoesByPylong (b - a) (-1) = false := by
    unfold Builtin.divisionGoesByPylong
    simp
    intro h
    have e : Nat.log2 1 = 0 := by decide
    rw [e] at h
    omega
  unfold okR
  rw [hsz, hp]
  have hs : Builtin.Range.small a b (-1) = true := by
    unfold Builtin.Range.small
    rw [hsz]
    simp [Builtin.Range.rangeFitsLong]
    omega
  rw [hs]
  simp
  try omega
end
end EV
namespace EV
open PySem PySem.Spec PyProof.Rows L2
/-! own objects of a def, moved along with the store -/
structure At (b c n0 : Nat) (S : Sto) (q : Nat) (o : Ob) : Prop where
  h : S[q]? = some o
  hb : q ≠ b
  hc : q ≠ c
  lo : n0 ≤ q
structure Nf (b c n : Nat) (S : Sto) (d m : Nat) (x : PV) : Prop where
  lb : b < n
  lc : c < n
  nd : Nd (fun i => i < n) S d m x
structure Rf (b c n : Nat) (S : Sto) (d m : Nat) (xs : List PV) : Prop where
  lb : b < n
  lc : c < n
  rd : Rd (fun i => i < n) S d m xs
/-- one object was written -/
structure Wr (b c : Nat) (S : Sto) (q : Nat) (S' : Sto) : Prop where
  hb : q ≠ b
  hc : q ≠ c
  len : S'.length = S.length
  at_ : ∀ i, i ≠ q → S'[i]? = S[i]?
section
variable {b c n0 n n' q r d d' m m' : Nat} {S S' S0 : Sto} {o o' : Ob} {x y : PV} {xs ys : List PV} {Q : PV → Sto → Prop}
theorem At.mv (A : At b c n0 S q o) (X : Ext b c S S') : At b c n0 S' q o := ⟨X.get A.h A.hb A.hc, A.hb, A.hc, A.lo⟩
theorem At.wr (A : At b c n0 S q o) (W : Wr b c S r S') (ne : q ≠ r) : At b c n0 S' q o := ⟨(W.at_ _ ne).trans A.h, A.hb, A.hc, A.lo⟩
theorem At.lt (A : At b c n0 S q o) : q < S.length := lt_of_get A.h
theorem At.new (X : Ext b c S0 S) : At b c S0.length (S ++ [o]) S.length o := ⟨get_new, (new_ne X.bag (Nat.le_refl _)).1, (new_ne X.bag (Nat.le_refl _)).2, X.len⟩
theorem At.neNew (A : At b c n0 S q o) : q ≠ S.length := Nat.ne_of_lt A.lt
theorem At.put (A : At b c n0 S q o) : At b c n0 (S.set q o') q o' := ⟨by rw [List.getElem?_set_self A.lt], A.hb, A.hc, A.lo⟩
theorem At.wrs (A : At b c n0 S q o) : Wr b c S q (S.set q o') := ⟨A.hb, A.hc, by simp, fun i hi => by rw [List.getElem?_set_ne (fun z => hi z.symm)]⟩
theorem At.low (A : At b c n0 S q o) (h : n ≤ n0) : At b c n S q o := ⟨A.h, A.hb, A.hc, Nat.le_trans h A.lo⟩
theorem At.seq (A : At b c n0 S q (.lst xs)) : SeqIs b c S (.loc q) xs := .inr ⟨q, rfl, A.hb, A.hc, A.h⟩
theorem Ext.mv (Y : Ext b c S0 S) (X : Ext b c S S') : Ext b c S0 S' := Y.trans X
theorem Ext.wr (Y : Ext b c S0 S) (W : Wr b c S q S') (lo : S0.length ≤ q) : Ext b c S0 S' :=
  ⟨⟨by rw [W.len]; exact Y.len, fun i hi hb hc => by rw [W.at_ i (by omega)]; exact Y.at_ i hi hb hc⟩, by
    obtain ⟨cs, d, m, h⟩ := Y.bag
    exact ⟨cs, d, m, by rw [W.at_ _ (fun z => W.hb z.symm)]; exact h.hb, by rw [W.at_ _ (fun z => W.hc z.symm)]; exact h.hc, h.ne, h.hd, h.hm, h.hm2⟩⟩
theorem Nf.mv (h : Nf b c n S d m x) (X : Ext b c S S') : Nf b c n S' d m x := ⟨h.lb, h.lc, h.nd.ex (X.toP h.lb h.lc)⟩
theorem Wr.toP (W : Wr b c S q S') (hq : q < n) : ExP (fun i => i < n) S S' := ⟨by rw [W.len]; exact Nat.le_refl _, fun i hi hp => W.at_ i (fun z => hp (by rw [z]; exact hq))⟩
theorem Nf.wr (h : Nf b c n S d m x) (W : Wr b c S q S') (hq : q < n) : Nf b c n S' d m x := ⟨h.lb, h.lc, h.nd.ex (W.toP hq)⟩
theorem Rf.mv (h : Rf b c n S d m xs) (X : Ext b c S S') : Rf b c n S' d m xs := ⟨h.lb, h.lc, h.rd.ex (X.toP h.lb h.lc)⟩
theorem Rf.wr (h : Rf b c n S d m xs) (W : Wr b c S q S') (hq : q < n) : Rf b c n S' d m xs := ⟨h.lb, h.lc, h.rd.ex (W.toP hq)⟩
/-- each of some values -/
structure Af (b c n : Nat) (S : Sto) (d m : Nat) (xs : List PV) : Prop where
  lb : b < n
  lc : c < n
  all : ∀ y ∈ xs, Nd (fun i => i < n) S d m y
theorem Af.mv (h : Af b c n S d m xs) (X : Ext b c S S') : Af b c n S' d m xs := ⟨h.lb, h.lc, fun y hy => (h.all y hy).ex (X.toP h.lb h.lc)⟩
theorem Af.wr (h : Af b c n S d m xs) (W : Wr b c S q S') (hq : q < n) : Af b c n S' d m xs := ⟨h.lb, h.lc, fun y hy => (h.all y hy).ex (W.toP hq)⟩
theorem Af.get (h : Af b c n S d m xs) (hx : x ∈ xs) : Nf b c n S d m x := ⟨h.lb, h.lc, h.all x hx⟩
theorem Af.nil (lb : b < n) (lc : c < n) : Af b c n S d m [] := ⟨lb, lc, fun _ h => nomatch h⟩
theorem Af.snoc (h : Af b c n S d m xs) (k : Nf b c n S d m x) : Af b c n S d m (xs ++ [x]) := ⟨h.lb, h.lc, fun y hy => by
  rcases List.mem_append.mp hy with z | z
  · exact h.all y z
  · rw [List.mem_singleton.mp z]; exact k.nd⟩
theorem Af.append (h : Af b c n S d m xs) (k : Af b c n S d m ys) : Af b c n S d m (xs ++ ys) := ⟨h.lb, h.lc, fun y hy => by
  rcases List.mem_append.mp hy with z | z
  · exact h.all y z
  · exact k.all y z⟩
theorem Af.cons (k : Nf b c n S d m x) (h : Af b c n S d m xs) : Af b c n S d m (x :: xs) := ⟨h.lb, h.lc, fun y hy => by
  rcases List.mem_cons.mp hy with z | z
  · rw [z]; exact k.nd
  · exact h.all y z⟩
/-! .. after a store is given a name -/
theorem At.new' {S2 : Sto} (X : Ext b c S0 S) (h : S ++ [o] = S2) : At b c S0.length S2 S.length o := h ▸ At.new X
theorem Ext.new' {S2 : Sto} (X : Ext b c S0 S) (h : S ++ [o] = S2) : Ext b c S S2 := h ▸ (Ext.refl X.bag).app
theorem At.put' {S2 : Sto} (A : At b c n0 S q o) (h : S.set q o' = S2) : At b c n0 S2 q o' := h ▸ A.put
theorem At.wrs' {S2 : Sto} (A : At b c n0 S q o) (h : S.set q o' = S2) : Wr b c S q S2 := h ▸ A.wrs
theorem Nd.subP {P P' : Nat → Prop} (k : ∀ i, P' i → P i) : ∀ {d m : Nat} {x : PV}, Nd P S d m x → Nd P' S d m x := by
  intro d
  induction d with
  | zero => intro m x h; exact h
  | succ d ih =>
    intro m x h
    rcases h with h | ⟨xs, ns, h1, h2, h3⟩ | ⟨q, kvs, ns, h1, h2, h3, h4, h5, h6⟩
    · exact .inl h
    · refine .inr (.inl ⟨xs, ns, ?_, h2.imp fun _ _ h => ih h, h3⟩)
      rcases h1 with h1 | ⟨q, e, hq, hs⟩
      · exact .inl h1
      · exact .inr ⟨q, e, fun z => hq (k _ z), hs⟩
    · exact .inr (.inr ⟨q, kvs, ns, h1, fun z => h2 (k _ z), h3, h4.imp fun _ _ h => ih h, h5, h6⟩)
theorem Nf.low (h : Nf b c n S d m x) (k : n' ≤ n) (kb : b < n') (kc : c < n') : Nf b c n' S d m x := ⟨kb, kc, h.nd.subP fun i z => Nat.lt_of_lt_of_le z k⟩
theorem Rf.low (h : Rf b c n S d m xs) (k : n' ≤ n) (kb : b < n') (kc : c < n') : Rf b c n' S d m xs := by
  obtain ⟨ns, h1, h2⟩ := h.rd
  exact ⟨kb, kc, ns, h1.imp fun _ _ z => z.subP fun i z => Nat.lt_of_lt_of_le z k, h2⟩
theorem Nd.ups {P : Nat → Prop} (h : Nd P S d m x) (k : d ≤ d') : Nd P S d' m x := by
  induction k with
  | refl => exact h
  | step _ ih => exact ih.up
theorem Nf.up (h : Nf b c n S d m x) (k : d ≤ d') (l : m ≤ m') : Nf b c n S d' m' x := ⟨h.lb, h.lc, (h.nd.ups k).mono l⟩
theorem Rd.ups {P : Nat → Prop} (h : Rd P S d m xs) (k : d ≤ d') : Rd P S d' m xs := by
  obtain ⟨ns, h1, h2⟩ := h
  exact ⟨ns, h1.imp fun _ _ z => z.ups k, h2⟩
theorem Rf.up (h : Rf b c n S d m xs) (k : d ≤ d') (l : m ≤ m') : Rf b c n S d' m' xs := ⟨h.lb, h.lc, (h.rd.ups k).mono l⟩
theorem Rf.nil (lb : b < n) (lc : c < n) : Rf b c n S d m [] := ⟨lb, lc, Rd.nil.mono (Nat.zero_le _)⟩
theorem Rf.cons (h : Nf b c n S d m x) (r : Rf b c n S d m' xs) {k : Nat} (e : m + 2 + m' ≤ k) : Rf b c n S d k (x :: xs) := ⟨h.lb, h.lc, Rd.cons h.nd r.rd e⟩
end
theorem ex_of {b c : Nat} {S S' : Sto} (hB : BagAt S b c) (h : ∃ T, S' = S ++ T) : Ext b c S S' := by
  obtain ⟨T, rfl⟩ := h
  exact (Ext.refl hB).app
theorem ex_eq {b c : Nat} {S S' : Sto} (hB : BagAt S b c) (h : S' = S) : Ext b c S S' := by
  subst h
  exact Ext.refl hB
section
variable {S S1 : Sto} {e : Sl} {q r : Nat} {x : PV} {xs ys : List PV} {Q : PV → Sto → Prop}
@[simp] theorem rn_iRng2 {d : DA} {Q : WK → Sto → Prop} : Rn (iRngTwo d e S) Q ↔ Rn (d e S) fun xs S1 => ∃ i j : Int, xs = [.int i, .int j] ∧ (-(2 ^ 62) ≤ i ∧ i < 2 ^ 62 ∧ -(2 ^ 62) ≤ j ∧ j < 2 ^ 62) ∧ Q (wR i (j - i).toNat) S1 := by
  unfold iRngTwo
  rw [rn_bnd]
  constructor
  · exact fun h => h.mono fun x S1 h => by
      split at h
      · obtain ⟨h1, h2⟩ := rn_g.mp h
        exact ⟨_, _, rfl, h1, rn_some.mp h2⟩
      · exact (rn_none.mp h).elim
  · exact fun h => h.mono fun x S1 ⟨i, j, e1, h1, h2⟩ => by
      subst e1
      exact rn_g.mpr ⟨h1, rn_some.mpr h2⟩
@[simp] theorem rn_iRng3 {d : DA} {Q : WK → Sto → Prop} : Rn (iRngThree d e S) Q ↔ Rn (d e S) fun xs S1 => ∃ i j c : Int, xs = [.int i, .int j, .int c] ∧ okR i j c = true ∧ Q (wR3 i c (Builtin.Range.rangeSize i j c).toNat) S1 := by
  unfold iRngThree
  rw [rn_bnd]
  constructor
  · exact fun h => h.mono fun x S1 h => by
      split at h
      · obtain ⟨h1, h2⟩ := rn_g.mp h
        exact ⟨_, _, _, rfl, h1, rn_some.mp h2⟩
      · exact (rn_none.mp h).elim
  · exact fun h => h.mono fun x S1 ⟨i, j, c, e1, h1, h2⟩ => by
      subst e1
      exact rn_g.mpr ⟨h1, rn_some.mpr h2⟩
/-- what a range walked down shows -/
def dnL (a : Int) (n : Nat) : List PV := (List.range n).map fun j : Nat => PV.int (a - j)
theorem dn_len {a : Int} {n : Nat} : (dnL a n).length = n := by simp [dnL]
theorem dn_get {a : Int} {n i : Nat} (h : (dnL a n)[i]? = some x) : i < n ∧ x = .int (a - i) := by
  have hi := lt_of_get h
  rw [dn_len] at hi
  refine ⟨hi, ?_⟩
  unfold dnL at h
  rw [List.getElem?_map, List.getElem?_range hi] at h
  exact (Option.some.inj h).symm
theorem wR3_at {a : Int} {n : Nat} (i : Nat) : wR3 a (-1) n i S = some (dnL a n)[i]? := by
  unfold wR3 dnL
  by_cases h : i < n
  · rw [if_pos h, List.getElem?_map, List.getElem?_range h, Option.map_some, Int.mul_neg, Int.mul_one]; rfl
  · rw [if_neg h, List.getElem?_eq_none_iff.mpr (by simp; omega)]
/-- range(a, b, -1) -/
theorem rn_down {a b : Int} {Q : WK → Sto → Prop} (h1 : -1000 ≤ b) (h2 : b ≤ a) (h3 : a ≤ 100000) (k : Q (wR3 a (-1) (a - b).toNat) S) : ∃ i j c : Int, [PV.int a, .int b, .int (-1)] = [.int i, .int j, .int c] ∧ okR i j c = true ∧ Q (wR3 i c (Builtin.Range.rangeSize i j c).toNat) S := by
  have h := okR_down h1 h2 h3
  exact ⟨_, _, _, rfl, h.1, by rw [h.2]; exact k⟩
theorem rn_pop (h : S[q]? = some (.lst (xs ++ [x]))) : Rn (mPop (.loc q) [] S) Q ↔ Q x (S.set q (.lst xs)) := by
  unfold mPop
  simp only [own_at h, Option.bind_some]
  have e1 : (xs ++ [x])[(xs ++ [x]).length - 1]? = some x := by simp
  have e2 : (xs ++ [x]).dropLast = xs := by simp
  rw [e1, e2]
  exact rn_some
theorem rn_extend (h : S[q]? = some (.lst xs)) (k : S[r]? = some (.lst ys)) : Rn (mExtend (.loc q) [.loc r] S) Q ↔ xs.length + ys.length ≤ 16777216 ∧ Q .non (S.set q (.lst (xs ++ ys))) := by
  unfold mExtend
  simp only [own_at h, own_at k, Option.bind_some, rn_g, rn_some]
@[simp] theorem rn_max2 {i j : Int} : Rn (fMax [.int i, .int j] S) Q ↔ Q (.int (if j > i then j else i)) S := rn_some
theorem rn_str_i {i : Int} (h : i.natAbs < 2 ^ 1900) : Rn (fStr [.int i] S) Q ↔ Q (.str (toString i)) S := by
  unfold fStr
  have : i.natAbs.log2 < 1920 := by
    by_cases z : i.natAbs = 0
    · rw [z]; decide
    · exact Nat.lt_of_lt_of_le ((Nat.log2_lt z).mpr h) (by decide)
  simp only [this, if_true]
  exact rn_some
theorem rv_loc (h : S[q]? = some (.lst xs)) : rvOf (.loc q) S = some (wRv q xs.length) := by unfold rvOf; simp only [h]
theorem wRv_at (h : S[q]? = some (.lst xs)) (i : Nat) : wRv q xs.length i S = some xs.reverse[i]? := by
  unfold wRv
  by_cases c : i < xs.length
  · have c2 : xs.length - 1 - i < xs.length := by omega
    rw [if_pos c]
    simp only [h, List.getElem?_eq_getElem c2, Option.map_some]
    rw [List.getElem?_reverse c, List.getElem?_eq_getElem c2]
  · rw [if_neg c, List.getElem?_eq_none_iff.mpr (by simp; omega)]
@[simp] theorem rn_iRv {d : DE} {Q : WK → Sto → Prop} : Rn (iRv d e S) Q ↔ Rn (d e S) fun x S1 => ∃ w, rvOf x S1 = some w ∧ Q w S1 := by
  unfold iRv
  rw [rn_bnd]
  constructor
  · exact fun h => h.mono fun x S1 ⟨z, S2, h, k⟩ => by
      obtain ⟨w, h1, h2⟩ := Option.map_eq_some_iff.mp h
      cases h2
      exact ⟨_, h1, k⟩
  · exact fun h => h.mono fun x S1 ⟨w, h, k⟩ => ⟨w, S1, by simp only [h, Option.map_some], k⟩
end
/-- a def's for, the invariant's walk kept apart -/
theorem for_rn' {d : DI} {g : DG} {b : DS} {e : Sl} {S : Sto} {q : Out → Sl → Sto → Prop} (xs : List PV) (W : WK → Sto → Prop) (I : Nat → Sl → Sto → Prop) (hd : Rn (d e S) W) (hI : ∀ w S1, W w S1 → I 0 e S1 ∧ ∀ i e S, I i e S → w i S = some xs[i]?)
    (st : ∀ i x e S, xs[i]? = some x → I i e S → ∃ as, g x = some as ∧ Rs (b (setP e as) S) fun o e2 S2 => match o with
      | .nx => I (i + 1) e2 S2
      | .ct => I (i + 1) e2 S2
      | .bk => q .nx e2 S2
      | .rt x => q (.rt x) e2 S2) (fin : ∀ e S, I xs.length e S → q .nx e S) : Rs (sFor d g b e S) q :=
  for_rn xs I (hd.mono fun w S1 h => hI w S1 h) st fin
/-! what repr shows of small things -/
theorem sh_i {i : Int} (h : i.natAbs < 10 ^ 62) : shB 63 (.int i) := sh_int (k := 62) (by decide) (by decide) h
theorem nat_big {i : Int} (h : -1000000 ≤ i) (h2 : i ≤ 1000000) : i.natAbs < 10 ^ 62 := Nat.lt_of_lt_of_le (by omega : i.natAbs < 10 ^ 7) (Nat.pow_le_pow_right (by decide) (by decide))
section
variable {b c n d m k q : Nat} {S : Sto} {x : PV} {xs : List PV}
theorem Nf.big {i : Int} (lb : b < n) (lc : c < n) (h : i.natAbs < 10 ^ 62) (hm : 63 ≤ m) : Nf b c n S d m (.int i) := ⟨lb, lc, ((sh_i h).mono hm).nd d⟩
theorem Nf.int {i : Int} (lb : b < n) (lc : c < n) (h : -1000000 ≤ i) (h2 : i ≤ 1000000) (hm : 63 ≤ m) : Nf b c n S d m (.int i) := Nf.big lb lc (nat_big h h2) hm
theorem Nf.non (lb : b < n) (lc : c < n) (hm : 4 ≤ m) : Nf b c n S d m .non := ⟨lb, lc, shB.nd (show shB m .non from hm) d⟩
theorem Nf.bl {v : Bool} (lb : b < n) (lc : c < n) (hm : 5 ≤ m) : Nf b c n S d m (.bl v) := ⟨lb, lc, shB.nd (show shB m (.bl v) from hm) d⟩
theorem Nf.str {z : Str} (lb : b < n) (lc : c < n) (hm : (reprText z).length ≤ m) : Nf b c n S d m (.str z) := ⟨lb, lc, shB.nd (show shB m (.str z) from hm) d⟩
theorem Nf.tup (h : Rf b c n S d m xs) {k : Nat} (e : m + 3 ≤ k) : Nf b c n S (d + 1) k (.tup xs) := ⟨h.lb, h.lc, h.rd.tup e⟩
theorem Nf.lst (h : Rf b c n S d m xs) (hq : n ≤ q) (hS : S[q]? = some (.lst xs)) {k : Nat} (e : m + 3 ≤ k) : Nf b c n S (d + 1) k (.loc q) := ⟨h.lb, h.lc, h.rd.lst (Nat.not_lt.mpr hq) hS e⟩
theorem Af.rf (h : Af b c n S d m xs) {k : Nat} (e : xs.length * (m + 2) ≤ k) : Rf b c n S d k xs := ⟨h.lb, h.lc, (Rd.all m fun y hy => h.all y hy).mono e⟩
theorem Rf.af (h : Rf b c n S d m xs) : Af b c n S d m xs := ⟨h.lb, h.lc, fun y hy => h.rd.mem hy⟩
theorem Rf.append {ys : List PV} {m' : Nat} (h : Rf b c n S d m xs) (r : Rf b c n S d m' ys) {k : Nat} (e : m + m' ≤ k) : Rf b c n S d k (xs ++ ys) := ⟨h.lb, h.lc, h.rd.append r.rd e⟩
theorem Rf.splitL {ys : List PV} (h : Rf b c n S d m (xs ++ ys)) : Rf b c n S d m xs := ⟨h.lb, h.lc, (Rd.split h.rd).1⟩
theorem Rf.splitR {ys : List PV} (h : Rf b c n S d m (xs ++ ys)) : Rf b c n S d m ys := ⟨h.lb, h.lc, (Rd.split h.rd).2⟩
theorem Nf.row (h : Nf b c n S (d + 1) m (.tup xs)) : Rf b c n S d m xs := ⟨h.lb, h.lc, h.nd.row⟩
theorem Rf.rep (h : Nf b c n S d m x) (k : Nat) : Rf b c n S d (k * (m + 2)) (List.replicate k x) := ⟨h.lb, h.lc, Rd.rep k h.nd⟩
theorem Nf.dic1 {ky : Key} (h : Nf b c n S d m x) (hk : kOk ky = true) (hq : n ≤ q) (hS : S[q]? = some (.dic [(ky, x)])) {k : Nat} (e : (keyD ky).shown.length + m + 6 ≤ k) : Nf b c n S (d + 1) k (.loc q) :=
  ⟨h.lb, h.lc, .inr (.inr ⟨q, [(ky, x)], [m], rfl, Nat.not_lt.mpr hq, hS, .cons h.nd .nil, by simp [hk], by simp only [keyT, List.map_cons, List.map_nil, List.sum_cons, List.sum_nil, tot]; omega⟩)⟩
theorem Nf.dic0 (lb : b < n) (lc : c < n) (hq : n ≤ q) (hS : S[q]? = some (.dic [])) (e : 2 ≤ m) : Nf b c n S (d + 1) m (.loc q) :=
  ⟨lb, lc, .inr (.inr ⟨q, [], [], rfl, Nat.not_lt.mpr hq, hS, .nil, by simp, by simp [keyT, tot]; omega⟩)⟩
theorem Nf.ty (h : Nf b c n S d m x) : ∃ t, tyN x S = some t := h.nd.ty
end
@[simp] theorem rn_dic0 {e : Sl} {S : Sto} {Q : PV → Sto → Prop} : Rn (eDic0 e S) Q ↔ Q (.loc S.length) (S ++ [.dic []]) := rn_some
theorem rn_dic1 {a b : DE} {e : Sl} {S : Sto} {Q : PV → Sto → Prop} : Rn (eDic [(a, b)] e S) Q ↔ Rn (a e S) fun x S1 => Rn (b e S1) fun y S2 => ∃ k, keyP x = some k ∧ Q (.loc S2.length) (S2 ++ [.dic [(k, y)]]) := by
  unfold eDic dPairs dPairs
  simp only [rn_bnd, rn_some]
  constructor
  · exact fun h => h.mono fun x S1 h => h.mono fun y S2 ⟨z, S3, h, k⟩ => by
      obtain ⟨kvs, h1, h2⟩ := Option.bind_eq_some_iff.mp h
      unfold keyed keyed at h1
      obtain ⟨kk, h3, h4⟩ := Option.bind_eq_some_iff.mp h1
      simp only [Option.map_some] at h4
      cases h4
      rw [if_pos ⟨by simp, by simp⟩] at h2
      cases h2
      exact ⟨kk, h3, k⟩
  · exact fun h => h.mono fun x S1 h => h.mono fun y S2 ⟨kk, h3, k⟩ => ⟨.loc S2.length, _, by
      unfold keyed keyed
      simp only [h3, Option.bind_some, Option.map_some]
      rw [if_pos ⟨by simp, by simp⟩], k⟩
theorem for_pre {d : DI} {g : DG} {b : DS} {e : Sl} {S : Sto} {q : Out → Sl → Sto → Prop} (W : WK → Sto → Prop) (hd : Rn (d e S) W) (k : ∀ w S1, d e S = some (w, S1) → W w S1 → Rs (sFor d g b e S) q) : Rs (sFor d g b e S) q :=
  let ⟨w, S1, h, hw⟩ := hd; k w S1 h hw
@[simp] theorem rn_MT {o : OM} {a : DE} {d : DA} {e : Sl} {S : Sto} {Q : PV → Sto → Prop} : Rn (eMT o a d e S) Q ↔ Rn (a e S) fun x S1 => ∃ ys, x = .tup ys ∧ Rn (d e S1) fun xs S2 => Rn (o (.tup ys) xs S2) Q := by
  unfold eMT
  rw [rn_bnd]
  constructor
  · exact fun h => h.mono fun x S1 h => by
      split at h
      · exact ⟨_, rfl, rn_bnd.mp h⟩
      · exact (rn_none.mp h).elim
  · exact fun h => h.mono fun x S1 ⟨ys, e, h⟩ => by
      subst e
      exact rn_bnd.mpr h
theorem isTy_str {z : Str} {S : Sto} : isTy "str" (.str z) S = true := rfl
theorem key_len {k : Int} (h : -1000000 ≤ k) (h2 : k ≤ 1000000) : (keyD (.inl k)).shown.length ≤ 63 ∧ kOk (.inl k) = true := by
  obtain ⟨h1, h2⟩ := sh_i (nat_big h h2)
  refine ⟨?_, decide_eq_true h1⟩
  show (Str.ofString (toString k)).length ≤ 63
  rw [PySem.ofString_length]
  exact h2
@[simp] theorem ex_tup {xs : List PV} {R : List PV → Prop} : (∃ ys, PV.tup xs = PV.tup ys ∧ R ys) ↔ R xs := ⟨fun ⟨_, e, h⟩ => by cases e; exact h, fun h => ⟨_, rfl, h⟩⟩
theorem ix_all {b c n0 q : Nat} {S : Sto} {xs : List PV} {w : Int} {Q : PV → Sto → Prop} (A : At b c n0 S q (.lst xs)) (h0 : 0 ≤ w) (h1 : w < (xs.length : Nat)) (h : ∀ v ∈ xs, Q v S) : Rn (opIx (.loc q) (.int w) S) Q := by
  have hl : w.toNat < xs.length := by omega
  rw [ix_loc A.h (ixP_int h0 (List.getElem?_eq_getElem hl))]
  exact h _ (List.getElem_mem hl)
theorem Rf.dropLast {b c n d m : Nat} {S : Sto} {xs : List PV} (h : Rf b c n S d m xs) : Rf b c n S d m xs.dropLast := ⟨h.lb, h.lc, by rw [List.dropLast_eq_take]; exact Rd.take h.rd _⟩
theorem Wr.trans {b c q : Nat} {S S' S'' : Sto} (h : Wr b c S q S') (k : Wr b c S' q S'') : Wr b c S q S'' := ⟨h.hb, h.hc, k.len.trans h.len, fun i hi => (k.at_ i hi).trans (h.at_ i hi)⟩
theorem Wr.refl {b c n0 q : Nat} {S : Sto} {o : Ob} (A : At b c n0 S q o) : Wr b c S q S := ⟨A.hb, A.hc, rfl, fun _ _ => rfl⟩
theorem setP_ne {e : Sl} {i j : Nat} {x : PV} (hij : i ≠ j) : (setP (wipeP e [j]) [(j, x)])[i]? = e[i]? := by
  unfold setP wipeP wipeP
  simp only [List.foldl_cons, List.foldl_nil]
  rw [List.getElem?_set_ne (Ne.symm hij), List.getElem?_set_ne (Ne.symm hij)]
/-- [stack.pop() for k in range(a)] -/
theorem pops {b c n0 q i j : Nat} {S : Sto} {e : Sl} {d : DI} {ys zs : List PV} {Q : PV → Sto → Prop} (A : At b c n0 S q (.lst (ys ++ zs))) (hl : zs.length ≤ 1000000) (hij : i ≠ j) (he : e[i]? = some (some (.loc q)))
    (hd : Rn (d e S) fun w S1 => S1 = S ∧ w = wR 0 zs.length) (fin : ∀ S', At b c n0 S' q (.lst ys) → Wr b c S q S' → Q (.loc S'.length) (S' ++ [.lst zs.reverse])) : Rn (eLc d (gN j) dYes (eM "list" mPop (eVar i) aNil) [j] e S) Q := by
  obtain ⟨w, S1, hd, rfl, rfl⟩ := hd
  refine lc_rule ((List.range zs.length).map fun j : Nat => PV.int (0 + j)) (w := wR 0 zs.length) (fun k acc S2 => At b c n0 S2 q (.lst (ys ++ zs.take (zs.length - k))) ∧ acc = zs.reverse.take k ∧ Wr b c S1 q S2) hd ⟨by rw [Nat.sub_zero, List.take_length]; exact A, by simp, Wr.refl A⟩ (fun k acc S _ _ => wR_at k) (fun k x acc S2 hx ⟨A2, ha, W⟩ => ?_) (fun acc S2 ⟨A2, ha, W⟩ => ?_)
  · have hk := lt_of_get hx
    simp only [List.length_map, List.length_range] at hk
    refine ⟨[(j, x)], rfl, by simp, rn_dYes.mpr ⟨fun _ => ?_, fun h => (nomatch h)⟩⟩
    simp only [rn_M, rn_var, setP_ne hij, he, rn_aNil]
    refine ⟨isTy_lst A2.h, ?_⟩
    have e1 : zs.length - k - 1 < zs.length := by omega
    have e2 : zs.take (zs.length - k) = zs.take (zs.length - (k + 1)) ++ [zs[zs.length - k - 1]] := by
      have e4 : zs[zs.length - k - 1]? = some zs[zs.length - k - 1] := List.getElem?_eq_getElem e1
      generalize zs[zs.length - k - 1] = z at e4
      obtain ⟨m, hm⟩ : ∃ m, zs.length - k = m + 1 := ⟨zs.length - k - 1, by omega⟩
      rw [hm] at e4 ⊢
      rw [show zs.length - (k + 1) = m by omega, List.take_add_one, show m = m + 1 - 1 by omega, e4]
      rfl
    have h := A2.h
    rw [e2, ← List.append_assoc] at h
    rw [rn_pop h]
    refine ⟨?_, ?_, W.trans (A2.wrs)⟩
    · exact A2.put
    · rw [List.take_add_one, ha, List.getElem?_reverse (by omega), show zs.length - 1 - k = zs.length - k - 1 by omega, List.getElem?_eq_getElem e1]
      rfl
  · simp only [List.length_map, List.length_range, Nat.sub_self, List.take_zero, List.append_nil] at A2 ha
    rw [List.take_of_length_le (by simp)] at ha
    subst ha
    exact ⟨by rw [List.length_reverse]; omega, fin S2 A2 W⟩
theorem Rd.splitA {P : Nat → Prop} {S : Sto} {d : Nat} : ∀ {xs ys : List PV} {n : Nat}, Rd P S d n (xs ++ ys) → ∃ a b, Rd P S d a xs ∧ Rd P S d b ys ∧ a + b ≤ n
  | [], ys, n, h => ⟨0, n, Rd.nil, h, by omega⟩
  | x :: xs, ys, n, ⟨ns, h1, h2⟩ => by
    cases h1 with
    | @cons _ a _ as h r =>
      rw [tot_cons] at h2
      obtain ⟨a', b', p, q, e⟩ := Rd.splitA (xs := xs) (ys := ys) (n := n - (a + 2)) ⟨as, r, by omega⟩
      exact ⟨a + 2 + a', b', Rd.cons h p (Nat.le_refl _), q, by omega⟩
theorem Rf.splitA {b c n d m : Nat} {S : Sto} {xs ys : List PV} (h : Rf b c n S d m (xs ++ ys)) : ∃ a a', Rf b c n S d a xs ∧ Rf b c n S d a' ys ∧ a + a' ≤ m := by
  obtain ⟨a, a', p, q, e⟩ := Rd.splitA h.rd
  exact ⟨a, a', ⟨h.lb, h.lc, p⟩, ⟨h.lb, h.lc, q⟩, e⟩
theorem Rd.rev {P : Nat → Prop} {S : Sto} {d : Nat} : ∀ {xs : List PV} {n : Nat}, Rd P S d n xs → Rd P S d n xs.reverse
  | [], _, h => h
  | x :: xs, n, ⟨ns, h1, h2⟩ => by
    cases h1 with
    | @cons _ a _ as h r =>
      rw [tot_cons] at h2
      rw [List.reverse_cons]
      exact Rd.append (Rd.rev ⟨as, r, Nat.le_refl _⟩) (Rd.cons h Rd.nil (m := 0) (Nat.le_refl _)) (by omega)
theorem Rf.rev {b c n d m : Nat} {S : Sto} {xs : List PV} (h : Rf b c n S d m xs) : Rf b c n S d m xs.reverse := ⟨h.lb, h.lc, Rd.rev h.rd⟩
theorem lc_pre {d : DI} {g : DG} {t : DT} {el : DE} {vs : List Nat} {e : Sl} {S : Sto} {Q : PV → Sto → Prop} (W : WK → Sto → Prop) (hd : Rn (d e S) W) (k : ∀ w S1, d e S = some (w, S1) → W w S1 → Rn (eLc d g t el vs e S) Q) : Rn (eLc d g t el vs e S) Q :=
  let ⟨w, S1, h, hw⟩ := hd; k w S1 h hw
theorem Af.low {b c n n' d m : Nat} {S : Sto} {xs : List PV} (h : Af b c n S d m xs) (k : n' ≤ n) (kb : b < n') (kc : c < n') : Af b c n' S d m xs := ⟨kb, kc, fun y hy => (h.all y hy).subP fun i z => Nat.lt_of_lt_of_le z k⟩
end EV
namespace Lw
open PySem PySem.Spec PyProof.Rows L2 EV
def top (i : Nat) : Stmt := PySem.Challenge.pw_fencedterms_k01_terms_and_signatures_jud.main.body.getD i (.Pass ⟨0, 0, 0, 0⟩)
abbrev s_is_whole : Stmt := top 4
abbrev s_signature_error : Stmt := top 6
abbrev s_is_thing : Stmt := top 7
abbrev s_thing_error : Stmt := top 8
abbrev s_term_error : Stmt := top 9
abbrev s__law_own_bag : Stmt := top 11
abbrev s__law_draw : Stmt := top 12
abbrev s__law_pick : Stmt := top 13
abbrev s__law_signature : Stmt := top 14
abbrev s__law_sums : Stmt := top 15
abbrev s__law_size : Stmt := top 16
abbrev s__law_row : Stmt := top 17
abbrev s__law_is_same : Stmt := top 18
abbrev s__law_odd : Stmt := top 19
abbrev s__law_bent : Stmt := top 20
abbrev s__law_spoilt : Stmt := top 21
abbrev s__law_tower : Stmt := top 22
abbrev s__law_with_bool : Stmt := top 23
abbrev s__law_term_values : Stmt := top 24
abbrev s__law_due_term : Stmt := top 25
abbrev s__law_signature_value : Stmt := top 26
abbrev s__law_due_signature : Stmt := top 27
abbrev s_law : Stmt := top 28
abbrev N_is_whole : List Str := ["value", "low", "high"]
theorem sc_is_whole : FnScope N_is_whole ["value", "low", "high"] (defScope s_is_whole) := ⟨rfl, rfl, rfl, by decide +kernel, rfl, by decide +kernel, by decide +kernel⟩
abbrev N_signature_error : List Str := ["value", "place", "arity"]
theorem sc_signature_error : FnScope N_signature_error ["value"] (defScope s_signature_error) := ⟨rfl, rfl, rfl, by decide +kernel, rfl, by decide +kernel, by decide +kernel⟩
abbrev N_is_thing : List Str := ["signature", "value"]
theorem sc_is_thing : FnScope N_is_thing ["signature", "value"] (defScope s_is_thing) := ⟨rfl, rfl, rfl, by decide +kernel, rfl, by decide +kernel, by decide +kernel⟩
abbrev N_thing_error : List Str := ["signature", "value", "variables", "waiting", "many", "way", "thing", "inner", "place", "own"]
theorem sc_thing_error : FnScope N_thing_error ["signature", "value", "variables"] (defScope s_thing_error) := ⟨rfl, rfl, rfl, by decide +kernel, rfl, by decide +kernel, by decide +kernel⟩
abbrev N_term_error : List Str := ["signature", "value"]
theorem sc_term_error : FnScope N_term_error ["signature", "value"] (defScope s_term_error) := ⟨rfl, rfl, rfl, by decide +kernel, rfl, by decide +kernel, by decide +kernel⟩
abbrev N__law_own_bag : List Str := ["script", "cells", "mixed", "cell"]
theorem sc__law_own_bag : FnScope N__law_own_bag ["script"] (defScope s__law_own_bag) := ⟨rfl, rfl, rfl, by decide +kernel, rfl, by decide +kernel, by decide +kernel⟩
abbrev N__law_draw : List Str := ["bag", "below", "cell", "found"]
theorem sc__law_draw : FnScope N__law_draw ["bag", "below"] (defScope s__law_draw) := ⟨rfl, rfl, rfl, by decide +kernel, rfl, by decide +kernel, by decide +kernel⟩
abbrev N__law_pick : List Str := ["bag", "some"]
theorem sc__law_pick : FnScope N__law_pick ["bag", "some"] (defScope s__law_pick) := ⟨rfl, rfl, rfl, by decide +kernel, rfl, by decide +kernel, by decide +kernel⟩
abbrev N__law_signature : List Str := ["bag", "many", "found", "k"]
theorem sc__law_signature : FnScope N__law_signature ["bag"] (defScope s__law_signature) := ⟨rfl, rfl, rfl, by decide +kernel, rfl, by decide +kernel, by decide +kernel⟩
abbrev N__law_sums : List Str := ["signature", "found", "top", "arity"]
theorem sc__law_sums : FnScope N__law_sums ["signature"] (defScope s__law_sums) := ⟨rfl, rfl, rfl, by decide +kernel, rfl, by decide +kernel, by decide +kernel⟩
abbrev N__law_size : List Str := ["bag", "sums", "low", "high", "may", "many"]
theorem sc__law_size : FnScope N__law_size ["bag", "sums", "low", "high"] (defScope s__law_size) := ⟨rfl, rfl, rfl, by decide +kernel, rfl, by decide +kernel, by decide +kernel⟩
abbrev N__law_row : List Str := ["bag", "items", "sums", "many", "row", "need", "left", "may", "sign", "arity", "then"]
theorem sc__law_row : FnScope N__law_row ["bag", "items", "sums", "many"] (defScope s__law_row) := ⟨rfl, rfl, rfl, by decide +kernel, rfl, by decide +kernel, by decide +kernel⟩
abbrev N__law_is_same : List Str := ["told", "due", "one", "other"]
theorem sc__law_is_same : FnScope N__law_is_same ["told", "due"] (defScope s__law_is_same) := ⟨rfl, rfl, rfl, by decide +kernel, rfl, by decide +kernel, by decide +kernel⟩
abbrev N__law_odd : List Str := ["bag", "many", "nest", "k", "some"]
theorem sc__law_odd : FnScope N__law_odd ["bag", "many"] (defScope s__law_odd) := ⟨rfl, rfl, rfl, by decide +kernel, rfl, by decide +kernel, by decide +kernel⟩
abbrev N__law_bent : List Str := ["bag", "thing", "signature", "many", "leaf", "way"]
theorem sc__law_bent : FnScope N__law_bent ["bag", "thing", "signature"] (defScope s__law_bent) := ⟨rfl, rfl, rfl, by decide +kernel, rfl, by decide +kernel, by decide +kernel⟩
abbrev N__law_spoilt : List Str := ["bag", "row", "signature", "places", "stack", "at", "thing", "k"]
theorem sc__law_spoilt : FnScope N__law_spoilt ["bag", "row", "signature", "places"] (defScope s__law_spoilt) := ⟨rfl, rfl, rfl, by decide +kernel, rfl, by decide +kernel, by decide +kernel⟩
abbrev N__law_tower : List Str := ["bag", "signature", "may", "thing", "symbol", "turns", "turn"]
theorem sc__law_tower : FnScope N__law_tower ["bag", "signature"] (defScope s__law_tower) := ⟨rfl, rfl, rfl, by decide +kernel, rfl, by decide +kernel, by decide +kernel⟩
abbrev N__law_with_bool : List Str := ["row", "signature", "at", "stack", "k", "symbol", "j"]
theorem sc__law_with_bool : FnScope N__law_with_bool ["row", "signature", "at"] (defScope s__law_with_bool) := ⟨rfl, rfl, rfl, by decide +kernel, rfl, by decide +kernel, by decide +kernel⟩
abbrev N__law_term_values : List Str := ["bag", "signature", "items", "sums", "found", "turn", "low", "high", "row", "places", "k", "may", "at", "symbol"]
theorem sc__law_term_values : FnScope N__law_term_values ["bag", "signature"] (defScope s__law_term_values) := ⟨rfl, rfl, rfl, by decide +kernel, rfl, by decide +kernel, by decide +kernel⟩
abbrev N__law_due_term : List Str := ["signature", "value", "stack", "many", "thing", "way", "k"]
theorem sc__law_due_term : FnScope N__law_due_term ["signature", "value"] (defScope s__law_due_term) := ⟨rfl, rfl, rfl, by decide +kernel, rfl, by decide +kernel, by decide +kernel⟩
abbrev N__law_signature_value : List Str := ["bag", "found", "turn", "at", "odd", "way", "k"]
theorem sc__law_signature_value : FnScope N__law_signature_value ["bag"] (defScope s__law_signature_value) := ⟨rfl, rfl, rfl, by decide +kernel, rfl, by decide +kernel, by decide +kernel⟩
abbrev N__law_due_signature : List Str := ["value", "place", "item"]
theorem sc__law_due_signature : FnScope N__law_due_signature ["value"] (defScope s__law_due_signature) := ⟨rfl, rfl, rfl, by decide +kernel, rfl, by decide +kernel, by decide +kernel⟩
abbrev N_law : List Str := ["script", "bag", "asked", "turn", "signature", "value", "other", "kept", "due", "told", "item", "k"]
theorem sc_law : FnScope N_law ["script"] (defScope s_law) := ⟨rfl, rfl, rfl, by decide +kernel, rfl, by decide +kernel, by decide +kernel⟩
noncomputable def b_is_whole : DS :=
 sRet (eAnd (eIsi "int" (eVar 0)) (eAnd (eNot (eIsi "bool" (eVar 0))) (eCh opLe opLe (eVar 1) (eVar 0) (eVar 2))))
noncomputable def f_is_whole : Fn := runD 3 b_is_whole
noncomputable def b_signature_error : DS :=
 sCons (sIf (dOr (dNot (dE (eIsi "tuple" (eVar 0)))) (dNot (dE (eCh opLe opLe (eC (.int 1)) (eA fLen (aCons (eVar 0) (aNil))) (eC (.int 6))))))
 (sRet (eC (.str "form")))
 (sNil))
 (sCons (sFor (iEnu (aCons (eVar 0) (aNil))) (gT 2 (gCons (gN 1) (gCons (gN 2) (gNil))))
 (sIf (dNot (dE (eA (fun xs S => if xs.length = 3 then f_is_whole xs S else none) (aCons (eVar 2) (aCons (eC (.int 0)) (aCons (eC (.int 3)) (aNil)))))))
 (sRet (eA mkT (aCons (eC (.str "arity")) (aCons (eVar 1) (aNil)))))
 (sNil)))
 (sRet (eIf (dE (eOp (opInA false) (eC (.int 0)) (eVar 0))) (eC .non) (eC (.str "plain")))))
noncomputable def f_signature_error : Fn := runD 3 b_signature_error
noncomputable def b_is_thing : DS :=
 sCons (sIf (dOr (dNot (dE (eIsi "tuple" (eVar 1)))) (dOr (dE (eOp opEqA (eVar 1) (eA mkT (aNil)))) (dNot (dE (eA (fun xs S => if xs.length = 3 then f_is_whole xs S else none) (aCons (eOp opIx (eVar 1) (eC (.int 0))) (aCons (eC (.int 0)) (aCons (eOp opSub (eA fLen (aCons (eVar 0) (aNil))) (eC (.int 1))) (aNil)))))))))
 (sRet (eC (.bl false)))
 (sNil))
 (sRet (eOp opEq (eA fLen (aCons (eVar 1) (aNil))) (eOp opAdd (eOp opIx (eVar 0) (eOp opIx (eVar 1) (eC (.int 0)))) (eC (.int 1)))))
noncomputable def f_is_thing : Fn := runD 2 b_is_thing
noncomputable def b_thing_error : DS :=
 sCons (sPar 3 4 (aCons (eA mkL (aCons (eA mkT (aCons (eA mkT (aNil)) (aCons (eVar 1) (aNil)))) (aNil))) (aCons (eC (.int 0)) (aNil))))
 (sCons (sWh (dE (eOp opNeA (eVar 3) (eA mkL (aNil))))
 (sCons (sAsg (eM "list" mPop (eVar 3) aNil) (gT 2 (gCons (gN 5) (gCons (gN 6) (gNil)))))
 (sCons (sIf (dE (eOp opEq (eVar 4) (eC (.int 40))))
 (sRet (eC (.str "size")))
 (sNil))
 (sCons (sSet 4 (eOp opAdd (eVar 4) (eC (.int 1))))
 (sIf (dNot (dE (eA (fun xs S => if xs.length = 3 then f_is_whole xs S else none) (aCons (eVar 6) (aCons (eC (.int 0)) (aCons (eOp opSub (eVar 2) (eC (.int 1))) (aNil)))))))
 (sCons (sIf (dNot (dE (eA (fun xs S => if xs.length = 2 then f_is_thing xs S else none) (aCons (eVar 0) (aCons (eVar 6) (aNil))))))
 (sRet (eA mkT (aCons (eC (.str "form")) (aCons (eVar 5) (aNil)))))
 (sNil))
 (sCons (sSet 7 (eLc (iEnu (aCons (eSl opSl (eVar 6) (oSm (eC (.int 1))) (oNon)) (aNil))) (gT 2 (gCons (gN 8) (gCons (gN 9) (gNil)))) (dYes) (eA mkT (aCons (eOp opAdd (eVar 5) (eA mkT (aCons (eVar 8) (aNil)))) (aCons (eVar 9) (aNil)))) [8, 9]))
 (sEx (eM "list" mExtend (eVar 3) (aCons (eRevS (eVar 7)) (aNil))))))
 (sNil))))))
 (sRet (eC .non)))
noncomputable def f_thing_error : Fn := runD 10 b_thing_error
noncomputable def b_term_error : DS :=
 sRet (eA (fun xs S => if xs.length = 3 then f_thing_error xs S else none) (aCons (eVar 0) (aCons (eVar 1) (aCons (eC (.int 0)) (aNil)))))
noncomputable def f_term_error : Fn := runD 2 b_term_error
noncomputable def b__law_own_bag : DS :=
 sCons (sSet 1 (eLc (iSeq (eSl opSl (eVar 0) (oNon) (oSm (eC (.int 63))))) (gN 3) (dYes) (eA fAbs (aCons (eVar 3) (aNil))) [3]))
 (sCons (sSet 2 (eOp opAdd (eC (.int 1101)) (eA fLen (aCons (eVar 1) (aNil)))))
 (sCons (sFor (iSeq (eVar 1)) (gN 3)
 (sSet 2 (eOp opMod (eA fInt (aCons (eOp opAdd (eOp opAdd (eOp opMul (eVar 2) (eC (.int 48271))) (eOp opMod (eA fInt (aCons (eVar 3) (aNil))) (eC (.int 2147483629)))) (eC (.int 7))) (aNil))) (eC (.int 2147483647)))))
 (sRet (eA mkL (aCons (eLRev (eVar 1)) (aCons (eC (.int 0)) (aCons (eVar 2) (aNil))))))))
noncomputable def f__law_own_bag : Fn := runD 4 b__law_own_bag
noncomputable def b__law_draw : DS :=
 sCons (sWh (dAnd (dE (eOp opEq (eOp opIx (eVar 0) (eC (.int 1))) (eC (.int 0)))) (dE (eOp opNe (eOp opIx (eVar 0) (eC (.int 0))) (eA mkL (aNil)))))
 (sCons (sSet 2 (eM "list" mPop (eOp opIx (eVar 0) (eC (.int 0))) aNil))
 (sSub opSet (eIf (dE (eOp opGt (eVar 2) (eOp opPow (eC (.int 10)) (eC (.int 9))))) (eVar 2) (eC (.int 0))) (eVar 0) (eC (.int 1)))))
 (sCons (sIf (dE (eOp opGt (eOp opIx (eVar 0) (eC (.int 1))) (eC (.int 0))))
 (sCons (sSet 3 (eOp opMod (eA fInt (aCons (eOp opIx (eVar 0) (eC (.int 1))) (aNil))) (eVar 1)))
 (sCons (sSub opSet (eOp opFdiv (eOp opIx (eVar 0) (eC (.int 1))) (eVar 1)) (eVar 0) (eC (.int 1)))
 (sRet (eVar 3))))
 (sNil))
 (sCons (sSub opSet (eOp opMod (eA fInt (aCons (eOp opAdd (eOp opMul (eOp opIx (eVar 0) (eC (.int 2))) (eC (.int 48271))) (eC (.int 11))) (aNil))) (eC (.int 2147483647))) (eVar 0) (eC (.int 2)))
 (sRet (eOp opMod (eA fInt (aCons (eOp opFdiv (eOp opMod (eA fInt (aCons (eOp opMul (eOp opIx (eVar 0) (eC (.int 2))) (eOp opIx (eVar 0) (eC (.int 2)))) (aNil))) (eC (.int 2147483629))) (eC (.int 7))) (aNil))) (eVar 1)))))
noncomputable def f__law_draw : Fn := runD 4 b__law_draw
noncomputable def b__law_pick : DS :=
 sRet (eOp opIx (eVar 1) (eA (fun xs S => if xs.length = 2 then f__law_draw xs S else none) (aCons (eVar 0) (aCons (eA fLen (aCons (eVar 1) (aNil))) (aNil)))))
noncomputable def f__law_pick : Fn := runD 2 b__law_pick
noncomputable def b__law_signature : DS :=
 sCons (sSet 1 (eA (fun xs S => if xs.length = 2 then f__law_pick xs S else none) (aCons (eVar 0) (aCons (eA mkL (aCons (eC (.int 4)) (aCons (eC (.int 3)) (aCons (eC (.int 2)) (aCons (eC (.int 5)) (aCons (eC (.int 6)) (aCons (eC (.int 4)) (aCons (eC (.int 3)) (aCons (eC (.int 1)) (aNil)))))))))) (aNil)))))
 (sCons (sSet 2 (eLc (iRngOne (aCons (eVar 1) (aNil))) (gN 3) (dYes) (eA (fun xs S => if xs.length = 2 then f__law_draw xs S else none) (aCons (eVar 0) (aCons (eC (.int 4)) (aNil)))) [3]))
 (sCons (sSub opSet (eC (.int 0)) (eVar 2) (eA (fun xs S => if xs.length = 2 then f__law_draw xs S else none) (aCons (eVar 0) (aCons (eVar 1) (aNil)))))
 (sRet (eA fTuple (aCons (eVar 2) (aNil))))))
noncomputable def f__law_signature : Fn := runD 4 b__law_signature
noncomputable def b__law_sums : DS :=
 sCons (sSet 1 (eOp opAdd (eA mkL (aCons (eC (.bl true)) (aNil))) (eOp opMul (eA mkL (aCons (eC (.bl false)) (aNil))) (eC (.int 45)))))
 (sCons (sFor (iRngTwo (aCons (eC (.int 1)) (aCons (eC (.int 46)) (aNil)))) (gN 2)
 (sSub opSet (eA fAny (aCons (eLc (iSeq (eVar 0)) (gN 3) (dE (eCh opLt opLe (eC (.int 0)) (eVar 3) (eVar 2))) (eOp opIx (eVar 1) (eOp opSub (eVar 2) (eVar 3))) [3]) (aNil))) (eVar 1) (eVar 2)))
 (sRet (eVar 1)))
noncomputable def f__law_sums : Fn := runD 4 b__law_sums
noncomputable def b__law_size : DS :=
 sCons (sSet 4 (eLc (iRngTwo (aCons (eVar 2) (aCons (eOp opAdd (eVar 3) (eC (.int 1))) (aNil)))) (gN 5) (dE (eOp opIx (eVar 1) (eOp opSub (eVar 5) (eC (.int 1))))) (eVar 5) [5]))
 (sRet (eIf (dE (eOp opNeA (eVar 4) (eA mkL (aNil)))) (eA (fun xs S => if xs.length = 2 then f__law_pick xs S else none) (aCons (eVar 0) (aCons (eVar 4) (aNil)))) (eC (.int 1))))
noncomputable def f__law_size : Fn := runD 6 b__law_size
noncomputable def b__law_row : DS :=
 sCons (sPar 4 5 (aCons (eA mkL (aNil)) (aCons (eC (.int 1)) (aNil))))
 (sCons (sFor (iRngThree (aCons (eOp opSub (eVar 3) (eC (.int 1))) (aCons (eUn opNeg (eC (.int 1))) (aCons (eUn opNeg (eC (.int 1))) (aNil))))) (gN 6)
 (sCons (sSet 7 (eA mkL (aNil)))
 (sCons (sFor (iSeq (eVar 1)) (gT 2 (gCons (gN 8) (gCons (gN 9) (gNil))))
 (sCons (sSet 10 (eOp opAdd (eOp opSub (eVar 5) (eC (.int 1))) (eVar 9)))
 (sIf (dAnd (dE (eOp opGe (eVar 6) (eVar 10))) (dAnd (dE (eOp opIx (eVar 2) (eOp opSub (eVar 6) (eVar 10)))) (dOr (dE (eOp opGt (eVar 10) (eC (.int 0)))) (dE (eOp opEq (eVar 6) (eC (.int 0)))))))
 (sEx (eM "list" mAppend (eVar 7) (aCons (eA mkT (aCons (eVar 8) (aCons (eVar 9) (aNil)))) (aNil))))
 (sNil))))
 (sCons (sAsg (eA (fun xs S => if xs.length = 2 then f__law_pick xs S else none) (aCons (eVar 0) (aCons (eVar 7) (aNil)))) (gT 2 (gCons (gN 8) (gCons (gN 9) (gNil)))))
 (sCons (sEx (eM "list" mAppend (eVar 4) (aCons (eVar 8) (aNil))))
 (sSet 5 (eOp opAdd (eOp opSub (eVar 5) (eC (.int 1))) (eVar 9))))))))
 (sRet (eVar 4)))
noncomputable def f__law_row : Fn := runD 11 b__law_row
noncomputable def b__law_is_same (self : Fn) : DS :=
 sCons (sIf (dE (eOp opIs (eVar 1) (eC .non)))
 (sRet (eOp opIs (eVar 0) (eC .non)))
 (sNil))
 (sCons (sIf (dE (eIsi "bool" (eVar 1)))
 (sRet (eAnd (eIsi "bool" (eVar 0)) (eOp opEq (eVar 0) (eVar 1))))
 (sNil))
 (sCons (sIf (dE (eIsi "int" (eVar 1)))
 (sRet (eAnd (eIsi "int" (eVar 0)) (eAnd (eNot (eIsi "bool" (eVar 0))) (eOp opEq (eVar 0) (eVar 1)))))
 (sNil))
 (sCons (sIf (dE (eIsi "str" (eVar 1)))
 (sRet (eAnd (eIsi "str" (eVar 0)) (eOp opEq (eVar 0) (eVar 1))))
 (sNil))
 (sCons (sIf (dOr (dNot (dE (eIsi "tuple" (eVar 0)))) (dE (eOp opNe (eA fLen (aCons (eVar 0) (aNil))) (eA fLen (aCons (eVar 1) (aNil))))))
 (sRet (eC (.bl false)))
 (sNil))
 (sRet (eA fAll (aCons (eLc (iZp (aCons (eVar 0) (aCons (eVar 1) (aNil)))) (gT 2 (gCons (gN 2) (gCons (gN 3) (gNil)))) (dYes) (eA (fun xs S => if xs.length = 2 then self xs S else none) (aCons (eVar 2) (aCons (eVar 3) (aNil)))) [2, 3]) (aNil))))))))
noncomputable def f__law_is_same : Nat → Fn
 | 0 => fun _ _ => none
 | n + 1 => runD 4 (b__law_is_same (f__law_is_same n))
noncomputable def b__law_odd : DS :=
 sCons (sSet 2 (eA mkT (aCons (eC (.int 0)) (aNil))))
 (sCons (sFor (iRngOne (aCons (eA (fun xs S => if xs.length = 2 then f__law_pick xs S else none) (aCons (eVar 0) (aCons (eA mkL (aCons (eC (.int 1)) (aCons (eC (.int 2)) (aCons (eC (.int 12)) (aNil))))) (aNil)))) (aNil))) (gN 3)
 (sSet 2 (eIf (dE (eOp opEq (eA (fun xs S => if xs.length = 2 then f__law_draw xs S else none) (aCons (eVar 0) (aCons (eC (.int 2)) (aNil)))) (eC (.int 0)))) (eA mkL (aCons (eVar 2) (aNil))) (eA mkT (aCons (eVar 2) (aNil))))))
 (sCons (sSet 4 (eA mkL (aCons (eC .non) (aCons (eC (.bl true)) (aCons (eC (.bl false)) (aCons (eUn opNeg (eC (.int 1))) (aCons (eC (.int 0)) (aCons (eC (.int 1)) (aCons (eC (.int 4)) (aCons (eVar 1) (aCons (eOp opPow (eC (.int 10)) (eC (.int 40))) (aCons (eC (.str "")) (aCons (eC (.str "0")) (aCons (eC (.str "a(b)")) (aCons (eA mkT (aNil)) (aCons (eA mkL (aNil)) (aCons (eDic0) (aCons (eA mkL (aCons (eC (.int 0)) (aNil))) (aCons (eDic [(eC (.int 0), eA mkT (aCons (eC (.int 0)) (aNil)))]) (aCons (eA mkT (aCons (eA mkT (aCons (eC (.int 0)) (aNil))) (aNil))) (aCons (eA mkT (aCons (eC .non) (aNil))) (aCons (eA mkT (aCons (eC (.str "0")) (aNil))) (aCons (eA mkT (aCons (eC (.bl true)) (aNil))) (aCons (eA mkT (aCons (eC (.bl false)) (aNil))) (aCons (eA mkT (aCons (eUn opNeg (eC (.int 1))) (aNil))) (aCons (eA mkT (aCons (eVar 1) (aNil))) (aCons (eA mkT (aCons (eC (.int 0)) (aCons (eC (.int 0)) (aNil)))) (aCons (eA mkT (aCons (eC (.int 0)) (aCons (eA mkT (aCons (eC (.int 0)) (aNil))) (aNil)))) (aCons (eA mkT (aCons (eA mkL (aCons (eC (.int 0)) (aNil))) (aNil))) (aCons (eVar 2) (aNil)))))))))))))))))))))))))))))))
 (sRet (eA (fun xs S => if xs.length = 2 then f__law_pick xs S else none) (aCons (eVar 0) (aCons (eVar 4) (aNil)))))))
noncomputable def f__law_odd : Fn := runD 5 b__law_odd
noncomputable def b__law_bent : DS :=
 sCons (sPar3 3 4 5 (aCons (eA fLen (aCons (eVar 2) (aNil))) (aCons (eA mkT (aCons (eMT mIndexT (eVar 2) (aCons (eC (.int 0)) (aNil))) (aNil))) (aCons (eA (fun xs S => if xs.length = 2 then f__law_draw xs S else none) (aCons (eVar 0) (aCons (eC (.int 12)) (aNil)))) (aNil)))))
 (sCons (sIf (dE (eOp opLt (eVar 5) (eC (.int 4))))
 (sRet (eOp opIx (eA mkL (aCons (eA fList (aCons (eVar 1) (aNil))) (aCons (eOp opAdd (eVar 1) (eA mkT (aCons (eVar 4) (aNil)))) (aCons (eSl opSl (eVar 1) (oNon) (oSm (eUn opNeg (eC (.int 1))))) (aCons (eA mkT (aCons (eVar 1) (aNil))) (aNil)))))) (eVar 5)))
 (sNil))
 (sCons (sIf (dE (eOp opLt (eVar 5) (eC (.int 6))))
 (sRet (eOp opAdd (eA mkT (aCons (eIf (dE (eOp opEq (eVar 5) (eC (.int 4)))) (eVar 3) (eOp opSub (eOp opIx (eVar 1) (eC (.int 0))) (eVar 3))) (aNil))) (eSl opSl (eVar 1) (oSm (eC (.int 1))) (oNon))))
 (sNil))
 (sCons (sIf (dE (eOp opEq (eVar 5) (eC (.int 6))))
 (sRet (eOp opAdd (eA mkT (aCons (eOp opEq (eOp opIx (eVar 1) (eC (.int 0))) (eC (.int 1))) (aNil))) (eSl opSl (eVar 1) (oSm (eC (.int 1))) (oNon))))
 (sNil))
 (sCons (sIf (dE (eOp opEq (eVar 5) (eC (.int 7))))
 (sRet (eOp opAdd (eA mkT (aCons (eOp opMod (eA fInt (aCons (eOp opAdd (eOp opIx (eVar 1) (eC (.int 0))) (eC (.int 1))) (aNil))) (eVar 3)) (aNil))) (eSl opSl (eVar 1) (oSm (eC (.int 1))) (oNon))))
 (sNil))
 (sCons (sIf (dE (eOp opEq (eVar 5) (eC (.int 8))))
 (sRet (eOp opAdd (eA mkT (aCons (eA fStr (aCons (eOp opIx (eVar 1) (eC (.int 0))) (aNil))) (aNil))) (eSl opSl (eVar 1) (oSm (eC (.int 1))) (oNon))))
 (sNil))
 (sCons (sIf (dE (eOp opEq (eVar 5) (eC (.int 9))))
 (sRet (eOp opIx (eVar 1) (eC (.int 0))))
 (sNil))
 (sRet (eIf (dE (eOp opEq (eVar 5) (eC (.int 10)))) (eDic [(eOp opIx (eVar 1) (eC (.int 0)), eA fList (aCons (eVar 1) (aNil)))]) (eA (fun xs S => if xs.length = 2 then f__law_odd xs S else none) (aCons (eVar 0) (aCons (eVar 3) (aNil))))))))))))
noncomputable def f__law_bent : Fn := runD 6 b__law_bent
noncomputable def b__law_spoilt : DS :=
 sCons (sSet 4 (eA mkL (aNil)))
 (sCons (sFor (iRngThree (aCons (eOp opSub (eA fLen (aCons (eVar 1) (aNil))) (eC (.int 1))) (aCons (eUn opNeg (eC (.int 1))) (aCons (eUn opNeg (eC (.int 1))) (aNil))))) (gN 5)
 (sCons (sSet 6 (eA fTuple (aCons (eOp opAdd (eA mkL (aCons (eOp opIx (eVar 1) (eVar 5)) (aNil))) (eLc (iRngOne (aCons (eOp opIx (eVar 2) (eOp opIx (eVar 1) (eVar 5))) (aNil))) (gN 7) (dYes) (eM "list" mPop (eVar 4) aNil) [7])) (aNil))))
 (sEx (eM "list" mAppend (eVar 4) (aCons (eIf (dE (eOp (opInA false) (eVar 5) (eVar 3))) (eA (fun xs S => if xs.length = 3 then f__law_bent xs S else none) (aCons (eVar 0) (aCons (eVar 6) (aCons (eVar 2) (aNil))))) (eVar 6)) (aNil))))))
 (sRet (eOp opIx (eVar 4) (eUn opNeg (eC (.int 1))))))
noncomputable def f__law_spoilt : Fn := runD 8 b__law_spoilt
noncomputable def b__law_tower : DS :=
 sCons (sSet 2 (eLc (iRngOne (aCons (eA fLen (aCons (eVar 1) (aNil))) (aNil))) (gN 4) (dE (eOp opGt (eOp opIx (eVar 1) (eVar 4)) (eC (.int 0)))) (eVar 4) [4]))
 (sCons (sSet 3 (eIf (dE (eOp opEq (eA (fun xs S => if xs.length = 2 then f__law_draw xs S else none) (aCons (eVar 0) (aCons (eC (.int 2)) (aNil)))) (eC (.int 0)))) (eA (fun xs S => if xs.length = 2 then f__law_odd xs S else none) (aCons (eVar 0) (aCons (eA fLen (aCons (eVar 1) (aNil))) (aNil)))) (eA mkT (aCons (eMT mIndexT (eVar 1) (aCons (eC (.int 0)) (aNil))) (aNil)))))
 (sCons (sIf (dE (eOp opEqA (eVar 2) (eA mkL (aNil))))
 (sRet (eVar 3))
 (sNil))
 (sCons (sSet 4 (eA (fun xs S => if xs.length = 2 then f__law_pick xs S else none) (aCons (eVar 0) (aCons (eVar 2) (aNil)))))
 (sCons (sSet 5 (eOp opIx (eA mkL (aCons (eC (.int 0)) (aCons (eOp opAdd (eC (.int 36)) (eA (fun xs S => if xs.length = 2 then f__law_draw xs S else none) (aCons (eVar 0) (aCons (eC (.int 9)) (aNil))))) (aCons (eOp opAdd (eC (.int 1)) (eA (fun xs S => if xs.length = 2 then f__law_draw xs S else none) (aCons (eVar 0) (aCons (eC (.int 7)) (aNil))))) (aCons (eOp opAdd (eC (.int 1)) (eA (fun xs S => if xs.length = 2 then f__law_draw xs S else none) (aCons (eVar 0) (aCons (eC (.int 5)) (aNil))))) (aNil)))))) (eOp opIx (eVar 1) (eVar 4))))
 (sCons (sFor (iRngOne (aCons (eVar 5) (aNil))) (gN 6)
 (sSet 3 (eA fTuple (aCons (eOp opAdd (eA mkL (aCons (eVar 4) (aNil))) (eOp opMul (eA mkL (aCons (eVar 3) (aNil))) (eOp opIx (eVar 1) (eVar 4)))) (aNil)))))
 (sRet (eVar 3)))))))
noncomputable def f__law_tower : Fn := runD 7 b__law_tower
noncomputable def b__law_with_bool : DS :=
 sCons (sSet 3 (eA mkL (aNil)))
 (sCons (sFor (iRngThree (aCons (eOp opSub (eA fLen (aCons (eVar 0) (aNil))) (eC (.int 1))) (aCons (eUn opNeg (eC (.int 1))) (aCons (eUn opNeg (eC (.int 1))) (aNil))))) (gN 4)
 (sCons (sSet 5 (eIf (dAnd (dE (eOp opEq (eVar 4) (eVar 2))) (dE (eOp opLt (eOp opIx (eVar 0) (eVar 4)) (eC (.int 2))))) (eOp opEq (eOp opIx (eVar 0) (eVar 4)) (eC (.int 1))) (eOp opIx (eVar 0) (eVar 4))))
 (sEx (eM "list" mAppend (eVar 3) (aCons (eA fTuple (aCons (eOp opAdd (eA mkL (aCons (eVar 5) (aNil))) (eLc (iRngOne (aCons (eOp opIx (eVar 1) (eOp opIx (eVar 0) (eVar 4))) (aNil))) (gN 6) (dYes) (eM "list" mPop (eVar 3) aNil) [6])) (aNil))) (aNil))))))
 (sRet (eOp opIx (eVar 3) (eUn opNeg (eC (.int 1))))))
noncomputable def f__law_with_bool : Fn := runD 7 b__law_with_bool
noncomputable def b__law_term_values : DS :=
 sCons (sPar 2 3 (aCons (eLc (iRngOne (aCons (eA fLen (aCons (eVar 1) (aNil))) (aNil))) (gN 13) (dYes) (eA mkT (aCons (eVar 13) (aCons (eOp opIx (eVar 1) (eVar 13)) (aNil)))) [13]) (aCons (eA (fun xs S => if xs.length = 1 then f__law_sums xs S else none) (aCons (eVar 1) (aNil))) (aNil))))
 (sCons (sSet 4 (eA mkL (aCons (eA (fun xs S => if xs.length = 2 then f__law_odd xs S else none) (aCons (eVar 0) (aCons (eA fLen (aCons (eVar 1) (aNil))) (aNil)))) (aCons (eA (fun xs S => if xs.length = 2 then f__law_tower xs S else none) (aCons (eVar 0) (aCons (eVar 1) (aNil)))) (aNil)))))
 (sCons (sFor (iRngOne (aCons (eC (.int 6)) (aNil))) (gN 5)
 (sCons (sAsg (eA (fun xs S => if xs.length = 2 then f__law_pick xs S else none) (aCons (eVar 0) (aCons (eA mkL (aCons (eA mkT (aCons (eC (.int 1)) (aCons (eC (.int 4)) (aNil)))) (aCons (eA mkT (aCons (eC (.int 2)) (aCons (eC (.int 8)) (aNil)))) (aCons (eA mkT (aCons (eC (.int 2)) (aCons (eC (.int 12)) (aNil)))) (aCons (eA mkT (aCons (eC (.int 38)) (aCons (eC (.int 43)) (aNil)))) (aNil)))))) (aNil)))) (gT 2 (gCons (gN 6) (gCons (gN 7) (gNil)))))
 (sCons (sIf (dE (eOp opLt (eVar 5) (eC (.int 2))))
 (sAsg (eA (fun xs S => if xs.length = 2 then f__law_pick xs S else none) (aCons (eVar 0) (aCons (eIf (dE (eOp opEq (eVar 5) (eC (.int 0)))) (eA mkL (aCons (eA mkT (aCons (eC (.int 40)) (aCons (eC (.int 40)) (aNil)))) (aCons (eA mkT (aCons (eC (.int 39)) (aCons (eC (.int 40)) (aNil)))) (aNil)))) (eA mkL (aCons (eA mkT (aCons (eC (.int 41)) (aCons (eC (.int 41)) (aNil)))) (aCons (eA mkT (aCons (eC (.int 41)) (aCons (eC (.int 42)) (aNil)))) (aCons (eA mkT (aCons (eC (.int 36)) (aCons (eC (.int 44)) (aNil)))) (aNil)))))) (aNil)))) (gT 2 (gCons (gN 6) (gCons (gN 7) (gNil)))))
 (sNil))
 (sCons (sSet 8 (eA (fun xs S => if xs.length = 4 then f__law_row xs S else none) (aCons (eVar 0) (aCons (eVar 2) (aCons (eVar 3) (aCons (eA (fun xs S => if xs.length = 4 then f__law_size xs S else none) (aCons (eVar 0) (aCons (eVar 3) (aCons (eVar 6) (aCons (eVar 7) (aNil)))))) (aNil)))))))
 (sCons (sSet 9 (eA mkL (aNil)))
 (sCons (sFor (iRngOne (aCons (eA (fun xs S => if xs.length = 2 then f__law_pick xs S else none) (aCons (eVar 0) (aCons (eA mkL (aCons (eC (.int 0)) (aCons (eC (.int 1)) (aCons (eC (.int 1)) (aCons (eC (.int 2)) (aCons (eC (.int 3)) (aNil))))))) (aNil)))) (aNil))) (gN 10)
 (sEx (eM "list" mAppend (eVar 9) (aCons (eA (fun xs S => if xs.length = 2 then f__law_pick xs S else none) (aCons (eVar 0) (aCons (eA mkL (aCons (eA (fun xs S => if xs.length = 2 then f__law_draw xs S else none) (aCons (eVar 0) (aCons (eA fLen (aCons (eVar 8) (aNil))) (aNil)))) (aCons (eA fMax (aCons (eC (.int 0)) (aCons (eOp opSub (eOp opSub (eA fLen (aCons (eVar 8) (aNil))) (eC (.int 1))) (eA (fun xs S => if xs.length = 2 then f__law_draw xs S else none) (aCons (eVar 0) (aCons (eC (.int 5)) (aNil))))) (aNil)))) (aNil)))) (aNil)))) (aNil)))))
 (sEx (eM "list" mAppend (eVar 4) (aCons (eA (fun xs S => if xs.length = 4 then f__law_spoilt xs S else none) (aCons (eVar 0) (aCons (eVar 8) (aCons (eVar 1) (aCons (eVar 9) (aNil)))))) (aNil))))))))))
 (sCons (sSet 8 (eA (fun xs S => if xs.length = 4 then f__law_row xs S else none) (aCons (eVar 0) (aCons (eVar 2) (aCons (eVar 3) (aCons (eA (fun xs S => if xs.length = 4 then f__law_size xs S else none) (aCons (eVar 0) (aCons (eVar 3) (aCons (eC (.int 1)) (aCons (eC (.int 10)) (aNil)))))) (aNil)))))))
 (sCons (sSet 11 (eOp opAdd (eLc (iRngOne (aCons (eA fLen (aCons (eVar 8) (aNil))) (aNil))) (gN 12) (dE (eOp opLt (eOp opIx (eVar 8) (eVar 12)) (eC (.int 2)))) (eVar 12) [12]) (eA mkL (aCons (eC (.int 0)) (aNil)))))
 (sCons (sSet 12 (eA (fun xs S => if xs.length = 2 then f__law_pick xs S else none) (aCons (eVar 0) (aCons (eVar 11) (aNil)))))
 (sRet (eOp opAdd (eVar 4) (eA mkL (aCons (eA (fun xs S => if xs.length = 3 then f__law_with_bool xs S else none) (aCons (eVar 8) (aCons (eVar 1) (aCons (eUn opNeg (eC (.int 1))) (aNil))))) (aCons (eA (fun xs S => if xs.length = 3 then f__law_with_bool xs S else none) (aCons (eVar 8) (aCons (eVar 1) (aCons (eVar 12) (aNil))))) (aNil)))))))))))
noncomputable def f__law_term_values : Fn := runD 14 b__law_term_values
noncomputable def b__law_due_term : DS :=
 sCons (sSet 2 (eA mkL (aCons (eA mkT (aCons (eVar 1) (aCons (eA mkT (aNil)) (aNil)))) (aNil))))
 (sCons (sFor (iRngOne (aCons (eC (.int 41)) (aNil))) (gN 3)
 (sCons (sIf (dE (eOp opEqA (eVar 2) (eA mkL (aNil))))
 (sRet (eC .non))
 (sNil))
 (sCons (sIf (dE (eOp opEq (eVar 3) (eC (.int 40))))
 (sRet (eC (.str "size")))
 (sNil))
 (sCons (sAsg (eM "list" mPop (eVar 2) aNil) (gT 2 (gCons (gN 4) (gCons (gN 5) (gNil)))))
 (sCons (sIf (dOr (dNot (dE (eIsi "tuple" (eVar 4)))) (dE (eOp opEq (eA fLen (aCons (eVar 4) (aNil))) (eC (.int 0)))))
 (sRet (eA mkT (aCons (eC (.str "form")) (aCons (eVar 5) (aNil)))))
 (sNil))
 (sCons (sIf (dOr (dNot (dE (eIsi "int" (eOp opIx (eVar 4) (eC (.int 0)))))) (dOr (dE (eIsi "bool" (eOp opIx (eVar 4) (eC (.int 0))))) (dNot (dE (eCh opLe opLt (eC (.int 0)) (eOp opIx (eVar 4) (eC (.int 0))) (eA fLen (aCons (eVar 0) (aNil))))))))
 (sRet (eA mkT (aCons (eC (.str "form")) (aCons (eVar 5) (aNil)))))
 (sNil))
 (sCons (sIf (dE (eOp opNe (eA fLen (aCons (eVar 4) (aNil))) (eOp opAdd (eC (.int 1)) (eOp opIx (eVar 0) (eOp opIx (eVar 4) (eC (.int 0)))))))
 (sRet (eA mkT (aCons (eC (.str "form")) (aCons (eVar 5) (aNil)))))
 (sNil))
 (sFor (iRngThree (aCons (eOp opSub (eA fLen (aCons (eVar 4) (aNil))) (eC (.int 1))) (aCons (eC (.int 0)) (aCons (eUn opNeg (eC (.int 1))) (aNil))))) (gN 6)
 (sEx (eM "list" mAppend (eVar 2) (aCons (eA mkT (aCons (eOp opIx (eVar 4) (eVar 6)) (aCons (eOp opAdd (eVar 5) (eA mkT (aCons (eOp opSub (eVar 6) (eC (.int 1))) (aNil)))) (aNil)))) (aNil))))))))))))
 (sRet (eC (.str "size"))))
noncomputable def f__law_due_term : Fn := runD 7 b__law_due_term
noncomputable def b__law_signature_value : DS :=
 sCons (sSet 1 (eLc (iRngOne (aCons (eA (fun xs S => if xs.length = 2 then f__law_pick xs S else none) (aCons (eVar 0) (aCons (eA mkL (aCons (eC (.int 1)) (aCons (eC (.int 2)) (aCons (eC (.int 3)) (aCons (eC (.int 4)) (aCons (eC (.int 5)) (aCons (eC (.int 6)) (aCons (eC (.int 6)) (aCons (eC (.int 7)) (aCons (eC (.int 7)) (aCons (eC (.int 8)) (aCons (eC (.int 0)) (aCons (eC (.int 3)) (aNil)))))))))))))) (aNil)))) (aNil))) (gN 6) (dYes) (eA (fun xs S => if xs.length = 2 then f__law_draw xs S else none) (aCons (eVar 0) (aCons (eC (.int 4)) (aNil)))) [6]))
 (sCons (sIf (dAnd (dE (eOp opNeA (eVar 1) (eA mkL (aNil)))) (dE (eOp opGt (eA (fun xs S => if xs.length = 2 then f__law_draw xs S else none) (aCons (eVar 0) (aCons (eC (.int 4)) (aNil)))) (eC (.int 0)))))
 (sSub opSet (eC (.int 0)) (eVar 1) (eA (fun xs S => if xs.length = 2 then f__law_draw xs S else none) (aCons (eVar 0) (aCons (eA fLen (aCons (eVar 1) (aNil))) (aNil)))))
 (sNil))
 (sCons (sFor (iRngOne (aCons (eA (fun xs S => if xs.length = 2 then f__law_pick xs S else none) (aCons (eVar 0) (aCons (eA mkL (aCons (eC (.int 0)) (aCons (eC (.int 0)) (aCons (eC (.int 1)) (aCons (eC (.int 1)) (aCons (eC (.int 2)) (aNil))))))) (aNil)))) (aNil))) (gN 2)
 (sIf (dE (eOp opNeA (eVar 1) (eA mkL (aNil))))
 (sCons (sSet 3 (eA (fun xs S => if xs.length = 2 then f__law_draw xs S else none) (aCons (eVar 0) (aCons (eA fLen (aCons (eVar 1) (aNil))) (aNil)))))
 (sCons (sSet 4 (eA mkL (aCons (eC (.bl true)) (aCons (eC (.bl false)) (aCons (eUn opNeg (eC (.int 1))) (aCons (eC (.int 4)) (aCons (eC (.int 4)) (aCons (eC (.int 5)) (aCons (eOp opPow (eC (.int 10)) (eC (.int 40))) (aCons (eC (.str "0")) (aCons (eC .non) (aCons (eA mkT (aCons (eC (.int 0)) (aNil))) (aCons (eA mkL (aCons (eC (.int 0)) (aNil))) (aCons (eC (.str "")) (aCons (eUn opNeg (eOp opPow (eC (.int 10)) (eC (.int 9)))) (aNil))))))))))))))))
 (sSub opSet (eA (fun xs S => if xs.length = 2 then f__law_pick xs S else none) (aCons (eVar 0) (aCons (eVar 4) (aNil)))) (eVar 1) (eVar 3))))
 (sNil)))
 (sCons (sSet 5 (eA (fun xs S => if xs.length = 2 then f__law_draw xs S else none) (aCons (eVar 0) (aCons (eC (.int 12)) (aNil)))))
 (sCons (sIf (dE (eOp opEq (eVar 5) (eC (.int 0))))
 (sRet (eVar 1))
 (sNil))
 (sRet (eIf (dE (eOp opEq (eVar 5) (eC (.int 1)))) (eA (fun xs S => if xs.length = 2 then f__law_odd xs S else none) (aCons (eVar 0) (aCons (eC (.int 4)) (aNil)))) (eA fTuple (aCons (eVar 1) (aNil)))))))))
noncomputable def f__law_signature_value : Fn := runD 7 b__law_signature_value
noncomputable def b__law_due_signature : DS :=
 sCons (sIf (dOr (dNot (dE (eIsi "tuple" (eVar 0)))) (dOr (dE (eOp opLt (eA fLen (aCons (eVar 0) (aNil))) (eC (.int 1)))) (dE (eOp opGt (eA fLen (aCons (eVar 0) (aNil))) (eC (.int 6))))))
 (sRet (eC (.str "form")))
 (sNil))
 (sCons (sFor (iEnu (aCons (eVar 0) (aNil))) (gT 2 (gCons (gN 1) (gCons (gN 2) (gNil))))
 (sIf (dOr (dNot (dE (eIsi "int" (eVar 2)))) (dOr (dE (eIsi "bool" (eVar 2))) (dOr (dE (eOp opLt (eVar 2) (eC (.int 0)))) (dE (eOp opGt (eVar 2) (eC (.int 3)))))))
 (sRet (eA mkT (aCons (eC (.str "arity")) (aCons (eVar 1) (aNil)))))
 (sNil)))
 (sRet (eIf (dE (eOp opEq (eA fMinT (aCons (eVar 0) (aNil))) (eC (.int 0)))) (eC .non) (eC (.str "plain")))))
noncomputable def f__law_due_signature : Fn := runD 3 b__law_due_signature
noncomputable def b_law : DS :=
 sCons (sSet 1 (eA (fun xs S => if xs.length = 1 then f__law_own_bag xs S else none) (aCons (eVar 0) (aNil))))
 (sCons (sSet 2 (eA mkL (aNil)))
 (sCons (sFor (iRngOne (aCons (eC (.int 2)) (aNil))) (gN 3)
 (sCons (sSet 4 (eA (fun xs S => if xs.length = 1 then f__law_signature xs S else none) (aCons (eVar 1) (aNil))))
 (sCons (sFor (iSeq (eA (fun xs S => if xs.length = 2 then f__law_term_values xs S else none) (aCons (eVar 1) (aCons (eVar 4) (aNil))))) (gN 5)
 (sEx (eM "list" mAppend (eVar 2) (aCons (eA mkT (aCons (eVar 4) (aCons (eVar 5) (aCons (eA (fun xs S => if xs.length = 2 then f__law_due_term xs S else none) (aCons (eVar 4) (aCons (eVar 5) (aNil)))) (aNil))))) (aNil)))))
 (sCons (sSet 6 (eA fTuple (aCons (eLc (iSeq (eVar 4)) (gN 10) (dYes) (eIf (dE (eOp opLt (eVar 10) (eC (.int 2)))) (eOp opEq (eVar 10) (eC (.int 1))) (eVar 10)) [10]) (aNil))))
 (sFor (iSeq (eOp opAdd (eA mkL (aCons (eVar 4) (aCons (eVar 6) (aNil)))) (eLc (iRngOne (aCons (eC (.int 10)) (aNil))) (gN 11) (dYes) (eA (fun xs S => if xs.length = 1 then f__law_signature_value xs S else none) (aCons (eVar 1) (aNil))) [11]))) (gN 5)
 (sEx (eM "list" mAppend (eVar 2) (aCons (eA mkT (aCons (eC .non) (aCons (eVar 5) (aCons (eA (fun xs S => if xs.length = 1 then f__law_due_signature xs S else none) (aCons (eVar 5) (aNil))) (aNil))))) (aNil)))))))))
 (sCons (sSet 7 (eA fReprD (aCons (eVar 2) (aNil))))
 (sCons (sFor (iSeq (eVar 2)) (gT 3 (gCons (gN 4) (gCons (gN 5) (gCons (gN 8) (gNil)))))
 (sIf (dNot (dE (eA (fun xs S => if xs.length = 2 then (f__law_is_same 64) xs S else none) (aCons (eIf (dE (eOp opIs (eVar 4) (eC .non))) (eA (fun xs S => if xs.length = 1 then f_signature_error xs S else none) (aCons (eVar 5) (aNil))) (eA (fun xs S => if xs.length = 2 then f_term_error xs S else none) (aCons (eVar 4) (aCons (eVar 5) (aNil))))) (aCons (eVar 8) (aNil))))))
 (sRet (eC (.bl false)))
 (sNil)))
 (sCons (sFor (iRv (eVar 2)) (gT 3 (gCons (gN 4) (gCons (gN 5) (gCons (gN 8) (gNil)))))
 (sCons (sIf (dE (eOp opIs (eVar 4) (eC .non)))
 (sSet 9 (eA (fun xs S => if (pick [0] xs).length = 1 ∧ xs.length = 1 then f_signature_error (pick [0] xs) S else none) (aCons (eVar 5) (aNil))))
 (sSet 9 (eA (fun xs S => if (pick [1, 0] xs).length = 2 ∧ xs.length = 2 then f_term_error (pick [1, 0] xs) S else none) (aCons (eVar 5) (aCons (eVar 4) (aNil))))))
 (sIf (dNot (dE (eA (fun xs S => if xs.length = 2 then (f__law_is_same 64) xs S else none) (aCons (eVar 9) (aCons (eVar 8) (aNil))))))
 (sRet (eC (.bl false)))
 (sNil))))
 (sRet (eOp opEq (eA fReprD (aCons (eVar 2) (aNil))) (eVar 7))))))))
noncomputable def f_law : Fn := runD 12 b_law
/-- what the top's heap says -/
structure Fs (K : PySem.W.Frag) (mg : Str → Option Value) (fa : Nat → Addr) (fd : Nat → FuncData) : Prop where
  b_abs : mg "abs" = none
  b_all : mg "all" = none
  b_any : mg "any" = none
  b_bool : mg "bool" = none
  b_enumerate : mg "enumerate" = none
  b_int : mg "int" = none
  b_isinstance : mg "isinstance" = none
  b_len : mg "len" = none
  b_list : mg "list" = none
  b_max : mg "max" = none
  b_min : mg "min" = none
  b_range : mg "range" = none
  b_repr : mg "repr" = none
  b_reversed : mg "reversed" = none
  b_str : mg "str" = none
  b_tuple : mg "tuple" = none
  b_zip : mg "zip" = none
  c_MAX_ARITY : ∀ {X : Cx} {pos : Pos}, X.mg = mg → Gl X "MAX_ARITY" → XE X (.Name "MAX_ARITY" pos) (eC (.int 3))
  c_MAX_SIZE : ∀ {X : Cx} {pos : Pos}, X.mg = mg → Gl X "MAX_SIZE" → XE X (.Name "MAX_SIZE" pos) (eC (.int 40))
  c_MAX_SYMBOLS : ∀ {X : Cx} {pos : Pos}, X.mg = mg → Gl X "MAX_SYMBOLS" → XE X (.Name "MAX_SYMBOLS" pos) (eC (.int 6))
  F_is_whole : FunD K "is_whole" "is_whole" (defArgs s_is_whole) (defBody s_is_whole) (defScope s_is_whole) [] [] (fa 0) (fd 0)
  m_is_whole : mg "is_whole" = some (.ref (fa 0))
  bd_is_whole : Binds K (fd 0) ["value", "low", "high"] []
  F_signature_error : FunD K "signature_error" "signature_error" (defArgs s_signature_error) (defBody s_signature_error) (defScope s_signature_error) [] [] (fa 1) (fd 1)
  m_signature_error : mg "signature_error" = some (.ref (fa 1))
  bd_signature_error : Binds K (fd 1) ["value"] []
  F_is_thing : FunD K "is_thing" "is_thing" (defArgs s_is_thing) (defBody s_is_thing) (defScope s_is_thing) [] [] (fa 2) (fd 2)
  m_is_thing : mg "is_thing" = some (.ref (fa 2))
  bd_is_thing : Binds K (fd 2) ["signature", "value"] []
  F_thing_error : FunD K "thing_error" "thing_error" (defArgs s_thing_error) (defBody s_thing_error) (defScope s_thing_error) [] [] (fa 3) (fd 3)
  m_thing_error : mg "thing_error" = some (.ref (fa 3))
  bd_thing_error : Binds K (fd 3) ["signature", "value", "variables"] []
  F_term_error : FunD K "term_error" "term_error" (defArgs s_term_error) (defBody s_term_error) (defScope s_term_error) [] [] (fa 4) (fd 4)
  m_term_error : mg "term_error" = some (.ref (fa 4))
  bd_term_error : Binds K (fd 4) ["signature", "value"] []
  F__law_own_bag : FunD K "_law_own_bag" "_law_own_bag" (defArgs s__law_own_bag) (defBody s__law_own_bag) (defScope s__law_own_bag) [] [] (fa 5) (fd 5)
  m__law_own_bag : mg "_law_own_bag" = some (.ref (fa 5))
  bd__law_own_bag : Binds K (fd 5) ["script"] []
  F__law_draw : FunD K "_law_draw" "_law_draw" (defArgs s__law_draw) (defBody s__law_draw) (defScope s__law_draw) [] [] (fa 6) (fd 6)
  m__law_draw : mg "_law_draw" = some (.ref (fa 6))
  bd__law_draw : Binds K (fd 6) ["bag", "below"] []
  F__law_pick : FunD K "_law_pick" "_law_pick" (defArgs s__law_pick) (defBody s__law_pick) (defScope s__law_pick) [] [] (fa 7) (fd 7)
  m__law_pick : mg "_law_pick" = some (.ref (fa 7))
  bd__law_pick : Binds K (fd 7) ["bag", "some"] []
  F__law_signature : FunD K "_law_signature" "_law_signature" (defArgs s__law_signature) (defBody s__law_signature) (defScope s__law_signature) [] [] (fa 8) (fd 8)
  m__law_signature : mg "_law_signature" = some (.ref (fa 8))
  bd__law_signature : Binds K (fd 8) ["bag"] []
  F__law_sums : FunD K "_law_sums" "_law_sums" (defArgs s__law_sums) (defBody s__law_sums) (defScope s__law_sums) [] [] (fa 9) (fd 9)
  m__law_sums : mg "_law_sums" = some (.ref (fa 9))
  bd__law_sums : Binds K (fd 9) ["signature"] []
  F__law_size : FunD K "_law_size" "_law_size" (defArgs s__law_size) (defBody s__law_size) (defScope s__law_size) [] [] (fa 10) (fd 10)
  m__law_size : mg "_law_size" = some (.ref (fa 10))
  bd__law_size : Binds K (fd 10) ["bag", "sums", "low", "high"] []
  F__law_row : FunD K "_law_row" "_law_row" (defArgs s__law_row) (defBody s__law_row) (defScope s__law_row) [] [] (fa 11) (fd 11)
  m__law_row : mg "_law_row" = some (.ref (fa 11))
  bd__law_row : Binds K (fd 11) ["bag", "items", "sums", "many"] []
  F__law_is_same : FunD K "_law_is_same" "_law_is_same" (defArgs s__law_is_same) (defBody s__law_is_same) (defScope s__law_is_same) [] [] (fa 12) (fd 12)
  m__law_is_same : mg "_law_is_same" = some (.ref (fa 12))
  bd__law_is_same : Binds K (fd 12) ["told", "due"] []
  F__law_odd : FunD K "_law_odd" "_law_odd" (defArgs s__law_odd) (defBody s__law_odd) (defScope s__law_odd) [] [] (fa 13) (fd 13)
  m__law_odd : mg "_law_odd" = some (.ref (fa 13))
  bd__law_odd : Binds K (fd 13) ["bag", "many"] []
  F__law_bent : FunD K "_law_bent" "_law_bent" (defArgs s__law_bent) (defBody s__law_bent) (defScope s__law_bent) [] [] (fa 14) (fd 14)
  m__law_bent : mg "_law_bent" = some (.ref (fa 14))
  bd__law_bent : Binds K (fd 14) ["bag", "thing", "signature"] []
  F__law_spoilt : FunD K "_law_spoilt" "_law_spoilt" (defArgs s__law_spoilt) (defBody s__law_spoilt) (defScope s__law_spoilt) [] [] (fa 15) (fd 15)
  m__law_spoilt : mg "_law_spoilt" = some (.ref (fa 15))
  bd__law_spoilt : Binds K (fd 15) ["bag", "row", "signature", "places"] []
  F__law_tower : FunD K "_law_tower" "_law_tower" (defArgs s__law_tower) (defBody s__law_tower) (defScope s__law_tower) [] [] (fa 16) (fd 16)
  m__law_tower : mg "_law_tower" = some (.ref (fa 16))
  bd__law_tower : Binds K (fd 16) ["bag", "signature"] []
  F__law_with_bool : FunD K "_law_with_bool" "_law_with_bool" (defArgs s__law_with_bool) (defBody s__law_with_bool) (defScope s__law_with_bool) [] [] (fa 17) (fd 17)
  m__law_with_bool : mg "_law_with_bool" = some (.ref (fa 17))
  bd__law_with_bool : Binds K (fd 17) ["row", "signature", "at"] []
  F__law_term_values : FunD K "_law_term_values" "_law_term_values" (defArgs s__law_term_values) (defBody s__law_term_values) (defScope s__law_term_values) [] [] (fa 18) (fd 18)
  m__law_term_values : mg "_law_term_values" = some (.ref (fa 18))
  bd__law_term_values : Binds K (fd 18) ["bag", "signature"] []
  F__law_due_term : FunD K "_law_due_term" "_law_due_term" (defArgs s__law_due_term) (defBody s__law_due_term) (defScope s__law_due_term) [] [] (fa 19) (fd 19)
  m__law_due_term : mg "_law_due_term" = some (.ref (fa 19))
  bd__law_due_term : Binds K (fd 19) ["signature", "value"] []
  F__law_signature_value : FunD K "_law_signature_value" "_law_signature_value" (defArgs s__law_signature_value) (defBody s__law_signature_value) (defScope s__law_signature_value) [] [] (fa 20) (fd 20)
  m__law_signature_value : mg "_law_signature_value" = some (.ref (fa 20))
  bd__law_signature_value : Binds K (fd 20) ["bag"] []
  F__law_due_signature : FunD K "_law_due_signature" "_law_due_signature" (defArgs s__law_due_signature) (defBody s__law_due_signature) (defScope s__law_due_signature) [] [] (fa 21) (fd 21)
  m__law_due_signature : mg "_law_due_signature" = some (.ref (fa 21))
  bd__law_due_signature : Binds K (fd 21) ["value"] []
  F_law : FunD K "law" "law" (defArgs s_law) (defBody s_law) (defScope s_law) [] [] (fa 22) (fd 22)
  m_law : mg "law" = some (.ref (fa 22))
  bd_law : Binds K (fd 22) ["script"] []
  ba_law : ∀ (s : Shared) (v : Value), BindsTo s (fd 22) ⟨[v], []⟩ [("script", v)]
  k_signature_error_0 : BindsK (fd 1) ["value"] ["value"] [0]
  k_term_error_1_0 : BindsK (fd 4) ["signature", "value"] ["value", "signature"] [1, 0]
section
variable {P : Program} {w : World} {K : PySem.W.Frag} {mg : Str → Option Value} {base : Heap} {fa : Nat → Addr} {fd : Nat → FuncData}
theorem g_is_whole (E : Fs K mg fa fd) (hS : SysD base) : FnG P w K mg base 1 (fa 0) (fd 0) ["value", "low", "high"] f_is_whole := fnG_of (k := 0) E.F_is_whole sc_is_whole fun cdv A outer s H gd hr => by
  have nd := sc_is_whole.nd
  have hu := hr.units
  have hu5 := hr.units65
  have hu4 := units64 hu5
  exact xss_one (xs_ret (xe_and (xe_isi (T := "int") (xe_var (pv 0)) rfl E.b_isinstance rfl E.b_int (by decide +kernel) (by decide)) (xe_and (xe_not (xe_isi (T := "bool") (xe_var (pv 0)) rfl E.b_isinstance rfl E.b_bool (by decide +kernel) (by decide))) (xe_one (xe_chain o_le o_le (xe_var (pv 1)) (xe_var (pv 0)) (xe_var (pv 2)))))))
theorem g_signature_error (E : Fs K mg fa fd) (hS : SysD base) : FnG P w K mg base 2 (fa 1) (fd 1) ["value"] f_signature_error := fnG_of (k := 1) E.F_signature_error sc_signature_error fun cdv A outer s H gd hr => by
  have nd := sc_signature_error.nd
  have hu := hr.units
  have hu5 := hr.units65
  have hu4 := units64 hu5
  exact xss_cons (xs_if (XW.xt (xw_or (xt_not (xt_val (xe_isi (T := "tuple") (xe_var (pv 0)) rfl E.b_isinstance rfl E.b_tuple (by decide +kernel) (by decide)))) (xw_or1 (xt_not (xt_chain o_le o_le (xe_int) (xe_callB c_len rfl E.b_len (by decide +kernel) (xa_cons (xe_var (pv 0)) (xa_nil))) (E.c_MAX_SYMBOLS rfl rfl))))))
          (xss_one (xs_ret (xe_str)))
          (xss_nil))
          (xss_cons (xs_for PassesOwn.never rfl (xi_enu rfl E.b_enumerate (xa_cons (xe_var (pv 0)) (xa_nil))) (xg_tup rfl (xgs_cons (xg_name (i := 1) nd rfl (Or.inl rfl)) (xgs_cons (xg_name (i := 2) nd rfl (Or.inl rfl)) (xgs_nil))))
          (xss_one (xs_if (xt_not (xt_val (xe_call (ps := ["value", "low", "high"]) (g_is_whole E hS) gd (hr.mono (by decide)) rfl E.m_is_whole E.F_is_whole.kp E.bd_is_whole (xa_cons (xe_var (pv 2)) (xa_cons (xe_int) (xa_cons (E.c_MAX_ARITY rfl rfl) (xa_nil)))))))
          (xss_one (xs_ret (xe_tup (xa_cons (xe_str) (xa_cons (xe_var (pv 1)) (xa_nil))))))
          (xss_nil))))
          (xss_one (xs_ret (xe_if (xt_cmp (o_inA hu5) (xe_int) (xe_var (pv 0)) (by rfl)) (xe_non) (xe_str)))))
theorem g_is_thing (E : Fs K mg fa fd) (hS : SysD base) : FnG P w K mg base 2 (fa 2) (fd 2) ["signature", "value"] f_is_thing := fnG_of (k := 1) E.F_is_thing sc_is_thing fun cdv A outer s H gd hr => by
  have nd := sc_is_thing.nd
  have hu := hr.units
  have hu5 := hr.units65
  have hu4 := units64 hu5
  exact xss_cons (xs_if (XW.xt (xw_or (xt_not (xt_val (xe_isi (T := "tuple") (xe_var (pv 1)) rfl E.b_isinstance rfl E.b_tuple (by decide +kernel) (by decide)))) (xw_or (xt_cmp (o_eqA hu4) (xe_var (pv 1)) (xe_tup (xa_nil)) (nomark _)) (xw_or1 (xt_not (xt_val (xe_call (ps := ["value", "low", "high"]) (g_is_whole E hS) gd (hr.mono (by decide)) rfl E.m_is_whole E.F_is_whole.kp E.bd_is_whole (xa_cons (xe_ix ix_ok (xe_var (pv 1)) (xe_int) (fun _ _ => rfl)) (xa_cons (xe_int) (xa_cons (xe_op o_sub (xe_callB c_len rfl E.b_len (by decide +kernel) (xa_cons (xe_var (pv 0)) (xa_nil))) (xe_int)) (xa_nil)))))))))))
          (xss_one (xs_ret (xe_bl)))
          (xss_nil))
          (xss_one (xs_ret (xe_cmp (o_eq hu) (xe_callB c_len rfl E.b_len (by decide +kernel) (xa_cons (xe_var (pv 1)) (xa_nil))) (xe_op o_add (xe_ix ix_ok (xe_var (pv 0)) (xe_ix ix_ok (xe_var (pv 1)) (xe_int) (fun _ _ => rfl)) (fun _ _ => rfl)) (xe_int)) (nomark _))))
theorem g_thing_error (E : Fs K mg fa fd) (hS : SysD base) : FnG P w K mg base 3 (fa 3) (fd 3) ["signature", "value", "variables"] f_thing_error := fnG_of (k := 2) E.F_thing_error sc_thing_error fun cdv A outer s H gd hr => by
  have nd := sc_thing_error.nd
  have hu := hr.units
  have hu5 := hr.units65
  have hu4 := units64 hu5
  exact xss_cons (xs_par (i := 3) (j := 4) rfl nd rfl rfl (by decide) rfl rfl (xa_cons (xe_lst (xa_cons (xe_tup (xa_cons (xe_tup (xa_nil)) (xa_cons (xe_var (pv 1)) (xa_nil)))) (xa_nil))) (xa_cons (xe_int) (xa_nil))) rfl)
          (xss_cons (xs_while PassesOwn.never (xt_cmp (o_neA hu4) (xe_var (pv 3)) (xe_lst (xa_nil)) (nomark _))
          (xss_cons (xs_asg (xe_bm0 PySem.F.plainAttrs_list PySem.F.slot_list_pop PySem.F.type_list_pop m_pop (xe_var (pv 3))) (xg_tup rfl (xgs_cons (xg_name (i := 5) nd rfl (Or.inr rfl)) (xgs_cons (xg_name (i := 6) nd rfl (Or.inl rfl)) (xgs_nil)))))
          (xss_cons (xs_if (xt_cmp (o_eq hu) (xe_var (pv 4)) (E.c_MAX_SIZE rfl rfl) (nomark _))
          (xss_one (xs_ret (xe_str)))
          (xss_nil))
          (xss_cons (xs_set (i := 4) nd rfl (Or.inl rfl) (xe_op o_add (xe_var (pv 4)) (xe_int)))
          (xss_one (xs_if (xt_not (xt_val (xe_call (ps := ["value", "low", "high"]) (g_is_whole E hS) gd (hr.mono (by decide)) rfl E.m_is_whole E.F_is_whole.kp E.bd_is_whole (xa_cons (xe_var (pv 6)) (xa_cons (xe_int) (xa_cons (xe_op o_sub (xe_var (pv 2)) (xe_int)) (xa_nil)))))))
          (xss_cons (xs_if (xt_not (xt_val (xe_call (ps := ["signature", "value"]) (g_is_thing E hS) gd (hr.mono (by decide)) rfl E.m_is_thing E.F_is_thing.kp E.bd_is_thing (xa_cons (xe_var (pv 0)) (xa_cons (xe_var (pv 6)) (xa_nil))))))
          (xss_one (xs_ret (xe_tup (xa_cons (xe_str) (xa_cons (xe_var (pv 5)) (xa_nil))))))
          (xss_nil))
          (xss_cons (xs_setLc (i := 7) (own := [("place", 8), ("own", 9)]) (d := iEnu (aCons (eSl opSl (eVar 6) (oSm (eC (.int 1))) (oNon)) (aNil))) (g := gT 2 (gCons (gN 8) (gCons (gN 9) (gNil)))) (t := dYes) (el := eA mkT (aCons (eOp opAdd (eVar 5) (eA mkT (aCons (eVar 8) (aNil)))) (aCons (eVar 9) (aNil)))) rfl nd rfl rfl (sw_true rfl rfl rfl (by decide +kernel)) (xi_enu rfl E.b_enumerate (xa_cons (xe_slice sl_ok (xe_var (pv 6)) (xo_some (xe_int)) (xo_none)) (xa_nil))) (blkOk_by (N := N_thing_error) (sc := defScope s_thing_error) (own := [("place", 8), ("own", 9)]) (by decide +kernel)) (fun _ _ _ _ _ => xg_tup rfl (xgs_cons (xg_name (i := 8) nd rfl (Or.inl rfl)) (xgs_cons (xg_name (i := 9) nd rfl (Or.inl rfl)) (xgs_nil)))) (fun _ _ _ _ _ => xpts_nil) (fun _ _ _ _ _ => xe_tup (xa_cons (xe_op o_add (xe_var (pv 5)) (xe_tup (xa_cons (xe_var (pv 8)) (xa_nil)))) (xa_cons (xe_var (pv 9)) (xa_nil)))))
          (xss_one (xs_expr (xe_bm PySem.F.plainAttrs_list PySem.F.slot_list_extend PySem.F.type_list_extend m_extend (xe_var (pv 3)) (xa_cons (xe_revS (xe_var (pv 7))) (xa_nil)))))))
          (xss_nil)))))))
          (xss_one (xs_ret (xe_non))))
theorem g_term_error (E : Fs K mg fa fd) (hS : SysD base) : FnG P w K mg base 4 (fa 4) (fd 4) ["signature", "value"] f_term_error := fnG_of (k := 3) E.F_term_error sc_term_error fun cdv A outer s H gd hr => by
  have nd := sc_term_error.nd
  have hu := hr.units
  have hu5 := hr.units65
  have hu4 := units64 hu5
  exact xss_one (xs_ret (xe_call (ps := ["signature", "value", "variables"]) (g_thing_error E hS) gd (hr.mono (by decide)) rfl E.m_thing_error E.F_thing_error.kp E.bd_thing_error (xa_cons (xe_var (pv 0)) (xa_cons (xe_var (pv 1)) (xa_cons (xe_int) (xa_nil))))))
theorem g__law_own_bag (E : Fs K mg fa fd) (hS : SysD base) : FnG P w K mg base 1 (fa 5) (fd 5) ["script"] f__law_own_bag := fnG_of (k := 0) E.F__law_own_bag sc__law_own_bag fun cdv A outer s H gd hr => by
  have nd := sc__law_own_bag.nd
  have hu := hr.units
  have hu5 := hr.units65
  have hu4 := units64 hu5
  exact xss_cons (xs_setLc (i := 1) (own := [("cell", 3)]) (d := iSeq (eSl opSl (eVar 0) (oNon) (oSm (eC (.int 63))))) (g := gN 3) (t := dYes) (el := eA fAbs (aCons (eVar 3) (aNil))) rfl nd rfl rfl (sw_true rfl rfl rfl (by decide +kernel)) (xi_seq (xe_slice sl_ok (xe_var (pv 0)) (xo_none) (xo_some (xe_int)))) (blkOk_by (N := N__law_own_bag) (sc := defScope s__law_own_bag) (own := [("cell", 3)]) (by decide +kernel)) (fun _ _ _ _ _ => xg_name (i := 3) nd rfl (Or.inl rfl)) (fun _ _ _ _ _ => xpts_nil) (fun _ _ _ _ _ => xe_callB c_abs rfl E.b_abs (by decide +kernel) (xa_cons (xe_var (pv 3)) (xa_nil))))
          (xss_cons (xs_set (i := 2) nd rfl (Or.inl rfl) (xe_op o_add (xe_int) (xe_callB c_len rfl E.b_len (by decide +kernel) (xa_cons (xe_var (pv 1)) (xa_nil)))))
          (xss_cons (xs_for PassesOwn.never rfl (xi_seq (xe_var (pv 1))) (xg_name (i := 3) nd rfl (Or.inl rfl))
          (xss_one (xs_set (i := 2) nd rfl (Or.inl rfl) (xe_op o_mod (xe_callTy c_int rfl E.b_int (by decide +kernel) (xa_cons (xe_op o_add (xe_op o_add (xe_op o_mul (xe_var (pv 2)) (xe_int)) (xe_op o_mod (xe_callTy c_int rfl E.b_int (by decide +kernel) (xa_cons (xe_var (pv 3)) (xa_nil))) (xe_int))) (xe_int)) (xa_nil))) (xe_int)))))
          (xss_one (xs_ret (xe_lst (xa_cons (xe_lrev rfl rfl E.b_list rfl E.b_reversed (xe_var (pv 1))) (xa_cons (xe_int) (xa_cons (xe_var (pv 2)) (xa_nil)))))))))
theorem g__law_draw (E : Fs K mg fa fd) (hS : SysD base) : FnG P w K mg base 1 (fa 6) (fd 6) ["bag", "below"] f__law_draw := fnG_of (k := 0) E.F__law_draw sc__law_draw fun cdv A outer s H gd hr => by
  have nd := sc__law_draw.nd
  have hu := hr.units
  have hu5 := hr.units65
  have hu4 := units64 hu5
  exact xss_cons (xs_while PassesOwn.never (XW.xt (xw_and (xt_cmp (o_eq hu) (xe_ix ix_ok (xe_var (pv 0)) (xe_int) (fun _ _ => rfl)) (xe_int) (nomark _)) (xw_and1 (xt_cmp (o_ne hu) (xe_ix ix_ok (xe_var (pv 0)) (xe_int) (fun _ _ => rfl)) (xe_lst (xa_nil)) (nomark _)))))
          (xss_cons (xs_set (i := 2) nd rfl (Or.inl rfl) (xe_bm0 PySem.F.plainAttrs_list PySem.F.slot_list_pop PySem.F.type_list_pop m_pop (xe_ix ix_ok (xe_var (pv 0)) (xe_int) (fun _ _ => rfl))))
          (xss_one (xs_sub (xe_if (xt_cmp o_gt (xe_var (pv 2)) (xe_op o_pow (xe_int) (xe_int)) (nomark _)) (xe_var (pv 2)) (xe_int)) (xe_var (pv 0)) (xe_int) set_ok))))
          (xss_cons (xs_if (xt_cmp o_gt (xe_ix ix_ok (xe_var (pv 0)) (xe_int) (fun _ _ => rfl)) (xe_int) (nomark _))
          (xss_cons (xs_set (i := 3) nd rfl (Or.inl rfl) (xe_op o_mod (xe_callTy c_int rfl E.b_int (by decide +kernel) (xa_cons (xe_ix ix_ok (xe_var (pv 0)) (xe_int) (fun _ _ => rfl)) (xa_nil))) (xe_var (pv 1))))
          (xss_cons (xs_sub (xe_op o_fdiv (xe_ix ix_ok (xe_var (pv 0)) (xe_int) (fun _ _ => rfl)) (xe_var (pv 1))) (xe_var (pv 0)) (xe_int) set_ok)
          (xss_one (xs_ret (xe_var (pv 3))))))
          (xss_nil))
          (xss_cons (xs_sub (xe_op o_mod (xe_callTy c_int rfl E.b_int (by decide +kernel) (xa_cons (xe_op o_add (xe_op o_mul (xe_ix ix_ok (xe_var (pv 0)) (xe_int) (fun _ _ => rfl)) (xe_int)) (xe_int)) (xa_nil))) (xe_int)) (xe_var (pv 0)) (xe_int) set_ok)
          (xss_one (xs_ret (xe_op o_mod (xe_callTy c_int rfl E.b_int (by decide +kernel) (xa_cons (xe_op o_fdiv (xe_op o_mod (xe_callTy c_int rfl E.b_int (by decide +kernel) (xa_cons (xe_op o_mul (xe_ix ix_ok (xe_var (pv 0)) (xe_int) (fun _ _ => rfl)) (xe_ix ix_ok (xe_var (pv 0)) (xe_int) (fun _ _ => rfl))) (xa_nil))) (xe_int)) (xe_int)) (xa_nil))) (xe_var (pv 1)))))))
theorem g__law_pick (E : Fs K mg fa fd) (hS : SysD base) : FnG P w K mg base 2 (fa 7) (fd 7) ["bag", "some"] f__law_pick := fnG_of (k := 1) E.F__law_pick sc__law_pick fun cdv A outer s H gd hr => by
  have nd := sc__law_pick.nd
  have hu := hr.units
  have hu5 := hr.units65
  have hu4 := units64 hu5
  exact xss_one (xs_ret (xe_ix ix_ok (xe_var (pv 1)) (xe_call (ps := ["bag", "below"]) (g__law_draw E hS) gd (hr.mono (by decide)) rfl E.m__law_draw E.F__law_draw.kp E.bd__law_draw (xa_cons (xe_var (pv 0)) (xa_cons (xe_callB c_len rfl E.b_len (by decide +kernel) (xa_cons (xe_var (pv 1)) (xa_nil))) (xa_nil)))) (fun _ _ => rfl)))
theorem g__law_signature (E : Fs K mg fa fd) (hS : SysD base) : FnG P w K mg base 3 (fa 8) (fd 8) ["bag"] f__law_signature := fnG_of (k := 2) E.F__law_signature sc__law_signature fun cdv A outer s H gd hr => by
  have nd := sc__law_signature.nd
  have hu := hr.units
  have hu5 := hr.units65
  have hu4 := units64 hu5
  exact xss_cons (xs_set (i := 1) nd rfl (Or.inl rfl) (xe_call (ps := ["bag", "some"]) (g__law_pick E hS) gd (hr.mono (by decide)) rfl E.m__law_pick E.F__law_pick.kp E.bd__law_pick (xa_cons (xe_var (pv 0)) (xa_cons (xe_lst (xa_cons (xe_int) (xa_cons (xe_int) (xa_cons (xe_int) (xa_cons (xe_int) (xa_cons (xe_int) (xa_cons (xe_int) (xa_cons (xe_int) (xa_cons (xe_int) (xa_nil)))))))))) (xa_nil)))))
          (xss_cons (xs_setLc (i := 2) (own := [("k", 3)]) (d := iRngOne (aCons (eVar 1) (aNil))) (g := gN 3) (t := dYes) (el := eA (fun xs S => if xs.length = 2 then f__law_draw xs S else none) (aCons (eVar 0) (aCons (eC (.int 4)) (aNil)))) rfl nd rfl rfl (sw_true rfl rfl rfl (by decide +kernel)) (xi_rng1 rfl E.b_range (xa_cons (xe_var (pv 1)) (xa_nil))) (blkOk_by (N := N__law_signature) (sc := defScope s__law_signature) (own := [("k", 3)]) (by decide +kernel)) (fun _ _ _ _ _ => xg_name (i := 3) nd rfl (Or.inl rfl)) (fun _ _ _ _ _ => xpts_nil) (fun _ _ _ _ _ => xe_call (ps := ["bag", "below"]) (g__law_draw E hS) gd (hr.mono (by decide)) rfl E.m__law_draw E.F__law_draw.kp E.bd__law_draw (xa_cons (xe_var (pv 0)) (xa_cons (xe_int) (xa_nil)))))
          (xss_cons (xs_sub (xe_int) (xe_var (pv 2)) (xe_call (ps := ["bag", "below"]) (g__law_draw E hS) gd (hr.mono (by decide)) rfl E.m__law_draw E.F__law_draw.kp E.bd__law_draw (xa_cons (xe_var (pv 0)) (xa_cons (xe_var (pv 1)) (xa_nil)))) set_ok)
          (xss_one (xs_ret (xe_callTy c_tuple rfl E.b_tuple (by decide +kernel) (xa_cons (xe_var (pv 2)) (xa_nil)))))))
theorem g__law_sums (E : Fs K mg fa fd) (hS : SysD base) : FnG P w K mg base 1 (fa 9) (fd 9) ["signature"] f__law_sums := fnG_of (k := 0) E.F__law_sums sc__law_sums fun cdv A outer s H gd hr => by
  have nd := sc__law_sums.nd
  have hu := hr.units
  have hu5 := hr.units65
  have hu4 := units64 hu5
  exact xss_cons (xs_set (i := 1) nd rfl (Or.inr rfl) (xe_op o_add (xe_lst (xa_cons (xe_bl) (xa_nil))) (xe_op o_mul (xe_lst (xa_cons (xe_bl) (xa_nil))) (xe_int))))
          (xss_cons (xs_for PassesOwn.never rfl (xi_rng2 rfl E.b_range (xa_cons (xe_int) (xa_cons (xe_int) (xa_nil)))) (xg_name (i := 2) nd rfl (Or.inr rfl))
          (xss_one (xs_sub (xe_callB (c_any rfl) rfl E.b_any (by decide +kernel) (xa_cons (xe_lc (own := [("arity", 3)]) (d := iSeq (eVar 0)) (g := gN 3) (t := dE (eCh opLt opLe (eC (.int 0)) (eVar 3) (eVar 2))) (el := eOp opIx (eVar 1) (eOp opSub (eVar 2) (eVar 3))) rfl nd (xi_seq (xe_var (pv 0))) (blkOk_by (N := N__law_sums) (sc := defScope s__law_sums) (own := [("arity", 3)]) (by decide +kernel)) (fun _ _ _ _ _ => xg_name (i := 3) nd rfl (Or.inl rfl)) (fun _ _ _ _ _ => xpts_one (xt_chain o_lt o_le (xe_int) (xe_var (pv 3)) (xe_var (pv 2)))) (fun _ _ _ _ _ => xe_ix ix_ok (xe_var (pv 1)) (xe_op o_sub (xe_var (pv 2)) (xe_var (pv 3))) (fun _ _ => rfl))) (xa_nil))) (xe_var (pv 1)) (xe_var (pv 2)) set_ok)))
          (xss_one (xs_ret (xe_var (pv 1)))))
theorem g__law_size (E : Fs K mg fa fd) (hS : SysD base) : FnG P w K mg base 3 (fa 10) (fd 10) ["bag", "sums", "low", "high"] f__law_size := fnG_of (k := 2) E.F__law_size sc__law_size fun cdv A outer s H gd hr => by
  have nd := sc__law_size.nd
  have hu := hr.units
  have hu5 := hr.units65
  have hu4 := units64 hu5
  exact xss_cons (xs_setLc (i := 4) (own := [("many", 5)]) (d := iRngTwo (aCons (eVar 2) (aCons (eOp opAdd (eVar 3) (eC (.int 1))) (aNil)))) (g := gN 5) (t := dE (eOp opIx (eVar 1) (eOp opSub (eVar 5) (eC (.int 1))))) (el := eVar 5) rfl nd rfl rfl (sw_true rfl rfl rfl (by decide +kernel)) (xi_rng2 rfl E.b_range (xa_cons (xe_var (pv 2)) (xa_cons (xe_op o_add (xe_var (pv 3)) (xe_int)) (xa_nil)))) (blkOk_by (N := N__law_size) (sc := defScope s__law_size) (own := [("many", 5)]) (by decide +kernel)) (fun _ _ _ _ _ => xg_name (i := 5) nd rfl (Or.inl rfl)) (fun _ _ _ _ _ => xpts_one (xt_val (xe_ix ix_ok (xe_var (pv 1)) (xe_op o_sub (xe_var (pv 5)) (xe_int)) (fun _ _ => rfl)))) (fun _ _ _ _ _ => xe_var (pv 5)))
          (xss_one (xs_ret (xe_if (xt_cmp (o_neA hu4) (xe_var (pv 4)) (xe_lst (xa_nil)) (nomark _)) (xe_call (ps := ["bag", "some"]) (g__law_pick E hS) gd (hr.mono (by decide)) rfl E.m__law_pick E.F__law_pick.kp E.bd__law_pick (xa_cons (xe_var (pv 0)) (xa_cons (xe_var (pv 4)) (xa_nil)))) (xe_int))))
theorem g__law_row (E : Fs K mg fa fd) (hS : SysD base) : FnG P w K mg base 3 (fa 11) (fd 11) ["bag", "items", "sums", "many"] f__law_row := fnG_of (k := 2) E.F__law_row sc__law_row fun cdv A outer s H gd hr => by
  have nd := sc__law_row.nd
  have hu := hr.units
  have hu5 := hr.units65
  have hu4 := units64 hu5
  exact xss_cons (xs_par (i := 4) (j := 5) rfl nd rfl rfl (by decide) rfl rfl (xa_cons (xe_lst (xa_nil)) (xa_cons (xe_int) (xa_nil))) rfl)
          (xss_cons (xs_for PassesOwn.never rfl (xi_rng3 rfl E.b_range (xa_cons (xe_op o_sub (xe_var (pv 3)) (xe_int)) (xa_cons (xe_un o_neg (xe_int)) (xa_cons (xe_un o_neg (xe_int)) (xa_nil))))) (xg_name (i := 6) nd rfl (Or.inl rfl))
          (xss_cons (xs_set (i := 7) nd rfl (Or.inl rfl) (xe_lst (xa_nil)))
          (xss_cons (xs_for PassesOwn.never rfl (xi_seq (xe_var (pv 1))) (xg_tup rfl (xgs_cons (xg_name (i := 8) nd rfl (Or.inl rfl)) (xgs_cons (xg_name (i := 9) nd rfl (Or.inl rfl)) (xgs_nil))))
          (xss_cons (xs_set (i := 10) nd rfl (Or.inl rfl) (xe_op o_add (xe_op o_sub (xe_var (pv 5)) (xe_int)) (xe_var (pv 9))))
          (xss_one (xs_if (XW.xt (xw_and (xt_cmp o_ge (xe_var (pv 6)) (xe_var (pv 10)) (nomark _)) (xw_and (xt_val (xe_ix ix_ok (xe_var (pv 2)) (xe_op o_sub (xe_var (pv 6)) (xe_var (pv 10))) (fun _ _ => rfl))) (xw_and1 (XW.xt (xw_or (xt_cmp o_gt (xe_var (pv 10)) (xe_int) (nomark _)) (xw_or1 (xt_cmp (o_eq hu) (xe_var (pv 6)) (xe_int) (nomark _)))))))))
          (xss_one (xs_expr (xe_bm PySem.F.plainAttrs_list PySem.F.slot_list_append PySem.F.type_list_append m_append (xe_var (pv 7)) (xa_cons (xe_tup (xa_cons (xe_var (pv 8)) (xa_cons (xe_var (pv 9)) (xa_nil)))) (xa_nil)))))
          (xss_nil)))))
          (xss_cons (xs_asg (xe_call (ps := ["bag", "some"]) (g__law_pick E hS) gd (hr.mono (by decide)) rfl E.m__law_pick E.F__law_pick.kp E.bd__law_pick (xa_cons (xe_var (pv 0)) (xa_cons (xe_var (pv 7)) (xa_nil)))) (xg_tup rfl (xgs_cons (xg_name (i := 8) nd rfl (Or.inl rfl)) (xgs_cons (xg_name (i := 9) nd rfl (Or.inl rfl)) (xgs_nil)))))
          (xss_cons (xs_expr (xe_bm PySem.F.plainAttrs_list PySem.F.slot_list_append PySem.F.type_list_append m_append (xe_var (pv 4)) (xa_cons (xe_var (pv 8)) (xa_nil))))
          (xss_one (xs_set (i := 5) nd rfl (Or.inl rfl) (xe_op o_add (xe_op o_sub (xe_var (pv 5)) (xe_int)) (xe_var (pv 9))))))))))
          (xss_one (xs_ret (xe_var (pv 4)))))
theorem g__law_is_same (E : Fs K mg fa fd) (hS : SysD base) : ∀ n, FnG P w K mg base (0 + n) (fa 12) (fd 12) ["told", "due"] (f__law_is_same n)
  | 0 => ⟨fun A outer s H args us vs Q gd hr e0 hb r ⟨_, _, _, _, _, _, _, _, h, _⟩ => nomatch h⟩
  | n + 1 => fnG_of E.F__law_is_same sc__law_is_same fun cdv A outer s H gd hr => by
    have nd := sc__law_is_same.nd
    have hr : Room (0 + n) _ := hr
    have hu := hr.units
    have hu5 : _ := hr.units65
    have hu4 := units64 hu5
    have Hs := g__law_is_same E hS n
    exact xss_cons (xs_if (xt_cmp o_is (xe_var (pv 1)) (xe_non) (nomark _))
          (xss_one (xs_ret (xe_cmp o_is (xe_var (pv 0)) (xe_non) (nomark _))))
          (xss_nil))
          (xss_cons (xs_if (xt_val (xe_isi (T := "bool") (xe_var (pv 1)) rfl E.b_isinstance rfl E.b_bool (by decide +kernel) (by decide)))
          (xss_one (xs_ret (xe_and (xe_isi (T := "bool") (xe_var (pv 0)) rfl E.b_isinstance rfl E.b_bool (by decide +kernel) (by decide)) (xe_one (xe_cmp (o_eq hu) (xe_var (pv 0)) (xe_var (pv 1)) (nomark _))))))
          (xss_nil))
          (xss_cons (xs_if (xt_val (xe_isi (T := "int") (xe_var (pv 1)) rfl E.b_isinstance rfl E.b_int (by decide +kernel) (by decide)))
          (xss_one (xs_ret (xe_and (xe_isi (T := "int") (xe_var (pv 0)) rfl E.b_isinstance rfl E.b_int (by decide +kernel) (by decide)) (xe_and (xe_not (xe_isi (T := "bool") (xe_var (pv 0)) rfl E.b_isinstance rfl E.b_bool (by decide +kernel) (by decide))) (xe_one (xe_cmp (o_eq hu) (xe_var (pv 0)) (xe_var (pv 1)) (nomark _)))))))
          (xss_nil))
          (xss_cons (xs_if (xt_val (xe_isi (T := "str") (xe_var (pv 1)) rfl E.b_isinstance rfl E.b_str (by decide +kernel) (by decide)))
          (xss_one (xs_ret (xe_and (xe_isi (T := "str") (xe_var (pv 0)) rfl E.b_isinstance rfl E.b_str (by decide +kernel) (by decide)) (xe_one (xe_cmp (o_eq hu) (xe_var (pv 0)) (xe_var (pv 1)) (nomark _))))))
          (xss_nil))
          (xss_cons (xs_if (XW.xt (xw_or (xt_not (xt_val (xe_isi (T := "tuple") (xe_var (pv 0)) rfl E.b_isinstance rfl E.b_tuple (by decide +kernel) (by decide)))) (xw_or1 (xt_cmp (o_ne hu) (xe_callB c_len rfl E.b_len (by decide +kernel) (xa_cons (xe_var (pv 0)) (xa_nil))) (xe_callB c_len rfl E.b_len (by decide +kernel) (xa_cons (xe_var (pv 1)) (xa_nil))) (nomark _)))))
          (xss_one (xs_ret (xe_bl)))
          (xss_nil))
          (xss_one (xs_ret (xe_callB (c_all rfl) rfl E.b_all (by decide +kernel) (xa_cons (xe_lc (own := [("one", 2), ("other", 3)]) (d := iZp (aCons (eVar 0) (aCons (eVar 1) (aNil)))) (g := gT 2 (gCons (gN 2) (gCons (gN 3) (gNil)))) (t := dYes) (el := eA (fun xs S => if xs.length = 2 then f__law_is_same n xs S else none) (aCons (eVar 2) (aCons (eVar 3) (aNil)))) rfl nd (xi_zip rfl E.b_zip (xa_cons (xe_var (pv 0)) (xa_cons (xe_var (pv 1)) (xa_nil)))) (blkOk_by (N := N__law_is_same) (sc := defScope s__law_is_same) (own := [("one", 2), ("other", 3)]) (by decide +kernel)) (fun _ _ _ _ _ => xg_tup rfl (xgs_cons (xg_name (i := 2) nd rfl (Or.inl rfl)) (xgs_cons (xg_name (i := 3) nd rfl (Or.inl rfl)) (xgs_nil)))) (fun _ _ _ _ _ => xpts_nil) (fun _ _ _ _ _ => xe_call (ps := ["told", "due"]) Hs gd hr rfl E.m__law_is_same E.F__law_is_same.kp E.bd__law_is_same (xa_cons (xe_var (pv 2)) (xa_cons (xe_var (pv 3)) (xa_nil))))) (xa_nil)))))))))
theorem g__law_odd (E : Fs K mg fa fd) (hS : SysD base) : FnG P w K mg base 3 (fa 13) (fd 13) ["bag", "many"] f__law_odd := fnG_of (k := 2) E.F__law_odd sc__law_odd fun cdv A outer s H gd hr => by
  have nd := sc__law_odd.nd
  have hu := hr.units
  have hu5 := hr.units65
  have hu4 := units64 hu5
  exact xss_cons (xs_set (i := 2) nd rfl (Or.inl rfl) (xe_tup (xa_cons (xe_int) (xa_nil))))
          (xss_cons (xs_for PassesOwn.never rfl (xi_rng1 rfl E.b_range (xa_cons (xe_call (ps := ["bag", "some"]) (g__law_pick E hS) gd (hr.mono (by decide)) rfl E.m__law_pick E.F__law_pick.kp E.bd__law_pick (xa_cons (xe_var (pv 0)) (xa_cons (xe_lst (xa_cons (xe_int) (xa_cons (xe_int) (xa_cons (xe_int) (xa_nil))))) (xa_nil)))) (xa_nil))) (xg_name (i := 3) nd rfl (Or.inl rfl))
          (xss_one (xs_set (i := 2) nd rfl (Or.inl rfl) (xe_if (xt_cmp (o_eq hu) (xe_call (ps := ["bag", "below"]) (g__law_draw E hS) gd (hr.mono (by decide)) rfl E.m__law_draw E.F__law_draw.kp E.bd__law_draw (xa_cons (xe_var (pv 0)) (xa_cons (xe_int) (xa_nil)))) (xe_int) (nomark _)) (xe_lst (xa_cons (xe_var (pv 2)) (xa_nil))) (xe_tup (xa_cons (xe_var (pv 2)) (xa_nil)))))))
          (xss_cons (xs_set (i := 4) nd rfl (Or.inl rfl) (xe_lst (xa_cons (xe_non) (xa_cons (xe_bl) (xa_cons (xe_bl) (xa_cons (xe_un o_neg (xe_int)) (xa_cons (xe_int) (xa_cons (xe_int) (xa_cons (xe_int) (xa_cons (xe_var (pv 1)) (xa_cons (xe_op o_pow (xe_int) (xe_int)) (xa_cons (xe_str) (xa_cons (xe_str) (xa_cons (xe_str) (xa_cons (xe_tup (xa_nil)) (xa_cons (xe_lst (xa_nil)) (xa_cons (xe_dic0) (xa_cons (xe_lst (xa_cons (xe_int) (xa_nil))) (xa_cons (xe_disp (ds := [(eC (.int 0), eA mkT (aCons (eC (.int 0)) (aNil)))]) (xps_cons (xe_int) (xe_tup (xa_cons (xe_int) (xa_nil))) (xps_nil))) (xa_cons (xe_tup (xa_cons (xe_tup (xa_cons (xe_int) (xa_nil))) (xa_nil))) (xa_cons (xe_tup (xa_cons (xe_non) (xa_nil))) (xa_cons (xe_tup (xa_cons (xe_str) (xa_nil))) (xa_cons (xe_tup (xa_cons (xe_bl) (xa_nil))) (xa_cons (xe_tup (xa_cons (xe_bl) (xa_nil))) (xa_cons (xe_tup (xa_cons (xe_un o_neg (xe_int)) (xa_nil))) (xa_cons (xe_tup (xa_cons (xe_var (pv 1)) (xa_nil))) (xa_cons (xe_tup (xa_cons (xe_int) (xa_cons (xe_int) (xa_nil)))) (xa_cons (xe_tup (xa_cons (xe_int) (xa_cons (xe_tup (xa_cons (xe_int) (xa_nil))) (xa_nil)))) (xa_cons (xe_tup (xa_cons (xe_lst (xa_cons (xe_int) (xa_nil))) (xa_nil))) (xa_cons (xe_var (pv 2)) (xa_nil)))))))))))))))))))))))))))))))
          (xss_one (xs_ret (xe_call (ps := ["bag", "some"]) (g__law_pick E hS) gd (hr.mono (by decide)) rfl E.m__law_pick E.F__law_pick.kp E.bd__law_pick (xa_cons (xe_var (pv 0)) (xa_cons (xe_var (pv 4)) (xa_nil))))))))
theorem g__law_bent (E : Fs K mg fa fd) (hS : SysD base) : FnG P w K mg base 4 (fa 14) (fd 14) ["bag", "thing", "signature"] f__law_bent := fnG_of (k := 3) E.F__law_bent sc__law_bent fun cdv A outer s H gd hr => by
  have nd := sc__law_bent.nd
  have hu := hr.units
  have hu5 := hr.units65
  have hu4 := units64 hu5
  exact xss_cons (xs_par3 (i := 3) (j := 4) (l := 5) rfl nd rfl rfl rfl (by decide) (by decide) (by decide) rfl rfl rfl (xa_cons (xe_callB c_len rfl E.b_len (by decide +kernel) (xa_cons (xe_var (pv 2)) (xa_nil))) (xa_cons (xe_tup (xa_cons (xe_bmT PySem.F.plainAttrs_tuple PySem.F.slot_tuple_index PySem.F.type_tuple_index m_indexT (xe_var (pv 2)) (xa_cons (xe_int) (xa_nil))) (xa_nil))) (xa_cons (xe_call (ps := ["bag", "below"]) (g__law_draw E hS) gd (hr.mono (by decide)) rfl E.m__law_draw E.F__law_draw.kp E.bd__law_draw (xa_cons (xe_var (pv 0)) (xa_cons (xe_int) (xa_nil)))) (xa_nil)))) rfl)
          (xss_cons (xs_if (xt_cmp o_lt (xe_var (pv 5)) (xe_int) (nomark _))
          (xss_one (xs_ret (xe_ix ix_ok (xe_lst (xa_cons (xe_callTy c_list rfl E.b_list (by decide +kernel) (xa_cons (xe_var (pv 1)) (xa_nil))) (xa_cons (xe_op o_add (xe_var (pv 1)) (xe_tup (xa_cons (xe_var (pv 4)) (xa_nil)))) (xa_cons (xe_slice sl_ok (xe_var (pv 1)) (xo_none) (xo_some (xe_un o_neg (xe_int)))) (xa_cons (xe_tup (xa_cons (xe_var (pv 1)) (xa_nil))) (xa_nil)))))) (xe_var (pv 5)) (fun _ _ => rfl))))
          (xss_nil))
          (xss_cons (xs_if (xt_cmp o_lt (xe_var (pv 5)) (xe_int) (nomark _))
          (xss_one (xs_ret (xe_op o_add (xe_tup (xa_cons (xe_if (xt_cmp (o_eq hu) (xe_var (pv 5)) (xe_int) (nomark _)) (xe_var (pv 3)) (xe_op o_sub (xe_ix ix_ok (xe_var (pv 1)) (xe_int) (fun _ _ => rfl)) (xe_var (pv 3)))) (xa_nil))) (xe_slice sl_ok (xe_var (pv 1)) (xo_some (xe_int)) (xo_none)))))
          (xss_nil))
          (xss_cons (xs_if (xt_cmp (o_eq hu) (xe_var (pv 5)) (xe_int) (nomark _))
          (xss_one (xs_ret (xe_op o_add (xe_tup (xa_cons (xe_cmp (o_eq hu) (xe_ix ix_ok (xe_var (pv 1)) (xe_int) (fun _ _ => rfl)) (xe_int) (nomark _)) (xa_nil))) (xe_slice sl_ok (xe_var (pv 1)) (xo_some (xe_int)) (xo_none)))))
          (xss_nil))
          (xss_cons (xs_if (xt_cmp (o_eq hu) (xe_var (pv 5)) (xe_int) (nomark _))
          (xss_one (xs_ret (xe_op o_add (xe_tup (xa_cons (xe_op o_mod (xe_callTy c_int rfl E.b_int (by decide +kernel) (xa_cons (xe_op o_add (xe_ix ix_ok (xe_var (pv 1)) (xe_int) (fun _ _ => rfl)) (xe_int)) (xa_nil))) (xe_var (pv 3))) (xa_nil))) (xe_slice sl_ok (xe_var (pv 1)) (xo_some (xe_int)) (xo_none)))))
          (xss_nil))
          (xss_cons (xs_if (xt_cmp (o_eq hu) (xe_var (pv 5)) (xe_int) (nomark _))
          (xss_one (xs_ret (xe_op o_add (xe_tup (xa_cons (xe_callTy c_str rfl E.b_str (by decide +kernel) (xa_cons (xe_ix ix_ok (xe_var (pv 1)) (xe_int) (fun _ _ => rfl)) (xa_nil))) (xa_nil))) (xe_slice sl_ok (xe_var (pv 1)) (xo_some (xe_int)) (xo_none)))))
          (xss_nil))
          (xss_cons (xs_if (xt_cmp (o_eq hu) (xe_var (pv 5)) (xe_int) (nomark _))
          (xss_one (xs_ret (xe_ix ix_ok (xe_var (pv 1)) (xe_int) (fun _ _ => rfl))))
          (xss_nil))
          (xss_one (xs_ret (xe_if (xt_cmp (o_eq hu) (xe_var (pv 5)) (xe_int) (nomark _)) (xe_disp (ds := [(eOp opIx (eVar 1) (eC (.int 0)), eA fList (aCons (eVar 1) (aNil)))]) (xps_cons (xe_ix ix_ok (xe_var (pv 1)) (xe_int) (fun _ _ => rfl)) (xe_callTy c_list rfl E.b_list (by decide +kernel) (xa_cons (xe_var (pv 1)) (xa_nil))) (xps_nil))) (xe_call (ps := ["bag", "many"]) (g__law_odd E hS) gd (hr.mono (by decide)) rfl E.m__law_odd E.F__law_odd.kp E.bd__law_odd (xa_cons (xe_var (pv 0)) (xa_cons (xe_var (pv 3)) (xa_nil)))))))))))))
theorem g__law_spoilt (E : Fs K mg fa fd) (hS : SysD base) : FnG P w K mg base 5 (fa 15) (fd 15) ["bag", "row", "signature", "places"] f__law_spoilt := fnG_of (k := 4) E.F__law_spoilt sc__law_spoilt fun cdv A outer s H gd hr => by
  have nd := sc__law_spoilt.nd
  have hu := hr.units
  have hu5 := hr.units65
  have hu4 := units64 hu5
  exact xss_cons (xs_set (i := 4) nd rfl (Or.inr rfl) (xe_lst (xa_nil)))
          (xss_cons (xs_for PassesOwn.never rfl (xi_rng3 rfl E.b_range (xa_cons (xe_op o_sub (xe_callB c_len rfl E.b_len (by decide +kernel) (xa_cons (xe_var (pv 1)) (xa_nil))) (xe_int)) (xa_cons (xe_un o_neg (xe_int)) (xa_cons (xe_un o_neg (xe_int)) (xa_nil))))) (xg_name (i := 5) nd rfl (Or.inl rfl))
          (xss_cons (xs_set (i := 6) nd rfl (Or.inl rfl) (xe_callTy c_tuple rfl E.b_tuple (by decide +kernel) (xa_cons (xe_op o_add (xe_lst (xa_cons (xe_ix ix_ok (xe_var (pv 1)) (xe_var (pv 5)) (fun _ _ => rfl)) (xa_nil))) (xe_lc (own := [("k", 7)]) (d := iRngOne (aCons (eOp opIx (eVar 2) (eOp opIx (eVar 1) (eVar 5))) (aNil))) (g := gN 7) (t := dYes) (el := eM "list" mPop (eVar 4) aNil) rfl nd (xi_rng1 rfl E.b_range (xa_cons (xe_ix ix_ok (xe_var (pv 2)) (xe_ix ix_ok (xe_var (pv 1)) (xe_var (pv 5)) (fun _ _ => rfl)) (fun _ _ => rfl)) (xa_nil))) (blkOk_by (N := N__law_spoilt) (sc := defScope s__law_spoilt) (own := [("k", 7)]) (by decide +kernel)) (fun _ _ _ _ _ => xg_name (i := 7) nd rfl (Or.inl rfl)) (fun _ _ _ _ _ => xpts_nil) (fun _ _ _ _ _ => xe_bm0 PySem.F.plainAttrs_list PySem.F.slot_list_pop PySem.F.type_list_pop m_pop (xe_var (pv 4))))) (xa_nil))))
          (xss_one (xs_expr (xe_bm PySem.F.plainAttrs_list PySem.F.slot_list_append PySem.F.type_list_append m_append (xe_var (pv 4)) (xa_cons (xe_if (xt_cmp (o_inA hu5) (xe_var (pv 5)) (xe_var (pv 3)) (by rfl)) (xe_call (ps := ["bag", "thing", "signature"]) (g__law_bent E hS) gd (hr.mono (by decide)) rfl E.m__law_bent E.F__law_bent.kp E.bd__law_bent (xa_cons (xe_var (pv 0)) (xa_cons (xe_var (pv 6)) (xa_cons (xe_var (pv 2)) (xa_nil))))) (xe_var (pv 6))) (xa_nil)))))))
          (xss_one (xs_ret (xe_ix ix_ok (xe_var (pv 4)) (xe_un o_neg (xe_int)) (fun _ _ => rfl)))))
theorem g__law_tower (E : Fs K mg fa fd) (hS : SysD base) : FnG P w K mg base 4 (fa 16) (fd 16) ["bag", "signature"] f__law_tower := fnG_of (k := 3) E.F__law_tower sc__law_tower fun cdv A outer s H gd hr => by
  have nd := sc__law_tower.nd
  have hu := hr.units
  have hu5 := hr.units65
  have hu4 := units64 hu5
  exact xss_cons (xs_setLc (i := 2) (own := [("symbol", 4)]) (d := iRngOne (aCons (eA fLen (aCons (eVar 1) (aNil))) (aNil))) (g := gN 4) (t := dE (eOp opGt (eOp opIx (eVar 1) (eVar 4)) (eC (.int 0)))) (el := eVar 4) rfl nd rfl rfl (sw_true rfl rfl rfl (by decide +kernel)) (xi_rng1 rfl E.b_range (xa_cons (xe_callB c_len rfl E.b_len (by decide +kernel) (xa_cons (xe_var (pv 1)) (xa_nil))) (xa_nil))) (blkOk_by (N := N__law_tower) (sc := defScope s__law_tower) (own := [("symbol", 4)]) (by decide +kernel)) (fun _ _ _ _ _ => xg_name (i := 4) nd rfl (Or.inl rfl)) (fun _ _ _ _ _ => xpts_one (xt_cmp o_gt (xe_ix ix_ok (xe_var (pv 1)) (xe_var (pv 4)) (fun _ _ => rfl)) (xe_int) (nomark _))) (fun _ _ _ _ _ => xe_var (pv 4)))
          (xss_cons (xs_set (i := 3) nd rfl (Or.inl rfl) (xe_if (xt_cmp (o_eq hu) (xe_call (ps := ["bag", "below"]) (g__law_draw E hS) gd (hr.mono (by decide)) rfl E.m__law_draw E.F__law_draw.kp E.bd__law_draw (xa_cons (xe_var (pv 0)) (xa_cons (xe_int) (xa_nil)))) (xe_int) (nomark _)) (xe_call (ps := ["bag", "many"]) (g__law_odd E hS) gd (hr.mono (by decide)) rfl E.m__law_odd E.F__law_odd.kp E.bd__law_odd (xa_cons (xe_var (pv 0)) (xa_cons (xe_callB c_len rfl E.b_len (by decide +kernel) (xa_cons (xe_var (pv 1)) (xa_nil))) (xa_nil)))) (xe_tup (xa_cons (xe_bmT PySem.F.plainAttrs_tuple PySem.F.slot_tuple_index PySem.F.type_tuple_index m_indexT (xe_var (pv 1)) (xa_cons (xe_int) (xa_nil))) (xa_nil)))))
          (xss_cons (xs_if (xt_cmp (o_eqA hu4) (xe_var (pv 2)) (xe_lst (xa_nil)) (nomark _))
          (xss_one (xs_ret (xe_var (pv 3))))
          (xss_nil))
          (xss_cons (xs_set (i := 4) nd rfl (Or.inl rfl) (xe_call (ps := ["bag", "some"]) (g__law_pick E hS) gd (hr.mono (by decide)) rfl E.m__law_pick E.F__law_pick.kp E.bd__law_pick (xa_cons (xe_var (pv 0)) (xa_cons (xe_var (pv 2)) (xa_nil)))))
          (xss_cons (xs_set (i := 5) nd rfl (Or.inl rfl) (xe_ix ix_ok (xe_lst (xa_cons (xe_int) (xa_cons (xe_op o_add (xe_int) (xe_call (ps := ["bag", "below"]) (g__law_draw E hS) gd (hr.mono (by decide)) rfl E.m__law_draw E.F__law_draw.kp E.bd__law_draw (xa_cons (xe_var (pv 0)) (xa_cons (xe_int) (xa_nil))))) (xa_cons (xe_op o_add (xe_int) (xe_call (ps := ["bag", "below"]) (g__law_draw E hS) gd (hr.mono (by decide)) rfl E.m__law_draw E.F__law_draw.kp E.bd__law_draw (xa_cons (xe_var (pv 0)) (xa_cons (xe_int) (xa_nil))))) (xa_cons (xe_op o_add (xe_int) (xe_call (ps := ["bag", "below"]) (g__law_draw E hS) gd (hr.mono (by decide)) rfl E.m__law_draw E.F__law_draw.kp E.bd__law_draw (xa_cons (xe_var (pv 0)) (xa_cons (xe_int) (xa_nil))))) (xa_nil)))))) (xe_ix ix_ok (xe_var (pv 1)) (xe_var (pv 4)) (fun _ _ => rfl)) (fun _ _ => rfl)))
          (xss_cons (xs_for PassesOwn.never rfl (xi_rng1 rfl E.b_range (xa_cons (xe_var (pv 5)) (xa_nil))) (xg_name (i := 6) nd rfl (Or.inl rfl))
          (xss_one (xs_set (i := 3) nd rfl (Or.inl rfl) (xe_callTy c_tuple rfl E.b_tuple (by decide +kernel) (xa_cons (xe_op o_add (xe_lst (xa_cons (xe_var (pv 4)) (xa_nil))) (xe_op o_mul (xe_lst (xa_cons (xe_var (pv 3)) (xa_nil))) (xe_ix ix_ok (xe_var (pv 1)) (xe_var (pv 4)) (fun _ _ => rfl)))) (xa_nil))))))
          (xss_one (xs_ret (xe_var (pv 3)))))))))
theorem g__law_with_bool (E : Fs K mg fa fd) (hS : SysD base) : FnG P w K mg base 1 (fa 17) (fd 17) ["row", "signature", "at"] f__law_with_bool := fnG_of (k := 0) E.F__law_with_bool sc__law_with_bool fun cdv A outer s H gd hr => by
  have nd := sc__law_with_bool.nd
  have hu := hr.units
  have hu5 := hr.units65
  have hu4 := units64 hu5
  exact xss_cons (xs_set (i := 3) nd rfl (Or.inr rfl) (xe_lst (xa_nil)))
          (xss_cons (xs_for PassesOwn.never rfl (xi_rng3 rfl E.b_range (xa_cons (xe_op o_sub (xe_callB c_len rfl E.b_len (by decide +kernel) (xa_cons (xe_var (pv 0)) (xa_nil))) (xe_int)) (xa_cons (xe_un o_neg (xe_int)) (xa_cons (xe_un o_neg (xe_int)) (xa_nil))))) (xg_name (i := 4) nd rfl (Or.inl rfl))
          (xss_cons (xs_set (i := 5) nd rfl (Or.inl rfl) (xe_if (XW.xt (xw_and (xt_cmp (o_eq hu) (xe_var (pv 4)) (xe_var (pv 2)) (nomark _)) (xw_and1 (xt_cmp o_lt (xe_ix ix_ok (xe_var (pv 0)) (xe_var (pv 4)) (fun _ _ => rfl)) (xe_int) (nomark _))))) (xe_cmp (o_eq hu) (xe_ix ix_ok (xe_var (pv 0)) (xe_var (pv 4)) (fun _ _ => rfl)) (xe_int) (nomark _)) (xe_ix ix_ok (xe_var (pv 0)) (xe_var (pv 4)) (fun _ _ => rfl))))
          (xss_one (xs_expr (xe_bm PySem.F.plainAttrs_list PySem.F.slot_list_append PySem.F.type_list_append m_append (xe_var (pv 3)) (xa_cons (xe_callTy c_tuple rfl E.b_tuple (by decide +kernel) (xa_cons (xe_op o_add (xe_lst (xa_cons (xe_var (pv 5)) (xa_nil))) (xe_lc (own := [("j", 6)]) (d := iRngOne (aCons (eOp opIx (eVar 1) (eOp opIx (eVar 0) (eVar 4))) (aNil))) (g := gN 6) (t := dYes) (el := eM "list" mPop (eVar 3) aNil) rfl nd (xi_rng1 rfl E.b_range (xa_cons (xe_ix ix_ok (xe_var (pv 1)) (xe_ix ix_ok (xe_var (pv 0)) (xe_var (pv 4)) (fun _ _ => rfl)) (fun _ _ => rfl)) (xa_nil))) (blkOk_by (N := N__law_with_bool) (sc := defScope s__law_with_bool) (own := [("j", 6)]) (by decide +kernel)) (fun _ _ _ _ _ => xg_name (i := 6) nd rfl (Or.inl rfl)) (fun _ _ _ _ _ => xpts_nil) (fun _ _ _ _ _ => xe_bm0 PySem.F.plainAttrs_list PySem.F.slot_list_pop PySem.F.type_list_pop m_pop (xe_var (pv 3))))) (xa_nil))) (xa_nil)))))))
          (xss_one (xs_ret (xe_ix ix_ok (xe_var (pv 3)) (xe_un o_neg (xe_int)) (fun _ _ => rfl)))))
theorem g__law_term_values (E : Fs K mg fa fd) (hS : SysD base) : FnG P w K mg base 6 (fa 18) (fd 18) ["bag", "signature"] f__law_term_values := fnG_of (k := 5) E.F__law_term_values sc__law_term_values fun cdv A outer s H gd hr => by
  have nd := sc__law_term_values.nd
  have hu := hr.units
  have hu5 := hr.units65
  have hu4 := units64 hu5
  exact xss_cons (xs_par (i := 2) (j := 3) rfl nd rfl rfl (by decide) rfl rfl (xa_cons (xe_lc (own := [("symbol", 13)]) (d := iRngOne (aCons (eA fLen (aCons (eVar 1) (aNil))) (aNil))) (g := gN 13) (t := dYes) (el := eA mkT (aCons (eVar 13) (aCons (eOp opIx (eVar 1) (eVar 13)) (aNil)))) rfl nd (xi_rng1 rfl E.b_range (xa_cons (xe_callB c_len rfl E.b_len (by decide +kernel) (xa_cons (xe_var (pv 1)) (xa_nil))) (xa_nil))) (blkOk_by (N := N__law_term_values) (sc := defScope s__law_term_values) (own := [("symbol", 13)]) (by decide +kernel)) (fun _ _ _ _ _ => xg_name (i := 13) nd rfl (Or.inl rfl)) (fun _ _ _ _ _ => xpts_nil) (fun _ _ _ _ _ => xe_tup (xa_cons (xe_var (pv 13)) (xa_cons (xe_ix ix_ok (xe_var (pv 1)) (xe_var (pv 13)) (fun _ _ => rfl)) (xa_nil))))) (xa_cons (xe_call (ps := ["signature"]) (g__law_sums E hS) gd (hr.mono (by decide)) rfl E.m__law_sums E.F__law_sums.kp E.bd__law_sums (xa_cons (xe_var (pv 1)) (xa_nil))) (xa_nil))) rfl)
          (xss_cons (xs_set (i := 4) nd rfl (Or.inl rfl) (xe_lst (xa_cons (xe_call (ps := ["bag", "many"]) (g__law_odd E hS) gd (hr.mono (by decide)) rfl E.m__law_odd E.F__law_odd.kp E.bd__law_odd (xa_cons (xe_var (pv 0)) (xa_cons (xe_callB c_len rfl E.b_len (by decide +kernel) (xa_cons (xe_var (pv 1)) (xa_nil))) (xa_nil)))) (xa_cons (xe_call (ps := ["bag", "signature"]) (g__law_tower E hS) gd (hr.mono (by decide)) rfl E.m__law_tower E.F__law_tower.kp E.bd__law_tower (xa_cons (xe_var (pv 0)) (xa_cons (xe_var (pv 1)) (xa_nil)))) (xa_nil)))))
          (xss_cons (xs_for PassesOwn.never rfl (xi_rng1 rfl E.b_range (xa_cons (xe_int) (xa_nil))) (xg_name (i := 5) nd rfl (Or.inl rfl))
          (xss_cons (xs_asg (xe_call (ps := ["bag", "some"]) (g__law_pick E hS) gd (hr.mono (by decide)) rfl E.m__law_pick E.F__law_pick.kp E.bd__law_pick (xa_cons (xe_var (pv 0)) (xa_cons (xe_lst (xa_cons (xe_tup (xa_cons (xe_int) (xa_cons (xe_int) (xa_nil)))) (xa_cons (xe_tup (xa_cons (xe_int) (xa_cons (xe_int) (xa_nil)))) (xa_cons (xe_tup (xa_cons (xe_int) (xa_cons (xe_int) (xa_nil)))) (xa_cons (xe_tup (xa_cons (xe_int) (xa_cons (xe_int) (xa_nil)))) (xa_nil)))))) (xa_nil)))) (xg_tup rfl (xgs_cons (xg_name (i := 6) nd rfl (Or.inl rfl)) (xgs_cons (xg_name (i := 7) nd rfl (Or.inl rfl)) (xgs_nil)))))
          (xss_cons (xs_if (xt_cmp o_lt (xe_var (pv 5)) (xe_int) (nomark _))
          (xss_one (xs_asg (xe_call (ps := ["bag", "some"]) (g__law_pick E hS) gd (hr.mono (by decide)) rfl E.m__law_pick E.F__law_pick.kp E.bd__law_pick (xa_cons (xe_var (pv 0)) (xa_cons (xe_if (xt_cmp (o_eq hu) (xe_var (pv 5)) (xe_int) (nomark _)) (xe_lst (xa_cons (xe_tup (xa_cons (xe_int) (xa_cons (xe_int) (xa_nil)))) (xa_cons (xe_tup (xa_cons (xe_int) (xa_cons (xe_int) (xa_nil)))) (xa_nil)))) (xe_lst (xa_cons (xe_tup (xa_cons (xe_int) (xa_cons (xe_int) (xa_nil)))) (xa_cons (xe_tup (xa_cons (xe_int) (xa_cons (xe_int) (xa_nil)))) (xa_cons (xe_tup (xa_cons (xe_int) (xa_cons (xe_int) (xa_nil)))) (xa_nil)))))) (xa_nil)))) (xg_tup rfl (xgs_cons (xg_name (i := 6) nd rfl (Or.inl rfl)) (xgs_cons (xg_name (i := 7) nd rfl (Or.inl rfl)) (xgs_nil))))))
          (xss_nil))
          (xss_cons (xs_set (i := 8) nd rfl (Or.inr rfl) (xe_call (ps := ["bag", "items", "sums", "many"]) (g__law_row E hS) gd (hr.mono (by decide)) rfl E.m__law_row E.F__law_row.kp E.bd__law_row (xa_cons (xe_var (pv 0)) (xa_cons (xe_var (pv 2)) (xa_cons (xe_var (pv 3)) (xa_cons (xe_call (ps := ["bag", "sums", "low", "high"]) (g__law_size E hS) gd (hr.mono (by decide)) rfl E.m__law_size E.F__law_size.kp E.bd__law_size (xa_cons (xe_var (pv 0)) (xa_cons (xe_var (pv 3)) (xa_cons (xe_var (pv 6)) (xa_cons (xe_var (pv 7)) (xa_nil)))))) (xa_nil)))))))
          (xss_cons (xs_set (i := 9) nd rfl (Or.inl rfl) (xe_lst (xa_nil)))
          (xss_cons (xs_for PassesOwn.never rfl (xi_rng1 rfl E.b_range (xa_cons (xe_call (ps := ["bag", "some"]) (g__law_pick E hS) gd (hr.mono (by decide)) rfl E.m__law_pick E.F__law_pick.kp E.bd__law_pick (xa_cons (xe_var (pv 0)) (xa_cons (xe_lst (xa_cons (xe_int) (xa_cons (xe_int) (xa_cons (xe_int) (xa_cons (xe_int) (xa_cons (xe_int) (xa_nil))))))) (xa_nil)))) (xa_nil))) (xg_name (i := 10) nd rfl (Or.inl rfl))
          (xss_one (xs_expr (xe_bm PySem.F.plainAttrs_list PySem.F.slot_list_append PySem.F.type_list_append m_append (xe_var (pv 9)) (xa_cons (xe_call (ps := ["bag", "some"]) (g__law_pick E hS) gd (hr.mono (by decide)) rfl E.m__law_pick E.F__law_pick.kp E.bd__law_pick (xa_cons (xe_var (pv 0)) (xa_cons (xe_lst (xa_cons (xe_call (ps := ["bag", "below"]) (g__law_draw E hS) gd (hr.mono (by decide)) rfl E.m__law_draw E.F__law_draw.kp E.bd__law_draw (xa_cons (xe_var (pv 0)) (xa_cons (xe_callB c_len rfl E.b_len (by decide +kernel) (xa_cons (xe_var (pv 8)) (xa_nil))) (xa_nil)))) (xa_cons (xe_callB (c_max rfl) rfl E.b_max (by decide +kernel) (xa_cons (xe_int) (xa_cons (xe_op o_sub (xe_op o_sub (xe_callB c_len rfl E.b_len (by decide +kernel) (xa_cons (xe_var (pv 8)) (xa_nil))) (xe_int)) (xe_call (ps := ["bag", "below"]) (g__law_draw E hS) gd (hr.mono (by decide)) rfl E.m__law_draw E.F__law_draw.kp E.bd__law_draw (xa_cons (xe_var (pv 0)) (xa_cons (xe_int) (xa_nil))))) (xa_nil)))) (xa_nil)))) (xa_nil)))) (xa_nil))))))
          (xss_one (xs_expr (xe_bm PySem.F.plainAttrs_list PySem.F.slot_list_append PySem.F.type_list_append m_append (xe_var (pv 4)) (xa_cons (xe_call (ps := ["bag", "row", "signature", "places"]) (g__law_spoilt E hS) gd (hr.mono (by decide)) rfl E.m__law_spoilt E.F__law_spoilt.kp E.bd__law_spoilt (xa_cons (xe_var (pv 0)) (xa_cons (xe_var (pv 8)) (xa_cons (xe_var (pv 1)) (xa_cons (xe_var (pv 9)) (xa_nil)))))) (xa_nil)))))))))))
          (xss_cons (xs_set (i := 8) nd rfl (Or.inr rfl) (xe_call (ps := ["bag", "items", "sums", "many"]) (g__law_row E hS) gd (hr.mono (by decide)) rfl E.m__law_row E.F__law_row.kp E.bd__law_row (xa_cons (xe_var (pv 0)) (xa_cons (xe_var (pv 2)) (xa_cons (xe_var (pv 3)) (xa_cons (xe_call (ps := ["bag", "sums", "low", "high"]) (g__law_size E hS) gd (hr.mono (by decide)) rfl E.m__law_size E.F__law_size.kp E.bd__law_size (xa_cons (xe_var (pv 0)) (xa_cons (xe_var (pv 3)) (xa_cons (xe_int) (xa_cons (xe_int) (xa_nil)))))) (xa_nil)))))))
          (xss_cons (xs_set (i := 11) nd rfl (Or.inl rfl) (xe_op o_add (xe_lc (own := [("at", 12)]) (d := iRngOne (aCons (eA fLen (aCons (eVar 8) (aNil))) (aNil))) (g := gN 12) (t := dE (eOp opLt (eOp opIx (eVar 8) (eVar 12)) (eC (.int 2)))) (el := eVar 12) rfl nd (xi_rng1 rfl E.b_range (xa_cons (xe_callB c_len rfl E.b_len (by decide +kernel) (xa_cons (xe_var (pv 8)) (xa_nil))) (xa_nil))) (blkOk_by (N := N__law_term_values) (sc := defScope s__law_term_values) (own := [("at", 12)]) (by decide +kernel)) (fun _ _ _ _ _ => xg_name (i := 12) nd rfl (Or.inl rfl)) (fun _ _ _ _ _ => xpts_one (xt_cmp o_lt (xe_ix ix_ok (xe_var (pv 8)) (xe_var (pv 12)) (fun _ _ => rfl)) (xe_int) (nomark _))) (fun _ _ _ _ _ => xe_var (pv 12))) (xe_lst (xa_cons (xe_int) (xa_nil)))))
          (xss_cons (xs_set (i := 12) nd rfl (Or.inl rfl) (xe_call (ps := ["bag", "some"]) (g__law_pick E hS) gd (hr.mono (by decide)) rfl E.m__law_pick E.F__law_pick.kp E.bd__law_pick (xa_cons (xe_var (pv 0)) (xa_cons (xe_var (pv 11)) (xa_nil)))))
          (xss_one (xs_ret (xe_op o_add (xe_var (pv 4)) (xe_lst (xa_cons (xe_call (ps := ["row", "signature", "at"]) (g__law_with_bool E hS) gd (hr.mono (by decide)) rfl E.m__law_with_bool E.F__law_with_bool.kp E.bd__law_with_bool (xa_cons (xe_var (pv 8)) (xa_cons (xe_var (pv 1)) (xa_cons (xe_un o_neg (xe_int)) (xa_nil))))) (xa_cons (xe_call (ps := ["row", "signature", "at"]) (g__law_with_bool E hS) gd (hr.mono (by decide)) rfl E.m__law_with_bool E.F__law_with_bool.kp E.bd__law_with_bool (xa_cons (xe_var (pv 8)) (xa_cons (xe_var (pv 1)) (xa_cons (xe_var (pv 12)) (xa_nil))))) (xa_nil))))))))))))
theorem g__law_due_term (E : Fs K mg fa fd) (hS : SysD base) : FnG P w K mg base 1 (fa 19) (fd 19) ["signature", "value"] f__law_due_term := fnG_of (k := 0) E.F__law_due_term sc__law_due_term fun cdv A outer s H gd hr => by
  have nd := sc__law_due_term.nd
  have hu := hr.units
  have hu5 := hr.units65
  have hu4 := units64 hu5
  exact xss_cons (xs_set (i := 2) nd rfl (Or.inl rfl) (xe_lst (xa_cons (xe_tup (xa_cons (xe_var (pv 1)) (xa_cons (xe_tup (xa_nil)) (xa_nil)))) (xa_nil))))
          (xss_cons (xs_for PassesOwn.never rfl (xi_rng1 rfl E.b_range (xa_cons (xe_int) (xa_nil))) (xg_name (i := 3) nd rfl (Or.inl rfl))
          (xss_cons (xs_if (xt_cmp (o_eqA hu4) (xe_var (pv 2)) (xe_lst (xa_nil)) (nomark _))
          (xss_one (xs_ret (xe_non)))
          (xss_nil))
          (xss_cons (xs_if (xt_cmp (o_eq hu) (xe_var (pv 3)) (xe_int) (nomark _))
          (xss_one (xs_ret (xe_str)))
          (xss_nil))
          (xss_cons (xs_asg (xe_bm0 PySem.F.plainAttrs_list PySem.F.slot_list_pop PySem.F.type_list_pop m_pop (xe_var (pv 2))) (xg_tup rfl (xgs_cons (xg_name (i := 4) nd rfl (Or.inl rfl)) (xgs_cons (xg_name (i := 5) nd rfl (Or.inl rfl)) (xgs_nil)))))
          (xss_cons (xs_if (XW.xt (xw_or (xt_not (xt_val (xe_isi (T := "tuple") (xe_var (pv 4)) rfl E.b_isinstance rfl E.b_tuple (by decide +kernel) (by decide)))) (xw_or1 (xt_cmp (o_eq hu) (xe_callB c_len rfl E.b_len (by decide +kernel) (xa_cons (xe_var (pv 4)) (xa_nil))) (xe_int) (nomark _)))))
          (xss_one (xs_ret (xe_tup (xa_cons (xe_str) (xa_cons (xe_var (pv 5)) (xa_nil))))))
          (xss_nil))
          (xss_cons (xs_if (XW.xt (xw_or (xt_not (xt_val (xe_isi (T := "int") (xe_ix ix_ok (xe_var (pv 4)) (xe_int) (fun _ _ => rfl)) rfl E.b_isinstance rfl E.b_int (by decide +kernel) (by decide)))) (xw_or (xt_val (xe_isi (T := "bool") (xe_ix ix_ok (xe_var (pv 4)) (xe_int) (fun _ _ => rfl)) rfl E.b_isinstance rfl E.b_bool (by decide +kernel) (by decide))) (xw_or1 (xt_not (xt_chain o_le o_lt (xe_int) (xe_ix ix_ok (xe_var (pv 4)) (xe_int) (fun _ _ => rfl)) (xe_callB c_len rfl E.b_len (by decide +kernel) (xa_cons (xe_var (pv 0)) (xa_nil)))))))))
          (xss_one (xs_ret (xe_tup (xa_cons (xe_str) (xa_cons (xe_var (pv 5)) (xa_nil))))))
          (xss_nil))
          (xss_cons (xs_if (xt_cmp (o_ne hu) (xe_callB c_len rfl E.b_len (by decide +kernel) (xa_cons (xe_var (pv 4)) (xa_nil))) (xe_op o_add (xe_int) (xe_ix ix_ok (xe_var (pv 0)) (xe_ix ix_ok (xe_var (pv 4)) (xe_int) (fun _ _ => rfl)) (fun _ _ => rfl))) (nomark _))
          (xss_one (xs_ret (xe_tup (xa_cons (xe_str) (xa_cons (xe_var (pv 5)) (xa_nil))))))
          (xss_nil))
          (xss_one (xs_for PassesOwn.never rfl (xi_rng3 rfl E.b_range (xa_cons (xe_op o_sub (xe_callB c_len rfl E.b_len (by decide +kernel) (xa_cons (xe_var (pv 4)) (xa_nil))) (xe_int)) (xa_cons (xe_int) (xa_cons (xe_un o_neg (xe_int)) (xa_nil))))) (xg_name (i := 6) nd rfl (Or.inl rfl))
          (xss_one (xs_expr (xe_bm PySem.F.plainAttrs_list PySem.F.slot_list_append PySem.F.type_list_append m_append (xe_var (pv 2)) (xa_cons (xe_tup (xa_cons (xe_ix ix_ok (xe_var (pv 4)) (xe_var (pv 6)) (fun _ _ => rfl)) (xa_cons (xe_op o_add (xe_var (pv 5)) (xe_tup (xa_cons (xe_op o_sub (xe_var (pv 6)) (xe_int)) (xa_nil)))) (xa_nil)))) (xa_nil))))))))))))))
          (xss_one (xs_ret (xe_str))))
theorem g__law_signature_value (E : Fs K mg fa fd) (hS : SysD base) : FnG P w K mg base 4 (fa 20) (fd 20) ["bag"] f__law_signature_value := fnG_of (k := 3) E.F__law_signature_value sc__law_signature_value fun cdv A outer s H gd hr => by
  have nd := sc__law_signature_value.nd
  have hu := hr.units
  have hu5 := hr.units65
  have hu4 := units64 hu5
  exact xss_cons (xs_setLc (i := 1) (own := [("k", 6)]) (d := iRngOne (aCons (eA (fun xs S => if xs.length = 2 then f__law_pick xs S else none) (aCons (eVar 0) (aCons (eA mkL (aCons (eC (.int 1)) (aCons (eC (.int 2)) (aCons (eC (.int 3)) (aCons (eC (.int 4)) (aCons (eC (.int 5)) (aCons (eC (.int 6)) (aCons (eC (.int 6)) (aCons (eC (.int 7)) (aCons (eC (.int 7)) (aCons (eC (.int 8)) (aCons (eC (.int 0)) (aCons (eC (.int 3)) (aNil)))))))))))))) (aNil)))) (aNil))) (g := gN 6) (t := dYes) (el := eA (fun xs S => if xs.length = 2 then f__law_draw xs S else none) (aCons (eVar 0) (aCons (eC (.int 4)) (aNil)))) rfl nd rfl rfl (sw_true rfl rfl rfl (by decide +kernel)) (xi_rng1 rfl E.b_range (xa_cons (xe_call (ps := ["bag", "some"]) (g__law_pick E hS) gd (hr.mono (by decide)) rfl E.m__law_pick E.F__law_pick.kp E.bd__law_pick (xa_cons (xe_var (pv 0)) (xa_cons (xe_lst (xa_cons (xe_int) (xa_cons (xe_int) (xa_cons (xe_int) (xa_cons (xe_int) (xa_cons (xe_int) (xa_cons (xe_int) (xa_cons (xe_int) (xa_cons (xe_int) (xa_cons (xe_int) (xa_cons (xe_int) (xa_cons (xe_int) (xa_cons (xe_int) (xa_nil)))))))))))))) (xa_nil)))) (xa_nil))) (blkOk_by (N := N__law_signature_value) (sc := defScope s__law_signature_value) (own := [("k", 6)]) (by decide +kernel)) (fun _ _ _ _ _ => xg_name (i := 6) nd rfl (Or.inl rfl)) (fun _ _ _ _ _ => xpts_nil) (fun _ _ _ _ _ => xe_call (ps := ["bag", "below"]) (g__law_draw E hS) gd (hr.mono (by decide)) rfl E.m__law_draw E.F__law_draw.kp E.bd__law_draw (xa_cons (xe_var (pv 0)) (xa_cons (xe_int) (xa_nil)))))
          (xss_cons (xs_if (XW.xt (xw_and (xt_cmp (o_neA hu4) (xe_var (pv 1)) (xe_lst (xa_nil)) (nomark _)) (xw_and1 (xt_cmp o_gt (xe_call (ps := ["bag", "below"]) (g__law_draw E hS) gd (hr.mono (by decide)) rfl E.m__law_draw E.F__law_draw.kp E.bd__law_draw (xa_cons (xe_var (pv 0)) (xa_cons (xe_int) (xa_nil)))) (xe_int) (nomark _)))))
          (xss_one (xs_sub (xe_int) (xe_var (pv 1)) (xe_call (ps := ["bag", "below"]) (g__law_draw E hS) gd (hr.mono (by decide)) rfl E.m__law_draw E.F__law_draw.kp E.bd__law_draw (xa_cons (xe_var (pv 0)) (xa_cons (xe_callB c_len rfl E.b_len (by decide +kernel) (xa_cons (xe_var (pv 1)) (xa_nil))) (xa_nil)))) set_ok))
          (xss_nil))
          (xss_cons (xs_for PassesOwn.never rfl (xi_rng1 rfl E.b_range (xa_cons (xe_call (ps := ["bag", "some"]) (g__law_pick E hS) gd (hr.mono (by decide)) rfl E.m__law_pick E.F__law_pick.kp E.bd__law_pick (xa_cons (xe_var (pv 0)) (xa_cons (xe_lst (xa_cons (xe_int) (xa_cons (xe_int) (xa_cons (xe_int) (xa_cons (xe_int) (xa_cons (xe_int) (xa_nil))))))) (xa_nil)))) (xa_nil))) (xg_name (i := 2) nd rfl (Or.inl rfl))
          (xss_one (xs_if (xt_cmp (o_neA hu4) (xe_var (pv 1)) (xe_lst (xa_nil)) (nomark _))
          (xss_cons (xs_set (i := 3) nd rfl (Or.inl rfl) (xe_call (ps := ["bag", "below"]) (g__law_draw E hS) gd (hr.mono (by decide)) rfl E.m__law_draw E.F__law_draw.kp E.bd__law_draw (xa_cons (xe_var (pv 0)) (xa_cons (xe_callB c_len rfl E.b_len (by decide +kernel) (xa_cons (xe_var (pv 1)) (xa_nil))) (xa_nil)))))
          (xss_cons (xs_set (i := 4) nd rfl (Or.inl rfl) (xe_lst (xa_cons (xe_bl) (xa_cons (xe_bl) (xa_cons (xe_un o_neg (xe_int)) (xa_cons (xe_int) (xa_cons (xe_int) (xa_cons (xe_int) (xa_cons (xe_op o_pow (xe_int) (xe_int)) (xa_cons (xe_str) (xa_cons (xe_non) (xa_cons (xe_tup (xa_cons (xe_int) (xa_nil))) (xa_cons (xe_lst (xa_cons (xe_int) (xa_nil))) (xa_cons (xe_str) (xa_cons (xe_un o_neg (xe_op o_pow (xe_int) (xe_int))) (xa_nil))))))))))))))))
          (xss_one (xs_sub (xe_call (ps := ["bag", "some"]) (g__law_pick E hS) gd (hr.mono (by decide)) rfl E.m__law_pick E.F__law_pick.kp E.bd__law_pick (xa_cons (xe_var (pv 0)) (xa_cons (xe_var (pv 4)) (xa_nil)))) (xe_var (pv 1)) (xe_var (pv 3)) set_ok))))
          (xss_nil))))
          (xss_cons (xs_set (i := 5) nd rfl (Or.inl rfl) (xe_call (ps := ["bag", "below"]) (g__law_draw E hS) gd (hr.mono (by decide)) rfl E.m__law_draw E.F__law_draw.kp E.bd__law_draw (xa_cons (xe_var (pv 0)) (xa_cons (xe_int) (xa_nil)))))
          (xss_cons (xs_if (xt_cmp (o_eq hu) (xe_var (pv 5)) (xe_int) (nomark _))
          (xss_one (xs_ret (xe_var (pv 1))))
          (xss_nil))
          (xss_one (xs_ret (xe_if (xt_cmp (o_eq hu) (xe_var (pv 5)) (xe_int) (nomark _)) (xe_call (ps := ["bag", "many"]) (g__law_odd E hS) gd (hr.mono (by decide)) rfl E.m__law_odd E.F__law_odd.kp E.bd__law_odd (xa_cons (xe_var (pv 0)) (xa_cons (xe_int) (xa_nil)))) (xe_callTy c_tuple rfl E.b_tuple (by decide +kernel) (xa_cons (xe_var (pv 1)) (xa_nil))))))))))
theorem g__law_due_signature (E : Fs K mg fa fd) (hS : SysD base) : FnG P w K mg base 1 (fa 21) (fd 21) ["value"] f__law_due_signature := fnG_of (k := 0) E.F__law_due_signature sc__law_due_signature fun cdv A outer s H gd hr => by
  have nd := sc__law_due_signature.nd
  have hu := hr.units
  have hu5 := hr.units65
  have hu4 := units64 hu5
  exact xss_cons (xs_if (XW.xt (xw_or (xt_not (xt_val (xe_isi (T := "tuple") (xe_var (pv 0)) rfl E.b_isinstance rfl E.b_tuple (by decide +kernel) (by decide)))) (xw_or (xt_cmp o_lt (xe_callB c_len rfl E.b_len (by decide +kernel) (xa_cons (xe_var (pv 0)) (xa_nil))) (xe_int) (nomark _)) (xw_or1 (xt_cmp o_gt (xe_callB c_len rfl E.b_len (by decide +kernel) (xa_cons (xe_var (pv 0)) (xa_nil))) (xe_int) (nomark _))))))
          (xss_one (xs_ret (xe_str)))
          (xss_nil))
          (xss_cons (xs_for PassesOwn.never rfl (xi_enu rfl E.b_enumerate (xa_cons (xe_var (pv 0)) (xa_nil))) (xg_tup rfl (xgs_cons (xg_name (i := 1) nd rfl (Or.inl rfl)) (xgs_cons (xg_name (i := 2) nd rfl (Or.inl rfl)) (xgs_nil))))
          (xss_one (xs_if (XW.xt (xw_or (xt_not (xt_val (xe_isi (T := "int") (xe_var (pv 2)) rfl E.b_isinstance rfl E.b_int (by decide +kernel) (by decide)))) (xw_or (xt_val (xe_isi (T := "bool") (xe_var (pv 2)) rfl E.b_isinstance rfl E.b_bool (by decide +kernel) (by decide))) (xw_or (xt_cmp o_lt (xe_var (pv 2)) (xe_int) (nomark _)) (xw_or1 (xt_cmp o_gt (xe_var (pv 2)) (xe_int) (nomark _)))))))
          (xss_one (xs_ret (xe_tup (xa_cons (xe_str) (xa_cons (xe_var (pv 1)) (xa_nil))))))
          (xss_nil))))
          (xss_one (xs_ret (xe_if (xt_cmp (o_eq hu) (xe_callB (c_minT rfl hu5) rfl E.b_min (by decide +kernel) (xa_cons (xe_var (pv 0)) (xa_nil))) (xe_int) (nomark _)) (xe_non) (xe_str)))))
theorem g_law (E : Fs K mg fa fd) (hS : SysD base) : FnG P w K mg base 65 (fa 22) (fd 22) ["script"] f_law := fnG_of (k := 64) E.F_law sc_law fun cdv A outer s H gd hr => by
  have nd := sc_law.nd
  have hu := hr.units
  have hu5 := hr.units65
  have hu4 := units64 hu5
  exact xss_cons (xs_set (i := 1) nd rfl (Or.inr rfl) (xe_call (ps := ["script"]) (g__law_own_bag E hS) gd (hr.mono (by decide)) rfl E.m__law_own_bag E.F__law_own_bag.kp E.bd__law_own_bag (xa_cons (xe_var (pv 0)) (xa_nil))))
          (xss_cons (xs_set (i := 2) nd rfl (Or.inl rfl) (xe_lst (xa_nil)))
          (xss_cons (xs_for PassesOwn.never rfl (xi_rng1 rfl E.b_range (xa_cons (xe_int) (xa_nil))) (xg_name (i := 3) nd rfl (Or.inl rfl))
          (xss_cons (xs_set (i := 4) nd rfl (Or.inl rfl) (xe_call (ps := ["bag"]) (g__law_signature E hS) gd (hr.mono (by decide)) rfl E.m__law_signature E.F__law_signature.kp E.bd__law_signature (xa_cons (xe_var (pv 1)) (xa_nil))))
          (xss_cons (xs_for PassesOwn.never rfl (xi_seq (xe_call (ps := ["bag", "signature"]) (g__law_term_values E hS) gd (hr.mono (by decide)) rfl E.m__law_term_values E.F__law_term_values.kp E.bd__law_term_values (xa_cons (xe_var (pv 1)) (xa_cons (xe_var (pv 4)) (xa_nil))))) (xg_name (i := 5) nd rfl (Or.inl rfl))
          (xss_one (xs_expr (xe_bm PySem.F.plainAttrs_list PySem.F.slot_list_append PySem.F.type_list_append m_append (xe_var (pv 2)) (xa_cons (xe_tup (xa_cons (xe_var (pv 4)) (xa_cons (xe_var (pv 5)) (xa_cons (xe_call (ps := ["signature", "value"]) (g__law_due_term E hS) gd (hr.mono (by decide)) rfl E.m__law_due_term E.F__law_due_term.kp E.bd__law_due_term (xa_cons (xe_var (pv 4)) (xa_cons (xe_var (pv 5)) (xa_nil)))) (xa_nil))))) (xa_nil))))))
          (xss_cons (xs_set (i := 6) nd rfl (Or.inl rfl) (xe_callTy c_tuple rfl E.b_tuple (by decide +kernel) (xa_cons (xe_lc (own := [("item", 10)]) (d := iSeq (eVar 4)) (g := gN 10) (t := dYes) (el := eIf (dE (eOp opLt (eVar 10) (eC (.int 2)))) (eOp opEq (eVar 10) (eC (.int 1))) (eVar 10)) rfl nd (xi_seq (xe_var (pv 4))) (blkOk_by (N := N_law) (sc := defScope s_law) (own := [("item", 10)]) (by decide +kernel)) (fun _ _ _ _ _ => xg_name (i := 10) nd rfl (Or.inl rfl)) (fun _ _ _ _ _ => xpts_nil) (fun _ _ _ _ _ => xe_if (xt_cmp o_lt (xe_var (pv 10)) (xe_int) (nomark _)) (xe_cmp (o_eq hu) (xe_var (pv 10)) (xe_int) (nomark _)) (xe_var (pv 10)))) (xa_nil))))
          (xss_one (xs_for PassesOwn.never rfl (xi_seq (xe_op o_add (xe_lst (xa_cons (xe_var (pv 4)) (xa_cons (xe_var (pv 6)) (xa_nil)))) (xe_lc (own := [("k", 11)]) (d := iRngOne (aCons (eC (.int 10)) (aNil))) (g := gN 11) (t := dYes) (el := eA (fun xs S => if xs.length = 1 then f__law_signature_value xs S else none) (aCons (eVar 1) (aNil))) rfl nd (xi_rng1 rfl E.b_range (xa_cons (xe_int) (xa_nil))) (blkOk_by (N := N_law) (sc := defScope s_law) (own := [("k", 11)]) (by decide +kernel)) (fun _ _ _ _ _ => xg_name (i := 11) nd rfl (Or.inl rfl)) (fun _ _ _ _ _ => xpts_nil) (fun _ _ _ _ _ => xe_call (ps := ["bag"]) (g__law_signature_value E hS) gd (hr.mono (by decide)) rfl E.m__law_signature_value E.F__law_signature_value.kp E.bd__law_signature_value (xa_cons (xe_var (pv 1)) (xa_nil)))))) (xg_name (i := 5) nd rfl (Or.inl rfl))
          (xss_one (xs_expr (xe_bm PySem.F.plainAttrs_list PySem.F.slot_list_append PySem.F.type_list_append m_append (xe_var (pv 2)) (xa_cons (xe_tup (xa_cons (xe_non) (xa_cons (xe_var (pv 5)) (xa_cons (xe_call (ps := ["value"]) (g__law_due_signature E hS) gd (hr.mono (by decide)) rfl E.m__law_due_signature E.F__law_due_signature.kp E.bd__law_due_signature (xa_cons (xe_var (pv 5)) (xa_nil))) (xa_nil))))) (xa_nil)))))))))))
          (xss_cons (xs_set (i := 7) nd rfl (Or.inl rfl) (xe_callB (c_reprD hS gd hu5) rfl E.b_repr (by decide +kernel) (xa_cons (xe_var (pv 2)) (xa_nil))))
          (xss_cons (xs_for PassesOwn.never rfl (xi_seq (xe_var (pv 2))) (xg_tup rfl (xgs_cons (xg_name (i := 4) nd rfl (Or.inl rfl)) (xgs_cons (xg_name (i := 5) nd rfl (Or.inl rfl)) (xgs_cons (xg_name (i := 8) nd rfl (Or.inl rfl)) (xgs_nil)))))
          (xss_one (xs_if (xt_not (xt_val (xe_call (ps := ["told", "due"]) (g__law_is_same E hS 64) gd (hr.mono (by decide)) rfl E.m__law_is_same E.F__law_is_same.kp E.bd__law_is_same (xa_cons (xe_if (xt_cmp o_is (xe_var (pv 4)) (xe_non) (nomark _)) (xe_call (ps := ["value"]) (g_signature_error E hS) gd (hr.mono (by decide)) rfl E.m_signature_error E.F_signature_error.kp E.bd_signature_error (xa_cons (xe_var (pv 5)) (xa_nil))) (xe_call (ps := ["signature", "value"]) (g_term_error E hS) gd (hr.mono (by decide)) rfl E.m_term_error E.F_term_error.kp E.bd_term_error (xa_cons (xe_var (pv 4)) (xa_cons (xe_var (pv 5)) (xa_nil))))) (xa_cons (xe_var (pv 8)) (xa_nil))))))
          (xss_one (xs_ret (xe_bl)))
          (xss_nil))))
          (xss_cons (xs_for PassesOwn.never rfl (xi_rv rfl E.b_reversed (xe_var (pv 2))) (xg_tup rfl (xgs_cons (xg_name (i := 4) nd rfl (Or.inl rfl)) (xgs_cons (xg_name (i := 5) nd rfl (Or.inl rfl)) (xgs_cons (xg_name (i := 8) nd rfl (Or.inl rfl)) (xgs_nil)))))
          (xss_cons (xs_if (xt_cmp o_is (xe_var (pv 4)) (xe_non) (nomark _))
          (xss_one (xs_set (i := 9) nd rfl (Or.inl rfl) (xe_callK (nth := [0]) (ks := ["value"]) (ps := ["value"]) (g_signature_error E hS) gd (hr.mono (by decide)) rfl E.m_signature_error E.F_signature_error.kp E.k_signature_error_0 (xk_cons (xe_var (pv 5)) (xk_nil)))))
          (xss_one (xs_set (i := 9) nd rfl (Or.inl rfl) (xe_callK (nth := [1, 0]) (ks := ["value", "signature"]) (ps := ["signature", "value"]) (g_term_error E hS) gd (hr.mono (by decide)) rfl E.m_term_error E.F_term_error.kp E.k_term_error_1_0 (xk_cons (xe_var (pv 5)) (xk_cons (xe_var (pv 4)) (xk_nil)))))))
          (xss_one (xs_if (xt_not (xt_val (xe_call (ps := ["told", "due"]) (g__law_is_same E hS 64) gd (hr.mono (by decide)) rfl E.m__law_is_same E.F__law_is_same.kp E.bd__law_is_same (xa_cons (xe_var (pv 9)) (xa_cons (xe_var (pv 8)) (xa_nil))))))
          (xss_one (xs_ret (xe_bl)))
          (xss_nil)))))
          (xss_one (xs_ret (xe_cmp (o_eq hu) (xe_callB (c_reprD hS gd hu5) rfl E.b_repr (by decide +kernel) (xa_cons (xe_var (pv 2)) (xa_nil))) (xe_var (pv 7)) (nomark _)))))))))
end
/-! the head -/
def d_is_whole : He.DefD := ⟨("is_whole", none), "is_whole", "is_whole", defArgs s_is_whole, defBody s_is_whole, defScope s_is_whole, [], []⟩
def d_signature_error : He.DefD := ⟨("signature_error", none), "signature_error", "signature_error", defArgs s_signature_error, defBody s_signature_error, defScope s_signature_error, [], []⟩
def d_is_thing : He.DefD := ⟨("is_thing", none), "is_thing", "is_thing", defArgs s_is_thing, defBody s_is_thing, defScope s_is_thing, [], []⟩
def d_thing_error : He.DefD := ⟨("thing_error", none), "thing_error", "thing_error", defArgs s_thing_error, defBody s_thing_error, defScope s_thing_error, [], []⟩
def d_term_error : He.DefD := ⟨("term_error", none), "term_error", "term_error", defArgs s_term_error, defBody s_term_error, defScope s_term_error, [], []⟩
def d__law_own_bag : He.DefD := ⟨("_law_own_bag", none), "_law_own_bag", "_law_own_bag", defArgs s__law_own_bag, defBody s__law_own_bag, defScope s__law_own_bag, [], []⟩
def d__law_draw : He.DefD := ⟨("_law_draw", none), "_law_draw", "_law_draw", defArgs s__law_draw, defBody s__law_draw, defScope s__law_draw, [], []⟩
def d__law_pick : He.DefD := ⟨("_law_pick", none), "_law_pick", "_law_pick", defArgs s__law_pick, defBody s__law_pick, defScope s__law_pick, [], []⟩
def d__law_signature : He.DefD := ⟨("_law_signature", none), "_law_signature", "_law_signature", defArgs s__law_signature, defBody s__law_signature, defScope s__law_signature, [], []⟩
def d__law_sums : He.DefD := ⟨("_law_sums", none), "_law_sums", "_law_sums", defArgs s__law_sums, defBody s__law_sums, defScope s__law_sums, [], []⟩
def d__law_size : He.DefD := ⟨("_law_size", none), "_law_size", "_law_size", defArgs s__law_size, defBody s__law_size, defScope s__law_size, [], []⟩
def d__law_row : He.DefD := ⟨("_law_row", none), "_law_row", "_law_row", defArgs s__law_row, defBody s__law_row, defScope s__law_row, [], []⟩
def d__law_is_same : He.DefD := ⟨("_law_is_same", none), "_law_is_same", "_law_is_same", defArgs s__law_is_same, defBody s__law_is_same, defScope s__law_is_same, [], []⟩
def d__law_odd : He.DefD := ⟨("_law_odd", none), "_law_odd", "_law_odd", defArgs s__law_odd, defBody s__law_odd, defScope s__law_odd, [], []⟩
def d__law_bent : He.DefD := ⟨("_law_bent", none), "_law_bent", "_law_bent", defArgs s__law_bent, defBody s__law_bent, defScope s__law_bent, [], []⟩
def d__law_spoilt : He.DefD := ⟨("_law_spoilt", none), "_law_spoilt", "_law_spoilt", defArgs s__law_spoilt, defBody s__law_spoilt, defScope s__law_spoilt, [], []⟩
def d__law_tower : He.DefD := ⟨("_law_tower", none), "_law_tower", "_law_tower", defArgs s__law_tower, defBody s__law_tower, defScope s__law_tower, [], []⟩
def d__law_with_bool : He.DefD := ⟨("_law_with_bool", none), "_law_with_bool", "_law_with_bool", defArgs s__law_with_bool, defBody s__law_with_bool, defScope s__law_with_bool, [], []⟩
def d__law_term_values : He.DefD := ⟨("_law_term_values", none), "_law_term_values", "_law_term_values", defArgs s__law_term_values, defBody s__law_term_values, defScope s__law_term_values, [], []⟩
def d__law_due_term : He.DefD := ⟨("_law_due_term", none), "_law_due_term", "_law_due_term", defArgs s__law_due_term, defBody s__law_due_term, defScope s__law_due_term, [], []⟩
def d__law_signature_value : He.DefD := ⟨("_law_signature_value", none), "_law_signature_value", "_law_signature_value", defArgs s__law_signature_value, defBody s__law_signature_value, defScope s__law_signature_value, [], []⟩
def d__law_due_signature : He.DefD := ⟨("_law_due_signature", none), "_law_due_signature", "_law_due_signature", defArgs s__law_due_signature, defBody s__law_due_signature, defScope s__law_due_signature, [], []⟩
def d_law : He.DefD := ⟨("law", none), "law", "law", defArgs s_law, defBody s_law, defScope s_law, [], []⟩
def hfn : List He.DefD := [d_is_whole, d_signature_error, d_is_thing, d_thing_error, d_term_error, d__law_own_bag, d__law_draw, d__law_pick, d__law_signature, d__law_sums, d__law_size, d__law_row, d__law_is_same, d__law_odd, d__law_bent, d__law_spoilt, d__law_tower, d__law_with_bool, d__law_term_values, d__law_due_term, d__law_signature_value, d__law_due_signature, d_law]
def hfa : List He.Fa := [.glo "is_whole", .glo "signature_error", .glo "is_thing", .glo "thing_error", .glo "term_error", .glo "_law_own_bag", .glo "_law_draw", .glo "_law_pick", .glo "_law_signature", .glo "_law_sums", .glo "_law_size", .glo "_law_row", .glo "_law_is_same", .glo "_law_odd", .glo "_law_bent", .glo "_law_spoilt", .glo "_law_tower", .glo "_law_with_bool", .glo "_law_term_values", .glo "_law_due_term", .glo "_law_signature_value", .glo "_law_due_signature", .glo "law", .free "abs", .free "all", .free "any", .free "bool", .free "enumerate", .free "int", .free "isinstance", .free "len", .free "list", .free "max", .free "min", .free "range", .free "repr", .free "reversed", .free "str", .free "tuple", .free "zip", .int "MAX_ARITY" 3, .int "MAX_SIZE" 40, .int "MAX_SYMBOLS" 6]
abbrev R : PySem.W.OpenRow := PySem.W.OpenLaw.row PySem.Challenge.rw_fencedterms_k01_terms_and_signatures_jud
abbrev hk : PySem.W.Hook := hookS 4 hfa hfn
def ob (s : PySem.W.SharedT) : He.AlD × Bool := obS 4 hfa hfn (HandSHeadRun.getT s)
theorem ob_eq (s : PySem.W.SharedT) : ob s = hk.obs s.abs := obS_eq (HandSHeadRun.getT_eq s)
def loose : List PySem.Str := ["MAX_SYMBOLS", "MAX_ARITY", "MAX_SIZE", "is_whole", "signature_error", "is_thing", "thing_error", "term_error", "_law_own_bag", "_law_draw", "_law_pick", "_law_signature", "_law_sums", "_law_size", "_law_row", "_law_is_same", "_law_odd", "_law_bent", "_law_spoilt", "_law_tower", "_law_with_bool", "_law_term_values", "_law_due_term", "_law_signature_value", "_law_due_signature"]
theorem run (w : World) : HandSHeadRun.RunEq R (PySem.W.view R.prog [28]) hk ob 2000 loose w := by
  intro os
  kernel_rfl
theorem facts {h : Heap} {K : PySem.W.Frag} {mg : Str → Option Value} (X : K.In h) (G : h.Ns mainGlobals mg) (c : He.SaysD hfa hfn K) : ∃ fa fd, Fs K mg fa fd := by
  obtain ⟨fd0, F0⟩ := c.def_ 0 (d := d_is_whole) rfl
  obtain ⟨fd1, F1⟩ := c.def_ 1 (d := d_signature_error) rfl
  obtain ⟨fd2, F2⟩ := c.def_ 2 (d := d_is_thing) rfl
  obtain ⟨fd3, F3⟩ := c.def_ 3 (d := d_thing_error) rfl
  obtain ⟨fd4, F4⟩ := c.def_ 4 (d := d_term_error) rfl
  obtain ⟨fd5, F5⟩ := c.def_ 5 (d := d__law_own_bag) rfl
  obtain ⟨fd6, F6⟩ := c.def_ 6 (d := d__law_draw) rfl
  obtain ⟨fd7, F7⟩ := c.def_ 7 (d := d__law_pick) rfl
  obtain ⟨fd8, F8⟩ := c.def_ 8 (d := d__law_signature) rfl
  obtain ⟨fd9, F9⟩ := c.def_ 9 (d := d__law_sums) rfl
  obtain ⟨fd10, F10⟩ := c.def_ 10 (d := d__law_size) rfl
  obtain ⟨fd11, F11⟩ := c.def_ 11 (d := d__law_row) rfl
  obtain ⟨fd12, F12⟩ := c.def_ 12 (d := d__law_is_same) rfl
  obtain ⟨fd13, F13⟩ := c.def_ 13 (d := d__law_odd) rfl
  obtain ⟨fd14, F14⟩ := c.def_ 14 (d := d__law_bent) rfl
  obtain ⟨fd15, F15⟩ := c.def_ 15 (d := d__law_spoilt) rfl
  obtain ⟨fd16, F16⟩ := c.def_ 16 (d := d__law_tower) rfl
  obtain ⟨fd17, F17⟩ := c.def_ 17 (d := d__law_with_bool) rfl
  obtain ⟨fd18, F18⟩ := c.def_ 18 (d := d__law_term_values) rfl
  obtain ⟨fd19, F19⟩ := c.def_ 19 (d := d__law_due_term) rfl
  obtain ⟨fd20, F20⟩ := c.def_ 20 (d := d__law_signature_value) rfl
  obtain ⟨fd21, F21⟩ := c.def_ 21 (d := d__law_due_signature) rfl
  obtain ⟨fd22, F22⟩ := c.def_ 22 (d := d_law) rfl
  refine ⟨fun i => ([He.ga K "is_whole", He.ga K "signature_error", He.ga K "is_thing", He.ga K "thing_error", He.ga K "term_error", He.ga K "_law_own_bag", He.ga K "_law_draw", He.ga K "_law_pick", He.ga K "_law_signature", He.ga K "_law_sums", He.ga K "_law_size", He.ga K "_law_row", He.ga K "_law_is_same", He.ga K "_law_odd", He.ga K "_law_bent", He.ga K "_law_spoilt", He.ga K "_law_tower", He.ga K "_law_with_bool", He.ga K "_law_term_values", He.ga K "_law_due_term", He.ga K "_law_signature_value", He.ga K "_law_due_signature", He.ga K "law"] : List Addr).getD i 0, fun i => ([fd0, fd1, fd2, fd3, fd4, fd5, fd6, fd7, fd8, fd9, fd10, fd11, fd12, fd13, fd14, fd15, fd16, fd17, fd18, fd19, fd20, fd21, fd22] : List FuncData).getD i fd0, ?_⟩
  exact {
    b_abs := He.free_ok X G (c.fact 23 (f := .free "abs") rfl)
    b_all := He.free_ok X G (c.fact 24 (f := .free "all") rfl)
    b_any := He.free_ok X G (c.fact 25 (f := .free "any") rfl)
    b_bool := He.free_ok X G (c.fact 26 (f := .free "bool") rfl)
    b_enumerate := He.free_ok X G (c.fact 27 (f := .free "enumerate") rfl)
    b_int := He.free_ok X G (c.fact 28 (f := .free "int") rfl)
    b_isinstance := He.free_ok X G (c.fact 29 (f := .free "isinstance") rfl)
    b_len := He.free_ok X G (c.fact 30 (f := .free "len") rfl)
    b_list := He.free_ok X G (c.fact 31 (f := .free "list") rfl)
    b_max := He.free_ok X G (c.fact 32 (f := .free "max") rfl)
    b_min := He.free_ok X G (c.fact 33 (f := .free "min") rfl)
    b_range := He.free_ok X G (c.fact 34 (f := .free "range") rfl)
    b_repr := He.free_ok X G (c.fact 35 (f := .free "repr") rfl)
    b_reversed := He.free_ok X G (c.fact 36 (f := .free "reversed") rfl)
    b_str := He.free_ok X G (c.fact 37 (f := .free "str") rfl)
    b_tuple := He.free_ok X G (c.fact 38 (f := .free "tuple") rfl)
    b_zip := He.free_ok X G (c.fact 39 (f := .free "zip") rfl)
    c_MAX_ARITY := fun e hg => (He.int_ok X G (c.fact 40 (f := .int "MAX_ARITY" 3) rfl)).elim fun t ht => xe_c (pe_glob (v := .int 3) hg (by rw [e]; exact ht) ⟨t, rfl⟩) fun _ _ _ => .int _
    c_MAX_SIZE := fun e hg => (He.int_ok X G (c.fact 41 (f := .int "MAX_SIZE" 40) rfl)).elim fun t ht => xe_c (pe_glob (v := .int 40) hg (by rw [e]; exact ht) ⟨t, rfl⟩) fun _ _ _ => .int _
    c_MAX_SYMBOLS := fun e hg => (He.int_ok X G (c.fact 42 (f := .int "MAX_SYMBOLS" 6) rfl)).elim fun t ht => xe_c (pe_glob (v := .int 6) hg (by rw [e]; exact ht) ⟨t, rfl⟩) fun _ _ _ => .int _
    F_is_whole := F0
    m_is_whole := He.glo_ok X G (c.fact 0 (f := .glo "is_whole") rfl)
    bd_is_whole := F0.bindsN fun _ _ _ _ _ _ us hl => match us, hl with | [_, _, _], _ => rfl
    F_signature_error := F1
    m_signature_error := He.glo_ok X G (c.fact 1 (f := .glo "signature_error") rfl)
    bd_signature_error := F1.bindsN fun _ _ _ _ _ _ us hl => match us, hl with | [_], _ => rfl
    F_is_thing := F2
    m_is_thing := He.glo_ok X G (c.fact 2 (f := .glo "is_thing") rfl)
    bd_is_thing := F2.bindsN fun _ _ _ _ _ _ us hl => match us, hl with | [_, _], _ => rfl
    F_thing_error := F3
    m_thing_error := He.glo_ok X G (c.fact 3 (f := .glo "thing_error") rfl)
    bd_thing_error := F3.bindsN fun _ _ _ _ _ _ us hl => match us, hl with | [_, _, _], _ => rfl
    F_term_error := F4
    m_term_error := He.glo_ok X G (c.fact 4 (f := .glo "term_error") rfl)
    bd_term_error := F4.bindsN fun _ _ _ _ _ _ us hl => match us, hl with | [_, _], _ => rfl
    F__law_own_bag := F5
    m__law_own_bag := He.glo_ok X G (c.fact 5 (f := .glo "_law_own_bag") rfl)
    bd__law_own_bag := F5.bindsN fun _ _ _ _ _ _ us hl => match us, hl with | [_], _ => rfl
    F__law_draw := F6
    m__law_draw := He.glo_ok X G (c.fact 6 (f := .glo "_law_draw") rfl)
    bd__law_draw := F6.bindsN fun _ _ _ _ _ _ us hl => match us, hl with | [_, _], _ => rfl
    F__law_pick := F7
    m__law_pick := He.glo_ok X G (c.fact 7 (f := .glo "_law_pick") rfl)
    bd__law_pick := F7.bindsN fun _ _ _ _ _ _ us hl => match us, hl with | [_, _], _ => rfl
    F__law_signature := F8
    m__law_signature := He.glo_ok X G (c.fact 8 (f := .glo "_law_signature") rfl)
    bd__law_signature := F8.bindsN fun _ _ _ _ _ _ us hl => match us, hl with | [_], _ => rfl
    F__law_sums := F9
    m__law_sums := He.glo_ok X G (c.fact 9 (f := .glo "_law_sums") rfl)
    bd__law_sums := F9.bindsN fun _ _ _ _ _ _ us hl => match us, hl with | [_], _ => rfl
    F__law_size := F10
    m__law_size := He.glo_ok X G (c.fact 10 (f := .glo "_law_size") rfl)
    bd__law_size := F10.bindsN fun _ _ _ _ _ _ us hl => match us, hl with | [_, _, _, _], _ => rfl
    F__law_row := F11
    m__law_row := He.glo_ok X G (c.fact 11 (f := .glo "_law_row") rfl)
    bd__law_row := F11.bindsN fun _ _ _ _ _ _ us hl => match us, hl with | [_, _, _, _], _ => rfl
    F__law_is_same := F12
    m__law_is_same := He.glo_ok X G (c.fact 12 (f := .glo "_law_is_same") rfl)
    bd__law_is_same := F12.bindsN fun _ _ _ _ _ _ us hl => match us, hl with | [_, _], _ => rfl
    F__law_odd := F13
    m__law_odd := He.glo_ok X G (c.fact 13 (f := .glo "_law_odd") rfl)
    bd__law_odd := F13.bindsN fun _ _ _ _ _ _ us hl => match us, hl with | [_, _], _ => rfl
    F__law_bent := F14
    m__law_bent := He.glo_ok X G (c.fact 14 (f := .glo "_law_bent") rfl)
    bd__law_bent := F14.bindsN fun _ _ _ _ _ _ us hl => match us, hl with | [_, _, _], _ => rfl
    F__law_spoilt := F15
    m__law_spoilt := He.glo_ok X G (c.fact 15 (f := .glo "_law_spoilt") rfl)
    bd__law_spoilt := F15.bindsN fun _ _ _ _ _ _ us hl => match us, hl with | [_, _, _, _], _ => rfl
    F__law_tower := F16
    m__law_tower := He.glo_ok X G (c.fact 16 (f := .glo "_law_tower") rfl)
    bd__law_tower := F16.bindsN fun _ _ _ _ _ _ us hl => match us, hl with | [_, _], _ => rfl
    F__law_with_bool := F17
    m__law_with_bool := He.glo_ok X G (c.fact 17 (f := .glo "_law_with_bool") rfl)
    bd__law_with_bool := F17.bindsN fun _ _ _ _ _ _ us hl => match us, hl with | [_, _, _], _ => rfl
    F__law_term_values := F18
    m__law_term_values := He.glo_ok X G (c.fact 18 (f := .glo "_law_term_values") rfl)
    bd__law_term_values := F18.bindsN fun _ _ _ _ _ _ us hl => match us, hl with | [_, _], _ => rfl
    F__law_due_term := F19
    m__law_due_term := He.glo_ok X G (c.fact 19 (f := .glo "_law_due_term") rfl)
    bd__law_due_term := F19.bindsN fun _ _ _ _ _ _ us hl => match us, hl with | [_, _], _ => rfl
    F__law_signature_value := F20
    m__law_signature_value := He.glo_ok X G (c.fact 20 (f := .glo "_law_signature_value") rfl)
    bd__law_signature_value := F20.bindsN fun _ _ _ _ _ _ us hl => match us, hl with | [_], _ => rfl
    F__law_due_signature := F21
    m__law_due_signature := He.glo_ok X G (c.fact 21 (f := .glo "_law_due_signature") rfl)
    bd__law_due_signature := F21.bindsN fun _ _ _ _ _ _ us hl => match us, hl with | [_], _ => rfl
    F_law := F22
    m_law := He.glo_ok X G (c.fact 22 (f := .glo "law") rfl)
    bd_law := F22.bindsN fun _ _ _ _ _ _ us hl => match us, hl with | [_], _ => rfl
    k_signature_error_0 := bindsK_of F1 fun _ _ _ _ _ _ ws hl => match ws, hl with | [_], _ => rfl
    k_term_error_1_0 := bindsK_of F4 fun _ _ _ _ _ _ ws hl => match ws, hl with | [_, _], _ => rfl
    ba_law := fun s v => (FunD.bindsA (ps := ["script"]) F22 fun _ _ _ _ _ _ us hl => match us, hl with | [_], _ => rfl) s [v] rfl
  }
end Lw
namespace Lw
open PySem PySem.Spec PyProof.Rows L2 EV
theorem draw_spec {S : Sto} {b c : Nat} {n : Int} (hB : BagAt S b c) (h0 : 0 < n) (h1 : n < 1073741824) : Rn (f__law_draw [.loc b, .int n] S) fun r S' => ∃ k : Int, r = .int k ∧ 0 ≤ k ∧ k < n ∧ Ext b c S S' := by
  unfold f__law_draw
  rw [rn_runD]
  unfold b__law_draw
  rw [rs_cons]
  obtain ⟨cs0, d0, m0, hB⟩ := hB
  refine (wh_rule (q := fun o e S1 => o = .nx ∧ ∃ x2 cs d m, e = [some (.loc b), some (.int n), x2, none] ∧ BagW S1 b c cs d m ∧ Ex b c S S1) (fun k e S1 => ∃ x2 cs d m, e = [some (.loc b), some (.int n), x2, none] ∧ cs.length = k ∧ BagW S1 b c cs d m ∧ Ex b c S S1) ?_ cs0.length _ _ ⟨none, cs0, d0, m0, rfl, rfl, hB, Ex.refl⟩).mono ?_
  · rintro k e S1 ⟨x2, cs, d, m, rfl, hk, B, X⟩
    simp only [rn_dAnd, rn_dE, rn_op, rn_var, rn_c, List.getElem?_cons_zero, List.getElem?_cons_succ, Option.some.injEq, exists_eq_left', B.ix1, rn_eq_i, rn_asB]
    refine ⟨fun hd => ?_, fun _ => ⟨fun h => (nomatch h), fun _ => ⟨trivial, x2, cs, d, m, rfl, B, X⟩⟩⟩
    have B2 := B.app (T := [.lst []])
    simp only [B.ix0, rn_A, rn_aNil, rn_mkL]
    refine ⟨Nat.zero_le _, ?_⟩
    rw [ne_nil B2.hc get_new, rn_asB]
    refine ⟨fun hne => ?_, fun _ => ⟨trivial, x2, cs, d, m, rfl, B2, X.trans Ex.app⟩⟩
    have hcs : cs ≠ [] := fun z => by subst z; cases hne
    obtain ⟨cs', x, rfl⟩ : ∃ cs' x, cs = cs' ++ [x] := ⟨cs.dropLast, cs.getLast hcs, (List.dropLast_concat_getLast hcs).symm⟩
    have B3 := B2.setC (cs' := cs')
    simp only [rs_cons, rs_set, rn_M, rn_op, rn_var, rn_c, List.getElem?_cons_zero, List.getElem?_cons_succ, Option.some.injEq, exists_eq_left', B2.ix0, isTy_lst B2.hc, true_and, rn_aNil, pop_ints B2.hc, kN_nx, List.set_cons_succ, List.set_cons_zero, rs_sub, rn_if, rn_dE, rn_gt_i, rn_asB, rn_pow_i]
    refine ⟨by decide, ?_⟩
    refine ⟨fun h => ?_, fun _ => ?_⟩
    · have hx : 0 ≤ x := by
        have := of_decide_eq_true h
        have e : (10 : Int) ^ (9 : Int).toNat = 1000000000 := by decide
        omega
      exact ⟨_, B3.set1 _, cs'.length, by rw [← hk]; simp, _, cs', x, m, rfl, rfl, B3.setB hx B3.hm B3.hm2, ((X.trans Ex.app).trans Ex.setC).trans Ex.setB⟩
    · exact ⟨_, B3.set1 _, cs'.length, by rw [← hk]; simp, _, cs', 0, m, rfl, rfl, B3.setB (Int.le_refl 0) B3.hm B3.hm2, ((X.trans Ex.app).trans Ex.setC).trans Ex.setB⟩
  · rintro o e S1 ⟨rfl, x2, cs, d, m, rfl, B, X⟩
    simp only [kN_nx, rs_cons, rs_if, rs_set, rs_ret, rs_nil, rn_dE, rn_op, rn_var, rn_c, List.getElem?_cons_zero, List.getElem?_cons_succ, Option.some.injEq, exists_eq_left', B.ix1, rn_gt_i, rn_asB, rn_A, rn_aCons, rn_aNil, rn_int_i, rn_mod_i, rn_fdiv_i, rs_sub, List.set_cons_succ, List.set_cons_zero, kN_rt, B.ix2, rn_mul_i, rn_add_i]
    refine ⟨fun _ => ?_, fun _ => ?_⟩
    · exact ⟨h0, ⟨h0, h1⟩, _, B.set1 _, d % n, rfl, Int.emod_nonneg _ (Int.ne_of_gt h0), Int.emod_lt_of_pos _ h0, X.trans Ex.setB, _, _, _, B.setB (Int.ediv_nonneg B.hd (Int.le_of_lt h0)) B.hm B.hm2⟩
    · have p : (0 : Int) < 2147483647 := by decide
      have B4 := B.setB (d' := d) (m' := (m * 48271 + 11) % 2147483647) B.hd (Int.emod_nonneg _ (Int.ne_of_gt p)) (Int.emod_lt_of_pos _ p)
      have s4 : EV.small64 ((m * 48271 + 11) % 2147483647) = true := by
        have := B4.hm
        have := B4.hm2
        unfold EV.small64
        rw [decide_eq_true (by omega), decide_eq_true (by omega)]
        rfl
      refine ⟨by rw [show EV.small64 48271 = true by decide, Bool.or_true], by decide, _, B.set2 _, ?_⟩
      simp only [B4.ix2, rn_mul_i, rn_int_i, rn_mod_i, rn_fdiv_i]
      exact ⟨by rw [s4]; rfl, by decide, ⟨by decide, by decide⟩, h0, _, rfl, Int.emod_nonneg _ (Int.ne_of_gt h0), Int.emod_lt_of_pos _ h0, X.trans Ex.setB, _, _, _, B4⟩
theorem pick_spec {S : Sto} {b c : Nat} {x : PV} {xs : List PV} (hB : BagAt S b c) (hx : SeqIs b c S x xs) (hne : xs ≠ []) (hl : xs.length < 1073741824) : Rn (f__law_pick [.loc b, x] S) fun r S' => r ∈ xs ∧ Ext b c S S' := by
  unfold f__law_pick
  rw [rn_runD]
  unfold b__law_pick
  show Rs (sRet _ [some (.loc b), some x] S) _
  simp only [rn_var, rn_c, rn_op, rn_un, rn_dE, rn_ch, rn_dAnd, rn_dOr, rn_dNot, rn_dYes, rn_and, rn_or, rn_not, rn_if, rn_aNil, rn_aCons, rn_A, rn_mkT, rn_mkL, rn_oNon, rn_asI, rn_oSm, rn_sl, rn_M, rn_isi, rn_lrev, rn_add_i, rn_add_t, rn_sub_i, rn_mul_i, rn_fdiv_i, rn_mod_i, rn_pow_i, rn_lt_i, rn_le_i, rn_gt_i, rn_ge_i, rn_neg_i, rn_eq_i, rn_ne_i, rn_eq_b, rn_eq_s, rn_is, rn_isnot, rn_sl_t, kN_nx, kN_rt, kN_bk, kN_ct, rs_nil, rs_cons, rs_brk, rs_cnt, rs_ex, rs_ret, rs_retN, rs_if, rs_set, rs_par, rs_par3, rs_asg, rs_sub, rn_int_i, rn_abs_i, rn_asB, rn_iSeq, rn_iRng1, rn_iEnu, rn_iZp, rn_iRng2, rn_iRng3, rn_iRv, rn_dic0, rn_dic1, rn_max2, rn_MT, ex_tup, rn_revS, isTy_str, List.getElem?_cons_zero, List.getElem?_cons_succ, List.set_cons_succ, List.set_cons_zero, List.length_cons, List.length_nil, Nat.reduceAdd, Nat.zero_add, reduceIte, Nat.reduceLeDiff, true_and, List.cons_append, List.nil_append, hx.len]
  have h0 : 0 < xs.length := List.length_pos_iff.mpr hne
  refine (draw_spec hB (n := xs.length) (by omega) (by omega)).mono ?_
  rintro r S' ⟨k, rfl, k0, k1, X⟩
  have hk : k.toNat < xs.length := by omega
  exact ((hx.ex X.toEx).ix (ixP_int k0 (List.getElem?_eq_getElem hk))).mpr ⟨List.getElem_mem hk, X⟩
theorem bag_spec {ns : List Int} (hl : ns.length ≤ 63) : Rn (f__law_own_bag [.fl ns] []) fun r S' => ∃ b c, r = .loc b ∧ BagAt S' b c := by
  unfold f__law_own_bag
  rw [rn_runD]
  unfold b__law_own_bag
  rw [rs_cons, rs_set]
  show Rn (eLc _ _ _ _ _ [some (.fl ns), none, none, none] []) _
  have e1 : cutP (ns.map PV.int) none (some 63) = (ns.take 63).map PV.int := by rw [cut_toI (by decide), List.map_take]; rfl
  refine lc_map ((ns.take 63).map PV.int) (fun _ y => ∃ k, y = .int k ∧ True) (fun S => S = [.lst ((ns.take 63).map PV.int)]) ?_ (by simp; omega) (fun x hx S h => ?_) (fun ys S hA h => ?_)
  · simp only [rn_var, rn_c, rn_op, rn_un, rn_dE, rn_ch, rn_dAnd, rn_dOr, rn_dNot, rn_dYes, rn_and, rn_or, rn_not, rn_if, rn_aNil, rn_aCons, rn_A, rn_mkT, rn_mkL, rn_oNon, rn_asI, rn_oSm, rn_sl, rn_M, rn_isi, rn_lrev, rn_add_i, rn_add_t, rn_sub_i, rn_mul_i, rn_fdiv_i, rn_mod_i, rn_pow_i, rn_lt_i, rn_le_i, rn_gt_i, rn_ge_i, rn_neg_i, rn_eq_i, rn_ne_i, rn_eq_b, rn_eq_s, rn_is, rn_isnot, rn_sl_t, kN_nx, kN_rt, kN_bk, kN_ct, rs_nil, rs_cons, rs_brk, rs_cnt, rs_ex, rs_ret, rs_retN, rs_if, rs_set, rs_par, rs_par3, rs_asg, rs_sub, rn_int_i, rn_abs_i, rn_asB, rn_iSeq, rn_iRng1, rn_iEnu, rn_iZp, rn_iRng2, rn_iRng3, rn_iRv, rn_dic0, rn_dic1, rn_max2, rn_MT, ex_tup, rn_revS, isTy_str, List.getElem?_cons_zero, List.getElem?_cons_succ, List.set_cons_succ, List.set_cons_zero, List.length_cons, List.length_nil, Nat.reduceAdd, Nat.zero_add, reduceIte, Nat.reduceLeDiff, true_and, List.cons_append, List.nil_append, rn_sl_f (show ns.length ≤ 16777216 by omega), e1]
    exact ⟨wL 0, rfl, fun i S h => by subst h; rfl⟩
  · obtain ⟨i, hi, rfl⟩ := List.mem_map.mp hx
    refine ⟨[(3, .int i)], rfl, rfl, ?_⟩
    show Rn (eA _ _ [some (.fl ns), none, none, some (.int i)] S) _
    simp only [rn_var, rn_c, rn_op, rn_un, rn_dE, rn_ch, rn_dAnd, rn_dOr, rn_dNot, rn_dYes, rn_and, rn_or, rn_not, rn_if, rn_aNil, rn_aCons, rn_A, rn_mkT, rn_mkL, rn_oNon, rn_asI, rn_oSm, rn_sl, rn_M, rn_isi, rn_lrev, rn_add_i, rn_add_t, rn_sub_i, rn_mul_i, rn_fdiv_i, rn_mod_i, rn_pow_i, rn_lt_i, rn_le_i, rn_gt_i, rn_ge_i, rn_neg_i, rn_eq_i, rn_ne_i, rn_eq_b, rn_eq_s, rn_is, rn_isnot, rn_sl_t, kN_nx, kN_rt, kN_bk, kN_ct, rs_nil, rs_cons, rs_brk, rs_cnt, rs_ex, rs_ret, rs_retN, rs_if, rs_set, rs_par, rs_par3, rs_asg, rs_sub, rn_int_i, rn_abs_i, rn_asB, rn_iSeq, rn_iRng1, rn_iEnu, rn_iZp, rn_iRng2, rn_iRng3, rn_iRv, rn_dic0, rn_dic1, rn_max2, rn_MT, ex_tup, rn_revS, isTy_str, List.getElem?_cons_zero, List.getElem?_cons_succ, List.set_cons_succ, List.set_cons_zero, List.length_cons, List.length_nil, Nat.reduceAdd, Nat.zero_add, reduceIte, Nat.reduceLeDiff, true_and, List.cons_append, List.nil_append]
    exact ⟨⟨_, rfl, trivial⟩, h⟩
  · obtain ⟨cs, rfl, _⟩ := ints_of (P := fun _ => True) fun y hy => (hA.mem hy).elim fun x hx => hx.2
    have hlen : cs.length ≤ 63 := by have := hA.len; simp at this; omega
    have hlm : (cs.map PV.int).length = cs.length := List.length_map _
    subst h
    generalize hS : ([.lst ((ns.take 63).map PV.int)] ++ [.lst (cs.map PV.int)] : Sto) = S1
    have h1 : S1[1]? = some (.lst (cs.map PV.int)) := by rw [← hS]; rfl
    have l1 : ∀ {Q : PV → Sto → Prop}, Rn (fLen [.loc 1] S1) Q ↔ Q (.int (cs.map PV.int).length) S1 := rn_len_l h1
    show kN _ _ .nx [some (.fl ns), some (.loc 1), none, none] S1
    rw [kN_nx, rs_cons, rs_set]
    simp only [rn_var, rn_c, rn_op, rn_un, rn_dE, rn_ch, rn_dAnd, rn_dOr, rn_dNot, rn_dYes, rn_and, rn_or, rn_not, rn_if, rn_aNil, rn_aCons, rn_A, rn_mkT, rn_mkL, rn_oNon, rn_asI, rn_oSm, rn_sl, rn_M, rn_isi, rn_lrev, rn_add_i, rn_add_t, rn_sub_i, rn_mul_i, rn_fdiv_i, rn_mod_i, rn_pow_i, rn_lt_i, rn_le_i, rn_gt_i, rn_ge_i, rn_neg_i, rn_eq_i, rn_ne_i, rn_eq_b, rn_eq_s, rn_is, rn_isnot, rn_sl_t, kN_nx, kN_rt, kN_bk, kN_ct, rs_nil, rs_cons, rs_brk, rs_cnt, rs_ex, rs_ret, rs_retN, rs_if, rs_set, rs_par, rs_par3, rs_asg, rs_sub, rn_int_i, rn_abs_i, rn_asB, rn_iSeq, rn_iRng1, rn_iEnu, rn_iZp, rn_iRng2, rn_iRng3, rn_iRv, rn_dic0, rn_dic1, rn_max2, rn_MT, ex_tup, rn_revS, isTy_str, List.getElem?_cons_zero, List.getElem?_cons_succ, List.set_cons_succ, List.set_cons_zero, List.length_cons, List.length_nil, Nat.reduceAdd, Nat.zero_add, reduceIte, Nat.reduceLeDiff, true_and, List.cons_append, List.nil_append, l1]
    refine for_rn (cs.map PV.int) (fun _ e S => S = S1 ∧ ∃ m x3, e = [some (.fl ns), some (.loc 1), some (.int m), x3] ∧ 0 ≤ m ∧ m < 2147483647) ?_ (fun i x e S hx ⟨hS1, m, x3, he, m0, m1⟩ => ?_) (fun e S ⟨hS1, m, x3, he, m0, m1⟩ => ?_)
    · simp only [rn_iSeq, rn_var]
      exact ⟨_, wk_loc h1, ⟨trivial, _, none, rfl, by omega, by omega⟩, fun i e S h => by rw [h.1]; exact wL_at h1 i⟩
    · obtain ⟨j, hj, rfl⟩ := List.mem_map.mp (List.mem_of_getElem? hx)
      subst he hS1
      refine ⟨[(3, .int j)], rfl, ?_⟩
      show Rs (sSet 2 _ [some (.fl ns), some (.loc 1), some (.int m), some (.int j)] S) _
      simp only [rn_var, rn_c, rn_op, rn_un, rn_dE, rn_ch, rn_dAnd, rn_dOr, rn_dNot, rn_dYes, rn_and, rn_or, rn_not, rn_if, rn_aNil, rn_aCons, rn_A, rn_mkT, rn_mkL, rn_oNon, rn_asI, rn_oSm, rn_sl, rn_M, rn_isi, rn_lrev, rn_add_i, rn_add_t, rn_sub_i, rn_mul_i, rn_fdiv_i, rn_mod_i, rn_pow_i, rn_lt_i, rn_le_i, rn_gt_i, rn_ge_i, rn_neg_i, rn_eq_i, rn_ne_i, rn_eq_b, rn_eq_s, rn_is, rn_isnot, rn_sl_t, kN_nx, kN_rt, kN_bk, kN_ct, rs_nil, rs_cons, rs_brk, rs_cnt, rs_ex, rs_ret, rs_retN, rs_if, rs_set, rs_par, rs_par3, rs_asg, rs_sub, rn_int_i, rn_abs_i, rn_asB, rn_iSeq, rn_iRng1, rn_iEnu, rn_iZp, rn_iRng2, rn_iRng3, rn_iRv, rn_dic0, rn_dic1, rn_max2, rn_MT, ex_tup, rn_revS, isTy_str, List.getElem?_cons_zero, List.getElem?_cons_succ, List.set_cons_succ, List.set_cons_zero, List.length_cons, List.length_nil, Nat.reduceAdd, Nat.zero_add, reduceIte, Nat.reduceLeDiff, true_and, List.cons_append, List.nil_append]
      have p : (0 : Int) < 2147483647 := by decide
      exact ⟨by rw [show EV.small64 48271 = true by decide, Bool.or_true], by decide, p, _, _, rfl, Int.emod_nonneg _ (Int.ne_of_gt p), Int.emod_lt_of_pos _ p⟩
    · subst he hS1
      simp only [rn_var, rn_c, rn_op, rn_un, rn_dE, rn_ch, rn_dAnd, rn_dOr, rn_dNot, rn_dYes, rn_and, rn_or, rn_not, rn_if, rn_aNil, rn_aCons, rn_A, rn_mkT, rn_mkL, rn_oNon, rn_asI, rn_oSm, rn_sl, rn_M, rn_isi, rn_lrev, rn_add_i, rn_add_t, rn_sub_i, rn_mul_i, rn_fdiv_i, rn_mod_i, rn_pow_i, rn_lt_i, rn_le_i, rn_gt_i, rn_ge_i, rn_neg_i, rn_eq_i, rn_ne_i, rn_eq_b, rn_eq_s, rn_is, rn_isnot, rn_sl_t, kN_nx, kN_rt, kN_bk, kN_ct, rs_nil, rs_cons, rs_brk, rs_cnt, rs_ex, rs_ret, rs_retN, rs_if, rs_set, rs_par, rs_par3, rs_asg, rs_sub, rn_int_i, rn_abs_i, rn_asB, rn_iSeq, rn_iRng1, rn_iEnu, rn_iZp, rn_iRng2, rn_iRng3, rn_iRv, rn_dic0, rn_dic1, rn_max2, rn_MT, ex_tup, rn_revS, isTy_str, List.getElem?_cons_zero, List.getElem?_cons_succ, List.set_cons_succ, List.set_cons_zero, List.length_cons, List.length_nil, Nat.reduceAdd, Nat.zero_add, reduceIte, Nat.reduceLeDiff, true_and, List.cons_append, List.nil_append]
      refine ⟨cs.map PV.int, lst_at h1, by simp; omega, _, S.length, rfl, cs.reverse, 0, m, by rw [List.getElem?_append_right (by simp)]; simp, by rw [List.append_assoc, List.map_reverse]; exact get_new, by simp, by omega, m0, m1⟩
def TyOk (S : Sto) (x : PV) : Prop := ∃ n, tyN x S = some n
theorem TyOk.cases {S : Sto} {x : PV} (h : TyOk S x) : x = .non ∨ (∃ v, x = .bl v) ∨ (∃ i, x = .int i) ∨ (∃ z, x = .str z) ∨ (∃ xs, x = .tup xs) ∨ (tyN x S = some "list" ∧ ((∃ n, x = .loc n) ∨ ∃ ns, x = .fl ns)) ∨ (tyN x S = some "dict" ∧ ∃ n, x = .loc n) := by
  cases x with
  | non => exact .inl rfl
  | bl v => exact .inr (.inl ⟨v, rfl⟩)
  | int i => exact .inr (.inr (.inl ⟨i, rfl⟩))
  | str z => exact .inr (.inr (.inr (.inl ⟨z, rfl⟩)))
  | tup xs => exact .inr (.inr (.inr (.inr (.inl ⟨xs, rfl⟩))))
  | fl ns => exact .inr (.inr (.inr (.inr (.inr (.inl ⟨rfl, .inr ⟨ns, rfl⟩⟩)))))
  | pr _ _ =>
    obtain ⟨k, h⟩ := h
    cases h
  | loc n =>
    obtain ⟨k, h⟩ := h
    cases hq : S[n]? with
    | none =>
      have e : tyN (.loc n) S = none := by unfold tyN; simp only [hq]
      rw [e] at h
      cases h
    | some o =>
      cases o with
      | lst ys => exact .inr (.inr (.inr (.inr (.inr (.inl ⟨ty_lst hq, .inl ⟨n, rfl⟩⟩)))))
      | dic ys => exact .inr (.inr (.inr (.inr (.inr (.inr ⟨by unfold tyN; simp only [hq], n, rfl⟩)))))
theorem whole_spec {S : Sto} {x : PV} {lo hi : Int} (h : TyOk S x) : Rn (f_is_whole [x, .int lo, .int hi] S) fun r S' => r = .bl (match x with
    | .int i => decide (lo ≤ i) && decide (i ≤ hi)
    | _ => false) ∧ S' = S := by
  unfold f_is_whole
  rw [rn_runD]
  unfold b_is_whole
  show Rs (sRet _ [some x, some (.int lo), some (.int hi)] S) _
  rcases h.cases with rfl | ⟨v, rfl⟩ | ⟨i, rfl⟩ | ⟨z, rfl⟩ | ⟨xs, rfl⟩ | ⟨h, ⟨n, rfl⟩ | ⟨n, rfl⟩⟩ | ⟨h, n, rfl⟩
  · simp only [rn_var, rn_c, rn_op, rn_un, rn_dE, rn_ch, rn_dAnd, rn_dOr, rn_dNot, rn_dYes, rn_and, rn_or, rn_not, rn_if, rn_aNil, rn_aCons, rn_A, rn_mkT, rn_mkL, rn_oNon, rn_asI, rn_oSm, rn_sl, rn_M, rn_isi, rn_lrev, rn_add_i, rn_add_t, rn_sub_i, rn_mul_i, rn_fdiv_i, rn_mod_i, rn_pow_i, rn_lt_i, rn_le_i, rn_gt_i, rn_ge_i, rn_neg_i, rn_eq_i, rn_ne_i, rn_eq_b, rn_eq_s, rn_is, rn_isnot, rn_sl_t, kN_nx, kN_rt, kN_bk, kN_ct, rs_nil, rs_cons, rs_brk, rs_cnt, rs_ex, rs_ret, rs_retN, rs_if, rs_set, rs_par, rs_par3, rs_asg, rs_sub, rn_int_i, rn_abs_i, rn_asB, rn_iSeq, rn_iRng1, rn_iEnu, rn_iZp, rn_iRng2, rn_iRng3, rn_iRv, rn_dic0, rn_dic1, rn_max2, rn_MT, ex_tup, rn_revS, isTy_str, List.getElem?_cons_zero, List.getElem?_cons_succ, List.set_cons_succ, List.set_cons_zero, List.length_cons, List.length_nil, Nat.reduceAdd, Nat.zero_add, reduceIte, Nat.reduceLeDiff, true_and, List.cons_append, List.nil_append, forall_const, true_implies, false_implies, reduceCtorEq, Bool.true_eq_false, Bool.false_eq_true, decide_true, beq_self_eq_true, Bool.not_true, Bool.not_false, and_true, ty_non, ty_bl, ty_int, ty_str, ty_tup, ty_fl, Option.some.injEq, exists_eq_left', isi_NoneType_bool, isi_NoneType_int, isi_NoneType_str, isi_NoneType_tuple, isi_NoneType_list, isi_NoneType_dict, isi_bool_bool, isi_bool_int, isi_bool_str, isi_bool_tuple, isi_bool_list, isi_bool_dict, isi_int_bool, isi_int_int, isi_int_str, isi_int_tuple, isi_int_list, isi_int_dict, isi_str_bool, isi_str_int, isi_str_str, isi_str_tuple, isi_str_list, isi_str_dict, isi_tuple_bool, isi_tuple_int, isi_tuple_str, isi_tuple_tuple, isi_tuple_list, isi_tuple_dict, isi_list_bool, isi_list_int, isi_list_str, isi_list_tuple, isi_list_list, isi_list_dict, isi_dict_bool, isi_dict_int, isi_dict_str, isi_dict_tuple, isi_dict_list, isi_dict_dict]
  · simp only [rn_var, rn_c, rn_op, rn_un, rn_dE, rn_ch, rn_dAnd, rn_dOr, rn_dNot, rn_dYes, rn_and, rn_or, rn_not, rn_if, rn_aNil, rn_aCons, rn_A, rn_mkT, rn_mkL, rn_oNon, rn_asI, rn_oSm, rn_sl, rn_M, rn_isi, rn_lrev, rn_add_i, rn_add_t, rn_sub_i, rn_mul_i, rn_fdiv_i, rn_mod_i, rn_pow_i, rn_lt_i, rn_le_i, rn_gt_i, rn_ge_i, rn_neg_i, rn_eq_i, rn_ne_i, rn_eq_b, rn_eq_s, rn_is, rn_isnot, rn_sl_t, kN_nx, kN_rt, kN_bk, kN_ct, rs_nil, rs_cons, rs_brk, rs_cnt, rs_ex, rs_ret, rs_retN, rs_if, rs_set, rs_par, rs_par3, rs_asg, rs_sub, rn_int_i, rn_abs_i, rn_asB, rn_iSeq, rn_iRng1, rn_iEnu, rn_iZp, rn_iRng2, rn_iRng3, rn_iRv, rn_dic0, rn_dic1, rn_max2, rn_MT, ex_tup, rn_revS, isTy_str, List.getElem?_cons_zero, List.getElem?_cons_succ, List.set_cons_succ, List.set_cons_zero, List.length_cons, List.length_nil, Nat.reduceAdd, Nat.zero_add, reduceIte, Nat.reduceLeDiff, true_and, List.cons_append, List.nil_append, forall_const, true_implies, false_implies, reduceCtorEq, Bool.true_eq_false, Bool.false_eq_true, decide_true, beq_self_eq_true, Bool.not_true, Bool.not_false, and_true, ty_non, ty_bl, ty_int, ty_str, ty_tup, ty_fl, Option.some.injEq, exists_eq_left', isi_NoneType_bool, isi_NoneType_int, isi_NoneType_str, isi_NoneType_tuple, isi_NoneType_list, isi_NoneType_dict, isi_bool_bool, isi_bool_int, isi_bool_str, isi_bool_tuple, isi_bool_list, isi_bool_dict, isi_int_bool, isi_int_int, isi_int_str, isi_int_tuple, isi_int_list, isi_int_dict, isi_str_bool, isi_str_int, isi_str_str, isi_str_tuple, isi_str_list, isi_str_dict, isi_tuple_bool, isi_tuple_int, isi_tuple_str, isi_tuple_tuple, isi_tuple_list, isi_tuple_dict, isi_list_bool, isi_list_int, isi_list_str, isi_list_tuple, isi_list_list, isi_list_dict, isi_dict_bool, isi_dict_int, isi_dict_str, isi_dict_tuple, isi_dict_list, isi_dict_dict]
  · simp only [rn_var, rn_c, rn_op, rn_un, rn_dE, rn_ch, rn_dAnd, rn_dOr, rn_dNot, rn_dYes, rn_and, rn_or, rn_not, rn_if, rn_aNil, rn_aCons, rn_A, rn_mkT, rn_mkL, rn_oNon, rn_asI, rn_oSm, rn_sl, rn_M, rn_isi, rn_lrev, rn_add_i, rn_add_t, rn_sub_i, rn_mul_i, rn_fdiv_i, rn_mod_i, rn_pow_i, rn_lt_i, rn_le_i, rn_gt_i, rn_ge_i, rn_neg_i, rn_eq_i, rn_ne_i, rn_eq_b, rn_eq_s, rn_is, rn_isnot, rn_sl_t, kN_nx, kN_rt, kN_bk, kN_ct, rs_nil, rs_cons, rs_brk, rs_cnt, rs_ex, rs_ret, rs_retN, rs_if, rs_set, rs_par, rs_par3, rs_asg, rs_sub, rn_int_i, rn_abs_i, rn_asB, rn_iSeq, rn_iRng1, rn_iEnu, rn_iZp, rn_iRng2, rn_iRng3, rn_iRv, rn_dic0, rn_dic1, rn_max2, rn_MT, ex_tup, rn_revS, isTy_str, List.getElem?_cons_zero, List.getElem?_cons_succ, List.set_cons_succ, List.set_cons_zero, List.length_cons, List.length_nil, Nat.reduceAdd, Nat.zero_add, reduceIte, Nat.reduceLeDiff, true_and, List.cons_append, List.nil_append, forall_const, true_implies, false_implies, reduceCtorEq, Bool.true_eq_false, Bool.false_eq_true, decide_true, beq_self_eq_true, Bool.not_true, Bool.not_false, and_true, ty_non, ty_bl, ty_int, ty_str, ty_tup, ty_fl, Option.some.injEq, exists_eq_left', isi_NoneType_bool, isi_NoneType_int, isi_NoneType_str, isi_NoneType_tuple, isi_NoneType_list, isi_NoneType_dict, isi_bool_bool, isi_bool_int, isi_bool_str, isi_bool_tuple, isi_bool_list, isi_bool_dict, isi_int_bool, isi_int_int, isi_int_str, isi_int_tuple, isi_int_list, isi_int_dict, isi_str_bool, isi_str_int, isi_str_str, isi_str_tuple, isi_str_list, isi_str_dict, isi_tuple_bool, isi_tuple_int, isi_tuple_str, isi_tuple_tuple, isi_tuple_list, isi_tuple_dict, isi_list_bool, isi_list_int, isi_list_str, isi_list_tuple, isi_list_list, isi_list_dict, isi_dict_bool, isi_dict_int, isi_dict_str, isi_dict_tuple, isi_dict_list, isi_dict_dict]
    exact ⟨fun h => by rw [h]; rfl, fun h => by rw [h]; rfl⟩
  · simp only [rn_var, rn_c, rn_op, rn_un, rn_dE, rn_ch, rn_dAnd, rn_dOr, rn_dNot, rn_dYes, rn_and, rn_or, rn_not, rn_if, rn_aNil, rn_aCons, rn_A, rn_mkT, rn_mkL, rn_oNon, rn_asI, rn_oSm, rn_sl, rn_M, rn_isi, rn_lrev, rn_add_i, rn_add_t, rn_sub_i, rn_mul_i, rn_fdiv_i, rn_mod_i, rn_pow_i, rn_lt_i, rn_le_i, rn_gt_i, rn_ge_i, rn_neg_i, rn_eq_i, rn_ne_i, rn_eq_b, rn_eq_s, rn_is, rn_isnot, rn_sl_t, kN_nx, kN_rt, kN_bk, kN_ct, rs_nil, rs_cons, rs_brk, rs_cnt, rs_ex, rs_ret, rs_retN, rs_if, rs_set, rs_par, rs_par3, rs_asg, rs_sub, rn_int_i, rn_abs_i, rn_asB, rn_iSeq, rn_iRng1, rn_iEnu, rn_iZp, rn_iRng2, rn_iRng3, rn_iRv, rn_dic0, rn_dic1, rn_max2, rn_MT, ex_tup, rn_revS, isTy_str, List.getElem?_cons_zero, List.getElem?_cons_succ, List.set_cons_succ, List.set_cons_zero, List.length_cons, List.length_nil, Nat.reduceAdd, Nat.zero_add, reduceIte, Nat.reduceLeDiff, true_and, List.cons_append, List.nil_append, forall_const, true_implies, false_implies, reduceCtorEq, Bool.true_eq_false, Bool.false_eq_true, decide_true, beq_self_eq_true, Bool.not_true, Bool.not_false, and_true, ty_non, ty_bl, ty_int, ty_str, ty_tup, ty_fl, Option.some.injEq, exists_eq_left', isi_NoneType_bool, isi_NoneType_int, isi_NoneType_str, isi_NoneType_tuple, isi_NoneType_list, isi_NoneType_dict, isi_bool_bool, isi_bool_int, isi_bool_str, isi_bool_tuple, isi_bool_list, isi_bool_dict, isi_int_bool, isi_int_int, isi_int_str, isi_int_tuple, isi_int_list, isi_int_dict, isi_str_bool, isi_str_int, isi_str_str, isi_str_tuple, isi_str_list, isi_str_dict, isi_tuple_bool, isi_tuple_int, isi_tuple_str, isi_tuple_tuple, isi_tuple_list, isi_tuple_dict, isi_list_bool, isi_list_int, isi_list_str, isi_list_tuple, isi_list_list, isi_list_dict, isi_dict_bool, isi_dict_int, isi_dict_str, isi_dict_tuple, isi_dict_list, isi_dict_dict]
  · simp only [rn_var, rn_c, rn_op, rn_un, rn_dE, rn_ch, rn_dAnd, rn_dOr, rn_dNot, rn_dYes, rn_and, rn_or, rn_not, rn_if, rn_aNil, rn_aCons, rn_A, rn_mkT, rn_mkL, rn_oNon, rn_asI, rn_oSm, rn_sl, rn_M, rn_isi, rn_lrev, rn_add_i, rn_add_t, rn_sub_i, rn_mul_i, rn_fdiv_i, rn_mod_i, rn_pow_i, rn_lt_i, rn_le_i, rn_gt_i, rn_ge_i, rn_neg_i, rn_eq_i, rn_ne_i, rn_eq_b, rn_eq_s, rn_is, rn_isnot, rn_sl_t, kN_nx, kN_rt, kN_bk, kN_ct, rs_nil, rs_cons, rs_brk, rs_cnt, rs_ex, rs_ret, rs_retN, rs_if, rs_set, rs_par, rs_par3, rs_asg, rs_sub, rn_int_i, rn_abs_i, rn_asB, rn_iSeq, rn_iRng1, rn_iEnu, rn_iZp, rn_iRng2, rn_iRng3, rn_iRv, rn_dic0, rn_dic1, rn_max2, rn_MT, ex_tup, rn_revS, isTy_str, List.getElem?_cons_zero, List.getElem?_cons_succ, List.set_cons_succ, List.set_cons_zero, List.length_cons, List.length_nil, Nat.reduceAdd, Nat.zero_add, reduceIte, Nat.reduceLeDiff, true_and, List.cons_append, List.nil_append, forall_const, true_implies, false_implies, reduceCtorEq, Bool.true_eq_false, Bool.false_eq_true, decide_true, beq_self_eq_true, Bool.not_true, Bool.not_false, and_true, ty_non, ty_bl, ty_int, ty_str, ty_tup, ty_fl, Option.some.injEq, exists_eq_left', isi_NoneType_bool, isi_NoneType_int, isi_NoneType_str, isi_NoneType_tuple, isi_NoneType_list, isi_NoneType_dict, isi_bool_bool, isi_bool_int, isi_bool_str, isi_bool_tuple, isi_bool_list, isi_bool_dict, isi_int_bool, isi_int_int, isi_int_str, isi_int_tuple, isi_int_list, isi_int_dict, isi_str_bool, isi_str_int, isi_str_str, isi_str_tuple, isi_str_list, isi_str_dict, isi_tuple_bool, isi_tuple_int, isi_tuple_str, isi_tuple_tuple, isi_tuple_list, isi_tuple_dict, isi_list_bool, isi_list_int, isi_list_str, isi_list_tuple, isi_list_list, isi_list_dict, isi_dict_bool, isi_dict_int, isi_dict_str, isi_dict_tuple, isi_dict_list, isi_dict_dict]
  · simp only [rn_var, rn_c, rn_op, rn_un, rn_dE, rn_ch, rn_dAnd, rn_dOr, rn_dNot, rn_dYes, rn_and, rn_or, rn_not, rn_if, rn_aNil, rn_aCons, rn_A, rn_mkT, rn_mkL, rn_oNon, rn_asI, rn_oSm, rn_sl, rn_M, rn_isi, rn_lrev, rn_add_i, rn_add_t, rn_sub_i, rn_mul_i, rn_fdiv_i, rn_mod_i, rn_pow_i, rn_lt_i, rn_le_i, rn_gt_i, rn_ge_i, rn_neg_i, rn_eq_i, rn_ne_i, rn_eq_b, rn_eq_s, rn_is, rn_isnot, rn_sl_t, kN_nx, kN_rt, kN_bk, kN_ct, rs_nil, rs_cons, rs_brk, rs_cnt, rs_ex, rs_ret, rs_retN, rs_if, rs_set, rs_par, rs_par3, rs_asg, rs_sub, rn_int_i, rn_abs_i, rn_asB, rn_iSeq, rn_iRng1, rn_iEnu, rn_iZp, rn_iRng2, rn_iRng3, rn_iRv, rn_dic0, rn_dic1, rn_max2, rn_MT, ex_tup, rn_revS, isTy_str, List.getElem?_cons_zero, List.getElem?_cons_succ, List.set_cons_succ, List.set_cons_zero, List.length_cons, List.length_nil, Nat.reduceAdd, Nat.zero_add, reduceIte, Nat.reduceLeDiff, true_and, List.cons_append, List.nil_append, forall_const, true_implies, false_implies, reduceCtorEq, Bool.true_eq_false, Bool.false_eq_true, decide_true, beq_self_eq_true, Bool.not_true, Bool.not_false, and_true, ty_non, ty_bl, ty_int, ty_str, ty_tup, ty_fl, Option.some.injEq, exists_eq_left', isi_NoneType_bool, isi_NoneType_int, isi_NoneType_str, isi_NoneType_tuple, isi_NoneType_list, isi_NoneType_dict, isi_bool_bool, isi_bool_int, isi_bool_str, isi_bool_tuple, isi_bool_list, isi_bool_dict, isi_int_bool, isi_int_int, isi_int_str, isi_int_tuple, isi_int_list, isi_int_dict, isi_str_bool, isi_str_int, isi_str_str, isi_str_tuple, isi_str_list, isi_str_dict, isi_tuple_bool, isi_tuple_int, isi_tuple_str, isi_tuple_tuple, isi_tuple_list, isi_tuple_dict, isi_list_bool, isi_list_int, isi_list_str, isi_list_tuple, isi_list_list, isi_list_dict, isi_dict_bool, isi_dict_int, isi_dict_str, isi_dict_tuple, isi_dict_list, isi_dict_dict, h]
  · simp only [rn_var, rn_c, rn_op, rn_un, rn_dE, rn_ch, rn_dAnd, rn_dOr, rn_dNot, rn_dYes, rn_and, rn_or, rn_not, rn_if, rn_aNil, rn_aCons, rn_A, rn_mkT, rn_mkL, rn_oNon, rn_asI, rn_oSm, rn_sl, rn_M, rn_isi, rn_lrev, rn_add_i, rn_add_t, rn_sub_i, rn_mul_i, rn_fdiv_i, rn_mod_i, rn_pow_i, rn_lt_i, rn_le_i, rn_gt_i, rn_ge_i, rn_neg_i, rn_eq_i, rn_ne_i, rn_eq_b, rn_eq_s, rn_is, rn_isnot, rn_sl_t, kN_nx, kN_rt, kN_bk, kN_ct, rs_nil, rs_cons, rs_brk, rs_cnt, rs_ex, rs_ret, rs_retN, rs_if, rs_set, rs_par, rs_par3, rs_asg, rs_sub, rn_int_i, rn_abs_i, rn_asB, rn_iSeq, rn_iRng1, rn_iEnu, rn_iZp, rn_iRng2, rn_iRng3, rn_iRv, rn_dic0, rn_dic1, rn_max2, rn_MT, ex_tup, rn_revS, isTy_str, List.getElem?_cons_zero, List.getElem?_cons_succ, List.set_cons_succ, List.set_cons_zero, List.length_cons, List.length_nil, Nat.reduceAdd, Nat.zero_add, reduceIte, Nat.reduceLeDiff, true_and, List.cons_append, List.nil_append, forall_const, true_implies, false_implies, reduceCtorEq, Bool.true_eq_false, Bool.false_eq_true, decide_true, beq_self_eq_true, Bool.not_true, Bool.not_false, and_true, ty_non, ty_bl, ty_int, ty_str, ty_tup, ty_fl, Option.some.injEq, exists_eq_left', isi_NoneType_bool, isi_NoneType_int, isi_NoneType_str, isi_NoneType_tuple, isi_NoneType_list, isi_NoneType_dict, isi_bool_bool, isi_bool_int, isi_bool_str, isi_bool_tuple, isi_bool_list, isi_bool_dict, isi_int_bool, isi_int_int, isi_int_str, isi_int_tuple, isi_int_list, isi_int_dict, isi_str_bool, isi_str_int, isi_str_str, isi_str_tuple, isi_str_list, isi_str_dict, isi_tuple_bool, isi_tuple_int, isi_tuple_str, isi_tuple_tuple, isi_tuple_list, isi_tuple_dict, isi_list_bool, isi_list_int, isi_list_str, isi_list_tuple, isi_list_list, isi_list_dict, isi_dict_bool, isi_dict_int, isi_dict_str, isi_dict_tuple, isi_dict_list, isi_dict_dict, h]
  · simp only [rn_var, rn_c, rn_op, rn_un, rn_dE, rn_ch, rn_dAnd, rn_dOr, rn_dNot, rn_dYes, rn_and, rn_or, rn_not, rn_if, rn_aNil, rn_aCons, rn_A, rn_mkT, rn_mkL, rn_oNon, rn_asI, rn_oSm, rn_sl, rn_M, rn_isi, rn_lrev, rn_add_i, rn_add_t, rn_sub_i, rn_mul_i, rn_fdiv_i, rn_mod_i, rn_pow_i, rn_lt_i, rn_le_i, rn_gt_i, rn_ge_i, rn_neg_i, rn_eq_i, rn_ne_i, rn_eq_b, rn_eq_s, rn_is, rn_isnot, rn_sl_t, kN_nx, kN_rt, kN_bk, kN_ct, rs_nil, rs_cons, rs_brk, rs_cnt, rs_ex, rs_ret, rs_retN, rs_if, rs_set, rs_par, rs_par3, rs_asg, rs_sub, rn_int_i, rn_abs_i, rn_asB, rn_iSeq, rn_iRng1, rn_iEnu, rn_iZp, rn_iRng2, rn_iRng3, rn_iRv, rn_dic0, rn_dic1, rn_max2, rn_MT, ex_tup, rn_revS, isTy_str, List.getElem?_cons_zero, List.getElem?_cons_succ, List.set_cons_succ, List.set_cons_zero, List.length_cons, List.length_nil, Nat.reduceAdd, Nat.zero_add, reduceIte, Nat.reduceLeDiff, true_and, List.cons_append, List.nil_append, forall_const, true_implies, false_implies, reduceCtorEq, Bool.true_eq_false, Bool.false_eq_true, decide_true, beq_self_eq_true, Bool.not_true, Bool.not_false, and_true, ty_non, ty_bl, ty_int, ty_str, ty_tup, ty_fl, Option.some.injEq, exists_eq_left', isi_NoneType_bool, isi_NoneType_int, isi_NoneType_str, isi_NoneType_tuple, isi_NoneType_list, isi_NoneType_dict, isi_bool_bool, isi_bool_int, isi_bool_str, isi_bool_tuple, isi_bool_list, isi_bool_dict, isi_int_bool, isi_int_int, isi_int_str, isi_int_tuple, isi_int_list, isi_int_dict, isi_str_bool, isi_str_int, isi_str_str, isi_str_tuple, isi_str_list, isi_str_dict, isi_tuple_bool, isi_tuple_int, isi_tuple_str, isi_tuple_tuple, isi_tuple_list, isi_tuple_dict, isi_list_bool, isi_list_int, isi_list_str, isi_list_tuple, isi_list_list, isi_list_dict, isi_dict_bool, isi_dict_int, isi_dict_str, isi_dict_tuple, isi_dict_list, isi_dict_dict, h]
theorem TyOk.app {S T : Sto} {x : PV} (h : TyOk S x) : TyOk (S ++ T) x := by
  obtain ⟨n, h⟩ := h
  cases x with
  | loc k =>
    unfold tyN at h
    cases hq : S[k]? with
    | none => simp only [hq] at h; cases h
    | some o =>
      refine ⟨n, ?_⟩
      unfold tyN
      simp only [get_app hq]
      simp only [hq] at h
      exact h
  | pr _ _ => cases h
  | _ => exact ⟨_, rfl⟩
def SigOk (sg : List Int) : Prop := 1 ≤ sg.length ∧ sg.length ≤ 6 ∧ (∀ a ∈ sg, 0 ≤ a ∧ a ≤ 3) ∧ ∃ i : Nat, sg[i]? = some 0
theorem ints_get {ns : List Int} {i : Nat} {k : Int} (h : ns[i]? = some k) : (ns.map PV.int)[i]? = some (.int k) := by rw [List.getElem?_map, h]; rfl
theorem bag_lt {S : Sto} {b c : Nat} (h : BagAt S b c) : b < S.length ∧ c < S.length := by
  obtain ⟨cs, d, m, h⟩ := h
  exact ⟨lt_of_get h.hb, lt_of_get h.hc⟩
theorem sig_spec {S : Sto} {b c : Nat} (hB : BagAt S b c) :
    Rn (f__law_signature [.loc b] S) fun r S' => ∃ sg : List Int, r = .tup (sg.map PV.int) ∧ SigOk sg ∧ Ext b c S S' := by
  unfold f__law_signature
  rw [rn_runD]
  unfold b__law_signature
  show Rs (sCons _ _ [some (.loc b), none, none, none] S) _
  simp only [rn_var, rn_c, rn_op, rn_un, rn_dE, rn_ch, rn_dAnd, rn_dOr, rn_dNot, rn_dYes, rn_and, rn_or, rn_not, rn_if, rn_aNil, rn_aCons, rn_A, rn_mkT, rn_mkL, rn_oNon, rn_asI, rn_oSm, rn_sl, rn_M, rn_isi, rn_lrev, rn_add_i, rn_add_t, rn_sub_i, rn_mul_i, rn_fdiv_i, rn_mod_i, rn_pow_i, rn_lt_i, rn_le_i, rn_gt_i, rn_ge_i, rn_neg_i, rn_eq_i, rn_ne_i, rn_eq_b, rn_eq_s, rn_is, rn_isnot, rn_sl_t, kN_nx, kN_rt, kN_bk, kN_ct, rs_nil, rs_cons, rs_brk, rs_cnt, rs_ex, rs_ret, rs_retN, rs_if, rs_set, rs_par, rs_par3, rs_asg, rs_sub, rn_int_i, rn_abs_i, rn_asB, rn_iSeq, rn_iRng1, rn_iEnu, rn_iZp, rn_iRng2, rn_iRng3, rn_iRv, rn_dic0, rn_dic1, rn_max2, rn_MT, ex_tup, rn_revS, isTy_str, List.getElem?_cons_zero, List.getElem?_cons_succ, List.set_cons_succ, List.set_cons_zero, List.length_cons, List.length_nil, Nat.reduceAdd, Nat.zero_add, reduceIte, Nat.reduceLeDiff, true_and, List.cons_append, List.nil_append]
  refine (pick_spec hB.app (SeqIs.new hB) (by simp) (by simp)).mono ?_
  rintro r S1 ⟨hr, X0⟩
  obtain ⟨k, rfl, k1, k6⟩ : ∃ k : Int, r = .int k ∧ 1 ≤ k ∧ k ≤ 6 := by
    simp only [List.mem_cons, List.not_mem_nil, or_false] at hr
    rcases hr with rfl | rfl | rfl | rfl | rfl | rfl | rfl | rfl <;> exact ⟨_, rfl, by omega, by omega⟩
  have X1 : Ext b c S S1 := (Ext.refl hB).app.trans X0
  refine lc_map ((List.range k.toNat).map fun j : Nat => PV.int (0 + j)) (fun _ y => ∃ a : Int, y = .int a ∧ 0 ≤ a ∧ a ≤ 3) (fun S2 => Ext b c S S2) ?_ (by simp; omega) (fun x hx S2 X2 => ?_) (fun ys S2 hA X2 => ?_)
  · simp only [rn_var, rn_c, rn_op, rn_un, rn_dE, rn_ch, rn_dAnd, rn_dOr, rn_dNot, rn_dYes, rn_and, rn_or, rn_not, rn_if, rn_aNil, rn_aCons, rn_A, rn_mkT, rn_mkL, rn_oNon, rn_asI, rn_oSm, rn_sl, rn_M, rn_isi, rn_lrev, rn_add_i, rn_add_t, rn_sub_i, rn_mul_i, rn_fdiv_i, rn_mod_i, rn_pow_i, rn_lt_i, rn_le_i, rn_gt_i, rn_ge_i, rn_neg_i, rn_eq_i, rn_ne_i, rn_eq_b, rn_eq_s, rn_is, rn_isnot, rn_sl_t, kN_nx, kN_rt, kN_bk, kN_ct, rs_nil, rs_cons, rs_brk, rs_cnt, rs_ex, rs_ret, rs_retN, rs_if, rs_set, rs_par, rs_par3, rs_asg, rs_sub, rn_int_i, rn_abs_i, rn_asB, rn_iSeq, rn_iRng1, rn_iEnu, rn_iZp, rn_iRng2, rn_iRng3, rn_iRv, rn_dic0, rn_dic1, rn_max2, rn_MT, ex_tup, rn_revS, isTy_str, List.getElem?_cons_zero, List.getElem?_cons_succ, List.set_cons_succ, List.set_cons_zero, List.length_cons, List.length_nil, Nat.reduceAdd, Nat.zero_add, reduceIte, Nat.reduceLeDiff, true_and, List.cons_append, List.nil_append]
    exact ⟨_, rfl, ⟨by omega, by omega⟩, X1, fun i S _ => wR_at i⟩
  · refine ⟨[(3, x)], rfl, rfl, ?_⟩
    show Rn (eA _ _ [some (.loc b), _, _, some x] S2) _
    simp only [rn_var, rn_c, rn_op, rn_un, rn_dE, rn_ch, rn_dAnd, rn_dOr, rn_dNot, rn_dYes, rn_and, rn_or, rn_not, rn_if, rn_aNil, rn_aCons, rn_A, rn_mkT, rn_mkL, rn_oNon, rn_asI, rn_oSm, rn_sl, rn_M, rn_isi, rn_lrev, rn_add_i, rn_add_t, rn_sub_i, rn_mul_i, rn_fdiv_i, rn_mod_i, rn_pow_i, rn_lt_i, rn_le_i, rn_gt_i, rn_ge_i, rn_neg_i, rn_eq_i, rn_ne_i, rn_eq_b, rn_eq_s, rn_is, rn_isnot, rn_sl_t, kN_nx, kN_rt, kN_bk, kN_ct, rs_nil, rs_cons, rs_brk, rs_cnt, rs_ex, rs_ret, rs_retN, rs_if, rs_set, rs_par, rs_par3, rs_asg, rs_sub, rn_int_i, rn_abs_i, rn_asB, rn_iSeq, rn_iRng1, rn_iEnu, rn_iZp, rn_iRng2, rn_iRng3, rn_iRv, rn_dic0, rn_dic1, rn_max2, rn_MT, ex_tup, rn_revS, isTy_str, List.getElem?_cons_zero, List.getElem?_cons_succ, List.set_cons_succ, List.set_cons_zero, List.length_cons, List.length_nil, Nat.reduceAdd, Nat.zero_add, reduceIte, Nat.reduceLeDiff, true_and, List.cons_append, List.nil_append]
    refine (draw_spec X2.bag (n := 4) (by omega) (by omega)).mono ?_
    rintro r S3 ⟨a, rfl, a0, a1, X3⟩
    exact ⟨⟨a, rfl, a0, by omega⟩, X2.trans X3⟩
  · obtain ⟨ns, rfl, hns⟩ := ints_of (P := fun a => 0 ≤ a ∧ a ≤ 3) fun y hy => (hA.mem hy).elim fun x hx => hx.2
    have hlen : ns.length = k.toNat := by have := hA.len; simpa using this
    have hq := new_ne hB X2.len
    refine (draw_spec X2.bag.app (n := k) (by omega) (by omega)).mono ?_
    rintro r S3 ⟨a, rfl, a0, a1, X3⟩
    have h3 : S3[S2.length]? = some (.lst (ns.map PV.int)) := X3.get get_new hq.1 hq.2
    refine ⟨_, set_at h3 a0 (by rw [List.length_map]; omega), ?_⟩
    have lt3 : S2.length < S3.length := lt_of_get h3
    have h4 : (S3.set S2.length (.lst ((ns.map PV.int).set a.toNat (.int 0))))[S2.length]? = some (.lst ((ns.set a.toNat 0).map PV.int)) := by
      rw [List.getElem?_set_self lt3, List.map_set]
    have X4 : Ext b c S (S3.set S2.length (.lst ((ns.map PV.int).set a.toNat (.int 0)))) := (X2.app.trans X3).setQ X2.len hq.1 hq.2
    generalize hS4 : S3.set S2.length (.lst ((ns.map PV.int).set a.toNat (.int 0))) = S4 at h4 X4
    have l0 : (ns.set a.toNat 0).length = k.toNat := by rw [List.length_set, hlen]
    have b0 : ∀ z ∈ ns.set a.toNat 0, 0 ≤ z ∧ z ≤ 3 := fun z hz => by
      rcases List.mem_or_eq_of_mem_set hz with h | h
      · exact hns z h
      · subst h; omega
    have z0 : (ns.set a.toNat 0)[a.toNat]? = some 0 := List.getElem?_set_self (by omega)
    exact (rn_tuple (seq_at h4)).mpr ⟨ns.set a.toNat 0, rfl, ⟨by omega, by omega, b0, a.toNat, z0⟩, X4⟩
/-! what is wrong with a signature -/
def wB (x : PV) : Bool := match x with
  | .int i => decide (0 ≤ i) && decide (i ≤ 3)
  | _ => false
def isZ (x : PV) : Bool := match x with
  | .int i => decide (i = 0)
  | _ => false
def sigW : Nat → List PV → PV → PV
  | _, [], z => z
  | i, x :: r, z => if wB x = true then sigW (i + 1) r z else .tup [.str "arity", .int (i : Nat)]
def sigA (x : PV) : PV := match x with
  | .tup xs => if xs.length < 1 ∨ 6 < xs.length then .str "form" else sigW 0 xs (if xs.any isZ = true then .non else .str "plain")
  | _ => .str "form"
theorem wB_ints : ∀ {xs : List PV}, (∀ x ∈ xs, wB x = true) → ∃ ns : List Int, xs = ns.map PV.int ∧ ∀ n ∈ ns, 0 ≤ n ∧ n ≤ 3
  | [], _ => ⟨[], rfl, fun _ h => (nomatch h)⟩
  | x :: r, h => by
    obtain ⟨ns, e, hn⟩ := wB_ints (xs := r) fun y hy => h y (List.mem_cons_of_mem _ hy)
    have h0 := h x List.mem_cons_self
    cases x with
    | int i =>
      have : 0 ≤ i ∧ i ≤ 3 := by simpa [wB] using h0
      exact ⟨i :: ns, by rw [e]; rfl, fun n hn' => by
        rcases List.mem_cons.mp hn' with rfl | h2
        · exact this
        · exact hn n h2⟩
    | _ => simp [wB] at h0
theorem any_isZ (ns : List Int) : (ns.map PV.int).any isZ = decide ((0 : Int) ∈ ns) := by
  induction ns with
  | nil => rfl
  | cons n r ih =>
    rw [List.map_cons, List.any_cons, ih]
    by_cases c : n = 0
    · subst c; simp [isZ]
    · have c2 : ¬ 0 = n := fun h => c h.symm
      simp [isZ, c, c2]
theorem sigW_at {xs : List PV} {z : PV} {i : Nat} {x : PV} (hx : xs[i]? = some x) : sigW i (xs.drop i) z = if wB x = true then sigW (i + 1) (xs.drop (i + 1)) z else .tup [.str "arity", .int (i : Nat)] := by
  have hi := lt_of_get hx
  have e : xs.drop i = x :: xs.drop (i + 1) := by
    rw [List.drop_eq_getElem_cons hi]
    rw [List.getElem?_eq_getElem hi] at hx
    cases hx
    rfl
  rw [e]
  conv => lhs; unfold sigW
theorem whole3_spec {S : Sto} {x : PV} (h : TyOk S x) : Rn (f_is_whole [x, .int 0, .int 3] S) fun r S' => r = .bl (wB x) ∧ S' = S := by
  refine (whole_spec h).mono ?_
  rintro r S' ⟨e, rfl⟩
  refine ⟨?_, rfl⟩
  rw [e]
  cases x <;> rfl
def TyAll (S : Sto) (v : PV) : Prop := TyOk S v ∧ ∀ xs, v = .tup xs → xs.length ≤ 9000000 ∧ ∀ y ∈ xs, TyOk S y
theorem sigerr_spec {S : Sto} {v : PV} (h : TyAll S v) : Rn (f_signature_error [v] S) fun r S' => r = sigA v ∧ S' = S := by
  unfold f_signature_error
  rw [rn_runD]
  unfold b_signature_error
  show Rs (sCons _ _ [some v, none, none] S) _
  rcases h.1.cases with rfl | ⟨v, rfl⟩ | ⟨i, rfl⟩ | ⟨z, rfl⟩ | ⟨xs, rfl⟩ | ⟨ht, ⟨n, rfl⟩ | ⟨n, rfl⟩⟩ | ⟨ht, n, rfl⟩
  · simp only [rn_var, rn_c, rn_op, rn_un, rn_dE, rn_ch, rn_dAnd, rn_dOr, rn_dNot, rn_dYes, rn_and, rn_or, rn_not, rn_if, rn_aNil, rn_aCons, rn_A, rn_mkT, rn_mkL, rn_oNon, rn_asI, rn_oSm, rn_sl, rn_M, rn_isi, rn_lrev, rn_add_i, rn_add_t, rn_sub_i, rn_mul_i, rn_fdiv_i, rn_mod_i, rn_pow_i, rn_lt_i, rn_le_i, rn_gt_i, rn_ge_i, rn_neg_i, rn_eq_i, rn_ne_i, rn_eq_b, rn_eq_s, rn_is, rn_isnot, rn_sl_t, kN_nx, kN_rt, kN_bk, kN_ct, rs_nil, rs_cons, rs_brk, rs_cnt, rs_ex, rs_ret, rs_retN, rs_if, rs_set, rs_par, rs_par3, rs_asg, rs_sub, rn_int_i, rn_abs_i, rn_asB, rn_iSeq, rn_iRng1, rn_iEnu, rn_iZp, rn_iRng2, rn_iRng3, rn_iRv, rn_dic0, rn_dic1, rn_max2, rn_MT, ex_tup, rn_revS, isTy_str, List.getElem?_cons_zero, List.getElem?_cons_succ, List.set_cons_succ, List.set_cons_zero, List.length_cons, List.length_nil, Nat.reduceAdd, Nat.zero_add, reduceIte, Nat.reduceLeDiff, true_and, List.cons_append, List.nil_append, forall_const, true_implies, false_implies, reduceCtorEq, Bool.true_eq_false, Bool.false_eq_true, decide_true, beq_self_eq_true, Bool.not_true, Bool.not_false, and_true, ty_non, ty_bl, ty_int, ty_str, ty_tup, ty_fl, Option.some.injEq, exists_eq_left', isi_NoneType_bool, isi_NoneType_int, isi_NoneType_str, isi_NoneType_tuple, isi_NoneType_list, isi_NoneType_dict, isi_bool_bool, isi_bool_int, isi_bool_str, isi_bool_tuple, isi_bool_list, isi_bool_dict, isi_int_bool, isi_int_int, isi_int_str, isi_int_tuple, isi_int_list, isi_int_dict, isi_str_bool, isi_str_int, isi_str_str, isi_str_tuple, isi_str_list, isi_str_dict, isi_tuple_bool, isi_tuple_int, isi_tuple_str, isi_tuple_tuple, isi_tuple_list, isi_tuple_dict, isi_list_bool, isi_list_int, isi_list_str, isi_list_tuple, isi_list_list, isi_list_dict, isi_dict_bool, isi_dict_int, isi_dict_str, isi_dict_tuple, isi_dict_list, isi_dict_dict]; exact rfl
  · simp only [rn_var, rn_c, rn_op, rn_un, rn_dE, rn_ch, rn_dAnd, rn_dOr, rn_dNot, rn_dYes, rn_and, rn_or, rn_not, rn_if, rn_aNil, rn_aCons, rn_A, rn_mkT, rn_mkL, rn_oNon, rn_asI, rn_oSm, rn_sl, rn_M, rn_isi, rn_lrev, rn_add_i, rn_add_t, rn_sub_i, rn_mul_i, rn_fdiv_i, rn_mod_i, rn_pow_i, rn_lt_i, rn_le_i, rn_gt_i, rn_ge_i, rn_neg_i, rn_eq_i, rn_ne_i, rn_eq_b, rn_eq_s, rn_is, rn_isnot, rn_sl_t, kN_nx, kN_rt, kN_bk, kN_ct, rs_nil, rs_cons, rs_brk, rs_cnt, rs_ex, rs_ret, rs_retN, rs_if, rs_set, rs_par, rs_par3, rs_asg, rs_sub, rn_int_i, rn_abs_i, rn_asB, rn_iSeq, rn_iRng1, rn_iEnu, rn_iZp, rn_iRng2, rn_iRng3, rn_iRv, rn_dic0, rn_dic1, rn_max2, rn_MT, ex_tup, rn_revS, isTy_str, List.getElem?_cons_zero, List.getElem?_cons_succ, List.set_cons_succ, List.set_cons_zero, List.length_cons, List.length_nil, Nat.reduceAdd, Nat.zero_add, reduceIte, Nat.reduceLeDiff, true_and, List.cons_append, List.nil_append, forall_const, true_implies, false_implies, reduceCtorEq, Bool.true_eq_false, Bool.false_eq_true, decide_true, beq_self_eq_true, Bool.not_true, Bool.not_false, and_true, ty_non, ty_bl, ty_int, ty_str, ty_tup, ty_fl, Option.some.injEq, exists_eq_left', isi_NoneType_bool, isi_NoneType_int, isi_NoneType_str, isi_NoneType_tuple, isi_NoneType_list, isi_NoneType_dict, isi_bool_bool, isi_bool_int, isi_bool_str, isi_bool_tuple, isi_bool_list, isi_bool_dict, isi_int_bool, isi_int_int, isi_int_str, isi_int_tuple, isi_int_list, isi_int_dict, isi_str_bool, isi_str_int, isi_str_str, isi_str_tuple, isi_str_list, isi_str_dict, isi_tuple_bool, isi_tuple_int, isi_tuple_str, isi_tuple_tuple, isi_tuple_list, isi_tuple_dict, isi_list_bool, isi_list_int, isi_list_str, isi_list_tuple, isi_list_list, isi_list_dict, isi_dict_bool, isi_dict_int, isi_dict_str, isi_dict_tuple, isi_dict_list, isi_dict_dict]; exact rfl
  · simp only [rn_var, rn_c, rn_op, rn_un, rn_dE, rn_ch, rn_dAnd, rn_dOr, rn_dNot, rn_dYes, rn_and, rn_or, rn_not, rn_if, rn_aNil, rn_aCons, rn_A, rn_mkT, rn_mkL, rn_oNon, rn_asI, rn_oSm, rn_sl, rn_M, rn_isi, rn_lrev, rn_add_i, rn_add_t, rn_sub_i, rn_mul_i, rn_fdiv_i, rn_mod_i, rn_pow_i, rn_lt_i, rn_le_i, rn_gt_i, rn_ge_i, rn_neg_i, rn_eq_i, rn_ne_i, rn_eq_b, rn_eq_s, rn_is, rn_isnot, rn_sl_t, kN_nx, kN_rt, kN_bk, kN_ct, rs_nil, rs_cons, rs_brk, rs_cnt, rs_ex, rs_ret, rs_retN, rs_if, rs_set, rs_par, rs_par3, rs_asg, rs_sub, rn_int_i, rn_abs_i, rn_asB, rn_iSeq, rn_iRng1, rn_iEnu, rn_iZp, rn_iRng2, rn_iRng3, rn_iRv, rn_dic0, rn_dic1, rn_max2, rn_MT, ex_tup, rn_revS, isTy_str, List.getElem?_cons_zero, List.getElem?_cons_succ, List.set_cons_succ, List.set_cons_zero, List.length_cons, List.length_nil, Nat.reduceAdd, Nat.zero_add, reduceIte, Nat.reduceLeDiff, true_and, List.cons_append, List.nil_append, forall_const, true_implies, false_implies, reduceCtorEq, Bool.true_eq_false, Bool.false_eq_true, decide_true, beq_self_eq_true, Bool.not_true, Bool.not_false, and_true, ty_non, ty_bl, ty_int, ty_str, ty_tup, ty_fl, Option.some.injEq, exists_eq_left', isi_NoneType_bool, isi_NoneType_int, isi_NoneType_str, isi_NoneType_tuple, isi_NoneType_list, isi_NoneType_dict, isi_bool_bool, isi_bool_int, isi_bool_str, isi_bool_tuple, isi_bool_list, isi_bool_dict, isi_int_bool, isi_int_int, isi_int_str, isi_int_tuple, isi_int_list, isi_int_dict, isi_str_bool, isi_str_int, isi_str_str, isi_str_tuple, isi_str_list, isi_str_dict, isi_tuple_bool, isi_tuple_int, isi_tuple_str, isi_tuple_tuple, isi_tuple_list, isi_tuple_dict, isi_list_bool, isi_list_int, isi_list_str, isi_list_tuple, isi_list_list, isi_list_dict, isi_dict_bool, isi_dict_int, isi_dict_str, isi_dict_tuple, isi_dict_list, isi_dict_dict]; exact rfl
  · simp only [rn_var, rn_c, rn_op, rn_un, rn_dE, rn_ch, rn_dAnd, rn_dOr, rn_dNot, rn_dYes, rn_and, rn_or, rn_not, rn_if, rn_aNil, rn_aCons, rn_A, rn_mkT, rn_mkL, rn_oNon, rn_asI, rn_oSm, rn_sl, rn_M, rn_isi, rn_lrev, rn_add_i, rn_add_t, rn_sub_i, rn_mul_i, rn_fdiv_i, rn_mod_i, rn_pow_i, rn_lt_i, rn_le_i, rn_gt_i, rn_ge_i, rn_neg_i, rn_eq_i, rn_ne_i, rn_eq_b, rn_eq_s, rn_is, rn_isnot, rn_sl_t, kN_nx, kN_rt, kN_bk, kN_ct, rs_nil, rs_cons, rs_brk, rs_cnt, rs_ex, rs_ret, rs_retN, rs_if, rs_set, rs_par, rs_par3, rs_asg, rs_sub, rn_int_i, rn_abs_i, rn_asB, rn_iSeq, rn_iRng1, rn_iEnu, rn_iZp, rn_iRng2, rn_iRng3, rn_iRv, rn_dic0, rn_dic1, rn_max2, rn_MT, ex_tup, rn_revS, isTy_str, List.getElem?_cons_zero, List.getElem?_cons_succ, List.set_cons_succ, List.set_cons_zero, List.length_cons, List.length_nil, Nat.reduceAdd, Nat.zero_add, reduceIte, Nat.reduceLeDiff, true_and, List.cons_append, List.nil_append, forall_const, true_implies, false_implies, reduceCtorEq, Bool.true_eq_false, Bool.false_eq_true, decide_true, beq_self_eq_true, Bool.not_true, Bool.not_false, and_true, ty_non, ty_bl, ty_int, ty_str, ty_tup, ty_fl, Option.some.injEq, exists_eq_left', isi_NoneType_bool, isi_NoneType_int, isi_NoneType_str, isi_NoneType_tuple, isi_NoneType_list, isi_NoneType_dict, isi_bool_bool, isi_bool_int, isi_bool_str, isi_bool_tuple, isi_bool_list, isi_bool_dict, isi_int_bool, isi_int_int, isi_int_str, isi_int_tuple, isi_int_list, isi_int_dict, isi_str_bool, isi_str_int, isi_str_str, isi_str_tuple, isi_str_list, isi_str_dict, isi_tuple_bool, isi_tuple_int, isi_tuple_str, isi_tuple_tuple, isi_tuple_list, isi_tuple_dict, isi_list_bool, isi_list_int, isi_list_str, isi_list_tuple, isi_list_list, isi_list_dict, isi_dict_bool, isi_dict_int, isi_dict_str, isi_dict_tuple, isi_dict_list, isi_dict_dict]; exact rfl
  · obtain ⟨hl, hy⟩ := h.2 xs rfl
    simp only [rn_var, rn_c, rn_op, rn_un, rn_dE, rn_ch, rn_dAnd, rn_dOr, rn_dNot, rn_dYes, rn_and, rn_or, rn_not, rn_if, rn_aNil, rn_aCons, rn_A, rn_mkT, rn_mkL, rn_oNon, rn_asI, rn_oSm, rn_sl, rn_M, rn_isi, rn_lrev, rn_add_i, rn_add_t, rn_sub_i, rn_mul_i, rn_fdiv_i, rn_mod_i, rn_pow_i, rn_lt_i, rn_le_i, rn_gt_i, rn_ge_i, rn_neg_i, rn_eq_i, rn_ne_i, rn_eq_b, rn_eq_s, rn_is, rn_isnot, rn_sl_t, kN_nx, kN_rt, kN_bk, kN_ct, rs_nil, rs_cons, rs_brk, rs_cnt, rs_ex, rs_ret, rs_retN, rs_if, rs_set, rs_par, rs_par3, rs_asg, rs_sub, rn_int_i, rn_abs_i, rn_asB, rn_iSeq, rn_iRng1, rn_iEnu, rn_iZp, rn_iRng2, rn_iRng3, rn_iRv, rn_dic0, rn_dic1, rn_max2, rn_MT, ex_tup, rn_revS, isTy_str, List.getElem?_cons_zero, List.getElem?_cons_succ, List.set_cons_succ, List.set_cons_zero, List.length_cons, List.length_nil, Nat.reduceAdd, Nat.zero_add, reduceIte, Nat.reduceLeDiff, true_and, List.cons_append, List.nil_append, forall_const, true_implies, false_implies, reduceCtorEq, Bool.true_eq_false, Bool.false_eq_true, decide_true, beq_self_eq_true, Bool.not_true, Bool.not_false, and_true, ty_non, ty_bl, ty_int, ty_str, ty_tup, ty_fl, Option.some.injEq, exists_eq_left', isi_NoneType_bool, isi_NoneType_int, isi_NoneType_str, isi_NoneType_tuple, isi_NoneType_list, isi_NoneType_dict, isi_bool_bool, isi_bool_int, isi_bool_str, isi_bool_tuple, isi_bool_list, isi_bool_dict, isi_int_bool, isi_int_int, isi_int_str, isi_int_tuple, isi_int_list, isi_int_dict, isi_str_bool, isi_str_int, isi_str_str, isi_str_tuple, isi_str_list, isi_str_dict, isi_tuple_bool, isi_tuple_int, isi_tuple_str, isi_tuple_tuple, isi_tuple_list, isi_tuple_dict, isi_list_bool, isi_list_int, isi_list_str, isi_list_tuple, isi_list_list, isi_list_dict, isi_dict_bool, isi_dict_int, isi_dict_str, isi_dict_tuple, isi_dict_list, isi_dict_dict, rn_len_t]
    have form : (xs.length < 1 ∨ 6 < xs.length) → PV.str "form" = sigA (.tup xs) := fun hc => by
      unfold sigA
      simp only
      rw [if_pos hc]
    refine ⟨fun h1 => ⟨fun h2 => form (.inr (by simp at h2; omega)), fun h2 => ?_⟩, fun h1 => form (.inl (by simp at h1; omega))⟩
    have l1 : 1 ≤ xs.length := by simp at h1; omega
    have l2 : xs.length ≤ 6 := by simp at h2; omega
    have eA : sigA (.tup xs) = sigW 0 xs (if xs.any isZ = true then .non else .str "plain") := by
      unfold sigA
      simp only
      rw [if_neg (by omega)]
    rw [eA]
    generalize hz : (if xs.any isZ = true then PV.non else PV.str "plain") = z
    refine for_rn (enuL xs) (fun i e S2 => S2 = S ∧ (∃ x1 x2, e = [some (.tup xs), x1, x2]) ∧ sigW 0 xs z = sigW i (xs.drop i) z ∧ ∀ j y, j < i → xs[j]? = some y → wB y = true) ?_ (fun i x e S2 hx ⟨hS, ⟨x1, x2, he⟩, hE, hA⟩ => ?_) (fun e S2 ⟨hS, ⟨x1, x2, he⟩, hE, hA⟩ => ?_)
    · simp only [rn_var, rn_c, rn_op, rn_un, rn_dE, rn_ch, rn_dAnd, rn_dOr, rn_dNot, rn_dYes, rn_and, rn_or, rn_not, rn_if, rn_aNil, rn_aCons, rn_A, rn_mkT, rn_mkL, rn_oNon, rn_asI, rn_oSm, rn_sl, rn_M, rn_isi, rn_lrev, rn_add_i, rn_add_t, rn_sub_i, rn_mul_i, rn_fdiv_i, rn_mod_i, rn_pow_i, rn_lt_i, rn_le_i, rn_gt_i, rn_ge_i, rn_neg_i, rn_eq_i, rn_ne_i, rn_eq_b, rn_eq_s, rn_is, rn_isnot, rn_sl_t, kN_nx, kN_rt, kN_bk, kN_ct, rs_nil, rs_cons, rs_brk, rs_cnt, rs_ex, rs_ret, rs_retN, rs_if, rs_set, rs_par, rs_par3, rs_asg, rs_sub, rn_int_i, rn_abs_i, rn_asB, rn_iSeq, rn_iRng1, rn_iEnu, rn_iZp, rn_iRng2, rn_iRng3, rn_iRv, rn_dic0, rn_dic1, rn_max2, rn_MT, ex_tup, rn_revS, isTy_str, List.getElem?_cons_zero, List.getElem?_cons_succ, List.set_cons_succ, List.set_cons_zero, List.length_cons, List.length_nil, Nat.reduceAdd, Nat.zero_add, reduceIte, Nat.reduceLeDiff, true_and, List.cons_append, List.nil_append]
      exact ⟨_, _, rfl, rfl, ⟨⟨none, none, rfl⟩, rfl, fun j y hj => absurd hj (by omega)⟩, fun i e S2 _ => wE_at rfl⟩
    · obtain ⟨row, hrow, rfl⟩ := enu_get hx
      subst hS he
      refine ⟨[(1, .int i), (2, row)], rfl, ?_⟩
      show Rs (sIf _ _ _ [some (.tup xs), some (.int i), some row] S2) _
      simp only [rn_var, rn_c, rn_op, rn_un, rn_dE, rn_ch, rn_dAnd, rn_dOr, rn_dNot, rn_dYes, rn_and, rn_or, rn_not, rn_if, rn_aNil, rn_aCons, rn_A, rn_mkT, rn_mkL, rn_oNon, rn_asI, rn_oSm, rn_sl, rn_M, rn_isi, rn_lrev, rn_add_i, rn_add_t, rn_sub_i, rn_mul_i, rn_fdiv_i, rn_mod_i, rn_pow_i, rn_lt_i, rn_le_i, rn_gt_i, rn_ge_i, rn_neg_i, rn_eq_i, rn_ne_i, rn_eq_b, rn_eq_s, rn_is, rn_isnot, rn_sl_t, kN_nx, kN_rt, kN_bk, kN_ct, rs_nil, rs_cons, rs_brk, rs_cnt, rs_ex, rs_ret, rs_retN, rs_if, rs_set, rs_par, rs_par3, rs_asg, rs_sub, rn_int_i, rn_abs_i, rn_asB, rn_iSeq, rn_iRng1, rn_iEnu, rn_iZp, rn_iRng2, rn_iRng3, rn_iRv, rn_dic0, rn_dic1, rn_max2, rn_MT, ex_tup, rn_revS, isTy_str, List.getElem?_cons_zero, List.getElem?_cons_succ, List.set_cons_succ, List.set_cons_zero, List.length_cons, List.length_nil, Nat.reduceAdd, Nat.zero_add, reduceIte, Nat.reduceLeDiff, true_and, List.cons_append, List.nil_append, forall_const, true_implies, false_implies, reduceCtorEq, Bool.true_eq_false, Bool.false_eq_true, decide_true, beq_self_eq_true, Bool.not_true, Bool.not_false, and_true, ty_non, ty_bl, ty_int, ty_str, ty_tup, ty_fl, Option.some.injEq, exists_eq_left', isi_NoneType_bool, isi_NoneType_int, isi_NoneType_str, isi_NoneType_tuple, isi_NoneType_list, isi_NoneType_dict, isi_bool_bool, isi_bool_int, isi_bool_str, isi_bool_tuple, isi_bool_list, isi_bool_dict, isi_int_bool, isi_int_int, isi_int_str, isi_int_tuple, isi_int_list, isi_int_dict, isi_str_bool, isi_str_int, isi_str_str, isi_str_tuple, isi_str_list, isi_str_dict, isi_tuple_bool, isi_tuple_int, isi_tuple_str, isi_tuple_tuple, isi_tuple_list, isi_tuple_dict, isi_list_bool, isi_list_int, isi_list_str, isi_list_tuple, isi_list_list, isi_list_dict, isi_dict_bool, isi_dict_int, isi_dict_str, isi_dict_tuple, isi_dict_list, isi_dict_dict]
      refine (whole3_spec (hy row (List.mem_of_getElem? hrow))).mono ?_
      rintro r S3 ⟨rfl, rfl⟩
      rw [sigW_at hrow] at hE
      simp only [rn_var, rn_c, rn_op, rn_un, rn_dE, rn_ch, rn_dAnd, rn_dOr, rn_dNot, rn_dYes, rn_and, rn_or, rn_not, rn_if, rn_aNil, rn_aCons, rn_A, rn_mkT, rn_mkL, rn_oNon, rn_asI, rn_oSm, rn_sl, rn_M, rn_isi, rn_lrev, rn_add_i, rn_add_t, rn_sub_i, rn_mul_i, rn_fdiv_i, rn_mod_i, rn_pow_i, rn_lt_i, rn_le_i, rn_gt_i, rn_ge_i, rn_neg_i, rn_eq_i, rn_ne_i, rn_eq_b, rn_eq_s, rn_is, rn_isnot, rn_sl_t, kN_nx, kN_rt, kN_bk, kN_ct, rs_nil, rs_cons, rs_brk, rs_cnt, rs_ex, rs_ret, rs_retN, rs_if, rs_set, rs_par, rs_par3, rs_asg, rs_sub, rn_int_i, rn_abs_i, rn_asB, rn_iSeq, rn_iRng1, rn_iEnu, rn_iZp, rn_iRng2, rn_iRng3, rn_iRv, rn_dic0, rn_dic1, rn_max2, rn_MT, ex_tup, rn_revS, isTy_str, List.getElem?_cons_zero, List.getElem?_cons_succ, List.set_cons_succ, List.set_cons_zero, List.length_cons, List.length_nil, Nat.reduceAdd, Nat.zero_add, reduceIte, Nat.reduceLeDiff, true_and, List.cons_append, List.nil_append, forall_const, true_implies, false_implies, reduceCtorEq, Bool.true_eq_false, Bool.false_eq_true, decide_true, beq_self_eq_true, Bool.not_true, Bool.not_false, and_true, ty_non, ty_bl, ty_int, ty_str, ty_tup, ty_fl, Option.some.injEq, exists_eq_left', isi_NoneType_bool, isi_NoneType_int, isi_NoneType_str, isi_NoneType_tuple, isi_NoneType_list, isi_NoneType_dict, isi_bool_bool, isi_bool_int, isi_bool_str, isi_bool_tuple, isi_bool_list, isi_bool_dict, isi_int_bool, isi_int_int, isi_int_str, isi_int_tuple, isi_int_list, isi_int_dict, isi_str_bool, isi_str_int, isi_str_str, isi_str_tuple, isi_str_list, isi_str_dict, isi_tuple_bool, isi_tuple_int, isi_tuple_str, isi_tuple_tuple, isi_tuple_list, isi_tuple_dict, isi_list_bool, isi_list_int, isi_list_str, isi_list_tuple, isi_list_list, isi_list_dict, isi_dict_bool, isi_dict_int, isi_dict_str, isi_dict_tuple, isi_dict_list, isi_dict_dict]
      refine ⟨fun hw => ?_, fun hw => ?_⟩
      · have hw : wB row = false := by simpa using hw
        rw [if_neg (by rw [hw]; decide)] at hE
        exact hE.symm
      · have hw : wB row = true := by simpa using hw
        rw [if_pos hw] at hE
        refine ⟨⟨_, _, rfl⟩, hE, fun j y hj hyj => ?_⟩
        rcases Nat.lt_or_ge j i with c | c
        · exact hA j y c hyj
        · have : j = i := by omega
          subst this
          rw [hrow] at hyj
          cases hyj
          exact hw
    · subst hS he
      rw [enu_len] at hE hA
      obtain ⟨ns, e, hn⟩ := wB_ints (xs := xs) fun x hx => by
        obtain ⟨j, hj⟩ := List.mem_iff_getElem?.mp hx
        exact hA j x (lt_of_get hj) hj
      subst e
      rw [any_isZ] at hz
      simp only [rn_var, rn_c, rn_op, rn_un, rn_dE, rn_ch, rn_dAnd, rn_dOr, rn_dNot, rn_dYes, rn_and, rn_or, rn_not, rn_if, rn_aNil, rn_aCons, rn_A, rn_mkT, rn_mkL, rn_oNon, rn_asI, rn_oSm, rn_sl, rn_M, rn_isi, rn_lrev, rn_add_i, rn_add_t, rn_sub_i, rn_mul_i, rn_fdiv_i, rn_mod_i, rn_pow_i, rn_lt_i, rn_le_i, rn_gt_i, rn_ge_i, rn_neg_i, rn_eq_i, rn_ne_i, rn_eq_b, rn_eq_s, rn_is, rn_isnot, rn_sl_t, kN_nx, kN_rt, kN_bk, kN_ct, rs_nil, rs_cons, rs_brk, rs_cnt, rs_ex, rs_ret, rs_retN, rs_if, rs_set, rs_par, rs_par3, rs_asg, rs_sub, rn_int_i, rn_abs_i, rn_asB, rn_iSeq, rn_iRng1, rn_iEnu, rn_iZp, rn_iRng2, rn_iRng3, rn_iRv, rn_dic0, rn_dic1, rn_max2, rn_MT, ex_tup, rn_revS, isTy_str, List.getElem?_cons_zero, List.getElem?_cons_succ, List.set_cons_succ, List.set_cons_zero, List.length_cons, List.length_nil, Nat.reduceAdd, Nat.zero_add, reduceIte, Nat.reduceLeDiff, true_and, List.cons_append, List.nil_append, forall_const, true_implies, false_implies, reduceCtorEq, Bool.true_eq_false, Bool.false_eq_true, decide_true, beq_self_eq_true, Bool.not_true, Bool.not_false, and_true, ty_non, ty_bl, ty_int, ty_str, ty_tup, ty_fl, Option.some.injEq, exists_eq_left', isi_NoneType_bool, isi_NoneType_int, isi_NoneType_str, isi_NoneType_tuple, isi_NoneType_list, isi_NoneType_dict, isi_bool_bool, isi_bool_int, isi_bool_str, isi_bool_tuple, isi_bool_list, isi_bool_dict, isi_int_bool, isi_int_int, isi_int_str, isi_int_tuple, isi_int_list, isi_int_dict, isi_str_bool, isi_str_int, isi_str_str, isi_str_tuple, isi_str_list, isi_str_dict, isi_tuple_bool, isi_tuple_int, isi_tuple_str, isi_tuple_tuple, isi_tuple_list, isi_tuple_dict, isi_list_bool, isi_list_int, isi_list_str, isi_list_tuple, isi_list_list, isi_list_dict, isi_dict_bool, isi_dict_int, isi_dict_str, isi_dict_tuple, isi_dict_list, isi_dict_dict, rn_in_t]
      rw [hE, List.drop_length]
      subst hz
      unfold sigW
      by_cases c : (0 : Int) ∈ ns <;> simp [c]
  · simp only [rn_var, rn_c, rn_op, rn_un, rn_dE, rn_ch, rn_dAnd, rn_dOr, rn_dNot, rn_dYes, rn_and, rn_or, rn_not, rn_if, rn_aNil, rn_aCons, rn_A, rn_mkT, rn_mkL, rn_oNon, rn_asI, rn_oSm, rn_sl, rn_M, rn_isi, rn_lrev, rn_add_i, rn_add_t, rn_sub_i, rn_mul_i, rn_fdiv_i, rn_mod_i, rn_pow_i, rn_lt_i, rn_le_i, rn_gt_i, rn_ge_i, rn_neg_i, rn_eq_i, rn_ne_i, rn_eq_b, rn_eq_s, rn_is, rn_isnot, rn_sl_t, kN_nx, kN_rt, kN_bk, kN_ct, rs_nil, rs_cons, rs_brk, rs_cnt, rs_ex, rs_ret, rs_retN, rs_if, rs_set, rs_par, rs_par3, rs_asg, rs_sub, rn_int_i, rn_abs_i, rn_asB, rn_iSeq, rn_iRng1, rn_iEnu, rn_iZp, rn_iRng2, rn_iRng3, rn_iRv, rn_dic0, rn_dic1, rn_max2, rn_MT, ex_tup, rn_revS, isTy_str, List.getElem?_cons_zero, List.getElem?_cons_succ, List.set_cons_succ, List.set_cons_zero, List.length_cons, List.length_nil, Nat.reduceAdd, Nat.zero_add, reduceIte, Nat.reduceLeDiff, true_and, List.cons_append, List.nil_append, forall_const, true_implies, false_implies, reduceCtorEq, Bool.true_eq_false, Bool.false_eq_true, decide_true, beq_self_eq_true, Bool.not_true, Bool.not_false, and_true, ty_non, ty_bl, ty_int, ty_str, ty_tup, ty_fl, Option.some.injEq, exists_eq_left', isi_NoneType_bool, isi_NoneType_int, isi_NoneType_str, isi_NoneType_tuple, isi_NoneType_list, isi_NoneType_dict, isi_bool_bool, isi_bool_int, isi_bool_str, isi_bool_tuple, isi_bool_list, isi_bool_dict, isi_int_bool, isi_int_int, isi_int_str, isi_int_tuple, isi_int_list, isi_int_dict, isi_str_bool, isi_str_int, isi_str_str, isi_str_tuple, isi_str_list, isi_str_dict, isi_tuple_bool, isi_tuple_int, isi_tuple_str, isi_tuple_tuple, isi_tuple_list, isi_tuple_dict, isi_list_bool, isi_list_int, isi_list_str, isi_list_tuple, isi_list_list, isi_list_dict, isi_dict_bool, isi_dict_int, isi_dict_str, isi_dict_tuple, isi_dict_list, isi_dict_dict, ht]; exact rfl
  · simp only [rn_var, rn_c, rn_op, rn_un, rn_dE, rn_ch, rn_dAnd, rn_dOr, rn_dNot, rn_dYes, rn_and, rn_or, rn_not, rn_if, rn_aNil, rn_aCons, rn_A, rn_mkT, rn_mkL, rn_oNon, rn_asI, rn_oSm, rn_sl, rn_M, rn_isi, rn_lrev, rn_add_i, rn_add_t, rn_sub_i, rn_mul_i, rn_fdiv_i, rn_mod_i, rn_pow_i, rn_lt_i, rn_le_i, rn_gt_i, rn_ge_i, rn_neg_i, rn_eq_i, rn_ne_i, rn_eq_b, rn_eq_s, rn_is, rn_isnot, rn_sl_t, kN_nx, kN_rt, kN_bk, kN_ct, rs_nil, rs_cons, rs_brk, rs_cnt, rs_ex, rs_ret, rs_retN, rs_if, rs_set, rs_par, rs_par3, rs_asg, rs_sub, rn_int_i, rn_abs_i, rn_asB, rn_iSeq, rn_iRng1, rn_iEnu, rn_iZp, rn_iRng2, rn_iRng3, rn_iRv, rn_dic0, rn_dic1, rn_max2, rn_MT, ex_tup, rn_revS, isTy_str, List.getElem?_cons_zero, List.getElem?_cons_succ, List.set_cons_succ, List.set_cons_zero, List.length_cons, List.length_nil, Nat.reduceAdd, Nat.zero_add, reduceIte, Nat.reduceLeDiff, true_and, List.cons_append, List.nil_append, forall_const, true_implies, false_implies, reduceCtorEq, Bool.true_eq_false, Bool.false_eq_true, decide_true, beq_self_eq_true, Bool.not_true, Bool.not_false, and_true, ty_non, ty_bl, ty_int, ty_str, ty_tup, ty_fl, Option.some.injEq, exists_eq_left', isi_NoneType_bool, isi_NoneType_int, isi_NoneType_str, isi_NoneType_tuple, isi_NoneType_list, isi_NoneType_dict, isi_bool_bool, isi_bool_int, isi_bool_str, isi_bool_tuple, isi_bool_list, isi_bool_dict, isi_int_bool, isi_int_int, isi_int_str, isi_int_tuple, isi_int_list, isi_int_dict, isi_str_bool, isi_str_int, isi_str_str, isi_str_tuple, isi_str_list, isi_str_dict, isi_tuple_bool, isi_tuple_int, isi_tuple_str, isi_tuple_tuple, isi_tuple_list, isi_tuple_dict, isi_list_bool, isi_list_int, isi_list_str, isi_list_tuple, isi_list_list, isi_list_dict, isi_dict_bool, isi_dict_int, isi_dict_str, isi_dict_tuple, isi_dict_list, isi_dict_dict, ht]; exact rfl
  · simp only [rn_var, rn_c, rn_op, rn_un, rn_dE, rn_ch, rn_dAnd, rn_dOr, rn_dNot, rn_dYes, rn_and, rn_or, rn_not, rn_if, rn_aNil, rn_aCons, rn_A, rn_mkT, rn_mkL, rn_oNon, rn_asI, rn_oSm, rn_sl, rn_M, rn_isi, rn_lrev, rn_add_i, rn_add_t, rn_sub_i, rn_mul_i, rn_fdiv_i, rn_mod_i, rn_pow_i, rn_lt_i, rn_le_i, rn_gt_i, rn_ge_i, rn_neg_i, rn_eq_i, rn_ne_i, rn_eq_b, rn_eq_s, rn_is, rn_isnot, rn_sl_t, kN_nx, kN_rt, kN_bk, kN_ct, rs_nil, rs_cons, rs_brk, rs_cnt, rs_ex, rs_ret, rs_retN, rs_if, rs_set, rs_par, rs_par3, rs_asg, rs_sub, rn_int_i, rn_abs_i, rn_asB, rn_iSeq, rn_iRng1, rn_iEnu, rn_iZp, rn_iRng2, rn_iRng3, rn_iRv, rn_dic0, rn_dic1, rn_max2, rn_MT, ex_tup, rn_revS, isTy_str, List.getElem?_cons_zero, List.getElem?_cons_succ, List.set_cons_succ, List.set_cons_zero, List.length_cons, List.length_nil, Nat.reduceAdd, Nat.zero_add, reduceIte, Nat.reduceLeDiff, true_and, List.cons_append, List.nil_append, forall_const, true_implies, false_implies, reduceCtorEq, Bool.true_eq_false, Bool.false_eq_true, decide_true, beq_self_eq_true, Bool.not_true, Bool.not_false, and_true, ty_non, ty_bl, ty_int, ty_str, ty_tup, ty_fl, Option.some.injEq, exists_eq_left', isi_NoneType_bool, isi_NoneType_int, isi_NoneType_str, isi_NoneType_tuple, isi_NoneType_list, isi_NoneType_dict, isi_bool_bool, isi_bool_int, isi_bool_str, isi_bool_tuple, isi_bool_list, isi_bool_dict, isi_int_bool, isi_int_int, isi_int_str, isi_int_tuple, isi_int_list, isi_int_dict, isi_str_bool, isi_str_int, isi_str_str, isi_str_tuple, isi_str_list, isi_str_dict, isi_tuple_bool, isi_tuple_int, isi_tuple_str, isi_tuple_tuple, isi_tuple_list, isi_tuple_dict, isi_list_bool, isi_list_int, isi_list_str, isi_list_tuple, isi_list_list, isi_list_dict, isi_dict_bool, isi_dict_int, isi_dict_str, isi_dict_tuple, isi_dict_list, isi_dict_dict, ht]; exact rfl
theorem rn_min_t {a : Int} {r : List Int} {S : Sto} {Q : PV → Sto → Prop} : Rn (fMinT [.tup ((a :: r).map PV.int)] S) Q ↔ Q (.int (r.foldl min a)) S := by
  unfold fMinT
  simp only [mapO_int1]
  exact rn_some
theorem fmin_zero : ∀ (r : List Int) (a : Int), 0 ≤ a → (∀ n ∈ r, 0 ≤ n) → (r.foldl min a = 0 ↔ (0 : Int) ∈ a :: r)
  | [], a, _, _ => by
    simp only [List.foldl_nil, List.mem_cons, List.not_mem_nil, or_false]
    exact ⟨fun h => h.symm, fun h => h.symm⟩
  | b :: r, a, h0, h => by
    have hb := h b List.mem_cons_self
    rw [List.foldl_cons, fmin_zero r (min a b) (by omega) fun n hn => h n (List.mem_cons_of_mem _ hn)]
    simp only [List.mem_cons]
    constructor
    · rintro (h1 | h1)
      · rcases Int.le_total a b with c | c
        · exact .inl (by omega)
        · exact .inr (.inl (by omega))
      · exact .inr (.inr h1)
    · rintro (h1 | h1 | h1)
      · exact .inl (by omega)
      · exact .inl (by omega)
      · exact .inr h1
theorem duesig_spec {S : Sto} {v : PV} (h : TyAll S v) : Rn (f__law_due_signature [v] S) fun r S' => r = sigA v ∧ S' = S := by
  unfold f__law_due_signature
  rw [rn_runD]
  unfold b__law_due_signature
  show Rs (sCons _ _ [some v, none, none] S) _
  rcases h.1.cases with rfl | ⟨v, rfl⟩ | ⟨i, rfl⟩ | ⟨z, rfl⟩ | ⟨xs, rfl⟩ | ⟨ht, ⟨n, rfl⟩ | ⟨n, rfl⟩⟩ | ⟨ht, n, rfl⟩
  · simp only [rn_var, rn_c, rn_op, rn_un, rn_dE, rn_ch, rn_dAnd, rn_dOr, rn_dNot, rn_dYes, rn_and, rn_or, rn_not, rn_if, rn_aNil, rn_aCons, rn_A, rn_mkT, rn_mkL, rn_oNon, rn_asI, rn_oSm, rn_sl, rn_M, rn_isi, rn_lrev, rn_add_i, rn_add_t, rn_sub_i, rn_mul_i, rn_fdiv_i, rn_mod_i, rn_pow_i, rn_lt_i, rn_le_i, rn_gt_i, rn_ge_i, rn_neg_i, rn_eq_i, rn_ne_i, rn_eq_b, rn_eq_s, rn_is, rn_isnot, rn_sl_t, kN_nx, kN_rt, kN_bk, kN_ct, rs_nil, rs_cons, rs_brk, rs_cnt, rs_ex, rs_ret, rs_retN, rs_if, rs_set, rs_par, rs_par3, rs_asg, rs_sub, rn_int_i, rn_abs_i, rn_asB, rn_iSeq, rn_iRng1, rn_iEnu, rn_iZp, rn_iRng2, rn_iRng3, rn_iRv, rn_dic0, rn_dic1, rn_max2, rn_MT, ex_tup, rn_revS, isTy_str, List.getElem?_cons_zero, List.getElem?_cons_succ, List.set_cons_succ, List.set_cons_zero, List.length_cons, List.length_nil, Nat.reduceAdd, Nat.zero_add, reduceIte, Nat.reduceLeDiff, true_and, List.cons_append, List.nil_append, forall_const, true_implies, false_implies, reduceCtorEq, Bool.true_eq_false, Bool.false_eq_true, decide_true, beq_self_eq_true, Bool.not_true, Bool.not_false, and_true, ty_non, ty_bl, ty_int, ty_str, ty_tup, ty_fl, Option.some.injEq, exists_eq_left', isi_NoneType_bool, isi_NoneType_int, isi_NoneType_str, isi_NoneType_tuple, isi_NoneType_list, isi_NoneType_dict, isi_bool_bool, isi_bool_int, isi_bool_str, isi_bool_tuple, isi_bool_list, isi_bool_dict, isi_int_bool, isi_int_int, isi_int_str, isi_int_tuple, isi_int_list, isi_int_dict, isi_str_bool, isi_str_int, isi_str_str, isi_str_tuple, isi_str_list, isi_str_dict, isi_tuple_bool, isi_tuple_int, isi_tuple_str, isi_tuple_tuple, isi_tuple_list, isi_tuple_dict, isi_list_bool, isi_list_int, isi_list_str, isi_list_tuple, isi_list_list, isi_list_dict, isi_dict_bool, isi_dict_int, isi_dict_str, isi_dict_tuple, isi_dict_list, isi_dict_dict]; exact rfl
  · simp only [rn_var, rn_c, rn_op, rn_un, rn_dE, rn_ch, rn_dAnd, rn_dOr, rn_dNot, rn_dYes, rn_and, rn_or, rn_not, rn_if, rn_aNil, rn_aCons, rn_A, rn_mkT, rn_mkL, rn_oNon, rn_asI, rn_oSm, rn_sl, rn_M, rn_isi, rn_lrev, rn_add_i, rn_add_t, rn_sub_i, rn_mul_i, rn_fdiv_i, rn_mod_i, rn_pow_i, rn_lt_i, rn_le_i, rn_gt_i, rn_ge_i, rn_neg_i, rn_eq_i, rn_ne_i, rn_eq_b, rn_eq_s, rn_is, rn_isnot, rn_sl_t, kN_nx, kN_rt, kN_bk, kN_ct, rs_nil, rs_cons, rs_brk, rs_cnt, rs_ex, rs_ret, rs_retN, rs_if, rs_set, rs_par, rs_par3, rs_asg, rs_sub, rn_int_i, rn_abs_i, rn_asB, rn_iSeq, rn_iRng1, rn_iEnu, rn_iZp, rn_iRng2, rn_iRng3, rn_iRv, rn_dic0, rn_dic1, rn_max2, rn_MT, ex_tup, rn_revS, isTy_str, List.getElem?_cons_zero, List.getElem?_cons_succ, List.set_cons_succ, List.set_cons_zero, List.length_cons, List.length_nil, Nat.reduceAdd, Nat.zero_add, reduceIte, Nat.reduceLeDiff, true_and, List.cons_append, List.nil_append, forall_const, true_implies, false_implies, reduceCtorEq, Bool.true_eq_false, Bool.false_eq_true, decide_true, beq_self_eq_true, Bool.not_true, Bool.not_false, and_true, ty_non, ty_bl, ty_int, ty_str, ty_tup, ty_fl, Option.some.injEq, exists_eq_left', isi_NoneType_bool, isi_NoneType_int, isi_NoneType_str, isi_NoneType_tuple, isi_NoneType_list, isi_NoneType_dict, isi_bool_bool, isi_bool_int, isi_bool_str, isi_bool_tuple, isi_bool_list, isi_bool_dict, isi_int_bool, isi_int_int, isi_int_str, isi_int_tuple, isi_int_list, isi_int_dict, isi_str_bool, isi_str_int, isi_str_str, isi_str_tuple, isi_str_list, isi_str_dict, isi_tuple_bool, isi_tuple_int, isi_tuple_str, isi_tuple_tuple, isi_tuple_list, isi_tuple_dict, isi_list_bool, isi_list_int, isi_list_str, isi_list_tuple, isi_list_list, isi_list_dict, isi_dict_bool, isi_dict_int, isi_dict_str, isi_dict_tuple, isi_dict_list, isi_dict_dict]; exact rfl
  · simp only [rn_var, rn_c, rn_op, rn_un, rn_dE, rn_ch, rn_dAnd, rn_dOr, rn_dNot, rn_dYes, rn_and, rn_or, rn_not, rn_if, rn_aNil, rn_aCons, rn_A, rn_mkT, rn_mkL, rn_oNon, rn_asI, rn_oSm, rn_sl, rn_M, rn_isi, rn_lrev, rn_add_i, rn_add_t, rn_sub_i, rn_mul_i, rn_fdiv_i, rn_mod_i, rn_pow_i, rn_lt_i, rn_le_i, rn_gt_i, rn_ge_i, rn_neg_i, rn_eq_i, rn_ne_i, rn_eq_b, rn_eq_s, rn_is, rn_isnot, rn_sl_t, kN_nx, kN_rt, kN_bk, kN_ct, rs_nil, rs_cons, rs_brk, rs_cnt, rs_ex, rs_ret, rs_retN, rs_if, rs_set, rs_par, rs_par3, rs_asg, rs_sub, rn_int_i, rn_abs_i, rn_asB, rn_iSeq, rn_iRng1, rn_iEnu, rn_iZp, rn_iRng2, rn_iRng3, rn_iRv, rn_dic0, rn_dic1, rn_max2, rn_MT, ex_tup, rn_revS, isTy_str, List.getElem?_cons_zero, List.getElem?_cons_succ, List.set_cons_succ, List.set_cons_zero, List.length_cons, List.length_nil, Nat.reduceAdd, Nat.zero_add, reduceIte, Nat.reduceLeDiff, true_and, List.cons_append, List.nil_append, forall_const, true_implies, false_implies, reduceCtorEq, Bool.true_eq_false, Bool.false_eq_true, decide_true, beq_self_eq_true, Bool.not_true, Bool.not_false, and_true, ty_non, ty_bl, ty_int, ty_str, ty_tup, ty_fl, Option.some.injEq, exists_eq_left', isi_NoneType_bool, isi_NoneType_int, isi_NoneType_str, isi_NoneType_tuple, isi_NoneType_list, isi_NoneType_dict, isi_bool_bool, isi_bool_int, isi_bool_str, isi_bool_tuple, isi_bool_list, isi_bool_dict, isi_int_bool, isi_int_int, isi_int_str, isi_int_tuple, isi_int_list, isi_int_dict, isi_str_bool, isi_str_int, isi_str_str, isi_str_tuple, isi_str_list, isi_str_dict, isi_tuple_bool, isi_tuple_int, isi_tuple_str, isi_tuple_tuple, isi_tuple_list, isi_tuple_dict, isi_list_bool, isi_list_int, isi_list_str, isi_list_tuple, isi_list_list, isi_list_dict, isi_dict_bool, isi_dict_int, isi_dict_str, isi_dict_tuple, isi_dict_list, isi_dict_dict]; exact rfl
  · simp only [rn_var, rn_c, rn_op, rn_un, rn_dE, rn_ch, rn_dAnd, rn_dOr, rn_dNot, rn_dYes, rn_and, rn_or, rn_not, rn_if, rn_aNil, rn_aCons, rn_A, rn_mkT, rn_mkL, rn_oNon, rn_asI, rn_oSm, rn_sl, rn_M, rn_isi, rn_lrev, rn_add_i, rn_add_t, rn_sub_i, rn_mul_i, rn_fdiv_i, rn_mod_i, rn_pow_i, rn_lt_i, rn_le_i, rn_gt_i, rn_ge_i, rn_neg_i, rn_eq_i, rn_ne_i, rn_eq_b, rn_eq_s, rn_is, rn_isnot, rn_sl_t, kN_nx, kN_rt, kN_bk, kN_ct, rs_nil, rs_cons, rs_brk, rs_cnt, rs_ex, rs_ret, rs_retN, rs_if, rs_set, rs_par, rs_par3, rs_asg, rs_sub, rn_int_i, rn_abs_i, rn_asB, rn_iSeq, rn_iRng1, rn_iEnu, rn_iZp, rn_iRng2, rn_iRng3, rn_iRv, rn_dic0, rn_dic1, rn_max2, rn_MT, ex_tup, rn_revS, isTy_str, List.getElem?_cons_zero, List.getElem?_cons_succ, List.set_cons_succ, List.set_cons_zero, List.length_cons, List.length_nil, Nat.reduceAdd, Nat.zero_add, reduceIte, Nat.reduceLeDiff, true_and, List.cons_append, List.nil_append, forall_const, true_implies, false_implies, reduceCtorEq, Bool.true_eq_false, Bool.false_eq_true, decide_true, beq_self_eq_true, Bool.not_true, Bool.not_false, and_true, ty_non, ty_bl, ty_int, ty_str, ty_tup, ty_fl, Option.some.injEq, exists_eq_left', isi_NoneType_bool, isi_NoneType_int, isi_NoneType_str, isi_NoneType_tuple, isi_NoneType_list, isi_NoneType_dict, isi_bool_bool, isi_bool_int, isi_bool_str, isi_bool_tuple, isi_bool_list, isi_bool_dict, isi_int_bool, isi_int_int, isi_int_str, isi_int_tuple, isi_int_list, isi_int_dict, isi_str_bool, isi_str_int, isi_str_str, isi_str_tuple, isi_str_list, isi_str_dict, isi_tuple_bool, isi_tuple_int, isi_tuple_str, isi_tuple_tuple, isi_tuple_list, isi_tuple_dict, isi_list_bool, isi_list_int, isi_list_str, isi_list_tuple, isi_list_list, isi_list_dict, isi_dict_bool, isi_dict_int, isi_dict_str, isi_dict_tuple, isi_dict_list, isi_dict_dict]; exact rfl
  · obtain ⟨hl, hy⟩ := h.2 xs rfl
    simp only [rn_var, rn_c, rn_op, rn_un, rn_dE, rn_ch, rn_dAnd, rn_dOr, rn_dNot, rn_dYes, rn_and, rn_or, rn_not, rn_if, rn_aNil, rn_aCons, rn_A, rn_mkT, rn_mkL, rn_oNon, rn_asI, rn_oSm, rn_sl, rn_M, rn_isi, rn_lrev, rn_add_i, rn_add_t, rn_sub_i, rn_mul_i, rn_fdiv_i, rn_mod_i, rn_pow_i, rn_lt_i, rn_le_i, rn_gt_i, rn_ge_i, rn_neg_i, rn_eq_i, rn_ne_i, rn_eq_b, rn_eq_s, rn_is, rn_isnot, rn_sl_t, kN_nx, kN_rt, kN_bk, kN_ct, rs_nil, rs_cons, rs_brk, rs_cnt, rs_ex, rs_ret, rs_retN, rs_if, rs_set, rs_par, rs_par3, rs_asg, rs_sub, rn_int_i, rn_abs_i, rn_asB, rn_iSeq, rn_iRng1, rn_iEnu, rn_iZp, rn_iRng2, rn_iRng3, rn_iRv, rn_dic0, rn_dic1, rn_max2, rn_MT, ex_tup, rn_revS, isTy_str, List.getElem?_cons_zero, List.getElem?_cons_succ, List.set_cons_succ, List.set_cons_zero, List.length_cons, List.length_nil, Nat.reduceAdd, Nat.zero_add, reduceIte, Nat.reduceLeDiff, true_and, List.cons_append, List.nil_append, forall_const, true_implies, false_implies, reduceCtorEq, Bool.true_eq_false, Bool.false_eq_true, decide_true, beq_self_eq_true, Bool.not_true, Bool.not_false, and_true, ty_non, ty_bl, ty_int, ty_str, ty_tup, ty_fl, Option.some.injEq, exists_eq_left', isi_NoneType_bool, isi_NoneType_int, isi_NoneType_str, isi_NoneType_tuple, isi_NoneType_list, isi_NoneType_dict, isi_bool_bool, isi_bool_int, isi_bool_str, isi_bool_tuple, isi_bool_list, isi_bool_dict, isi_int_bool, isi_int_int, isi_int_str, isi_int_tuple, isi_int_list, isi_int_dict, isi_str_bool, isi_str_int, isi_str_str, isi_str_tuple, isi_str_list, isi_str_dict, isi_tuple_bool, isi_tuple_int, isi_tuple_str, isi_tuple_tuple, isi_tuple_list, isi_tuple_dict, isi_list_bool, isi_list_int, isi_list_str, isi_list_tuple, isi_list_list, isi_list_dict, isi_dict_bool, isi_dict_int, isi_dict_str, isi_dict_tuple, isi_dict_list, isi_dict_dict, rn_len_t]
    have form : (xs.length < 1 ∨ 6 < xs.length) → PV.str "form" = sigA (.tup xs) := fun hc => by
      unfold sigA
      simp only
      rw [if_pos hc]
    refine ⟨fun h1 => form (.inl (by simp at h1; omega)), fun h1 => ⟨fun h2 => form (.inr (by simp at h2; omega)), fun h2 => ?_⟩⟩
    have l1 : 1 ≤ xs.length := by simp at h1; omega
    have l2 : xs.length ≤ 6 := by simp at h2; omega
    have eA : sigA (.tup xs) = sigW 0 xs (if xs.any isZ = true then .non else .str "plain") := by
      unfold sigA
      simp only
      rw [if_neg (by omega)]
    rw [eA]
    generalize hz : (if xs.any isZ = true then PV.non else PV.str "plain") = z
    refine for_rn (enuL xs) (fun i e S2 => S2 = S ∧ (∃ x1 x2, e = [some (.tup xs), x1, x2]) ∧ sigW 0 xs z = sigW i (xs.drop i) z ∧ ∀ j y, j < i → xs[j]? = some y → wB y = true) ?_ (fun i x e S2 hx ⟨hS, ⟨x1, x2, he⟩, hE, hA⟩ => ?_) (fun e S2 ⟨hS, ⟨x1, x2, he⟩, hE, hA⟩ => ?_)
    · simp only [rn_var, rn_c, rn_op, rn_un, rn_dE, rn_ch, rn_dAnd, rn_dOr, rn_dNot, rn_dYes, rn_and, rn_or, rn_not, rn_if, rn_aNil, rn_aCons, rn_A, rn_mkT, rn_mkL, rn_oNon, rn_asI, rn_oSm, rn_sl, rn_M, rn_isi, rn_lrev, rn_add_i, rn_add_t, rn_sub_i, rn_mul_i, rn_fdiv_i, rn_mod_i, rn_pow_i, rn_lt_i, rn_le_i, rn_gt_i, rn_ge_i, rn_neg_i, rn_eq_i, rn_ne_i, rn_eq_b, rn_eq_s, rn_is, rn_isnot, rn_sl_t, kN_nx, kN_rt, kN_bk, kN_ct, rs_nil, rs_cons, rs_brk, rs_cnt, rs_ex, rs_ret, rs_retN, rs_if, rs_set, rs_par, rs_par3, rs_asg, rs_sub, rn_int_i, rn_abs_i, rn_asB, rn_iSeq, rn_iRng1, rn_iEnu, rn_iZp, rn_iRng2, rn_iRng3, rn_iRv, rn_dic0, rn_dic1, rn_max2, rn_MT, ex_tup, rn_revS, isTy_str, List.getElem?_cons_zero, List.getElem?_cons_succ, List.set_cons_succ, List.set_cons_zero, List.length_cons, List.length_nil, Nat.reduceAdd, Nat.zero_add, reduceIte, Nat.reduceLeDiff, true_and, List.cons_append, List.nil_append]
      exact ⟨_, _, rfl, rfl, ⟨⟨none, none, rfl⟩, rfl, fun j y hj => absurd hj (by omega)⟩, fun i e S2 _ => wE_at rfl⟩
    · obtain ⟨row, hrow, rfl⟩ := enu_get hx
      subst hS he
      refine ⟨[(1, .int i), (2, row)], rfl, ?_⟩
      show Rs (sIf _ _ _ [some (.tup xs), some (.int i), some row] S2) _
      rw [sigW_at hrow] at hE
      have bad : wB row = false → PV.tup [.str "arity", .int (i : Nat)] = sigW 0 xs z := fun hw => by
        rw [if_neg (by rw [hw]; decide)] at hE
        exact hE.symm
      have good : wB row = true → (∃ y1 y2, [some (.tup xs), some (.int i), some row] = [some (PV.tup xs), y1, y2]) ∧ sigW 0 xs z = sigW (i + 1) (xs.drop (i + 1)) z ∧ ∀ j y, j < i + 1 → xs[j]? = some y → wB y = true := fun hw => by
        rw [if_pos hw] at hE
        refine ⟨⟨_, _, rfl⟩, hE, fun j y hj hyj => ?_⟩
        rcases Nat.lt_or_ge j i with c | c
        · exact hA j y c hyj
        · have : j = i := by omega
          subst this
          rw [hrow] at hyj
          cases hyj
          exact hw
      rcases (hy row (List.mem_of_getElem? hrow)).cases with rfl | ⟨v, rfl⟩ | ⟨k, rfl⟩ | ⟨z, rfl⟩ | ⟨es, rfl⟩ | ⟨ht, ⟨n, rfl⟩ | ⟨n, rfl⟩⟩ | ⟨ht, n, rfl⟩
      · simp only [rn_var, rn_c, rn_op, rn_un, rn_dE, rn_ch, rn_dAnd, rn_dOr, rn_dNot, rn_dYes, rn_and, rn_or, rn_not, rn_if, rn_aNil, rn_aCons, rn_A, rn_mkT, rn_mkL, rn_oNon, rn_asI, rn_oSm, rn_sl, rn_M, rn_isi, rn_lrev, rn_add_i, rn_add_t, rn_sub_i, rn_mul_i, rn_fdiv_i, rn_mod_i, rn_pow_i, rn_lt_i, rn_le_i, rn_gt_i, rn_ge_i, rn_neg_i, rn_eq_i, rn_ne_i, rn_eq_b, rn_eq_s, rn_is, rn_isnot, rn_sl_t, kN_nx, kN_rt, kN_bk, kN_ct, rs_nil, rs_cons, rs_brk, rs_cnt, rs_ex, rs_ret, rs_retN, rs_if, rs_set, rs_par, rs_par3, rs_asg, rs_sub, rn_int_i, rn_abs_i, rn_asB, rn_iSeq, rn_iRng1, rn_iEnu, rn_iZp, rn_iRng2, rn_iRng3, rn_iRv, rn_dic0, rn_dic1, rn_max2, rn_MT, ex_tup, rn_revS, isTy_str, List.getElem?_cons_zero, List.getElem?_cons_succ, List.set_cons_succ, List.set_cons_zero, List.length_cons, List.length_nil, Nat.reduceAdd, Nat.zero_add, reduceIte, Nat.reduceLeDiff, true_and, List.cons_append, List.nil_append, forall_const, true_implies, false_implies, reduceCtorEq, Bool.true_eq_false, Bool.false_eq_true, decide_true, beq_self_eq_true, Bool.not_true, Bool.not_false, and_true, ty_non, ty_bl, ty_int, ty_str, ty_tup, ty_fl, Option.some.injEq, exists_eq_left', isi_NoneType_bool, isi_NoneType_int, isi_NoneType_str, isi_NoneType_tuple, isi_NoneType_list, isi_NoneType_dict, isi_bool_bool, isi_bool_int, isi_bool_str, isi_bool_tuple, isi_bool_list, isi_bool_dict, isi_int_bool, isi_int_int, isi_int_str, isi_int_tuple, isi_int_list, isi_int_dict, isi_str_bool, isi_str_int, isi_str_str, isi_str_tuple, isi_str_list, isi_str_dict, isi_tuple_bool, isi_tuple_int, isi_tuple_str, isi_tuple_tuple, isi_tuple_list, isi_tuple_dict, isi_list_bool, isi_list_int, isi_list_str, isi_list_tuple, isi_list_list, isi_list_dict, isi_dict_bool, isi_dict_int, isi_dict_str, isi_dict_tuple, isi_dict_list, isi_dict_dict]; exact bad rfl
      · simp only [rn_var, rn_c, rn_op, rn_un, rn_dE, rn_ch, rn_dAnd, rn_dOr, rn_dNot, rn_dYes, rn_and, rn_or, rn_not, rn_if, rn_aNil, rn_aCons, rn_A, rn_mkT, rn_mkL, rn_oNon, rn_asI, rn_oSm, rn_sl, rn_M, rn_isi, rn_lrev, rn_add_i, rn_add_t, rn_sub_i, rn_mul_i, rn_fdiv_i, rn_mod_i, rn_pow_i, rn_lt_i, rn_le_i, rn_gt_i, rn_ge_i, rn_neg_i, rn_eq_i, rn_ne_i, rn_eq_b, rn_eq_s, rn_is, rn_isnot, rn_sl_t, kN_nx, kN_rt, kN_bk, kN_ct, rs_nil, rs_cons, rs_brk, rs_cnt, rs_ex, rs_ret, rs_retN, rs_if, rs_set, rs_par, rs_par3, rs_asg, rs_sub, rn_int_i, rn_abs_i, rn_asB, rn_iSeq, rn_iRng1, rn_iEnu, rn_iZp, rn_iRng2, rn_iRng3, rn_iRv, rn_dic0, rn_dic1, rn_max2, rn_MT, ex_tup, rn_revS, isTy_str, List.getElem?_cons_zero, List.getElem?_cons_succ, List.set_cons_succ, List.set_cons_zero, List.length_cons, List.length_nil, Nat.reduceAdd, Nat.zero_add, reduceIte, Nat.reduceLeDiff, true_and, List.cons_append, List.nil_append, forall_const, true_implies, false_implies, reduceCtorEq, Bool.true_eq_false, Bool.false_eq_true, decide_true, beq_self_eq_true, Bool.not_true, Bool.not_false, and_true, ty_non, ty_bl, ty_int, ty_str, ty_tup, ty_fl, Option.some.injEq, exists_eq_left', isi_NoneType_bool, isi_NoneType_int, isi_NoneType_str, isi_NoneType_tuple, isi_NoneType_list, isi_NoneType_dict, isi_bool_bool, isi_bool_int, isi_bool_str, isi_bool_tuple, isi_bool_list, isi_bool_dict, isi_int_bool, isi_int_int, isi_int_str, isi_int_tuple, isi_int_list, isi_int_dict, isi_str_bool, isi_str_int, isi_str_str, isi_str_tuple, isi_str_list, isi_str_dict, isi_tuple_bool, isi_tuple_int, isi_tuple_str, isi_tuple_tuple, isi_tuple_list, isi_tuple_dict, isi_list_bool, isi_list_int, isi_list_str, isi_list_tuple, isi_list_list, isi_list_dict, isi_dict_bool, isi_dict_int, isi_dict_str, isi_dict_tuple, isi_dict_list, isi_dict_dict]; exact bad rfl
      · simp only [rn_var, rn_c, rn_op, rn_un, rn_dE, rn_ch, rn_dAnd, rn_dOr, rn_dNot, rn_dYes, rn_and, rn_or, rn_not, rn_if, rn_aNil, rn_aCons, rn_A, rn_mkT, rn_mkL, rn_oNon, rn_asI, rn_oSm, rn_sl, rn_M, rn_isi, rn_lrev, rn_add_i, rn_add_t, rn_sub_i, rn_mul_i, rn_fdiv_i, rn_mod_i, rn_pow_i, rn_lt_i, rn_le_i, rn_gt_i, rn_ge_i, rn_neg_i, rn_eq_i, rn_ne_i, rn_eq_b, rn_eq_s, rn_is, rn_isnot, rn_sl_t, kN_nx, kN_rt, kN_bk, kN_ct, rs_nil, rs_cons, rs_brk, rs_cnt, rs_ex, rs_ret, rs_retN, rs_if, rs_set, rs_par, rs_par3, rs_asg, rs_sub, rn_int_i, rn_abs_i, rn_asB, rn_iSeq, rn_iRng1, rn_iEnu, rn_iZp, rn_iRng2, rn_iRng3, rn_iRv, rn_dic0, rn_dic1, rn_max2, rn_MT, ex_tup, rn_revS, isTy_str, List.getElem?_cons_zero, List.getElem?_cons_succ, List.set_cons_succ, List.set_cons_zero, List.length_cons, List.length_nil, Nat.reduceAdd, Nat.zero_add, reduceIte, Nat.reduceLeDiff, true_and, List.cons_append, List.nil_append, forall_const, true_implies, false_implies, reduceCtorEq, Bool.true_eq_false, Bool.false_eq_true, decide_true, beq_self_eq_true, Bool.not_true, Bool.not_false, and_true, ty_non, ty_bl, ty_int, ty_str, ty_tup, ty_fl, Option.some.injEq, exists_eq_left', isi_NoneType_bool, isi_NoneType_int, isi_NoneType_str, isi_NoneType_tuple, isi_NoneType_list, isi_NoneType_dict, isi_bool_bool, isi_bool_int, isi_bool_str, isi_bool_tuple, isi_bool_list, isi_bool_dict, isi_int_bool, isi_int_int, isi_int_str, isi_int_tuple, isi_int_list, isi_int_dict, isi_str_bool, isi_str_int, isi_str_str, isi_str_tuple, isi_str_list, isi_str_dict, isi_tuple_bool, isi_tuple_int, isi_tuple_str, isi_tuple_tuple, isi_tuple_list, isi_tuple_dict, isi_list_bool, isi_list_int, isi_list_str, isi_list_tuple, isi_list_list, isi_list_dict, isi_dict_bool, isi_dict_int, isi_dict_str, isi_dict_tuple, isi_dict_list, isi_dict_dict]
        refine ⟨fun h1 => bad ?_, fun h1 => ⟨fun h2 => bad ?_, fun h2 => good ?_⟩⟩
        · have := of_decide_eq_true h1
          simp [wB]; omega
        · have := of_decide_eq_true h2
          simp [wB]; omega
        · have := of_decide_eq_false h1
          have := of_decide_eq_false h2
          simp [wB]; omega
      · simp only [rn_var, rn_c, rn_op, rn_un, rn_dE, rn_ch, rn_dAnd, rn_dOr, rn_dNot, rn_dYes, rn_and, rn_or, rn_not, rn_if, rn_aNil, rn_aCons, rn_A, rn_mkT, rn_mkL, rn_oNon, rn_asI, rn_oSm, rn_sl, rn_M, rn_isi, rn_lrev, rn_add_i, rn_add_t, rn_sub_i, rn_mul_i, rn_fdiv_i, rn_mod_i, rn_pow_i, rn_lt_i, rn_le_i, rn_gt_i, rn_ge_i, rn_neg_i, rn_eq_i, rn_ne_i, rn_eq_b, rn_eq_s, rn_is, rn_isnot, rn_sl_t, kN_nx, kN_rt, kN_bk, kN_ct, rs_nil, rs_cons, rs_brk, rs_cnt, rs_ex, rs_ret, rs_retN, rs_if, rs_set, rs_par, rs_par3, rs_asg, rs_sub, rn_int_i, rn_abs_i, rn_asB, rn_iSeq, rn_iRng1, rn_iEnu, rn_iZp, rn_iRng2, rn_iRng3, rn_iRv, rn_dic0, rn_dic1, rn_max2, rn_MT, ex_tup, rn_revS, isTy_str, List.getElem?_cons_zero, List.getElem?_cons_succ, List.set_cons_succ, List.set_cons_zero, List.length_cons, List.length_nil, Nat.reduceAdd, Nat.zero_add, reduceIte, Nat.reduceLeDiff, true_and, List.cons_append, List.nil_append, forall_const, true_implies, false_implies, reduceCtorEq, Bool.true_eq_false, Bool.false_eq_true, decide_true, beq_self_eq_true, Bool.not_true, Bool.not_false, and_true, ty_non, ty_bl, ty_int, ty_str, ty_tup, ty_fl, Option.some.injEq, exists_eq_left', isi_NoneType_bool, isi_NoneType_int, isi_NoneType_str, isi_NoneType_tuple, isi_NoneType_list, isi_NoneType_dict, isi_bool_bool, isi_bool_int, isi_bool_str, isi_bool_tuple, isi_bool_list, isi_bool_dict, isi_int_bool, isi_int_int, isi_int_str, isi_int_tuple, isi_int_list, isi_int_dict, isi_str_bool, isi_str_int, isi_str_str, isi_str_tuple, isi_str_list, isi_str_dict, isi_tuple_bool, isi_tuple_int, isi_tuple_str, isi_tuple_tuple, isi_tuple_list, isi_tuple_dict, isi_list_bool, isi_list_int, isi_list_str, isi_list_tuple, isi_list_list, isi_list_dict, isi_dict_bool, isi_dict_int, isi_dict_str, isi_dict_tuple, isi_dict_list, isi_dict_dict]; exact bad rfl
      · simp only [rn_var, rn_c, rn_op, rn_un, rn_dE, rn_ch, rn_dAnd, rn_dOr, rn_dNot, rn_dYes, rn_and, rn_or, rn_not, rn_if, rn_aNil, rn_aCons, rn_A, rn_mkT, rn_mkL, rn_oNon, rn_asI, rn_oSm, rn_sl, rn_M, rn_isi, rn_lrev, rn_add_i, rn_add_t, rn_sub_i, rn_mul_i, rn_fdiv_i, rn_mod_i, rn_pow_i, rn_lt_i, rn_le_i, rn_gt_i, rn_ge_i, rn_neg_i, rn_eq_i, rn_ne_i, rn_eq_b, rn_eq_s, rn_is, rn_isnot, rn_sl_t, kN_nx, kN_rt, kN_bk, kN_ct, rs_nil, rs_cons, rs_brk, rs_cnt, rs_ex, rs_ret, rs_retN, rs_if, rs_set, rs_par, rs_par3, rs_asg, rs_sub, rn_int_i, rn_abs_i, rn_asB, rn_iSeq, rn_iRng1, rn_iEnu, rn_iZp, rn_iRng2, rn_iRng3, rn_iRv, rn_dic0, rn_dic1, rn_max2, rn_MT, ex_tup, rn_revS, isTy_str, List.getElem?_cons_zero, List.getElem?_cons_succ, List.set_cons_succ, List.set_cons_zero, List.length_cons, List.length_nil, Nat.reduceAdd, Nat.zero_add, reduceIte, Nat.reduceLeDiff, true_and, List.cons_append, List.nil_append, forall_const, true_implies, false_implies, reduceCtorEq, Bool.true_eq_false, Bool.false_eq_true, decide_true, beq_self_eq_true, Bool.not_true, Bool.not_false, and_true, ty_non, ty_bl, ty_int, ty_str, ty_tup, ty_fl, Option.some.injEq, exists_eq_left', isi_NoneType_bool, isi_NoneType_int, isi_NoneType_str, isi_NoneType_tuple, isi_NoneType_list, isi_NoneType_dict, isi_bool_bool, isi_bool_int, isi_bool_str, isi_bool_tuple, isi_bool_list, isi_bool_dict, isi_int_bool, isi_int_int, isi_int_str, isi_int_tuple, isi_int_list, isi_int_dict, isi_str_bool, isi_str_int, isi_str_str, isi_str_tuple, isi_str_list, isi_str_dict, isi_tuple_bool, isi_tuple_int, isi_tuple_str, isi_tuple_tuple, isi_tuple_list, isi_tuple_dict, isi_list_bool, isi_list_int, isi_list_str, isi_list_tuple, isi_list_list, isi_list_dict, isi_dict_bool, isi_dict_int, isi_dict_str, isi_dict_tuple, isi_dict_list, isi_dict_dict]; exact bad rfl
      · simp only [rn_var, rn_c, rn_op, rn_un, rn_dE, rn_ch, rn_dAnd, rn_dOr, rn_dNot, rn_dYes, rn_and, rn_or, rn_not, rn_if, rn_aNil, rn_aCons, rn_A, rn_mkT, rn_mkL, rn_oNon, rn_asI, rn_oSm, rn_sl, rn_M, rn_isi, rn_lrev, rn_add_i, rn_add_t, rn_sub_i, rn_mul_i, rn_fdiv_i, rn_mod_i, rn_pow_i, rn_lt_i, rn_le_i, rn_gt_i, rn_ge_i, rn_neg_i, rn_eq_i, rn_ne_i, rn_eq_b, rn_eq_s, rn_is, rn_isnot, rn_sl_t, kN_nx, kN_rt, kN_bk, kN_ct, rs_nil, rs_cons, rs_brk, rs_cnt, rs_ex, rs_ret, rs_retN, rs_if, rs_set, rs_par, rs_par3, rs_asg, rs_sub, rn_int_i, rn_abs_i, rn_asB, rn_iSeq, rn_iRng1, rn_iEnu, rn_iZp, rn_iRng2, rn_iRng3, rn_iRv, rn_dic0, rn_dic1, rn_max2, rn_MT, ex_tup, rn_revS, isTy_str, List.getElem?_cons_zero, List.getElem?_cons_succ, List.set_cons_succ, List.set_cons_zero, List.length_cons, List.length_nil, Nat.reduceAdd, Nat.zero_add, reduceIte, Nat.reduceLeDiff, true_and, List.cons_append, List.nil_append, forall_const, true_implies, false_implies, reduceCtorEq, Bool.true_eq_false, Bool.false_eq_true, decide_true, beq_self_eq_true, Bool.not_true, Bool.not_false, and_true, ty_non, ty_bl, ty_int, ty_str, ty_tup, ty_fl, Option.some.injEq, exists_eq_left', isi_NoneType_bool, isi_NoneType_int, isi_NoneType_str, isi_NoneType_tuple, isi_NoneType_list, isi_NoneType_dict, isi_bool_bool, isi_bool_int, isi_bool_str, isi_bool_tuple, isi_bool_list, isi_bool_dict, isi_int_bool, isi_int_int, isi_int_str, isi_int_tuple, isi_int_list, isi_int_dict, isi_str_bool, isi_str_int, isi_str_str, isi_str_tuple, isi_str_list, isi_str_dict, isi_tuple_bool, isi_tuple_int, isi_tuple_str, isi_tuple_tuple, isi_tuple_list, isi_tuple_dict, isi_list_bool, isi_list_int, isi_list_str, isi_list_tuple, isi_list_list, isi_list_dict, isi_dict_bool, isi_dict_int, isi_dict_str, isi_dict_tuple, isi_dict_list, isi_dict_dict, ht]; exact bad rfl
      · simp only [rn_var, rn_c, rn_op, rn_un, rn_dE, rn_ch, rn_dAnd, rn_dOr, rn_dNot, rn_dYes, rn_and, rn_or, rn_not, rn_if, rn_aNil, rn_aCons, rn_A, rn_mkT, rn_mkL, rn_oNon, rn_asI, rn_oSm, rn_sl, rn_M, rn_isi, rn_lrev, rn_add_i, rn_add_t, rn_sub_i, rn_mul_i, rn_fdiv_i, rn_mod_i, rn_pow_i, rn_lt_i, rn_le_i, rn_gt_i, rn_ge_i, rn_neg_i, rn_eq_i, rn_ne_i, rn_eq_b, rn_eq_s, rn_is, rn_isnot, rn_sl_t, kN_nx, kN_rt, kN_bk, kN_ct, rs_nil, rs_cons, rs_brk, rs_cnt, rs_ex, rs_ret, rs_retN, rs_if, rs_set, rs_par, rs_par3, rs_asg, rs_sub, rn_int_i, rn_abs_i, rn_asB, rn_iSeq, rn_iRng1, rn_iEnu, rn_iZp, rn_iRng2, rn_iRng3, rn_iRv, rn_dic0, rn_dic1, rn_max2, rn_MT, ex_tup, rn_revS, isTy_str, List.getElem?_cons_zero, List.getElem?_cons_succ, List.set_cons_succ, List.set_cons_zero, List.length_cons, List.length_nil, Nat.reduceAdd, Nat.zero_add, reduceIte, Nat.reduceLeDiff, true_and, List.cons_append, List.nil_append, forall_const, true_implies, false_implies, reduceCtorEq, Bool.true_eq_false, Bool.false_eq_true, decide_true, beq_self_eq_true, Bool.not_true, Bool.not_false, and_true, ty_non, ty_bl, ty_int, ty_str, ty_tup, ty_fl, Option.some.injEq, exists_eq_left', isi_NoneType_bool, isi_NoneType_int, isi_NoneType_str, isi_NoneType_tuple, isi_NoneType_list, isi_NoneType_dict, isi_bool_bool, isi_bool_int, isi_bool_str, isi_bool_tuple, isi_bool_list, isi_bool_dict, isi_int_bool, isi_int_int, isi_int_str, isi_int_tuple, isi_int_list, isi_int_dict, isi_str_bool, isi_str_int, isi_str_str, isi_str_tuple, isi_str_list, isi_str_dict, isi_tuple_bool, isi_tuple_int, isi_tuple_str, isi_tuple_tuple, isi_tuple_list, isi_tuple_dict, isi_list_bool, isi_list_int, isi_list_str, isi_list_tuple, isi_list_list, isi_list_dict, isi_dict_bool, isi_dict_int, isi_dict_str, isi_dict_tuple, isi_dict_list, isi_dict_dict, ht]; exact bad rfl
      · simp only [rn_var, rn_c, rn_op, rn_un, rn_dE, rn_ch, rn_dAnd, rn_dOr, rn_dNot, rn_dYes, rn_and, rn_or, rn_not, rn_if, rn_aNil, rn_aCons, rn_A, rn_mkT, rn_mkL, rn_oNon, rn_asI, rn_oSm, rn_sl, rn_M, rn_isi, rn_lrev, rn_add_i, rn_add_t, rn_sub_i, rn_mul_i, rn_fdiv_i, rn_mod_i, rn_pow_i, rn_lt_i, rn_le_i, rn_gt_i, rn_ge_i, rn_neg_i, rn_eq_i, rn_ne_i, rn_eq_b, rn_eq_s, rn_is, rn_isnot, rn_sl_t, kN_nx, kN_rt, kN_bk, kN_ct, rs_nil, rs_cons, rs_brk, rs_cnt, rs_ex, rs_ret, rs_retN, rs_if, rs_set, rs_par, rs_par3, rs_asg, rs_sub, rn_int_i, rn_abs_i, rn_asB, rn_iSeq, rn_iRng1, rn_iEnu, rn_iZp, rn_iRng2, rn_iRng3, rn_iRv, rn_dic0, rn_dic1, rn_max2, rn_MT, ex_tup, rn_revS, isTy_str, List.getElem?_cons_zero, List.getElem?_cons_succ, List.set_cons_succ, List.set_cons_zero, List.length_cons, List.length_nil, Nat.reduceAdd, Nat.zero_add, reduceIte, Nat.reduceLeDiff, true_and, List.cons_append, List.nil_append, forall_const, true_implies, false_implies, reduceCtorEq, Bool.true_eq_false, Bool.false_eq_true, decide_true, beq_self_eq_true, Bool.not_true, Bool.not_false, and_true, ty_non, ty_bl, ty_int, ty_str, ty_tup, ty_fl, Option.some.injEq, exists_eq_left', isi_NoneType_bool, isi_NoneType_int, isi_NoneType_str, isi_NoneType_tuple, isi_NoneType_list, isi_NoneType_dict, isi_bool_bool, isi_bool_int, isi_bool_str, isi_bool_tuple, isi_bool_list, isi_bool_dict, isi_int_bool, isi_int_int, isi_int_str, isi_int_tuple, isi_int_list, isi_int_dict, isi_str_bool, isi_str_int, isi_str_str, isi_str_tuple, isi_str_list, isi_str_dict, isi_tuple_bool, isi_tuple_int, isi_tuple_str, isi_tuple_tuple, isi_tuple_list, isi_tuple_dict, isi_list_bool, isi_list_int, isi_list_str, isi_list_tuple, isi_list_list, isi_list_dict, isi_dict_bool, isi_dict_int, isi_dict_str, isi_dict_tuple, isi_dict_list, isi_dict_dict, ht]; exact bad rfl
    · subst hS he
      rw [enu_len] at hE hA
      obtain ⟨ns, e, hn⟩ := wB_ints (xs := xs) fun x hx => by
        obtain ⟨j, hj⟩ := List.mem_iff_getElem?.mp hx
        exact hA j x (lt_of_get hj) hj
      subst e
      rw [any_isZ] at hz
      cases ns with
      | nil => simp at l1
      | cons a r =>
        have hf := fmin_zero r a (hn a List.mem_cons_self).1 fun n h => (hn n (List.mem_cons_of_mem _ h)).1
        simp only [rn_var, rn_c, rn_op, rn_un, rn_dE, rn_ch, rn_dAnd, rn_dOr, rn_dNot, rn_dYes, rn_and, rn_or, rn_not, rn_if, rn_aNil, rn_aCons, rn_A, rn_mkT, rn_mkL, rn_oNon, rn_asI, rn_oSm, rn_sl, rn_M, rn_isi, rn_lrev, rn_add_i, rn_add_t, rn_sub_i, rn_mul_i, rn_fdiv_i, rn_mod_i, rn_pow_i, rn_lt_i, rn_le_i, rn_gt_i, rn_ge_i, rn_neg_i, rn_eq_i, rn_ne_i, rn_eq_b, rn_eq_s, rn_is, rn_isnot, rn_sl_t, kN_nx, kN_rt, kN_bk, kN_ct, rs_nil, rs_cons, rs_brk, rs_cnt, rs_ex, rs_ret, rs_retN, rs_if, rs_set, rs_par, rs_par3, rs_asg, rs_sub, rn_int_i, rn_abs_i, rn_asB, rn_iSeq, rn_iRng1, rn_iEnu, rn_iZp, rn_iRng2, rn_iRng3, rn_iRv, rn_dic0, rn_dic1, rn_max2, rn_MT, ex_tup, rn_revS, isTy_str, List.getElem?_cons_zero, List.getElem?_cons_succ, List.set_cons_succ, List.set_cons_zero, List.length_cons, List.length_nil, Nat.reduceAdd, Nat.zero_add, reduceIte, Nat.reduceLeDiff, true_and, List.cons_append, List.nil_append, forall_const, true_implies, false_implies, reduceCtorEq, Bool.true_eq_false, Bool.false_eq_true, decide_true, beq_self_eq_true, Bool.not_true, Bool.not_false, and_true, ty_non, ty_bl, ty_int, ty_str, ty_tup, ty_fl, Option.some.injEq, exists_eq_left', isi_NoneType_bool, isi_NoneType_int, isi_NoneType_str, isi_NoneType_tuple, isi_NoneType_list, isi_NoneType_dict, isi_bool_bool, isi_bool_int, isi_bool_str, isi_bool_tuple, isi_bool_list, isi_bool_dict, isi_int_bool, isi_int_int, isi_int_str, isi_int_tuple, isi_int_list, isi_int_dict, isi_str_bool, isi_str_int, isi_str_str, isi_str_tuple, isi_str_list, isi_str_dict, isi_tuple_bool, isi_tuple_int, isi_tuple_str, isi_tuple_tuple, isi_tuple_list, isi_tuple_dict, isi_list_bool, isi_list_int, isi_list_str, isi_list_tuple, isi_list_list, isi_list_dict, isi_dict_bool, isi_dict_int, isi_dict_str, isi_dict_tuple, isi_dict_list, isi_dict_dict, rn_min_t]
        rw [hE, List.drop_length]
        subst hz
        unfold sigW
        by_cases c : (0 : Int) ∈ a :: r
        · have := hf.mpr c
          simp [this, c]
        · have : ¬ r.foldl min a = 0 := fun h => c (hf.mp h)
          simp [this, c]
  · simp only [rn_var, rn_c, rn_op, rn_un, rn_dE, rn_ch, rn_dAnd, rn_dOr, rn_dNot, rn_dYes, rn_and, rn_or, rn_not, rn_if, rn_aNil, rn_aCons, rn_A, rn_mkT, rn_mkL, rn_oNon, rn_asI, rn_oSm, rn_sl, rn_M, rn_isi, rn_lrev, rn_add_i, rn_add_t, rn_sub_i, rn_mul_i, rn_fdiv_i, rn_mod_i, rn_pow_i, rn_lt_i, rn_le_i, rn_gt_i, rn_ge_i, rn_neg_i, rn_eq_i, rn_ne_i, rn_eq_b, rn_eq_s, rn_is, rn_isnot, rn_sl_t, kN_nx, kN_rt, kN_bk, kN_ct, rs_nil, rs_cons, rs_brk, rs_cnt, rs_ex, rs_ret, rs_retN, rs_if, rs_set, rs_par, rs_par3, rs_asg, rs_sub, rn_int_i, rn_abs_i, rn_asB, rn_iSeq, rn_iRng1, rn_iEnu, rn_iZp, rn_iRng2, rn_iRng3, rn_iRv, rn_dic0, rn_dic1, rn_max2, rn_MT, ex_tup, rn_revS, isTy_str, List.getElem?_cons_zero, List.getElem?_cons_succ, List.set_cons_succ, List.set_cons_zero, List.length_cons, List.length_nil, Nat.reduceAdd, Nat.zero_add, reduceIte, Nat.reduceLeDiff, true_and, List.cons_append, List.nil_append, forall_const, true_implies, false_implies, reduceCtorEq, Bool.true_eq_false, Bool.false_eq_true, decide_true, beq_self_eq_true, Bool.not_true, Bool.not_false, and_true, ty_non, ty_bl, ty_int, ty_str, ty_tup, ty_fl, Option.some.injEq, exists_eq_left', isi_NoneType_bool, isi_NoneType_int, isi_NoneType_str, isi_NoneType_tuple, isi_NoneType_list, isi_NoneType_dict, isi_bool_bool, isi_bool_int, isi_bool_str, isi_bool_tuple, isi_bool_list, isi_bool_dict, isi_int_bool, isi_int_int, isi_int_str, isi_int_tuple, isi_int_list, isi_int_dict, isi_str_bool, isi_str_int, isi_str_str, isi_str_tuple, isi_str_list, isi_str_dict, isi_tuple_bool, isi_tuple_int, isi_tuple_str, isi_tuple_tuple, isi_tuple_list, isi_tuple_dict, isi_list_bool, isi_list_int, isi_list_str, isi_list_tuple, isi_list_list, isi_list_dict, isi_dict_bool, isi_dict_int, isi_dict_str, isi_dict_tuple, isi_dict_list, isi_dict_dict, ht]; exact rfl
  · simp only [rn_var, rn_c, rn_op, rn_un, rn_dE, rn_ch, rn_dAnd, rn_dOr, rn_dNot, rn_dYes, rn_and, rn_or, rn_not, rn_if, rn_aNil, rn_aCons, rn_A, rn_mkT, rn_mkL, rn_oNon, rn_asI, rn_oSm, rn_sl, rn_M, rn_isi, rn_lrev, rn_add_i, rn_add_t, rn_sub_i, rn_mul_i, rn_fdiv_i, rn_mod_i, rn_pow_i, rn_lt_i, rn_le_i, rn_gt_i, rn_ge_i, rn_neg_i, rn_eq_i, rn_ne_i, rn_eq_b, rn_eq_s, rn_is, rn_isnot, rn_sl_t, kN_nx, kN_rt, kN_bk, kN_ct, rs_nil, rs_cons, rs_brk, rs_cnt, rs_ex, rs_ret, rs_retN, rs_if, rs_set, rs_par, rs_par3, rs_asg, rs_sub, rn_int_i, rn_abs_i, rn_asB, rn_iSeq, rn_iRng1, rn_iEnu, rn_iZp, rn_iRng2, rn_iRng3, rn_iRv, rn_dic0, rn_dic1, rn_max2, rn_MT, ex_tup, rn_revS, isTy_str, List.getElem?_cons_zero, List.getElem?_cons_succ, List.set_cons_succ, List.set_cons_zero, List.length_cons, List.length_nil, Nat.reduceAdd, Nat.zero_add, reduceIte, Nat.reduceLeDiff, true_and, List.cons_append, List.nil_append, forall_const, true_implies, false_implies, reduceCtorEq, Bool.true_eq_false, Bool.false_eq_true, decide_true, beq_self_eq_true, Bool.not_true, Bool.not_false, and_true, ty_non, ty_bl, ty_int, ty_str, ty_tup, ty_fl, Option.some.injEq, exists_eq_left', isi_NoneType_bool, isi_NoneType_int, isi_NoneType_str, isi_NoneType_tuple, isi_NoneType_list, isi_NoneType_dict, isi_bool_bool, isi_bool_int, isi_bool_str, isi_bool_tuple, isi_bool_list, isi_bool_dict, isi_int_bool, isi_int_int, isi_int_str, isi_int_tuple, isi_int_list, isi_int_dict, isi_str_bool, isi_str_int, isi_str_str, isi_str_tuple, isi_str_list, isi_str_dict, isi_tuple_bool, isi_tuple_int, isi_tuple_str, isi_tuple_tuple, isi_tuple_list, isi_tuple_dict, isi_list_bool, isi_list_int, isi_list_str, isi_list_tuple, isi_list_list, isi_list_dict, isi_dict_bool, isi_dict_int, isi_dict_str, isi_dict_tuple, isi_dict_list, isi_dict_dict, ht]; exact rfl
  · simp only [rn_var, rn_c, rn_op, rn_un, rn_dE, rn_ch, rn_dAnd, rn_dOr, rn_dNot, rn_dYes, rn_and, rn_or, rn_not, rn_if, rn_aNil, rn_aCons, rn_A, rn_mkT, rn_mkL, rn_oNon, rn_asI, rn_oSm, rn_sl, rn_M, rn_isi, rn_lrev, rn_add_i, rn_add_t, rn_sub_i, rn_mul_i, rn_fdiv_i, rn_mod_i, rn_pow_i, rn_lt_i, rn_le_i, rn_gt_i, rn_ge_i, rn_neg_i, rn_eq_i, rn_ne_i, rn_eq_b, rn_eq_s, rn_is, rn_isnot, rn_sl_t, kN_nx, kN_rt, kN_bk, kN_ct, rs_nil, rs_cons, rs_brk, rs_cnt, rs_ex, rs_ret, rs_retN, rs_if, rs_set, rs_par, rs_par3, rs_asg, rs_sub, rn_int_i, rn_abs_i, rn_asB, rn_iSeq, rn_iRng1, rn_iEnu, rn_iZp, rn_iRng2, rn_iRng3, rn_iRv, rn_dic0, rn_dic1, rn_max2, rn_MT, ex_tup, rn_revS, isTy_str, List.getElem?_cons_zero, List.getElem?_cons_succ, List.set_cons_succ, List.set_cons_zero, List.length_cons, List.length_nil, Nat.reduceAdd, Nat.zero_add, reduceIte, Nat.reduceLeDiff, true_and, List.cons_append, List.nil_append, forall_const, true_implies, false_implies, reduceCtorEq, Bool.true_eq_false, Bool.false_eq_true, decide_true, beq_self_eq_true, Bool.not_true, Bool.not_false, and_true, ty_non, ty_bl, ty_int, ty_str, ty_tup, ty_fl, Option.some.injEq, exists_eq_left', isi_NoneType_bool, isi_NoneType_int, isi_NoneType_str, isi_NoneType_tuple, isi_NoneType_list, isi_NoneType_dict, isi_bool_bool, isi_bool_int, isi_bool_str, isi_bool_tuple, isi_bool_list, isi_bool_dict, isi_int_bool, isi_int_int, isi_int_str, isi_int_tuple, isi_int_list, isi_int_dict, isi_str_bool, isi_str_int, isi_str_str, isi_str_tuple, isi_str_list, isi_str_dict, isi_tuple_bool, isi_tuple_int, isi_tuple_str, isi_tuple_tuple, isi_tuple_list, isi_tuple_dict, isi_list_bool, isi_list_int, isi_list_str, isi_list_tuple, isi_list_list, isi_list_dict, isi_dict_bool, isi_dict_int, isi_dict_str, isi_dict_tuple, isi_dict_list, isi_dict_dict, ht]; exact rfl
/-! _law_is_same: a due word is the same as itself -/
def Dd : Nat → PV → Prop
  | 0, x => x = .non ∨ (∃ z, x = .str z) ∨ ∃ i, x = .int i
  | d + 1, x => (x = .non ∨ (∃ z, x = .str z) ∨ ∃ i, x = .int i) ∨ ∃ xs, x = .tup xs ∧ xs.length ≤ 60 ∧ ∀ y ∈ xs, Dd d y
theorem zip_self (xs : List PV) : zipL xs xs = xs.map fun x => PV.pr x x := by
  unfold zipL
  induction xs with
  | nil => rfl
  | cons x r ih => rw [List.zipWith_cons_cons, ih, List.map_cons]
theorem same_base {n : Nat} {x : PV} {S : Sto} (h : x = .non ∨ (∃ z, x = .str z) ∨ ∃ i, x = .int i) : Rn (f__law_is_same (n + 1) [x, x] S) fun r S' => r = .bl true ∧ ∃ T, S' = S ++ T := by
  unfold f__law_is_same
  rw [rn_runD]
  unfold b__law_is_same
  show Rs (sCons _ _ [some x, some x, none, none] S) _
  rcases h with rfl | ⟨z, rfl⟩ | ⟨i, rfl⟩
  · simp only [rn_var, rn_c, rn_op, rn_un, rn_dE, rn_ch, rn_dAnd, rn_dOr, rn_dNot, rn_dYes, rn_and, rn_or, rn_not, rn_if, rn_aNil, rn_aCons, rn_A, rn_mkT, rn_mkL, rn_oNon, rn_asI, rn_oSm, rn_sl, rn_M, rn_isi, rn_lrev, rn_add_i, rn_add_t, rn_sub_i, rn_mul_i, rn_fdiv_i, rn_mod_i, rn_pow_i, rn_lt_i, rn_le_i, rn_gt_i, rn_ge_i, rn_neg_i, rn_eq_i, rn_ne_i, rn_eq_b, rn_eq_s, rn_is, rn_isnot, rn_sl_t, kN_nx, kN_rt, kN_bk, kN_ct, rs_nil, rs_cons, rs_brk, rs_cnt, rs_ex, rs_ret, rs_retN, rs_if, rs_set, rs_par, rs_par3, rs_asg, rs_sub, rn_int_i, rn_abs_i, rn_asB, rn_iSeq, rn_iRng1, rn_iEnu, rn_iZp, rn_iRng2, rn_iRng3, rn_iRv, rn_dic0, rn_dic1, rn_max2, rn_MT, ex_tup, rn_revS, isTy_str, List.getElem?_cons_zero, List.getElem?_cons_succ, List.set_cons_succ, List.set_cons_zero, List.length_cons, List.length_nil, Nat.reduceAdd, Nat.zero_add, reduceIte, Nat.reduceLeDiff, true_and, List.cons_append, List.nil_append, forall_const, true_implies, false_implies, reduceCtorEq, Bool.true_eq_false, Bool.false_eq_true, decide_true, beq_self_eq_true, Bool.not_true, Bool.not_false, and_true, ty_non, ty_bl, ty_int, ty_str, ty_tup, ty_fl, Option.some.injEq, exists_eq_left', isi_NoneType_bool, isi_NoneType_int, isi_NoneType_str, isi_NoneType_tuple, isi_NoneType_list, isi_NoneType_dict, isi_bool_bool, isi_bool_int, isi_bool_str, isi_bool_tuple, isi_bool_list, isi_bool_dict, isi_int_bool, isi_int_int, isi_int_str, isi_int_tuple, isi_int_list, isi_int_dict, isi_str_bool, isi_str_int, isi_str_str, isi_str_tuple, isi_str_list, isi_str_dict, isi_tuple_bool, isi_tuple_int, isi_tuple_str, isi_tuple_tuple, isi_tuple_list, isi_tuple_dict, isi_list_bool, isi_list_int, isi_list_str, isi_list_tuple, isi_list_list, isi_list_dict, isi_dict_bool, isi_dict_int, isi_dict_str, isi_dict_tuple, isi_dict_list, isi_dict_dict, isN]; exact ⟨[], by simp⟩
  · simp only [rn_var, rn_c, rn_op, rn_un, rn_dE, rn_ch, rn_dAnd, rn_dOr, rn_dNot, rn_dYes, rn_and, rn_or, rn_not, rn_if, rn_aNil, rn_aCons, rn_A, rn_mkT, rn_mkL, rn_oNon, rn_asI, rn_oSm, rn_sl, rn_M, rn_isi, rn_lrev, rn_add_i, rn_add_t, rn_sub_i, rn_mul_i, rn_fdiv_i, rn_mod_i, rn_pow_i, rn_lt_i, rn_le_i, rn_gt_i, rn_ge_i, rn_neg_i, rn_eq_i, rn_ne_i, rn_eq_b, rn_eq_s, rn_is, rn_isnot, rn_sl_t, kN_nx, kN_rt, kN_bk, kN_ct, rs_nil, rs_cons, rs_brk, rs_cnt, rs_ex, rs_ret, rs_retN, rs_if, rs_set, rs_par, rs_par3, rs_asg, rs_sub, rn_int_i, rn_abs_i, rn_asB, rn_iSeq, rn_iRng1, rn_iEnu, rn_iZp, rn_iRng2, rn_iRng3, rn_iRv, rn_dic0, rn_dic1, rn_max2, rn_MT, ex_tup, rn_revS, isTy_str, List.getElem?_cons_zero, List.getElem?_cons_succ, List.set_cons_succ, List.set_cons_zero, List.length_cons, List.length_nil, Nat.reduceAdd, Nat.zero_add, reduceIte, Nat.reduceLeDiff, true_and, List.cons_append, List.nil_append, forall_const, true_implies, false_implies, reduceCtorEq, Bool.true_eq_false, Bool.false_eq_true, decide_true, beq_self_eq_true, Bool.not_true, Bool.not_false, and_true, ty_non, ty_bl, ty_int, ty_str, ty_tup, ty_fl, Option.some.injEq, exists_eq_left', isi_NoneType_bool, isi_NoneType_int, isi_NoneType_str, isi_NoneType_tuple, isi_NoneType_list, isi_NoneType_dict, isi_bool_bool, isi_bool_int, isi_bool_str, isi_bool_tuple, isi_bool_list, isi_bool_dict, isi_int_bool, isi_int_int, isi_int_str, isi_int_tuple, isi_int_list, isi_int_dict, isi_str_bool, isi_str_int, isi_str_str, isi_str_tuple, isi_str_list, isi_str_dict, isi_tuple_bool, isi_tuple_int, isi_tuple_str, isi_tuple_tuple, isi_tuple_list, isi_tuple_dict, isi_list_bool, isi_list_int, isi_list_str, isi_list_tuple, isi_list_list, isi_list_dict, isi_dict_bool, isi_dict_int, isi_dict_str, isi_dict_tuple, isi_dict_list, isi_dict_dict, isN]; exact ⟨[], by simp⟩
  · simp only [rn_var, rn_c, rn_op, rn_un, rn_dE, rn_ch, rn_dAnd, rn_dOr, rn_dNot, rn_dYes, rn_and, rn_or, rn_not, rn_if, rn_aNil, rn_aCons, rn_A, rn_mkT, rn_mkL, rn_oNon, rn_asI, rn_oSm, rn_sl, rn_M, rn_isi, rn_lrev, rn_add_i, rn_add_t, rn_sub_i, rn_mul_i, rn_fdiv_i, rn_mod_i, rn_pow_i, rn_lt_i, rn_le_i, rn_gt_i, rn_ge_i, rn_neg_i, rn_eq_i, rn_ne_i, rn_eq_b, rn_eq_s, rn_is, rn_isnot, rn_sl_t, kN_nx, kN_rt, kN_bk, kN_ct, rs_nil, rs_cons, rs_brk, rs_cnt, rs_ex, rs_ret, rs_retN, rs_if, rs_set, rs_par, rs_par3, rs_asg, rs_sub, rn_int_i, rn_abs_i, rn_asB, rn_iSeq, rn_iRng1, rn_iEnu, rn_iZp, rn_iRng2, rn_iRng3, rn_iRv, rn_dic0, rn_dic1, rn_max2, rn_MT, ex_tup, rn_revS, isTy_str, List.getElem?_cons_zero, List.getElem?_cons_succ, List.set_cons_succ, List.set_cons_zero, List.length_cons, List.length_nil, Nat.reduceAdd, Nat.zero_add, reduceIte, Nat.reduceLeDiff, true_and, List.cons_append, List.nil_append, forall_const, true_implies, false_implies, reduceCtorEq, Bool.true_eq_false, Bool.false_eq_true, decide_true, beq_self_eq_true, Bool.not_true, Bool.not_false, and_true, ty_non, ty_bl, ty_int, ty_str, ty_tup, ty_fl, Option.some.injEq, exists_eq_left', isi_NoneType_bool, isi_NoneType_int, isi_NoneType_str, isi_NoneType_tuple, isi_NoneType_list, isi_NoneType_dict, isi_bool_bool, isi_bool_int, isi_bool_str, isi_bool_tuple, isi_bool_list, isi_bool_dict, isi_int_bool, isi_int_int, isi_int_str, isi_int_tuple, isi_int_list, isi_int_dict, isi_str_bool, isi_str_int, isi_str_str, isi_str_tuple, isi_str_list, isi_str_dict, isi_tuple_bool, isi_tuple_int, isi_tuple_str, isi_tuple_tuple, isi_tuple_list, isi_tuple_dict, isi_list_bool, isi_list_int, isi_list_str, isi_list_tuple, isi_list_list, isi_list_dict, isi_dict_bool, isi_dict_int, isi_dict_str, isi_dict_tuple, isi_dict_list, isi_dict_dict, isN]; exact ⟨[], by simp⟩
theorem same_spec : ∀ (d n : Nat), d < n → ∀ (x : PV) (S : Sto), Dd d x → Rn (f__law_is_same n [x, x] S) fun r S' => r = .bl true ∧ ∃ T, S' = S ++ T := by
  intro d
  induction d with
  | zero =>
    intro n hn x S h
    obtain ⟨m, rfl⟩ : ∃ m, n = m + 1 := ⟨n - 1, by omega⟩
    exact same_base h
  | succ d ih =>
    intro n hn x S h
    obtain ⟨m, rfl⟩ : ∃ m, n = m + 1 := ⟨n - 1, by omega⟩
    rcases h with h | ⟨xs, rfl, hl, hxs⟩
    · exact same_base h
    unfold f__law_is_same
    rw [rn_runD]
    unfold b__law_is_same
    show Rs (sCons _ _ [some (.tup xs), some (.tup xs), none, none] S) _
    simp only [rn_var, rn_c, rn_op, rn_un, rn_dE, rn_ch, rn_dAnd, rn_dOr, rn_dNot, rn_dYes, rn_and, rn_or, rn_not, rn_if, rn_aNil, rn_aCons, rn_A, rn_mkT, rn_mkL, rn_oNon, rn_asI, rn_oSm, rn_sl, rn_M, rn_isi, rn_lrev, rn_add_i, rn_add_t, rn_sub_i, rn_mul_i, rn_fdiv_i, rn_mod_i, rn_pow_i, rn_lt_i, rn_le_i, rn_gt_i, rn_ge_i, rn_neg_i, rn_eq_i, rn_ne_i, rn_eq_b, rn_eq_s, rn_is, rn_isnot, rn_sl_t, kN_nx, kN_rt, kN_bk, kN_ct, rs_nil, rs_cons, rs_brk, rs_cnt, rs_ex, rs_ret, rs_retN, rs_if, rs_set, rs_par, rs_par3, rs_asg, rs_sub, rn_int_i, rn_abs_i, rn_asB, rn_iSeq, rn_iRng1, rn_iEnu, rn_iZp, rn_iRng2, rn_iRng3, rn_iRv, rn_dic0, rn_dic1, rn_max2, rn_MT, ex_tup, rn_revS, isTy_str, List.getElem?_cons_zero, List.getElem?_cons_succ, List.set_cons_succ, List.set_cons_zero, List.length_cons, List.length_nil, Nat.reduceAdd, Nat.zero_add, reduceIte, Nat.reduceLeDiff, true_and, List.cons_append, List.nil_append, forall_const, true_implies, false_implies, reduceCtorEq, Bool.true_eq_false, Bool.false_eq_true, decide_true, beq_self_eq_true, Bool.not_true, Bool.not_false, and_true, ty_non, ty_bl, ty_int, ty_str, ty_tup, ty_fl, Option.some.injEq, exists_eq_left', isi_NoneType_bool, isi_NoneType_int, isi_NoneType_str, isi_NoneType_tuple, isi_NoneType_list, isi_NoneType_dict, isi_bool_bool, isi_bool_int, isi_bool_str, isi_bool_tuple, isi_bool_list, isi_bool_dict, isi_int_bool, isi_int_int, isi_int_str, isi_int_tuple, isi_int_list, isi_int_dict, isi_str_bool, isi_str_int, isi_str_str, isi_str_tuple, isi_str_list, isi_str_dict, isi_tuple_bool, isi_tuple_int, isi_tuple_str, isi_tuple_tuple, isi_tuple_list, isi_tuple_dict, isi_list_bool, isi_list_int, isi_list_str, isi_list_tuple, isi_list_list, isi_list_dict, isi_dict_bool, isi_dict_int, isi_dict_str, isi_dict_tuple, isi_dict_list, isi_dict_dict, isN, rn_len_t, bne_self_eq_false]
    refine lc_map (xs.map fun x => PV.pr x x) (fun _ y => y = .bl true) (fun S2 => ∃ T, S2 = S ++ T) ?_ (by rw [List.length_map]; omega) (fun x hx S2 hS => ?_) (fun ys S2 hA hS => ?_)
    · simp only [rn_var, rn_c, rn_op, rn_un, rn_dE, rn_ch, rn_dAnd, rn_dOr, rn_dNot, rn_dYes, rn_and, rn_or, rn_not, rn_if, rn_aNil, rn_aCons, rn_A, rn_mkT, rn_mkL, rn_oNon, rn_asI, rn_oSm, rn_sl, rn_M, rn_isi, rn_lrev, rn_add_i, rn_add_t, rn_sub_i, rn_mul_i, rn_fdiv_i, rn_mod_i, rn_pow_i, rn_lt_i, rn_le_i, rn_gt_i, rn_ge_i, rn_neg_i, rn_eq_i, rn_ne_i, rn_eq_b, rn_eq_s, rn_is, rn_isnot, rn_sl_t, kN_nx, kN_rt, kN_bk, kN_ct, rs_nil, rs_cons, rs_brk, rs_cnt, rs_ex, rs_ret, rs_retN, rs_if, rs_set, rs_par, rs_par3, rs_asg, rs_sub, rn_int_i, rn_abs_i, rn_asB, rn_iSeq, rn_iRng1, rn_iEnu, rn_iZp, rn_iRng2, rn_iRng3, rn_iRv, rn_dic0, rn_dic1, rn_max2, rn_MT, ex_tup, rn_revS, isTy_str, List.getElem?_cons_zero, List.getElem?_cons_succ, List.set_cons_succ, List.set_cons_zero, List.length_cons, List.length_nil, Nat.reduceAdd, Nat.zero_add, reduceIte, Nat.reduceLeDiff, true_and, List.cons_append, List.nil_append]
      refine ⟨_, _, _, _, rfl, rfl, rfl, rfl, ⟨[], by simp⟩, fun i S2 _ => ?_⟩
      rw [← zip_self]
      exact wZ_at rfl rfl
    · obtain ⟨y, hy, rfl⟩ := List.mem_map.mp hx
      obtain ⟨T, rfl⟩ := hS
      refine ⟨[(2, y), (3, y)], rfl, rfl, ?_⟩
      show Rn (eA _ _ [_, _, some y, some y] _) _
      simp only [rn_var, rn_c, rn_op, rn_un, rn_dE, rn_ch, rn_dAnd, rn_dOr, rn_dNot, rn_dYes, rn_and, rn_or, rn_not, rn_if, rn_aNil, rn_aCons, rn_A, rn_mkT, rn_mkL, rn_oNon, rn_asI, rn_oSm, rn_sl, rn_M, rn_isi, rn_lrev, rn_add_i, rn_add_t, rn_sub_i, rn_mul_i, rn_fdiv_i, rn_mod_i, rn_pow_i, rn_lt_i, rn_le_i, rn_gt_i, rn_ge_i, rn_neg_i, rn_eq_i, rn_ne_i, rn_eq_b, rn_eq_s, rn_is, rn_isnot, rn_sl_t, kN_nx, kN_rt, kN_bk, kN_ct, rs_nil, rs_cons, rs_brk, rs_cnt, rs_ex, rs_ret, rs_retN, rs_if, rs_set, rs_par, rs_par3, rs_asg, rs_sub, rn_int_i, rn_abs_i, rn_asB, rn_iSeq, rn_iRng1, rn_iEnu, rn_iZp, rn_iRng2, rn_iRng3, rn_iRv, rn_dic0, rn_dic1, rn_max2, rn_MT, ex_tup, rn_revS, isTy_str, List.getElem?_cons_zero, List.getElem?_cons_succ, List.set_cons_succ, List.set_cons_zero, List.length_cons, List.length_nil, Nat.reduceAdd, Nat.zero_add, reduceIte, Nat.reduceLeDiff, true_and, List.cons_append, List.nil_append]
      refine (ih m (by omega) y _ (hxs y hy)).mono ?_
      rintro r S3 ⟨rfl, T2, rfl⟩
      exact ⟨rfl, T ++ T2, by rw [List.append_assoc]⟩
    · obtain ⟨T, rfl⟩ := hS
      have e : ys = (List.replicate ys.length true).map PV.bl := by
        rw [List.map_replicate]
        exact List.eq_replicate_iff.mpr ⟨rfl, fun b hb => (hA.mem hb).elim fun x hx => hx.2⟩
      rw [e, rn_all get_new]
      refine ⟨?_, T ++ _, by rw [List.append_assoc]⟩
      simp
theorem sigA_dd (x : PV) : Dd 1 (sigA x) := by
  have hW : ∀ (xs : List PV) (i : Nat) (z : PV), Dd 1 z → Dd 1 (sigW i xs z) := by
    intro xs
    induction xs with
    | nil => intro i z h; exact h
    | cons x r ih =>
      intro i z h
      unfold sigW
      split
      · exact ih _ _ h
      · exact .inr ⟨_, rfl, by simp, fun y hy => by
          simp only [List.mem_cons, List.not_mem_nil, or_false] at hy
          rcases hy with rfl | rfl
          · exact .inr (.inl ⟨_, rfl⟩)
          · exact .inr (.inr ⟨_, rfl⟩)⟩
  unfold sigA
  split
  · split
    · exact .inl (.inr (.inl ⟨_, rfl⟩))
    · refine hW _ _ _ ?_
      split
      · exact .inl (.inl rfl)
      · exact .inl (.inr (.inl ⟨_, rfl⟩))
  · exact .inl (.inr (.inl ⟨_, rfl⟩))
/-! the two walks over a term, as one plain function of the stack -/
def ways (w : List Int) : PV := .tup (w.map PV.int)
def isThing (sg : List Int) (x : PV) : Bool := match x with
  | .tup (.int i :: r) => decide (0 ≤ i) && (match sg[i.toNat]? with
    | some a => decide (((r.length : Nat) : Int) = a)
    | none => false)
  | _ => false
def innerOf (w : List Int) (x : PV) : List (List Int × PV) := match x with
  | .tup (_ :: r) => r.mapIdx fun j y => (w ++ [(j : Int)], y)
  | _ => []
/-- the stack's top stands first -/
def dueT (sg : List Int) : Nat → List (List Int × PV) → PV
  | _, [] => .non
  | 0, _ :: _ => .str "size"
  | n + 1, (w, x) :: st => if isThing sg x = true then dueT sg n (innerOf w x ++ st) else .tup [.str "form", ways w]
theorem thing_spec {S : Sto} {sg : List Int} {x : PV} (hs : SigOk sg) (h : TyAll S x) : Rn (f_is_thing [.tup (sg.map PV.int), x] S) fun r S' => r = .bl (isThing sg x) ∧ S' = S := by
  unfold f_is_thing
  rw [rn_runD]
  unfold b_is_thing
  show Rs (sCons _ _ [some (.tup (sg.map PV.int)), some x] S) _
  rcases h.1.cases with rfl | ⟨v, rfl⟩ | ⟨i, rfl⟩ | ⟨z, rfl⟩ | ⟨xs, rfl⟩ | ⟨ht, ⟨n, rfl⟩ | ⟨n, rfl⟩⟩ | ⟨ht, n, rfl⟩
  · simp only [rn_var, rn_c, rn_op, rn_un, rn_dE, rn_ch, rn_dAnd, rn_dOr, rn_dNot, rn_dYes, rn_and, rn_or, rn_not, rn_if, rn_aNil, rn_aCons, rn_A, rn_mkT, rn_mkL, rn_oNon, rn_asI, rn_oSm, rn_sl, rn_M, rn_isi, rn_lrev, rn_add_i, rn_add_t, rn_sub_i, rn_mul_i, rn_fdiv_i, rn_mod_i, rn_pow_i, rn_lt_i, rn_le_i, rn_gt_i, rn_ge_i, rn_neg_i, rn_eq_i, rn_ne_i, rn_eq_b, rn_eq_s, rn_is, rn_isnot, rn_sl_t, kN_nx, kN_rt, kN_bk, kN_ct, rs_nil, rs_cons, rs_brk, rs_cnt, rs_ex, rs_ret, rs_retN, rs_if, rs_set, rs_par, rs_par3, rs_asg, rs_sub, rn_int_i, rn_abs_i, rn_asB, rn_iSeq, rn_iRng1, rn_iEnu, rn_iZp, rn_iRng2, rn_iRng3, rn_iRv, rn_dic0, rn_dic1, rn_max2, rn_MT, ex_tup, rn_revS, isTy_str, List.getElem?_cons_zero, List.getElem?_cons_succ, List.set_cons_succ, List.set_cons_zero, List.length_cons, List.length_nil, Nat.reduceAdd, Nat.zero_add, reduceIte, Nat.reduceLeDiff, true_and, List.cons_append, List.nil_append, forall_const, true_implies, false_implies, reduceCtorEq, Bool.true_eq_false, Bool.false_eq_true, decide_true, beq_self_eq_true, Bool.not_true, Bool.not_false, and_true, ty_non, ty_bl, ty_int, ty_str, ty_tup, ty_fl, Option.some.injEq, exists_eq_left', isi_NoneType_bool, isi_NoneType_int, isi_NoneType_str, isi_NoneType_tuple, isi_NoneType_list, isi_NoneType_dict, isi_bool_bool, isi_bool_int, isi_bool_str, isi_bool_tuple, isi_bool_list, isi_bool_dict, isi_int_bool, isi_int_int, isi_int_str, isi_int_tuple, isi_int_list, isi_int_dict, isi_str_bool, isi_str_int, isi_str_str, isi_str_tuple, isi_str_list, isi_str_dict, isi_tuple_bool, isi_tuple_int, isi_tuple_str, isi_tuple_tuple, isi_tuple_list, isi_tuple_dict, isi_list_bool, isi_list_int, isi_list_str, isi_list_tuple, isi_list_list, isi_list_dict, isi_dict_bool, isi_dict_int, isi_dict_str, isi_dict_tuple, isi_dict_list, isi_dict_dict]; exact rfl
  · simp only [rn_var, rn_c, rn_op, rn_un, rn_dE, rn_ch, rn_dAnd, rn_dOr, rn_dNot, rn_dYes, rn_and, rn_or, rn_not, rn_if, rn_aNil, rn_aCons, rn_A, rn_mkT, rn_mkL, rn_oNon, rn_asI, rn_oSm, rn_sl, rn_M, rn_isi, rn_lrev, rn_add_i, rn_add_t, rn_sub_i, rn_mul_i, rn_fdiv_i, rn_mod_i, rn_pow_i, rn_lt_i, rn_le_i, rn_gt_i, rn_ge_i, rn_neg_i, rn_eq_i, rn_ne_i, rn_eq_b, rn_eq_s, rn_is, rn_isnot, rn_sl_t, kN_nx, kN_rt, kN_bk, kN_ct, rs_nil, rs_cons, rs_brk, rs_cnt, rs_ex, rs_ret, rs_retN, rs_if, rs_set, rs_par, rs_par3, rs_asg, rs_sub, rn_int_i, rn_abs_i, rn_asB, rn_iSeq, rn_iRng1, rn_iEnu, rn_iZp, rn_iRng2, rn_iRng3, rn_iRv, rn_dic0, rn_dic1, rn_max2, rn_MT, ex_tup, rn_revS, isTy_str, List.getElem?_cons_zero, List.getElem?_cons_succ, List.set_cons_succ, List.set_cons_zero, List.length_cons, List.length_nil, Nat.reduceAdd, Nat.zero_add, reduceIte, Nat.reduceLeDiff, true_and, List.cons_append, List.nil_append, forall_const, true_implies, false_implies, reduceCtorEq, Bool.true_eq_false, Bool.false_eq_true, decide_true, beq_self_eq_true, Bool.not_true, Bool.not_false, and_true, ty_non, ty_bl, ty_int, ty_str, ty_tup, ty_fl, Option.some.injEq, exists_eq_left', isi_NoneType_bool, isi_NoneType_int, isi_NoneType_str, isi_NoneType_tuple, isi_NoneType_list, isi_NoneType_dict, isi_bool_bool, isi_bool_int, isi_bool_str, isi_bool_tuple, isi_bool_list, isi_bool_dict, isi_int_bool, isi_int_int, isi_int_str, isi_int_tuple, isi_int_list, isi_int_dict, isi_str_bool, isi_str_int, isi_str_str, isi_str_tuple, isi_str_list, isi_str_dict, isi_tuple_bool, isi_tuple_int, isi_tuple_str, isi_tuple_tuple, isi_tuple_list, isi_tuple_dict, isi_list_bool, isi_list_int, isi_list_str, isi_list_tuple, isi_list_list, isi_list_dict, isi_dict_bool, isi_dict_int, isi_dict_str, isi_dict_tuple, isi_dict_list, isi_dict_dict]; exact rfl
  · simp only [rn_var, rn_c, rn_op, rn_un, rn_dE, rn_ch, rn_dAnd, rn_dOr, rn_dNot, rn_dYes, rn_and, rn_or, rn_not, rn_if, rn_aNil, rn_aCons, rn_A, rn_mkT, rn_mkL, rn_oNon, rn_asI, rn_oSm, rn_sl, rn_M, rn_isi, rn_lrev, rn_add_i, rn_add_t, rn_sub_i, rn_mul_i, rn_fdiv_i, rn_mod_i, rn_pow_i, rn_lt_i, rn_le_i, rn_gt_i, rn_ge_i, rn_neg_i, rn_eq_i, rn_ne_i, rn_eq_b, rn_eq_s, rn_is, rn_isnot, rn_sl_t, kN_nx, kN_rt, kN_bk, kN_ct, rs_nil, rs_cons, rs_brk, rs_cnt, rs_ex, rs_ret, rs_retN, rs_if, rs_set, rs_par, rs_par3, rs_asg, rs_sub, rn_int_i, rn_abs_i, rn_asB, rn_iSeq, rn_iRng1, rn_iEnu, rn_iZp, rn_iRng2, rn_iRng3, rn_iRv, rn_dic0, rn_dic1, rn_max2, rn_MT, ex_tup, rn_revS, isTy_str, List.getElem?_cons_zero, List.getElem?_cons_succ, List.set_cons_succ, List.set_cons_zero, List.length_cons, List.length_nil, Nat.reduceAdd, Nat.zero_add, reduceIte, Nat.reduceLeDiff, true_and, List.cons_append, List.nil_append, forall_const, true_implies, false_implies, reduceCtorEq, Bool.true_eq_false, Bool.false_eq_true, decide_true, beq_self_eq_true, Bool.not_true, Bool.not_false, and_true, ty_non, ty_bl, ty_int, ty_str, ty_tup, ty_fl, Option.some.injEq, exists_eq_left', isi_NoneType_bool, isi_NoneType_int, isi_NoneType_str, isi_NoneType_tuple, isi_NoneType_list, isi_NoneType_dict, isi_bool_bool, isi_bool_int, isi_bool_str, isi_bool_tuple, isi_bool_list, isi_bool_dict, isi_int_bool, isi_int_int, isi_int_str, isi_int_tuple, isi_int_list, isi_int_dict, isi_str_bool, isi_str_int, isi_str_str, isi_str_tuple, isi_str_list, isi_str_dict, isi_tuple_bool, isi_tuple_int, isi_tuple_str, isi_tuple_tuple, isi_tuple_list, isi_tuple_dict, isi_list_bool, isi_list_int, isi_list_str, isi_list_tuple, isi_list_list, isi_list_dict, isi_dict_bool, isi_dict_int, isi_dict_str, isi_dict_tuple, isi_dict_list, isi_dict_dict]; exact rfl
  · simp only [rn_var, rn_c, rn_op, rn_un, rn_dE, rn_ch, rn_dAnd, rn_dOr, rn_dNot, rn_dYes, rn_and, rn_or, rn_not, rn_if, rn_aNil, rn_aCons, rn_A, rn_mkT, rn_mkL, rn_oNon, rn_asI, rn_oSm, rn_sl, rn_M, rn_isi, rn_lrev, rn_add_i, rn_add_t, rn_sub_i, rn_mul_i, rn_fdiv_i, rn_mod_i, rn_pow_i, rn_lt_i, rn_le_i, rn_gt_i, rn_ge_i, rn_neg_i, rn_eq_i, rn_ne_i, rn_eq_b, rn_eq_s, rn_is, rn_isnot, rn_sl_t, kN_nx, kN_rt, kN_bk, kN_ct, rs_nil, rs_cons, rs_brk, rs_cnt, rs_ex, rs_ret, rs_retN, rs_if, rs_set, rs_par, rs_par3, rs_asg, rs_sub, rn_int_i, rn_abs_i, rn_asB, rn_iSeq, rn_iRng1, rn_iEnu, rn_iZp, rn_iRng2, rn_iRng3, rn_iRv, rn_dic0, rn_dic1, rn_max2, rn_MT, ex_tup, rn_revS, isTy_str, List.getElem?_cons_zero, List.getElem?_cons_succ, List.set_cons_succ, List.set_cons_zero, List.length_cons, List.length_nil, Nat.reduceAdd, Nat.zero_add, reduceIte, Nat.reduceLeDiff, true_and, List.cons_append, List.nil_append, forall_const, true_implies, false_implies, reduceCtorEq, Bool.true_eq_false, Bool.false_eq_true, decide_true, beq_self_eq_true, Bool.not_true, Bool.not_false, and_true, ty_non, ty_bl, ty_int, ty_str, ty_tup, ty_fl, Option.some.injEq, exists_eq_left', isi_NoneType_bool, isi_NoneType_int, isi_NoneType_str, isi_NoneType_tuple, isi_NoneType_list, isi_NoneType_dict, isi_bool_bool, isi_bool_int, isi_bool_str, isi_bool_tuple, isi_bool_list, isi_bool_dict, isi_int_bool, isi_int_int, isi_int_str, isi_int_tuple, isi_int_list, isi_int_dict, isi_str_bool, isi_str_int, isi_str_str, isi_str_tuple, isi_str_list, isi_str_dict, isi_tuple_bool, isi_tuple_int, isi_tuple_str, isi_tuple_tuple, isi_tuple_list, isi_tuple_dict, isi_list_bool, isi_list_int, isi_list_str, isi_list_tuple, isi_list_list, isi_list_dict, isi_dict_bool, isi_dict_int, isi_dict_str, isi_dict_tuple, isi_dict_list, isi_dict_dict]; exact rfl
  · obtain ⟨hl, hy⟩ := h.2 xs rfl
    cases xs with
    | nil => simp only [rn_var, rn_c, rn_op, rn_un, rn_dE, rn_ch, rn_dAnd, rn_dOr, rn_dNot, rn_dYes, rn_and, rn_or, rn_not, rn_if, rn_aNil, rn_aCons, rn_A, rn_mkT, rn_mkL, rn_oNon, rn_asI, rn_oSm, rn_sl, rn_M, rn_isi, rn_lrev, rn_add_i, rn_add_t, rn_sub_i, rn_mul_i, rn_fdiv_i, rn_mod_i, rn_pow_i, rn_lt_i, rn_le_i, rn_gt_i, rn_ge_i, rn_neg_i, rn_eq_i, rn_ne_i, rn_eq_b, rn_eq_s, rn_is, rn_isnot, rn_sl_t, kN_nx, kN_rt, kN_bk, kN_ct, rs_nil, rs_cons, rs_brk, rs_cnt, rs_ex, rs_ret, rs_retN, rs_if, rs_set, rs_par, rs_par3, rs_asg, rs_sub, rn_int_i, rn_abs_i, rn_asB, rn_iSeq, rn_iRng1, rn_iEnu, rn_iZp, rn_iRng2, rn_iRng3, rn_iRv, rn_dic0, rn_dic1, rn_max2, rn_MT, ex_tup, rn_revS, isTy_str, List.getElem?_cons_zero, List.getElem?_cons_succ, List.set_cons_succ, List.set_cons_zero, List.length_cons, List.length_nil, Nat.reduceAdd, Nat.zero_add, reduceIte, Nat.reduceLeDiff, true_and, List.cons_append, List.nil_append, forall_const, true_implies, false_implies, reduceCtorEq, Bool.true_eq_false, Bool.false_eq_true, decide_true, beq_self_eq_true, Bool.not_true, Bool.not_false, and_true, ty_non, ty_bl, ty_int, ty_str, ty_tup, ty_fl, Option.some.injEq, exists_eq_left', isi_NoneType_bool, isi_NoneType_int, isi_NoneType_str, isi_NoneType_tuple, isi_NoneType_list, isi_NoneType_dict, isi_bool_bool, isi_bool_int, isi_bool_str, isi_bool_tuple, isi_bool_list, isi_bool_dict, isi_int_bool, isi_int_int, isi_int_str, isi_int_tuple, isi_int_list, isi_int_dict, isi_str_bool, isi_str_int, isi_str_str, isi_str_tuple, isi_str_list, isi_str_dict, isi_tuple_bool, isi_tuple_int, isi_tuple_str, isi_tuple_tuple, isi_tuple_list, isi_tuple_dict, isi_list_bool, isi_list_int, isi_list_str, isi_list_tuple, isi_list_list, isi_list_dict, isi_dict_bool, isi_dict_int, isi_dict_str, isi_dict_tuple, isi_dict_list, isi_dict_dict, rn_eqA_t, isNil]; simp; exact rfl
    | cons x0 r =>
      have h0 : ixP (x0 :: r) 0 = some x0 := ixP_nat (n := 0) rfl
      have hn : isNil (x0 :: r) = false := rfl
      simp only [rn_var, rn_c, rn_op, rn_un, rn_dE, rn_ch, rn_dAnd, rn_dOr, rn_dNot, rn_dYes, rn_and, rn_or, rn_not, rn_if, rn_aNil, rn_aCons, rn_A, rn_mkT, rn_mkL, rn_oNon, rn_asI, rn_oSm, rn_sl, rn_M, rn_isi, rn_lrev, rn_add_i, rn_add_t, rn_sub_i, rn_mul_i, rn_fdiv_i, rn_mod_i, rn_pow_i, rn_lt_i, rn_le_i, rn_gt_i, rn_ge_i, rn_neg_i, rn_eq_i, rn_ne_i, rn_eq_b, rn_eq_s, rn_is, rn_isnot, rn_sl_t, kN_nx, kN_rt, kN_bk, kN_ct, rs_nil, rs_cons, rs_brk, rs_cnt, rs_ex, rs_ret, rs_retN, rs_if, rs_set, rs_par, rs_par3, rs_asg, rs_sub, rn_int_i, rn_abs_i, rn_asB, rn_iSeq, rn_iRng1, rn_iEnu, rn_iZp, rn_iRng2, rn_iRng3, rn_iRv, rn_dic0, rn_dic1, rn_max2, rn_MT, ex_tup, rn_revS, isTy_str, List.getElem?_cons_zero, List.getElem?_cons_succ, List.set_cons_succ, List.set_cons_zero, List.length_cons, List.length_nil, Nat.reduceAdd, Nat.zero_add, reduceIte, Nat.reduceLeDiff, true_and, List.cons_append, List.nil_append, forall_const, true_implies, false_implies, reduceCtorEq, Bool.true_eq_false, Bool.false_eq_true, decide_true, beq_self_eq_true, Bool.not_true, Bool.not_false, and_true, ty_non, ty_bl, ty_int, ty_str, ty_tup, ty_fl, Option.some.injEq, exists_eq_left', isi_NoneType_bool, isi_NoneType_int, isi_NoneType_str, isi_NoneType_tuple, isi_NoneType_list, isi_NoneType_dict, isi_bool_bool, isi_bool_int, isi_bool_str, isi_bool_tuple, isi_bool_list, isi_bool_dict, isi_int_bool, isi_int_int, isi_int_str, isi_int_tuple, isi_int_list, isi_int_dict, isi_str_bool, isi_str_int, isi_str_str, isi_str_tuple, isi_str_list, isi_str_dict, isi_tuple_bool, isi_tuple_int, isi_tuple_str, isi_tuple_tuple, isi_tuple_list, isi_tuple_dict, isi_list_bool, isi_list_int, isi_list_str, isi_list_tuple, isi_list_list, isi_list_dict, isi_dict_bool, isi_dict_int, isi_dict_str, isi_dict_tuple, isi_dict_list, isi_dict_dict, rn_eqA_t, hn, ix_tup h0, rn_len_t, List.length_map]
      refine (whole_spec (hy x0 List.mem_cons_self)).mono ?_
      rintro q S1 ⟨rfl, rfl⟩
      cases x0 with
      | int i =>
        simp only [rn_var, rn_c, rn_op, rn_un, rn_dE, rn_ch, rn_dAnd, rn_dOr, rn_dNot, rn_dYes, rn_and, rn_or, rn_not, rn_if, rn_aNil, rn_aCons, rn_A, rn_mkT, rn_mkL, rn_oNon, rn_asI, rn_oSm, rn_sl, rn_M, rn_isi, rn_lrev, rn_add_i, rn_add_t, rn_sub_i, rn_mul_i, rn_fdiv_i, rn_mod_i, rn_pow_i, rn_lt_i, rn_le_i, rn_gt_i, rn_ge_i, rn_neg_i, rn_eq_i, rn_ne_i, rn_eq_b, rn_eq_s, rn_is, rn_isnot, rn_sl_t, kN_nx, kN_rt, kN_bk, kN_ct, rs_nil, rs_cons, rs_brk, rs_cnt, rs_ex, rs_ret, rs_retN, rs_if, rs_set, rs_par, rs_par3, rs_asg, rs_sub, rn_int_i, rn_abs_i, rn_asB, rn_iSeq, rn_iRng1, rn_iEnu, rn_iZp, rn_iRng2, rn_iRng3, rn_iRv, rn_dic0, rn_dic1, rn_max2, rn_MT, ex_tup, rn_revS, isTy_str, List.getElem?_cons_zero, List.getElem?_cons_succ, List.set_cons_succ, List.set_cons_zero, List.length_cons, List.length_nil, Nat.reduceAdd, Nat.zero_add, reduceIte, Nat.reduceLeDiff, true_and, List.cons_append, List.nil_append, forall_const, true_implies, false_implies, reduceCtorEq, Bool.true_eq_false, Bool.false_eq_true, decide_true, beq_self_eq_true, Bool.not_true, Bool.not_false, and_true, ty_non, ty_bl, ty_int, ty_str, ty_tup, ty_fl, Option.some.injEq, exists_eq_left', isi_NoneType_bool, isi_NoneType_int, isi_NoneType_str, isi_NoneType_tuple, isi_NoneType_list, isi_NoneType_dict, isi_bool_bool, isi_bool_int, isi_bool_str, isi_bool_tuple, isi_bool_list, isi_bool_dict, isi_int_bool, isi_int_int, isi_int_str, isi_int_tuple, isi_int_list, isi_int_dict, isi_str_bool, isi_str_int, isi_str_str, isi_str_tuple, isi_str_list, isi_str_dict, isi_tuple_bool, isi_tuple_int, isi_tuple_str, isi_tuple_tuple, isi_tuple_list, isi_tuple_dict, isi_list_bool, isi_list_int, isi_list_str, isi_list_tuple, isi_list_list, isi_list_dict, isi_dict_bool, isi_dict_int, isi_dict_str, isi_dict_tuple, isi_dict_list, isi_dict_dict, ix_tup h0, rn_len_t, List.length_map]
        refine ⟨fun hb => ?_, fun hb => ?_⟩
        · have hb2 : ¬ (0 ≤ i ∧ i ≤ (sg.length : Int) - 1) := by simp at hb; omega
          unfold isThing
          simp only
          by_cases c : 0 ≤ i
          · have : sg[i.toNat]? = none := List.getElem?_eq_none_iff.mpr (by omega)
            simp [this]
          · simp [c]
        · have hb2 : 0 ≤ i ∧ i ≤ (sg.length : Int) - 1 := by simp at hb; omega
          have hi : i.toNat < sg.length := by omega
          have ha : sg[i.toNat]? = some sg[i.toNat] := List.getElem?_eq_getElem hi
          have hx : ixP (sg.map PV.int) i = some (.int sg[i.toNat]) := ixP_int hb2.1 (by rw [List.getElem?_map, ha]; rfl)
          simp only [rn_var, rn_c, rn_op, rn_un, rn_dE, rn_ch, rn_dAnd, rn_dOr, rn_dNot, rn_dYes, rn_and, rn_or, rn_not, rn_if, rn_aNil, rn_aCons, rn_A, rn_mkT, rn_mkL, rn_oNon, rn_asI, rn_oSm, rn_sl, rn_M, rn_isi, rn_lrev, rn_add_i, rn_add_t, rn_sub_i, rn_mul_i, rn_fdiv_i, rn_mod_i, rn_pow_i, rn_lt_i, rn_le_i, rn_gt_i, rn_ge_i, rn_neg_i, rn_eq_i, rn_ne_i, rn_eq_b, rn_eq_s, rn_is, rn_isnot, rn_sl_t, kN_nx, kN_rt, kN_bk, kN_ct, rs_nil, rs_cons, rs_brk, rs_cnt, rs_ex, rs_ret, rs_retN, rs_if, rs_set, rs_par, rs_par3, rs_asg, rs_sub, rn_int_i, rn_abs_i, rn_asB, rn_iSeq, rn_iRng1, rn_iEnu, rn_iZp, rn_iRng2, rn_iRng3, rn_iRv, rn_dic0, rn_dic1, rn_max2, rn_MT, ex_tup, rn_revS, isTy_str, List.getElem?_cons_zero, List.getElem?_cons_succ, List.set_cons_succ, List.set_cons_zero, List.length_cons, List.length_nil, Nat.reduceAdd, Nat.zero_add, reduceIte, Nat.reduceLeDiff, true_and, List.cons_append, List.nil_append, forall_const, true_implies, false_implies, reduceCtorEq, Bool.true_eq_false, Bool.false_eq_true, decide_true, beq_self_eq_true, Bool.not_true, Bool.not_false, and_true, ty_non, ty_bl, ty_int, ty_str, ty_tup, ty_fl, Option.some.injEq, exists_eq_left', isi_NoneType_bool, isi_NoneType_int, isi_NoneType_str, isi_NoneType_tuple, isi_NoneType_list, isi_NoneType_dict, isi_bool_bool, isi_bool_int, isi_bool_str, isi_bool_tuple, isi_bool_list, isi_bool_dict, isi_int_bool, isi_int_int, isi_int_str, isi_int_tuple, isi_int_list, isi_int_dict, isi_str_bool, isi_str_int, isi_str_str, isi_str_tuple, isi_str_list, isi_str_dict, isi_tuple_bool, isi_tuple_int, isi_tuple_str, isi_tuple_tuple, isi_tuple_list, isi_tuple_dict, isi_list_bool, isi_list_int, isi_list_str, isi_list_tuple, isi_list_list, isi_list_dict, isi_dict_bool, isi_dict_int, isi_dict_str, isi_dict_tuple, isi_dict_list, isi_dict_dict, ix_tup h0, ix_tup hx, rn_len_t]
          unfold isThing
          simp only [ha]
          by_cases c : ((r.length : Nat) : Int) = sg[i.toNat]
          · simp [c, hb2.1]
          · simp [c, hb2.1]
      | _ => simp only [rn_var, rn_c, rn_op, rn_un, rn_dE, rn_ch, rn_dAnd, rn_dOr, rn_dNot, rn_dYes, rn_and, rn_or, rn_not, rn_if, rn_aNil, rn_aCons, rn_A, rn_mkT, rn_mkL, rn_oNon, rn_asI, rn_oSm, rn_sl, rn_M, rn_isi, rn_lrev, rn_add_i, rn_add_t, rn_sub_i, rn_mul_i, rn_fdiv_i, rn_mod_i, rn_pow_i, rn_lt_i, rn_le_i, rn_gt_i, rn_ge_i, rn_neg_i, rn_eq_i, rn_ne_i, rn_eq_b, rn_eq_s, rn_is, rn_isnot, rn_sl_t, kN_nx, kN_rt, kN_bk, kN_ct, rs_nil, rs_cons, rs_brk, rs_cnt, rs_ex, rs_ret, rs_retN, rs_if, rs_set, rs_par, rs_par3, rs_asg, rs_sub, rn_int_i, rn_abs_i, rn_asB, rn_iSeq, rn_iRng1, rn_iEnu, rn_iZp, rn_iRng2, rn_iRng3, rn_iRv, rn_dic0, rn_dic1, rn_max2, rn_MT, ex_tup, rn_revS, isTy_str, List.getElem?_cons_zero, List.getElem?_cons_succ, List.set_cons_succ, List.set_cons_zero, List.length_cons, List.length_nil, Nat.reduceAdd, Nat.zero_add, reduceIte, Nat.reduceLeDiff, true_and, List.cons_append, List.nil_append, forall_const, true_implies, false_implies, reduceCtorEq, Bool.true_eq_false, Bool.false_eq_true, decide_true, beq_self_eq_true, Bool.not_true, Bool.not_false, and_true, ty_non, ty_bl, ty_int, ty_str, ty_tup, ty_fl, Option.some.injEq, exists_eq_left', isi_NoneType_bool, isi_NoneType_int, isi_NoneType_str, isi_NoneType_tuple, isi_NoneType_list, isi_NoneType_dict, isi_bool_bool, isi_bool_int, isi_bool_str, isi_bool_tuple, isi_bool_list, isi_bool_dict, isi_int_bool, isi_int_int, isi_int_str, isi_int_tuple, isi_int_list, isi_int_dict, isi_str_bool, isi_str_int, isi_str_str, isi_str_tuple, isi_str_list, isi_str_dict, isi_tuple_bool, isi_tuple_int, isi_tuple_str, isi_tuple_tuple, isi_tuple_list, isi_tuple_dict, isi_list_bool, isi_list_int, isi_list_str, isi_list_tuple, isi_list_list, isi_list_dict, isi_dict_bool, isi_dict_int, isi_dict_str, isi_dict_tuple, isi_dict_list, isi_dict_dict]; exact rfl
  · simp only [rn_var, rn_c, rn_op, rn_un, rn_dE, rn_ch, rn_dAnd, rn_dOr, rn_dNot, rn_dYes, rn_and, rn_or, rn_not, rn_if, rn_aNil, rn_aCons, rn_A, rn_mkT, rn_mkL, rn_oNon, rn_asI, rn_oSm, rn_sl, rn_M, rn_isi, rn_lrev, rn_add_i, rn_add_t, rn_sub_i, rn_mul_i, rn_fdiv_i, rn_mod_i, rn_pow_i, rn_lt_i, rn_le_i, rn_gt_i, rn_ge_i, rn_neg_i, rn_eq_i, rn_ne_i, rn_eq_b, rn_eq_s, rn_is, rn_isnot, rn_sl_t, kN_nx, kN_rt, kN_bk, kN_ct, rs_nil, rs_cons, rs_brk, rs_cnt, rs_ex, rs_ret, rs_retN, rs_if, rs_set, rs_par, rs_par3, rs_asg, rs_sub, rn_int_i, rn_abs_i, rn_asB, rn_iSeq, rn_iRng1, rn_iEnu, rn_iZp, rn_iRng2, rn_iRng3, rn_iRv, rn_dic0, rn_dic1, rn_max2, rn_MT, ex_tup, rn_revS, isTy_str, List.getElem?_cons_zero, List.getElem?_cons_succ, List.set_cons_succ, List.set_cons_zero, List.length_cons, List.length_nil, Nat.reduceAdd, Nat.zero_add, reduceIte, Nat.reduceLeDiff, true_and, List.cons_append, List.nil_append, forall_const, true_implies, false_implies, reduceCtorEq, Bool.true_eq_false, Bool.false_eq_true, decide_true, beq_self_eq_true, Bool.not_true, Bool.not_false, and_true, ty_non, ty_bl, ty_int, ty_str, ty_tup, ty_fl, Option.some.injEq, exists_eq_left', isi_NoneType_bool, isi_NoneType_int, isi_NoneType_str, isi_NoneType_tuple, isi_NoneType_list, isi_NoneType_dict, isi_bool_bool, isi_bool_int, isi_bool_str, isi_bool_tuple, isi_bool_list, isi_bool_dict, isi_int_bool, isi_int_int, isi_int_str, isi_int_tuple, isi_int_list, isi_int_dict, isi_str_bool, isi_str_int, isi_str_str, isi_str_tuple, isi_str_list, isi_str_dict, isi_tuple_bool, isi_tuple_int, isi_tuple_str, isi_tuple_tuple, isi_tuple_list, isi_tuple_dict, isi_list_bool, isi_list_int, isi_list_str, isi_list_tuple, isi_list_list, isi_list_dict, isi_dict_bool, isi_dict_int, isi_dict_str, isi_dict_tuple, isi_dict_list, isi_dict_dict, ht]; exact rfl
  · simp only [rn_var, rn_c, rn_op, rn_un, rn_dE, rn_ch, rn_dAnd, rn_dOr, rn_dNot, rn_dYes, rn_and, rn_or, rn_not, rn_if, rn_aNil, rn_aCons, rn_A, rn_mkT, rn_mkL, rn_oNon, rn_asI, rn_oSm, rn_sl, rn_M, rn_isi, rn_lrev, rn_add_i, rn_add_t, rn_sub_i, rn_mul_i, rn_fdiv_i, rn_mod_i, rn_pow_i, rn_lt_i, rn_le_i, rn_gt_i, rn_ge_i, rn_neg_i, rn_eq_i, rn_ne_i, rn_eq_b, rn_eq_s, rn_is, rn_isnot, rn_sl_t, kN_nx, kN_rt, kN_bk, kN_ct, rs_nil, rs_cons, rs_brk, rs_cnt, rs_ex, rs_ret, rs_retN, rs_if, rs_set, rs_par, rs_par3, rs_asg, rs_sub, rn_int_i, rn_abs_i, rn_asB, rn_iSeq, rn_iRng1, rn_iEnu, rn_iZp, rn_iRng2, rn_iRng3, rn_iRv, rn_dic0, rn_dic1, rn_max2, rn_MT, ex_tup, rn_revS, isTy_str, List.getElem?_cons_zero, List.getElem?_cons_succ, List.set_cons_succ, List.set_cons_zero, List.length_cons, List.length_nil, Nat.reduceAdd, Nat.zero_add, reduceIte, Nat.reduceLeDiff, true_and, List.cons_append, List.nil_append, forall_const, true_implies, false_implies, reduceCtorEq, Bool.true_eq_false, Bool.false_eq_true, decide_true, beq_self_eq_true, Bool.not_true, Bool.not_false, and_true, ty_non, ty_bl, ty_int, ty_str, ty_tup, ty_fl, Option.some.injEq, exists_eq_left', isi_NoneType_bool, isi_NoneType_int, isi_NoneType_str, isi_NoneType_tuple, isi_NoneType_list, isi_NoneType_dict, isi_bool_bool, isi_bool_int, isi_bool_str, isi_bool_tuple, isi_bool_list, isi_bool_dict, isi_int_bool, isi_int_int, isi_int_str, isi_int_tuple, isi_int_list, isi_int_dict, isi_str_bool, isi_str_int, isi_str_str, isi_str_tuple, isi_str_list, isi_str_dict, isi_tuple_bool, isi_tuple_int, isi_tuple_str, isi_tuple_tuple, isi_tuple_list, isi_tuple_dict, isi_list_bool, isi_list_int, isi_list_str, isi_list_tuple, isi_list_list, isi_list_dict, isi_dict_bool, isi_dict_int, isi_dict_str, isi_dict_tuple, isi_dict_list, isi_dict_dict, ht]; exact rfl
  · simp only [rn_var, rn_c, rn_op, rn_un, rn_dE, rn_ch, rn_dAnd, rn_dOr, rn_dNot, rn_dYes, rn_and, rn_or, rn_not, rn_if, rn_aNil, rn_aCons, rn_A, rn_mkT, rn_mkL, rn_oNon, rn_asI, rn_oSm, rn_sl, rn_M, rn_isi, rn_lrev, rn_add_i, rn_add_t, rn_sub_i, rn_mul_i, rn_fdiv_i, rn_mod_i, rn_pow_i, rn_lt_i, rn_le_i, rn_gt_i, rn_ge_i, rn_neg_i, rn_eq_i, rn_ne_i, rn_eq_b, rn_eq_s, rn_is, rn_isnot, rn_sl_t, kN_nx, kN_rt, kN_bk, kN_ct, rs_nil, rs_cons, rs_brk, rs_cnt, rs_ex, rs_ret, rs_retN, rs_if, rs_set, rs_par, rs_par3, rs_asg, rs_sub, rn_int_i, rn_abs_i, rn_asB, rn_iSeq, rn_iRng1, rn_iEnu, rn_iZp, rn_iRng2, rn_iRng3, rn_iRv, rn_dic0, rn_dic1, rn_max2, rn_MT, ex_tup, rn_revS, isTy_str, List.getElem?_cons_zero, List.getElem?_cons_succ, List.set_cons_succ, List.set_cons_zero, List.length_cons, List.length_nil, Nat.reduceAdd, Nat.zero_add, reduceIte, Nat.reduceLeDiff, true_and, List.cons_append, List.nil_append, forall_const, true_implies, false_implies, reduceCtorEq, Bool.true_eq_false, Bool.false_eq_true, decide_true, beq_self_eq_true, Bool.not_true, Bool.not_false, and_true, ty_non, ty_bl, ty_int, ty_str, ty_tup, ty_fl, Option.some.injEq, exists_eq_left', isi_NoneType_bool, isi_NoneType_int, isi_NoneType_str, isi_NoneType_tuple, isi_NoneType_list, isi_NoneType_dict, isi_bool_bool, isi_bool_int, isi_bool_str, isi_bool_tuple, isi_bool_list, isi_bool_dict, isi_int_bool, isi_int_int, isi_int_str, isi_int_tuple, isi_int_list, isi_int_dict, isi_str_bool, isi_str_int, isi_str_str, isi_str_tuple, isi_str_list, isi_str_dict, isi_tuple_bool, isi_tuple_int, isi_tuple_str, isi_tuple_tuple, isi_tuple_list, isi_tuple_dict, isi_list_bool, isi_list_int, isi_list_str, isi_list_tuple, isi_list_list, isi_list_dict, isi_dict_bool, isi_dict_int, isi_dict_str, isi_dict_tuple, isi_dict_list, isi_dict_dict, ht]; exact rfl
theorem dueT_dd (sg : List Int) : ∀ (n : Nat) (st : List (List Int × PV)), (∀ p ∈ st, p.1.length + n ≤ 60) → Dd 2 (dueT sg n st)
  | n, [], _ => by unfold dueT; exact .inl (.inl rfl)
  | 0, _ :: _, _ => by unfold dueT; exact .inl (.inr (.inl ⟨_, rfl⟩))
  | n + 1, (w, x) :: st, h => by
    unfold dueT
    have hw := h (w, x) List.mem_cons_self
    split
    · refine dueT_dd sg n _ fun p hp => ?_
      rcases List.mem_append.mp hp with hp | hp
      · unfold innerOf at hp
        split at hp
        · rename_i r
          obtain ⟨j, hj, rfl⟩ := List.mem_mapIdx.mp hp
          simp only [List.length_append, List.length_cons, List.length_nil]
          simp only at hw
          omega
        · cases hp
      · have := h p (List.mem_cons_of_mem _ hp)
        omega
    · refine .inr ⟨_, rfl, by simp, fun y hy => ?_⟩
      simp only [List.mem_cons, List.not_mem_nil, or_false] at hy
      rcases hy with rfl | rfl
      · exact .inl (.inr (.inl ⟨_, rfl⟩))
      · refine .inr ⟨_, rfl, ?_, fun y hy => ?_⟩
        · rw [List.length_map]
          simp only at hw
          omega
        · obtain ⟨k, _, rfl⟩ := List.mem_map.mp hy
          exact .inr (.inr ⟨_, rfl⟩)
theorem flat_one {x : PV} (k : Nat) : (List.replicate k [x]).flatten = List.replicate k x := by
  induction k with
  | zero => rfl
  | succ k ih => rw [List.replicate_succ, List.flatten_cons, ih, List.replicate_succ]; rfl
theorem rn_mul_l1 {n : Nat} {x : PV} {k : Int} {S : Sto} {Q : PV → Sto → Prop} (h : S[n]? = some (.lst [x])) (h0 : 0 ≤ k) (h1 : k ≤ 1000) : Rn (opMul (.loc n) (.int k) S) Q ↔ Q (.loc S.length) (S ++ [.lst (List.replicate k.toNat x)]) := by
  unfold opMul
  simp only [h]
  rw [if_pos (by simp; omega), flat_one]
  unfold mkL
  rw [if_pos (by rw [List.length_replicate]; omega)]
  exact rn_some
/-- which sums the positive arities make -/
def Sm (sg : List Int) (top : Nat) (bs : List Bool) : Prop := bs.length = 46 ∧ bs[0]? = some true ∧ (∀ s, top < s → s < 46 → bs[s]? = some false) ∧
  ∀ s : Nat, 0 < s → bs[s]? = some true → ∃ a ∈ sg, 0 < a ∧ a ≤ (s : Int) ∧ bs[s - a.toNat]? = some true
theorem Sm.init (sg : List Int) : Sm sg 0 (true :: List.replicate 45 false) := by
  refine ⟨by simp, rfl, fun s h0 h1 => ?_, fun s h0 h => ?_⟩
  · obtain ⟨k, rfl⟩ : ∃ k, s = k + 1 := ⟨s - 1, by omega⟩
    rw [List.getElem?_cons_succ, List.getElem?_replicate, if_pos (by omega)]
  · obtain ⟨k, rfl⟩ : ∃ k, s = k + 1 := ⟨s - 1, by omega⟩
    rw [List.getElem?_cons_succ, List.getElem?_replicate] at h
    split at h <;> cases h
theorem Sm.step {sg : List Int} {top : Nat} {bs : List Bool} {v : Bool} (h : Sm sg top bs) (ht : top + 1 < 46) (hv : v = true → ∃ a ∈ sg, 0 < a ∧ a ≤ ((top + 1 : Nat) : Int) ∧ bs[top + 1 - a.toNat]? = some true) : Sm sg (top + 1) (bs.set (top + 1) v) := by
  obtain ⟨h1, h2, h3, h4⟩ := h
  refine ⟨by rw [List.length_set]; exact h1, by rw [List.getElem?_set_ne (by omega)]; exact h2, fun s h5 h6 => by rw [List.getElem?_set_ne (by omega)]; exact h3 s (by omega) h6, fun s h5 h6 => ?_⟩
  rcases Nat.lt_trichotomy s (top + 1) with c | c | c
  · rw [List.getElem?_set_ne (by omega)] at h6
    obtain ⟨a, ha, a0, a1, a2⟩ := h4 s h5 h6
    exact ⟨a, ha, a0, a1, by rw [List.getElem?_set_ne (by omega)]; exact a2⟩
  · subst c
    rw [List.getElem?_set_self (by omega)] at h6
    obtain ⟨a, ha, a0, a1, a2⟩ := hv (Option.some.inj h6)
    exact ⟨a, ha, a0, a1, by rw [List.getElem?_set_ne (by omega)]; exact a2⟩
  · rw [List.getElem?_set_ne (by omega)] at h6
    rcases Nat.lt_or_ge s 46 with d | d
    · rw [h3 s (by omega) d] at h6; cases h6
    · rw [List.getElem?_eq_none_iff.mpr (by omega)] at h6; cases h6
theorem mul1 {b c n0 q : Nat} {S : Sto} {x : PV} (A : At b c n0 S q (.lst [x])) {k : Int} (h0 : 0 ≤ k) (h1 : k ≤ 1000) {Q : PV → Sto → Prop} : Rn (opMul (.loc q) (.int k) S) Q ↔ Q (.loc S.length) (S ++ [.lst (List.replicate k.toNat x)]) := rn_mul_l1 A.h h0 h1
theorem sums_spec {S0 S : Sto} {b c : Nat} {sg : List Int} (hs : SigOk sg) (X : Ext b c S0 S) : Rn (f__law_sums [.tup (sg.map PV.int)] S) fun r S' => ∃ (q : Nat) (bs : List Bool), r = .loc q ∧ At b c S0.length S' q (.lst (bs.map PV.bl)) ∧ Sm sg 45 bs ∧ Ext b c S0 S' := by
  unfold f__law_sums
  rw [rn_runD]
  unfold b__law_sums
  show Rs (sCons _ _ [some (.tup (sg.map PV.int)), none, none, none] S) _
  rw [rs_cons, rs_set]
  simp only [rn_var, rn_c, rn_op, rn_un, rn_dE, rn_ch, rn_dAnd, rn_dOr, rn_dNot, rn_dYes, rn_and, rn_or, rn_not, rn_if, rn_aNil, rn_aCons, rn_A, rn_mkT, rn_mkL, rn_oNon, rn_asI, rn_oSm, rn_sl, rn_M, rn_isi, rn_lrev, rn_add_i, rn_add_t, rn_sub_i, rn_mul_i, rn_fdiv_i, rn_mod_i, rn_pow_i, rn_lt_i, rn_le_i, rn_gt_i, rn_ge_i, rn_neg_i, rn_eq_i, rn_ne_i, rn_eq_b, rn_eq_s, rn_is, rn_isnot, rn_sl_t, kN_nx, kN_rt, kN_bk, kN_ct, rs_nil, rs_brk, rs_cnt, rs_ret, rs_retN, rn_int_i, rn_abs_i, rn_asB, rn_iSeq, rn_iRng1, rn_iEnu, rn_iZp, rn_iRng2, rn_iRng3, rn_iRv, rn_dic0, rn_dic1, rn_max2, rn_MT, ex_tup, rn_revS, isTy_str, List.getElem?_cons_zero, List.getElem?_cons_succ, List.set_cons_succ, List.set_cons_zero, List.length_cons, List.length_nil, Nat.reduceAdd, Nat.zero_add, reduceIte, Nat.reduceLeDiff, true_and, List.cons_append, List.nil_append]
  generalize hS_1 : S ++ [_] = S_1
  have A1 := At.new' X hS_1
  have Y_1 := Ext.new' X hS_1
  have q1_lo := X.len
  replace X := X.mv Y_1
  clear hS_1
  generalize hq_q1 : List.length S = q1 at A1 q1_lo  ⊢
  generalize hS_2 : S_1 ++ [_] = S_2
  have A2 := At.new' X hS_2
  have Y_2 := Ext.new' X hS_2
  have q2_lo := X.len
  have q1_ne_q2 := A1.lt
  replace A1 := A1.mv Y_2
  replace X := X.mv Y_2
  clear hS_2
  generalize hq_q2 : List.length S_1 = q2 at A2 q2_lo q1_ne_q2 ⊢
  rw [mul1 A2 (by omega) (by omega)]
  generalize hS_3 : S_2 ++ [_] = S_3
  have A3 := At.new' X hS_3
  have Y_3 := Ext.new' X hS_3
  have q3_lo := X.len
  have q1_ne_q3 := A1.lt
  have q2_ne_q3 := A2.lt
  replace A1 := A1.mv Y_3
  replace A2 := A2.mv Y_3
  replace X := X.mv Y_3
  clear hS_3
  generalize hq_q3 : List.length S_2 = q3 at A3 q3_lo q1_ne_q3 q2_ne_q3 ⊢
  rw [rn_add_l A1.h A3.h]
  refine ⟨by simp, ?_⟩
  generalize hS_4 : S_3 ++ [_] = S_4
  have A := At.new' X hS_4
  have Y_4 := Ext.new' X hS_4
  have q_lo := X.len
  have q1_ne_q := A1.lt
  have q2_ne_q := A2.lt
  have q3_ne_q := A3.lt
  replace A1 := A1.mv Y_4
  replace A2 := A2.mv Y_4
  replace A3 := A3.mv Y_4
  replace X := X.mv Y_4
  clear hS_4
  generalize hq_q : List.length S_3 = q at A q_lo q1_ne_q q2_ne_q q3_ne_q ⊢
  rw [rs_cons]
  refine for_rn ((List.range 45).map fun j : Nat => PV.int (1 + j)) (fun i e S3 => ∃ (x2 x3 : Option PV) (bs : List Bool), e = [some (.tup (sg.map PV.int)), some (.loc q), x2, x3] ∧ At b c S0.length S3 q (.lst (bs.map PV.bl)) ∧ Sm sg i bs ∧ Ext b c S0 S3) ?_ (fun i x e S3 hx ⟨x2, x3, bs, he, A, hm, X⟩ => ?_) (fun e S3 ⟨x2, x3, bs, he, A, hm, X⟩ => ?_)
  · simp only [rn_var, rn_c, rn_op, rn_un, rn_dE, rn_ch, rn_dAnd, rn_dOr, rn_dNot, rn_dYes, rn_and, rn_or, rn_not, rn_if, rn_aNil, rn_aCons, rn_A, rn_mkT, rn_mkL, rn_oNon, rn_asI, rn_oSm, rn_sl, rn_M, rn_isi, rn_lrev, rn_add_i, rn_add_t, rn_sub_i, rn_mul_i, rn_fdiv_i, rn_mod_i, rn_pow_i, rn_lt_i, rn_le_i, rn_gt_i, rn_ge_i, rn_neg_i, rn_eq_i, rn_ne_i, rn_eq_b, rn_eq_s, rn_is, rn_isnot, rn_sl_t, kN_nx, kN_rt, kN_bk, kN_ct, rs_nil, rs_cons, rs_brk, rs_cnt, rs_ex, rs_ret, rs_retN, rs_if, rs_set, rs_par, rs_par3, rs_asg, rs_sub, rn_int_i, rn_abs_i, rn_asB, rn_iSeq, rn_iRng1, rn_iEnu, rn_iZp, rn_iRng2, rn_iRng3, rn_iRv, rn_dic0, rn_dic1, rn_max2, rn_MT, ex_tup, rn_revS, isTy_str, List.getElem?_cons_zero, List.getElem?_cons_succ, List.set_cons_succ, List.set_cons_zero, List.length_cons, List.length_nil, Nat.reduceAdd, Nat.zero_add, reduceIte, Nat.reduceLeDiff, true_and, List.cons_append, List.nil_append]
    refine ⟨_, _, rfl, by omega, ⟨none, none, _, rfl, ?_, Sm.init sg, X⟩, fun i e S _ => wR_at i⟩
    exact A
  · skip
    subst he
    have hi := lt_of_get hx
    simp only [List.length_map, List.length_range] at hi
    rw [List.getElem?_map, List.getElem?_range hi] at hx
    cases hx
    refine ⟨_, rfl, ?_⟩
    try simp only [setP, wipeP, List.foldl_cons, List.foldl_nil, List.set_cons_succ, List.set_cons_zero]
    try simp only [rn_var, rn_c, rn_op, rn_un, rn_dE, rn_ch, rn_dAnd, rn_dOr, rn_dNot, rn_dYes, rn_and, rn_or, rn_not, rn_if, rn_aNil, rn_aCons, rn_A, rn_mkT, rn_mkL, rn_oNon, rn_asI, rn_oSm, rn_sl, rn_M, rn_isi, rn_lrev, rn_add_i, rn_add_t, rn_sub_i, rn_mul_i, rn_fdiv_i, rn_mod_i, rn_pow_i, rn_lt_i, rn_le_i, rn_gt_i, rn_ge_i, rn_neg_i, rn_eq_i, rn_ne_i, rn_eq_b, rn_eq_s, rn_is, rn_isnot, rn_sl_t, kN_nx, kN_rt, kN_bk, kN_ct, rs_nil, rs_brk, rs_cnt, rs_ret, rs_retN, rn_int_i, rn_abs_i, rn_asB, rn_iSeq, rn_iRng1, rn_iEnu, rn_iZp, rn_iRng2, rn_iRng3, rn_iRv, rn_dic0, rn_dic1, rn_max2, rn_MT, ex_tup, rn_revS, isTy_str, List.getElem?_cons_zero, List.getElem?_cons_succ, List.set_cons_succ, List.set_cons_zero, List.length_cons, List.length_nil, Nat.reduceAdd, Nat.zero_add, reduceIte, Nat.reduceLeDiff, true_and, List.cons_append, List.nil_append, isTy_lst A.h, rn_len_l A.h, rn_append A.h]
    rw [rs_sub]
    simp only [rn_var, rn_c, rn_op, rn_un, rn_dE, rn_ch, rn_dAnd, rn_dOr, rn_dNot, rn_dYes, rn_and, rn_or, rn_not, rn_if, rn_aNil, rn_aCons, rn_A, rn_mkT, rn_mkL, rn_oNon, rn_asI, rn_oSm, rn_sl, rn_M, rn_isi, rn_lrev, rn_add_i, rn_add_t, rn_sub_i, rn_mul_i, rn_fdiv_i, rn_mod_i, rn_pow_i, rn_lt_i, rn_le_i, rn_gt_i, rn_ge_i, rn_neg_i, rn_eq_i, rn_ne_i, rn_eq_b, rn_eq_s, rn_is, rn_isnot, rn_sl_t, kN_nx, kN_rt, kN_bk, kN_ct, rs_nil, rs_brk, rs_cnt, rs_ret, rs_retN, rn_int_i, rn_abs_i, rn_asB, rn_iSeq, rn_iRng1, rn_iEnu, rn_iZp, rn_iRng2, rn_iRng3, rn_iRv, rn_dic0, rn_dic1, rn_max2, rn_MT, ex_tup, rn_revS, isTy_str, List.getElem?_cons_zero, List.getElem?_cons_succ, List.set_cons_succ, List.set_cons_zero, List.length_cons, List.length_nil, Nat.reduceAdd, Nat.zero_add, reduceIte, Nat.reduceLeDiff, true_and, List.cons_append, List.nil_append]
    obtain ⟨l46, h0, hz, hp⟩ := hm
    refine lc_fm (sg.map PV.int) S3 (fun x => match x with
      | .int a => if 0 < a ∧ a ≤ 1 + (i : Int) then (bs[i + 1 - a.toNat]?).map PV.bl else none
      | _ => none) ?_ (by have := hs.2.1; simp; omega) (fun x hx => ?_) ?_
    · simp only [rn_var, rn_c, rn_op, rn_un, rn_dE, rn_ch, rn_dAnd, rn_dOr, rn_dNot, rn_dYes, rn_and, rn_or, rn_not, rn_if, rn_aNil, rn_aCons, rn_A, rn_mkT, rn_mkL, rn_oNon, rn_asI, rn_oSm, rn_sl, rn_M, rn_isi, rn_lrev, rn_add_i, rn_add_t, rn_sub_i, rn_mul_i, rn_fdiv_i, rn_mod_i, rn_pow_i, rn_lt_i, rn_le_i, rn_gt_i, rn_ge_i, rn_neg_i, rn_eq_i, rn_ne_i, rn_eq_b, rn_eq_s, rn_is, rn_isnot, rn_sl_t, kN_nx, kN_rt, kN_bk, kN_ct, rs_nil, rs_cons, rs_brk, rs_cnt, rs_ex, rs_ret, rs_retN, rs_if, rs_set, rs_par, rs_par3, rs_asg, rs_sub, rn_int_i, rn_abs_i, rn_asB, rn_iSeq, rn_iRng1, rn_iEnu, rn_iZp, rn_iRng2, rn_iRng3, rn_iRv, rn_dic0, rn_dic1, rn_max2, rn_MT, ex_tup, rn_revS, isTy_str, List.getElem?_cons_zero, List.getElem?_cons_succ, List.set_cons_succ, List.set_cons_zero, List.length_cons, List.length_nil, Nat.reduceAdd, Nat.zero_add, reduceIte, Nat.reduceLeDiff, true_and, List.cons_append, List.nil_append, wk_tup]
      exact ⟨_, rfl, fun i => rfl⟩
    · obtain ⟨a, ha, rfl⟩ := List.mem_map.mp hx
      refine ⟨_, rfl, rfl, ?_⟩
      try simp only [setP, wipeP, List.foldl_cons, List.foldl_nil, List.set_cons_succ, List.set_cons_zero]
      simp only [rn_var, rn_c, rn_op, rn_un, rn_dE, rn_ch, rn_dAnd, rn_dOr, rn_dNot, rn_dYes, rn_and, rn_or, rn_not, rn_if, rn_aNil, rn_aCons, rn_A, rn_mkT, rn_mkL, rn_oNon, rn_asI, rn_oSm, rn_sl, rn_M, rn_isi, rn_lrev, rn_add_i, rn_add_t, rn_sub_i, rn_mul_i, rn_fdiv_i, rn_mod_i, rn_pow_i, rn_lt_i, rn_le_i, rn_gt_i, rn_ge_i, rn_neg_i, rn_eq_i, rn_ne_i, rn_eq_b, rn_eq_s, rn_is, rn_isnot, rn_sl_t, kN_nx, kN_rt, kN_bk, kN_ct, rs_nil, rs_cons, rs_brk, rs_cnt, rs_ex, rs_ret, rs_retN, rs_if, rs_set, rs_par, rs_par3, rs_asg, rs_sub, rn_int_i, rn_abs_i, rn_asB, rn_iSeq, rn_iRng1, rn_iEnu, rn_iZp, rn_iRng2, rn_iRng3, rn_iRv, rn_dic0, rn_dic1, rn_max2, rn_MT, ex_tup, rn_revS, isTy_str, List.getElem?_cons_zero, List.getElem?_cons_succ, List.set_cons_succ, List.set_cons_zero, List.length_cons, List.length_nil, Nat.reduceAdd, Nat.zero_add, reduceIte, Nat.reduceLeDiff, true_and, List.cons_append, List.nil_append]
      refine ⟨fun h => ?_, fun h => ?_⟩
      · have ha0 : 0 < a := of_decide_eq_true h
        refine ⟨fun h => ?_, fun h => ?_⟩
        · have ha1 := of_decide_eq_true h
          have hl : i + 1 - a.toNat < bs.length := by omega
          rw [ix_loc A.h (v := .bl bs[i + 1 - a.toNat]) (ixP_int (by omega) (by
            rw [show (1 + (i : Int) - a).toNat = i + 1 - a.toNat by omega, List.getElem?_map, List.getElem?_eq_getElem hl]; rfl))]
          refine ⟨rfl, ?_⟩
          rw [if_pos ⟨ha0, ha1⟩, List.getElem?_eq_getElem hl]
          rfl
        · have := of_decide_eq_false h
          rw [if_neg (by omega)]
      · refine ⟨fun h => (nomatch h), fun _ => ?_⟩
        have := of_decide_eq_false h
        rw [if_neg (by omega)]
    · obtain ⟨vs, hv, hvs⟩ : ∃ vs : List Bool, (sg.map PV.int).filterMap (fun x => match x with
        | .int a => if 0 < a ∧ a ≤ 1 + (i : Int) then (bs[i + 1 - a.toNat]?).map PV.bl else none
        | _ => none) = vs.map PV.bl ∧ (vs.any id = true → ∃ a ∈ sg, 0 < a ∧ a ≤ ((i + 1 : Nat) : Int) ∧ bs[i + 1 - a.toNat]? = some true) := by
        refine ⟨sg.filterMap fun a => if 0 < a ∧ a ≤ 1 + (i : Int) then bs[i + 1 - a.toNat]? else none, ?_, fun h => ?_⟩
        · rw [List.filterMap_map, List.map_filterMap]
          congr 1
          funext a
          simp only [Function.comp]
          split <;> rfl
        · obtain ⟨v, hv, e⟩ := List.any_eq_true.mp h
          obtain ⟨a, ha, h⟩ := List.mem_filterMap.mp hv
          have e : v = true := e
          subst e
          split at h
          · exact ⟨a, ha, by omega, by omega, h⟩
          · cases h
      rw [hv]
      generalize hS_5 : S3 ++ [_] = S_5
      have B := At.new' X hS_5
      have Y_5 := Ext.new' X hS_5
      have w_lo := X.len
      have q_ne_w := A.lt
      replace A := A.mv Y_5
      replace X := X.mv Y_5
      clear hS_5
      generalize hq_w : List.length S3 = w at B w_lo q_ne_w ⊢
      rw [rn_any B.h]
      have hst := set_at (z := PV.bl (vs.any id)) (a := 1 + (i : Int)) A.h (by omega) (by rw [List.length_map]; omega)
      refine ⟨_, hst, ?_⟩
      have e1 : (1 + (i : Int)).toNat = i + 1 := by omega
      rw [e1, ← List.map_set]
      generalize hS_6 : List.set S_5 q _ = S_6
      have W_6 := At.wrs' A hS_6
      have A' := At.put' A hS_6
      replace B := B.wr W_6 (by first | assumption | exact Ne.symm (by assumption) | omega)
      replace X := X.wr W_6 A.lo
      clear hS_6 A
      have A := A'
      clear A'
      exact ⟨_, _, _, rfl, A, Sm.step ⟨l46, h0, hz, hp⟩ (by omega) hvs, X⟩
  · subst he
    simp only [rn_var, rn_c, rn_op, rn_un, rn_dE, rn_ch, rn_dAnd, rn_dOr, rn_dNot, rn_dYes, rn_and, rn_or, rn_not, rn_if, rn_aNil, rn_aCons, rn_A, rn_mkT, rn_mkL, rn_oNon, rn_asI, rn_oSm, rn_sl, rn_M, rn_isi, rn_lrev, rn_add_i, rn_add_t, rn_sub_i, rn_mul_i, rn_fdiv_i, rn_mod_i, rn_pow_i, rn_lt_i, rn_le_i, rn_gt_i, rn_ge_i, rn_neg_i, rn_eq_i, rn_ne_i, rn_eq_b, rn_eq_s, rn_is, rn_isnot, rn_sl_t, kN_nx, kN_rt, kN_bk, kN_ct, rs_nil, rs_cons, rs_brk, rs_cnt, rs_ex, rs_ret, rs_retN, rs_if, rs_set, rs_par, rs_par3, rs_asg, rs_sub, rn_int_i, rn_abs_i, rn_asB, rn_iSeq, rn_iRng1, rn_iEnu, rn_iZp, rn_iRng2, rn_iRng3, rn_iRv, rn_dic0, rn_dic1, rn_max2, rn_MT, ex_tup, rn_revS, isTy_str, List.getElem?_cons_zero, List.getElem?_cons_succ, List.set_cons_succ, List.set_cons_zero, List.length_cons, List.length_nil, Nat.reduceAdd, Nat.zero_add, reduceIte, Nat.reduceLeDiff, true_and, List.cons_append, List.nil_append]
    simp only [List.length_map, List.length_range] at hm
    exact ⟨q, bs, rfl, A, hm, X⟩
theorem size_spec {S0 S : Sto} {b c n0 q : Nat} {sg : List Int} {bs : List Bool} {lo hi : Int} (hm : Sm sg 45 bs) (A : At b c n0 S q (.lst (bs.map PV.bl))) (X : Ext b c S0 S) (h1 : 1 ≤ lo) (h2 : hi ≤ 46) (h3 : -100 ≤ hi) (h4 : lo ≤ 100) : Rn (f__law_size [.loc b, .loc q, .int lo, .int hi] S) fun r S' => ∃ m : Nat, r = .int (m : Int) ∧ 1 ≤ m ∧ ((m : Int) ≤ hi ∨ m = 1) ∧ bs[m - 1]? = some true ∧ Ext b c S0 S' := by
  unfold f__law_size
  rw [rn_runD]
  unfold b__law_size
  show Rs (sCons _ _ [some (.loc b), some (.loc q), some (.int lo), some (.int hi), none, none] S) _
  rw [rs_cons, rs_set]
  refine lc_fm ((List.range (hi + 1 - lo).toNat).map fun j : Nat => PV.int (lo + j)) S (fun x => match x with
    | .int m => if bs[(m - 1).toNat]? = some true then some (.int m) else none
    | _ => none) ?_ (by simp; omega) (fun x hx => ?_) ?_
  · simp only [rn_var, rn_c, rn_op, rn_un, rn_dE, rn_ch, rn_dAnd, rn_dOr, rn_dNot, rn_dYes, rn_and, rn_or, rn_not, rn_if, rn_aNil, rn_aCons, rn_A, rn_mkT, rn_mkL, rn_oNon, rn_asI, rn_oSm, rn_sl, rn_M, rn_isi, rn_lrev, rn_add_i, rn_add_t, rn_sub_i, rn_mul_i, rn_fdiv_i, rn_mod_i, rn_pow_i, rn_lt_i, rn_le_i, rn_gt_i, rn_ge_i, rn_neg_i, rn_eq_i, rn_ne_i, rn_eq_b, rn_eq_s, rn_is, rn_isnot, rn_sl_t, kN_nx, kN_rt, kN_bk, kN_ct, rs_nil, rs_cons, rs_brk, rs_cnt, rs_ex, rs_ret, rs_retN, rs_if, rs_set, rs_par, rs_par3, rs_asg, rs_sub, rn_int_i, rn_abs_i, rn_asB, rn_iSeq, rn_iRng1, rn_iEnu, rn_iZp, rn_iRng2, rn_iRng3, rn_iRv, rn_dic0, rn_dic1, rn_max2, rn_MT, ex_tup, rn_revS, isTy_str, List.getElem?_cons_zero, List.getElem?_cons_succ, List.set_cons_succ, List.set_cons_zero, List.length_cons, List.length_nil, Nat.reduceAdd, Nat.zero_add, reduceIte, Nat.reduceLeDiff, true_and, List.cons_append, List.nil_append]
    exact ⟨_, _, rfl, by omega, fun i => wR_at i⟩
  · obtain ⟨j, hj, rfl⟩ := List.mem_map.mp hx
    have hj := List.mem_range.mp hj
    refine ⟨_, rfl, rfl, ?_⟩
    try simp only [setP, wipeP, List.foldl_cons, List.foldl_nil, List.set_cons_succ, List.set_cons_zero]
    have hl : ((lo + (j : Int)) - 1).toNat < bs.length := by have := hm.1; omega
    try simp only [rn_var, rn_c, rn_op, rn_un, rn_dE, rn_ch, rn_dAnd, rn_dOr, rn_dNot, rn_dYes, rn_and, rn_or, rn_not, rn_if, rn_aNil, rn_aCons, rn_A, rn_mkT, rn_mkL, rn_oNon, rn_asI, rn_oSm, rn_sl, rn_M, rn_isi, rn_lrev, rn_add_i, rn_add_t, rn_sub_i, rn_mul_i, rn_fdiv_i, rn_mod_i, rn_pow_i, rn_lt_i, rn_le_i, rn_gt_i, rn_ge_i, rn_neg_i, rn_eq_i, rn_ne_i, rn_eq_b, rn_eq_s, rn_is, rn_isnot, rn_sl_t, kN_nx, kN_rt, kN_bk, kN_ct, rs_nil, rs_cons, rs_brk, rs_cnt, rs_ex, rs_ret, rs_retN, rs_if, rs_set, rs_par, rs_par3, rs_asg, rs_sub, rn_int_i, rn_abs_i, rn_asB, rn_iSeq, rn_iRng1, rn_iEnu, rn_iZp, rn_iRng2, rn_iRng3, rn_iRv, rn_dic0, rn_dic1, rn_max2, rn_MT, ex_tup, rn_revS, isTy_str, List.getElem?_cons_zero, List.getElem?_cons_succ, List.set_cons_succ, List.set_cons_zero, List.length_cons, List.length_nil, Nat.reduceAdd, Nat.zero_add, reduceIte, Nat.reduceLeDiff, true_and, List.cons_append, List.nil_append, isTy_lst A.h, rn_len_l A.h, rn_append A.h]
    rw [ix_loc A.h (v := .bl bs[((lo + (j : Int)) - 1).toNat]) (ixP_int (by omega) (by rw [List.getElem?_map, List.getElem?_eq_getElem hl]; rfl))]
    rw [rn_asB]
    refine ⟨rfl, fun h => ?_, fun h => ?_⟩
    · have e := List.getElem?_eq_getElem hl
      rw [h] at e
      simp only [e, if_true]
    · have e := List.getElem?_eq_getElem hl
      rw [h] at e
      simp only [e]
      rfl
  · generalize hL : List.filterMap _ _ = L
    have hLm : ∀ y ∈ L, ∃ m : Nat, y = .int (m : Int) ∧ 1 ≤ m ∧ (m : Int) ≤ hi ∧ bs[m - 1]? = some true := fun y hy => by
      rw [← hL] at hy
      obtain ⟨x, hx, h⟩ := List.mem_filterMap.mp hy
      obtain ⟨j, hj, rfl⟩ := List.mem_map.mp hx
      have hj := List.mem_range.mp hj
      simp only at h
      split at h
      · rename_i hb
        cases h
        refine ⟨(lo + (j : Int)).toNat, by congr 1; omega, by omega, by omega, ?_⟩
        rw [← hb]
        congr 1
        omega
      · cases h
    have hLl : L.length ≤ 200 := by
      rw [← hL]
      refine Nat.le_trans (List.length_filterMap_le _ _) ?_
      simp
      omega
    generalize hS_1 : S ++ [_] = S_1
    have B := At.new' X hS_1
    have Y_1 := Ext.new' X hS_1
    have w_lo := X.len
    have q_ne_w := A.lt
    replace A := A.mv Y_1
    replace X := X.mv Y_1
    clear hS_1
    generalize hq_w : List.length S = w at B w_lo q_ne_w ⊢
    try simp only [rn_var, rn_c, rn_op, rn_un, rn_dE, rn_ch, rn_dAnd, rn_dOr, rn_dNot, rn_dYes, rn_and, rn_or, rn_not, rn_if, rn_aNil, rn_aCons, rn_A, rn_mkT, rn_mkL, rn_oNon, rn_asI, rn_oSm, rn_sl, rn_M, rn_isi, rn_lrev, rn_add_i, rn_add_t, rn_sub_i, rn_mul_i, rn_fdiv_i, rn_mod_i, rn_pow_i, rn_lt_i, rn_le_i, rn_gt_i, rn_ge_i, rn_neg_i, rn_eq_i, rn_ne_i, rn_eq_b, rn_eq_s, rn_is, rn_isnot, rn_sl_t, kN_nx, kN_rt, kN_bk, kN_ct, rs_nil, rs_cons, rs_brk, rs_cnt, rs_ex, rs_ret, rs_retN, rs_if, rs_set, rs_par, rs_par3, rs_asg, rs_sub, rn_int_i, rn_abs_i, rn_asB, rn_iSeq, rn_iRng1, rn_iEnu, rn_iZp, rn_iRng2, rn_iRng3, rn_iRv, rn_dic0, rn_dic1, rn_max2, rn_MT, ex_tup, rn_revS, isTy_str, List.getElem?_cons_zero, List.getElem?_cons_succ, List.set_cons_succ, List.set_cons_zero, List.length_cons, List.length_nil, Nat.reduceAdd, Nat.zero_add, reduceIte, Nat.reduceLeDiff, true_and, List.cons_append, List.nil_append, isTy_lst A.h, rn_len_l A.h, rn_append A.h, isTy_lst B.h, rn_len_l B.h, rn_append B.h]
    generalize hS_2 : S_1 ++ [_] = S_2
    have B2 := At.new' X hS_2
    have Y_2 := Ext.new' X hS_2
    have w2_lo := X.len
    have q_ne_w2 := A.lt
    have w_ne_w2 := B.lt
    replace A := A.mv Y_2
    replace B := B.mv Y_2
    replace X := X.mv Y_2
    clear hS_2
    generalize hq_w2 : List.length S_1 = w2 at B2 w2_lo q_ne_w2 w_ne_w2 ⊢
    rw [rn_neA_l B.h B2.h]
    simp only [rn_asB]
    refine ⟨fun h => ?_, fun h => ?_⟩
    · have hne : L ≠ [] := fun z => by subst z; cases h
      refine (pick_spec X.bag B.seq hne (by omega)).mono ?_
      rintro r S_3 ⟨hr, Y_3⟩
      replace A := A.mv Y_3
      replace B := B.mv Y_3
      replace B2 := B2.mv Y_3
      replace X := X.mv Y_3
      obtain ⟨m, rfl, m1, m2, m3⟩ := hLm r hr
      exact ⟨m, rfl, m1, .inl m2, m3, X⟩
    · exact ⟨1, rfl, by omega, .inr rfl, hm.2.1, X⟩
/-! a row of signs: the arities from left to right make just so many things -/
def Fo : Nat → List Int → Prop
  | 0, [] => True
  | k + 1, a :: r => Fo (k + a.toNat) r
  | _, _ => False
def Its (sg : List Int) (its : List (Int × Int)) : Prop := (∀ p ∈ its, 0 ≤ p.2 ∧ p.2 ≤ 3) ∧ (∃ p ∈ its, p.2 = 0) ∧ (∀ a ∈ sg, 0 < a → ∃ p ∈ its, p.2 = a) ∧ its.length ≤ 60
def prV (p : Int × Int) : PV := .tup [.int p.1, .int p.2]
def mayB (bs : List Bool) (left need : Int) (p : Int × Int) : Bool := decide (need - 1 + p.2 ≤ left) && (decide (bs[(left - (need - 1 + p.2)).toNat]? = some true) && (decide (0 < need - 1 + p.2) || decide (left = 0)))
theorem may_some {sg : List Int} {its : List (Int × Int)} {bs : List Bool} {left need : Int} (hI : Its sg its) (hm : Sm sg 45 bs) (n1 : 1 ≤ need) (n2 : need ≤ left + 1) (hb : bs[(left + 1 - need).toNat]? = some true) : ∃ p ∈ its, mayB bs left need p = true := by
  obtain ⟨i1, ⟨p0, hp0, e0⟩, i3, i4⟩ := hI
  by_cases c : left + 1 = need
  · refine ⟨p0, hp0, ?_⟩
    unfold mayB
    rw [e0]
    have e : (left - (need - 1 + 0)).toNat = 0 := by omega
    rw [e, hm.2.1]
    simp
    omega
  · have hs : 0 < (left + 1 - need).toNat := by omega
    obtain ⟨a, ha, a0, a1, a2⟩ := hm.2.2.2 _ hs hb
    obtain ⟨p, hp, e⟩ := i3 a ha a0
    refine ⟨p, hp, ?_⟩
    unfold mayB
    rw [e]
    have e2 : (left - (need - 1 + a)).toNat = (left + 1 - need).toNat - a.toNat := by omega
    rw [e2, a2]
    simp
    omega
theorem row_spec {S0 S : Sto} {b c n0 n1 qi qs many : Nat} {sg : List Int} {its : List (Int × Int)} {bs : List Bool} (hI : Its sg its) (hm : Sm sg 45 bs) (Ai : At b c n0 S qi (.lst (its.map prV))) (As : At b c n1 S qs (.lst (bs.map PV.bl))) (X : Ext b c S0 S) (li : qi < S0.length) (ls : qs < S0.length)
    (m1 : 1 ≤ many) (m2 : many ≤ 46) (hb : bs[many - 1]? = some true) : Rn (f__law_row [.loc b, .loc qi, .loc qs, .int (many : Int)] S) fun r S' => ∃ (q : Nat) (ps : List (Int × Int)), r = .loc q ∧ At b c S0.length S' q (.lst (ps.map fun p => PV.int p.1)) ∧ ps.length = many ∧ (∀ p ∈ ps, p ∈ its) ∧ Fo 1 (ps.map (·.2)) ∧ Ext b c S0 S' := by
  unfold f__law_row
  rw [rn_runD]
  unfold b__law_row
  show Rs (sCons _ _ [some (.loc b), some (.loc qi), some (.loc qs), some (.int (many : Int)), none, none, none, none, none, none, none] S) _
  rw [rs_cons, rs_par]
  try simp only [rn_var, rn_c, rn_op, rn_un, rn_dE, rn_ch, rn_dAnd, rn_dOr, rn_dNot, rn_dYes, rn_and, rn_or, rn_not, rn_if, rn_aNil, rn_aCons, rn_A, rn_mkT, rn_mkL, rn_oNon, rn_asI, rn_oSm, rn_sl, rn_M, rn_isi, rn_lrev, rn_add_i, rn_add_t, rn_sub_i, rn_mul_i, rn_fdiv_i, rn_mod_i, rn_pow_i, rn_lt_i, rn_le_i, rn_gt_i, rn_ge_i, rn_neg_i, rn_eq_i, rn_ne_i, rn_eq_b, rn_eq_s, rn_is, rn_isnot, rn_sl_t, kN_nx, kN_rt, kN_bk, kN_ct, rs_nil, rs_brk, rs_cnt, rs_ret, rs_retN, rn_int_i, rn_abs_i, rn_asB, rn_iSeq, rn_iRng1, rn_iEnu, rn_iZp, rn_iRng2, rn_iRng3, rn_iRv, rn_dic0, rn_dic1, rn_max2, rn_MT, ex_tup, rn_revS, isTy_str, List.getElem?_cons_zero, List.getElem?_cons_succ, List.set_cons_succ, List.set_cons_zero, List.length_cons, List.length_nil, Nat.reduceAdd, Nat.zero_add, reduceIte, Nat.reduceLeDiff, true_and, List.cons_append, List.nil_append, isTy_lst Ai.h, rn_len_l Ai.h, rn_append Ai.h, isTy_lst As.h, rn_len_l As.h, rn_append As.h]
  generalize hS_1 : S ++ [_] = S_1
  have A := At.new' X hS_1
  have Y_1 := Ext.new' X hS_1
  have q_lo := X.len
  have qi_ne_q := Ai.lt
  have qs_ne_q := As.lt
  replace Ai := Ai.mv Y_1
  replace As := As.mv Y_1
  replace X := X.mv Y_1
  clear hS_1
  generalize hq_q : List.length S = q at A q_lo qi_ne_q qs_ne_q ⊢
  refine ⟨_, _, rfl, ?_⟩
  rw [rs_cons]
  refine for_rn (dnL ((many : Int) - 1) many) (fun i e S3 => ∃ (x6 x7 x8 x9 x10 : Option PV) (need : Nat) (ps : List (Int × Int)), e = [some (.loc b), some (.loc qi), some (.loc qs), some (.int (many : Int)), some (.loc q), some (.int (need : Int)), x6, x7, x8, x9, x10] ∧ At b c S0.length S3 q (.lst (ps.map fun p => PV.int p.1)) ∧ At b c n0 S3 qi (.lst (its.map prV)) ∧ At b c n1 S3 qs (.lst (bs.map PV.bl)) ∧ ps.length = i ∧ (∀ p ∈ ps, p ∈ its) ∧ (∀ suf, Fo need suf → Fo 1 (ps.map (·.2) ++ suf)) ∧ (i < many → 1 ≤ need ∧ need ≤ many - i ∧ bs[many - i - need]? = some true) ∧ (i = many → need = 0) ∧ Ext b c S0 S3) ?_ (fun i x e S3 hx ⟨x6, x7, x8, x9, x10, need, ps, he, A, Ai, As, hl, hps, hF, hn, hz, X⟩ => ?_) (fun e S3 ⟨x6, x7, x8, x9, x10, need, ps, he, A, Ai, As, hl, hps, hF, hn, hz, X⟩ => ?_)
  · simp only [rn_var, rn_c, rn_op, rn_un, rn_dE, rn_ch, rn_dAnd, rn_dOr, rn_dNot, rn_dYes, rn_and, rn_or, rn_not, rn_if, rn_aNil, rn_aCons, rn_A, rn_mkT, rn_mkL, rn_oNon, rn_asI, rn_oSm, rn_sl, rn_M, rn_isi, rn_lrev, rn_add_i, rn_add_t, rn_sub_i, rn_mul_i, rn_fdiv_i, rn_mod_i, rn_pow_i, rn_lt_i, rn_le_i, rn_gt_i, rn_ge_i, rn_neg_i, rn_eq_i, rn_ne_i, rn_eq_b, rn_eq_s, rn_is, rn_isnot, rn_sl_t, kN_nx, kN_rt, kN_bk, kN_ct, rs_nil, rs_cons, rs_brk, rs_cnt, rs_ex, rs_ret, rs_retN, rs_if, rs_set, rs_par, rs_par3, rs_asg, rs_sub, rn_int_i, rn_abs_i, rn_asB, rn_iSeq, rn_iRng1, rn_iEnu, rn_iZp, rn_iRng2, rn_iRng3, rn_iRv, rn_dic0, rn_dic1, rn_max2, rn_MT, ex_tup, rn_revS, isTy_str, List.getElem?_cons_zero, List.getElem?_cons_succ, List.set_cons_succ, List.set_cons_zero, List.length_cons, List.length_nil, Nat.reduceAdd, Nat.zero_add, reduceIte, Nat.reduceLeDiff, true_and, List.cons_append, List.nil_append]
    refine ⟨_, _, _, rfl, (okR_down (by omega) (by omega) (by omega)).1, ?_⟩
    rw [(okR_down (a := (many : Int) - 1) (b := -1) (by omega) (by omega) (by omega)).2]
    rw [show (many : Int) - 1 - -1 = many by omega, Int.toNat_natCast]
    exact ⟨⟨none, none, none, none, none, 1, [], rfl, A, Ai, As, rfl, (fun _ h => (nomatch h)), (fun suf h => h), fun _ => ⟨by omega, by omega, by rw [Nat.sub_zero]; exact hb⟩, fun h => by omega, X⟩, fun i e S _ => wR3_at i⟩
  · skip
    obtain ⟨hi, rfl⟩ := dn_get hx
    subst he
    obtain ⟨n1', n2', hbn⟩ := hn hi
    refine ⟨_, rfl, ?_⟩
    try simp only [setP, wipeP, List.foldl_cons, List.foldl_nil, List.set_cons_succ, List.set_cons_zero]
    rw [rs_cons, rs_set]
    try simp only [rn_var, rn_c, rn_op, rn_un, rn_dE, rn_ch, rn_dAnd, rn_dOr, rn_dNot, rn_dYes, rn_and, rn_or, rn_not, rn_if, rn_aNil, rn_aCons, rn_A, rn_mkT, rn_mkL, rn_oNon, rn_asI, rn_oSm, rn_sl, rn_M, rn_isi, rn_lrev, rn_add_i, rn_add_t, rn_sub_i, rn_mul_i, rn_fdiv_i, rn_mod_i, rn_pow_i, rn_lt_i, rn_le_i, rn_gt_i, rn_ge_i, rn_neg_i, rn_eq_i, rn_ne_i, rn_eq_b, rn_eq_s, rn_is, rn_isnot, rn_sl_t, kN_nx, kN_rt, kN_bk, kN_ct, rs_nil, rs_brk, rs_cnt, rs_ret, rs_retN, rn_int_i, rn_abs_i, rn_asB, rn_iSeq, rn_iRng1, rn_iEnu, rn_iZp, rn_iRng2, rn_iRng3, rn_iRv, rn_dic0, rn_dic1, rn_max2, rn_MT, ex_tup, rn_revS, isTy_str, List.getElem?_cons_zero, List.getElem?_cons_succ, List.set_cons_succ, List.set_cons_zero, List.length_cons, List.length_nil, Nat.reduceAdd, Nat.zero_add, reduceIte, Nat.reduceLeDiff, true_and, List.cons_append, List.nil_append, isTy_lst Ai.h, rn_len_l Ai.h, rn_append Ai.h, isTy_lst As.h, rn_len_l As.h, rn_append As.h, isTy_lst A.h, rn_len_l A.h, rn_append A.h]
    generalize hS_2 : S3 ++ [_] = S_2
    have B := At.new' X hS_2
    have Y_2 := Ext.new' X hS_2
    have w_lo := X.len
    have qi_ne_w := Ai.lt
    have qs_ne_w := As.lt
    have q_ne_w := A.lt
    replace Ai := Ai.mv Y_2
    replace As := As.mv Y_2
    replace A := A.mv Y_2
    replace X := X.mv Y_2
    clear hS_2
    generalize hq_w : List.length S3 = w at B w_lo qi_ne_w qs_ne_w q_ne_w ⊢
    rw [rs_cons]
    have hL : (many : Int) - 1 - i = ((many - 1 - i : Nat) : Int) := by omega
    generalize hleft : (many : Int) - 1 - i = left
    refine for_rn (its.map prV) (fun j e S4 => ∃ (x8 x9 x10 : Option PV), e = [some (.loc b), some (.loc qi), some (.loc qs), some (.int (many : Int)), some (.loc q), some (.int (need : Int)), some (.int left), some (.loc w), x8, x9, x10] ∧ At b c S0.length S4 q (.lst (ps.map fun p => PV.int p.1)) ∧ At b c n0 S4 qi (.lst (its.map prV)) ∧ At b c n1 S4 qs (.lst (bs.map PV.bl)) ∧ At b c S0.length S4 w (.lst (((its.take j).filter (mayB bs left need)).map prV)) ∧ Ext b c S0 S4) ?_ (fun j x e S4 hx ⟨x8, x9, x10, he, A, Ai, As, B, X⟩ => ?_) (fun e S4 ⟨x8, x9, x10, he, A, Ai, As, B, X⟩ => ?_)
    · try simp only [rn_var, rn_c, rn_op, rn_un, rn_dE, rn_ch, rn_dAnd, rn_dOr, rn_dNot, rn_dYes, rn_and, rn_or, rn_not, rn_if, rn_aNil, rn_aCons, rn_A, rn_mkT, rn_mkL, rn_oNon, rn_asI, rn_oSm, rn_sl, rn_M, rn_isi, rn_lrev, rn_add_i, rn_add_t, rn_sub_i, rn_mul_i, rn_fdiv_i, rn_mod_i, rn_pow_i, rn_lt_i, rn_le_i, rn_gt_i, rn_ge_i, rn_neg_i, rn_eq_i, rn_ne_i, rn_eq_b, rn_eq_s, rn_is, rn_isnot, rn_sl_t, kN_nx, kN_rt, kN_bk, kN_ct, rs_nil, rs_cons, rs_brk, rs_cnt, rs_ex, rs_ret, rs_retN, rs_if, rs_set, rs_par, rs_par3, rs_asg, rs_sub, rn_int_i, rn_abs_i, rn_asB, rn_iSeq, rn_iRng1, rn_iEnu, rn_iZp, rn_iRng2, rn_iRng3, rn_iRv, rn_dic0, rn_dic1, rn_max2, rn_MT, ex_tup, rn_revS, isTy_str, List.getElem?_cons_zero, List.getElem?_cons_succ, List.set_cons_succ, List.set_cons_zero, List.length_cons, List.length_nil, Nat.reduceAdd, Nat.zero_add, reduceIte, Nat.reduceLeDiff, true_and, List.cons_append, List.nil_append, isTy_lst Ai.h, rn_len_l Ai.h, rn_append Ai.h, isTy_lst As.h, rn_len_l As.h, rn_append As.h, isTy_lst A.h, rn_len_l A.h, rn_append A.h, isTy_lst B.h, rn_len_l B.h, rn_append B.h]
      exact ⟨_, wk_loc Ai.h, ⟨x8, x9, x10, rfl, A, Ai, As, B, X⟩, fun i e S ⟨_, _, _, _, _, Ai, _⟩ => wL_at Ai.h i⟩
    · skip
      subst he
      rw [List.getElem?_map] at hx
      obtain ⟨p, hp, rfl⟩ := Option.map_eq_some_iff.mp hx
      have hpm := List.mem_of_getElem? hp
      obtain ⟨p0, p3⟩ := hI.1 p hpm
      have jl := lt_of_get hp
      have i4 := hI.2.2.2
      refine ⟨[(8, .int p.1), (9, .int p.2)], rfl, ?_⟩
      try simp only [setP, wipeP, List.foldl_cons, List.foldl_nil, List.set_cons_succ, List.set_cons_zero]
      rw [rs_cons, rs_set]
      try simp only [rn_var, rn_c, rn_op, rn_un, rn_dE, rn_ch, rn_dAnd, rn_dOr, rn_dNot, rn_dYes, rn_and, rn_or, rn_not, rn_if, rn_aNil, rn_aCons, rn_A, rn_mkT, rn_mkL, rn_oNon, rn_asI, rn_oSm, rn_sl, rn_M, rn_isi, rn_lrev, rn_add_i, rn_add_t, rn_sub_i, rn_mul_i, rn_fdiv_i, rn_mod_i, rn_pow_i, rn_lt_i, rn_le_i, rn_gt_i, rn_ge_i, rn_neg_i, rn_eq_i, rn_ne_i, rn_eq_b, rn_eq_s, rn_is, rn_isnot, rn_sl_t, kN_nx, kN_rt, kN_bk, kN_ct, rs_nil, rs_brk, rs_cnt, rs_ret, rs_retN, rn_int_i, rn_abs_i, rn_asB, rn_iSeq, rn_iRng1, rn_iEnu, rn_iZp, rn_iRng2, rn_iRng3, rn_iRv, rn_dic0, rn_dic1, rn_max2, rn_MT, ex_tup, rn_revS, isTy_str, List.getElem?_cons_zero, List.getElem?_cons_succ, List.set_cons_succ, List.set_cons_zero, List.length_cons, List.length_nil, Nat.reduceAdd, Nat.zero_add, reduceIte, Nat.reduceLeDiff, true_and, List.cons_append, List.nil_append, isTy_lst Ai.h, rn_len_l Ai.h, rn_append Ai.h, isTy_lst As.h, rn_len_l As.h, rn_append As.h, isTy_lst A.h, rn_len_l A.h, rn_append A.h, isTy_lst B.h, rn_len_l B.h, rn_append B.h]
      rw [rs_if]
      try simp only [rn_var, rn_c, rn_op, rn_un, rn_dE, rn_ch, rn_dAnd, rn_dOr, rn_dNot, rn_dYes, rn_and, rn_or, rn_not, rn_if, rn_aNil, rn_aCons, rn_A, rn_mkT, rn_mkL, rn_oNon, rn_asI, rn_oSm, rn_sl, rn_M, rn_isi, rn_lrev, rn_add_i, rn_add_t, rn_sub_i, rn_mul_i, rn_fdiv_i, rn_mod_i, rn_pow_i, rn_lt_i, rn_le_i, rn_gt_i, rn_ge_i, rn_neg_i, rn_eq_i, rn_ne_i, rn_eq_b, rn_eq_s, rn_is, rn_isnot, rn_sl_t, kN_nx, kN_rt, kN_bk, kN_ct, rs_nil, rs_brk, rs_cnt, rs_ret, rs_retN, rn_int_i, rn_abs_i, rn_asB, rn_iSeq, rn_iRng1, rn_iEnu, rn_iZp, rn_iRng2, rn_iRng3, rn_iRv, rn_dic0, rn_dic1, rn_max2, rn_MT, ex_tup, rn_revS, isTy_str, List.getElem?_cons_zero, List.getElem?_cons_succ, List.set_cons_succ, List.set_cons_zero, List.length_cons, List.length_nil, Nat.reduceAdd, Nat.zero_add, reduceIte, Nat.reduceLeDiff, true_and, List.cons_append, List.nil_append, isTy_lst Ai.h, rn_len_l Ai.h, rn_append Ai.h, isTy_lst As.h, rn_len_l As.h, rn_append As.h, isTy_lst A.h, rn_len_l A.h, rn_append A.h, isTy_lst B.h, rn_len_l B.h, rn_append B.h]
      have tk : its.take (j + 1) = its.take j ++ [p] := by rw [List.take_add_one, hp]; rfl
      have no : mayB bs left need p = false → ∃ (y8 y9 y10 : Option PV), [some (PV.loc b), some (.loc qi), some (.loc qs), some (.int (many : Int)), some (.loc q), some (.int (need : Int)), some (.int left), some (.loc w), some (.int p.1), some (.int p.2), some (.int ((need : Int) - 1 + p.2))] = [some (.loc b), some (.loc qi), some (.loc qs), some (.int (many : Int)), some (.loc q), some (.int (need : Int)), some (.int left), some (.loc w), y8, y9, y10] ∧ At b c S0.length S4 q (.lst (ps.map fun p => PV.int p.1)) ∧ At b c n0 S4 qi (.lst (its.map prV)) ∧ At b c n1 S4 qs (.lst (bs.map PV.bl)) ∧ At b c S0.length S4 w (.lst (((its.take (j + 1)).filter (mayB bs left need)).map prV)) ∧ Ext b c S0 S4 := fun hno => by
        refine ⟨_, _, _, rfl, A, Ai, As, ?_, X⟩
        rw [tk, List.filter_append]
        simp only [List.filter_cons, hno, List.filter_nil]
        simpa using B
      refine ⟨fun h1 => ?_, fun h1 => ⟨fun h => (nomatch h), fun _ => ?_⟩⟩
      · have h1 := of_decide_eq_true h1
        have hk : (left - ((need : Int) - 1 + p.2)).toNat < bs.length := by have := hm.1; omega
        rw [ix_loc As.h (v := .bl bs[(left - ((need : Int) - 1 + p.2)).toNat]) (ixP_int (by omega) (by rw [List.getElem?_map, List.getElem?_eq_getElem hk]; rfl))]
        simp only [rn_asB]
        have hmB : mayB bs left need p = (bs[(left - ((need : Int) - 1 + p.2)).toNat] && (decide (0 < (need : Int) - 1 + p.2) || decide (left = 0))) := by
          unfold mayB
          rw [List.getElem?_eq_getElem hk]
          have : decide ((need : Int) - 1 + p.2 ≤ left) = true := decide_eq_true h1
          rw [this]
          simp
        have yes : mayB bs left need p = true → Rn (eM "list" mAppend (eVar 7) (aCons (eA mkT (aCons (eVar 8) (aCons (eVar 9) aNil))) aNil) [some (PV.loc b), some (.loc qi), some (.loc qs), some (.int (many : Int)), some (.loc q), some (.int (need : Int)), some (.int left), some (.loc w), some (.int p.1), some (.int p.2), some (.int ((need : Int) - 1 + p.2))] S4) fun _ S5 => ∃ (y8 y9 y10 : Option PV), [some (PV.loc b), some (.loc qi), some (.loc qs), some (.int (many : Int)), some (.loc q), some (.int (need : Int)), some (.int left), some (.loc w), some (.int p.1), some (.int p.2), some (.int ((need : Int) - 1 + p.2))] = [some (.loc b), some (.loc qi), some (.loc qs), some (.int (many : Int)), some (.loc q), some (.int (need : Int)), some (.int left), some (.loc w), y8, y9, y10] ∧ At b c S0.length S5 q (.lst (ps.map fun p => PV.int p.1)) ∧ At b c n0 S5 qi (.lst (its.map prV)) ∧ At b c n1 S5 qs (.lst (bs.map PV.bl)) ∧ At b c S0.length S5 w (.lst (((its.take (j + 1)).filter (mayB bs left need)).map prV)) ∧ Ext b c S0 S5 := fun hy => by
          try simp only [rn_var, rn_c, rn_op, rn_un, rn_dE, rn_ch, rn_dAnd, rn_dOr, rn_dNot, rn_dYes, rn_and, rn_or, rn_not, rn_if, rn_aNil, rn_aCons, rn_A, rn_mkT, rn_mkL, rn_oNon, rn_asI, rn_oSm, rn_sl, rn_M, rn_isi, rn_lrev, rn_add_i, rn_add_t, rn_sub_i, rn_mul_i, rn_fdiv_i, rn_mod_i, rn_pow_i, rn_lt_i, rn_le_i, rn_gt_i, rn_ge_i, rn_neg_i, rn_eq_i, rn_ne_i, rn_eq_b, rn_eq_s, rn_is, rn_isnot, rn_sl_t, kN_nx, kN_rt, kN_bk, kN_ct, rs_nil, rs_cons, rs_brk, rs_cnt, rs_ex, rs_ret, rs_retN, rs_if, rs_set, rs_par, rs_par3, rs_asg, rs_sub, rn_int_i, rn_abs_i, rn_asB, rn_iSeq, rn_iRng1, rn_iEnu, rn_iZp, rn_iRng2, rn_iRng3, rn_iRv, rn_dic0, rn_dic1, rn_max2, rn_MT, ex_tup, rn_revS, isTy_str, List.getElem?_cons_zero, List.getElem?_cons_succ, List.set_cons_succ, List.set_cons_zero, List.length_cons, List.length_nil, Nat.reduceAdd, Nat.zero_add, reduceIte, Nat.reduceLeDiff, true_and, List.cons_append, List.nil_append, isTy_lst Ai.h, rn_len_l Ai.h, rn_append Ai.h, isTy_lst As.h, rn_len_l As.h, rn_append As.h, isTy_lst A.h, rn_len_l A.h, rn_append A.h, isTy_lst B.h, rn_len_l B.h, rn_append B.h]
          have hlen : (its.take j).length ≤ 60 := by rw [List.length_take]; omega
          have hlen2 := List.length_filter_le (mayB bs left need) (its.take j)
          refine ⟨by rw [List.length_map]; omega, ?_⟩
          generalize hS_3 : List.set S4 w _ = S_3
          have W_3 := At.wrs' B hS_3
          have B' := At.put' B hS_3
          replace Ai := Ai.wr W_3 (by first | assumption | exact Ne.symm (by assumption) | omega)
          replace As := As.wr W_3 (by first | assumption | exact Ne.symm (by assumption) | omega)
          replace A := A.wr W_3 (by first | assumption | exact Ne.symm (by assumption) | omega)
          replace X := X.wr W_3 B.lo
          clear hS_3 B
          have B := B'
          clear B'
          refine ⟨_, _, _, rfl, A, Ai, As, ?_, X⟩
          rw [tk, List.filter_append]
          simp only [List.filter_cons, hy, List.filter_nil, if_true, List.map_append]
          exact B
        refine ⟨fun h2 => ?_, fun h2 => ⟨fun h => (nomatch h), fun _ => ?_⟩⟩
        · rw [h2, Bool.true_and] at hmB
          refine ⟨fun h3 => ⟨fun _ => ?_, fun h => (nomatch h)⟩, fun h3 => ⟨fun h4 => ?_, fun h4 => ?_⟩⟩
          · rw [rs_ex]
            exact yes (by rw [hmB, h3, Bool.true_or])
          · rw [rs_ex]
            exact yes (by rw [hmB]; simp at h4; simp [h4])
          · exact no (by rw [hmB, h3]; simp at h4; simp [h4])
        · exact no (by rw [hmB, h2, Bool.false_and])
      · have h1 := of_decide_eq_false h1
        exact no (by unfold mayB; rw [decide_eq_false h1, Bool.false_and])
    · skip
      subst he
      rw [List.length_map, List.take_length] at B
      obtain ⟨p1, hp1, hmp1⟩ := may_some hI hm (left := left) (need := need) (by omega) (by omega) (by rw [← hbn]; congr 1; omega)
      have hne : (its.filter (mayB bs left need)).map prV ≠ [] := fun z => by
        have := List.mem_filter.mpr ⟨hp1, hmp1⟩
        rw [List.map_eq_nil_iff.mp z] at this
        cases this
      have hln := List.length_filter_le (mayB bs left need) its
      have i4 := hI.2.2.2
      simp only [kN_nx]
      rw [rs_cons, rs_asg]
      try simp only [rn_var, rn_c, rn_op, rn_un, rn_dE, rn_ch, rn_dAnd, rn_dOr, rn_dNot, rn_dYes, rn_and, rn_or, rn_not, rn_if, rn_aNil, rn_aCons, rn_A, rn_mkT, rn_mkL, rn_oNon, rn_asI, rn_oSm, rn_sl, rn_M, rn_isi, rn_lrev, rn_add_i, rn_add_t, rn_sub_i, rn_mul_i, rn_fdiv_i, rn_mod_i, rn_pow_i, rn_lt_i, rn_le_i, rn_gt_i, rn_ge_i, rn_neg_i, rn_eq_i, rn_ne_i, rn_eq_b, rn_eq_s, rn_is, rn_isnot, rn_sl_t, kN_nx, kN_rt, kN_bk, kN_ct, rs_nil, rs_brk, rs_cnt, rs_ret, rs_retN, rn_int_i, rn_abs_i, rn_asB, rn_iSeq, rn_iRng1, rn_iEnu, rn_iZp, rn_iRng2, rn_iRng3, rn_iRv, rn_dic0, rn_dic1, rn_max2, rn_MT, ex_tup, rn_revS, isTy_str, List.getElem?_cons_zero, List.getElem?_cons_succ, List.set_cons_succ, List.set_cons_zero, List.length_cons, List.length_nil, Nat.reduceAdd, Nat.zero_add, reduceIte, Nat.reduceLeDiff, true_and, List.cons_append, List.nil_append, isTy_lst Ai.h, rn_len_l Ai.h, rn_append Ai.h, isTy_lst As.h, rn_len_l As.h, rn_append As.h, isTy_lst A.h, rn_len_l A.h, rn_append A.h, isTy_lst B.h, rn_len_l B.h, rn_append B.h]
      refine (pick_spec X.bag B.seq hne (by rw [List.length_map]; omega)).mono ?_
      rintro r S_4 ⟨hr, Y_4⟩
      replace Ai := Ai.mv Y_4
      replace As := As.mv Y_4
      replace A := A.mv Y_4
      replace B := B.mv Y_4
      replace X := X.mv Y_4
      obtain ⟨p, hp, rfl⟩ := List.mem_map.mp hr
      obtain ⟨hpi, hpm⟩ := List.mem_filter.mp hp
      obtain ⟨p0, p3⟩ := hI.1 p hpi
      refine ⟨[(8, .int p.1), (9, .int p.2)], rfl, ?_⟩
      try simp only [setP, wipeP, List.foldl_cons, List.foldl_nil, List.set_cons_succ, List.set_cons_zero]
      try simp only [rn_var, rn_c, rn_op, rn_un, rn_dE, rn_ch, rn_dAnd, rn_dOr, rn_dNot, rn_dYes, rn_and, rn_or, rn_not, rn_if, rn_aNil, rn_aCons, rn_A, rn_mkT, rn_mkL, rn_oNon, rn_asI, rn_oSm, rn_sl, rn_M, rn_isi, rn_lrev, rn_add_i, rn_add_t, rn_sub_i, rn_mul_i, rn_fdiv_i, rn_mod_i, rn_pow_i, rn_lt_i, rn_le_i, rn_gt_i, rn_ge_i, rn_neg_i, rn_eq_i, rn_ne_i, rn_eq_b, rn_eq_s, rn_is, rn_isnot, rn_sl_t, kN_nx, kN_rt, kN_bk, kN_ct, rs_nil, rs_cons, rs_brk, rs_cnt, rs_ex, rs_ret, rs_retN, rs_if, rs_set, rs_par, rs_par3, rs_asg, rs_sub, rn_int_i, rn_abs_i, rn_asB, rn_iSeq, rn_iRng1, rn_iEnu, rn_iZp, rn_iRng2, rn_iRng3, rn_iRv, rn_dic0, rn_dic1, rn_max2, rn_MT, ex_tup, rn_revS, isTy_str, List.getElem?_cons_zero, List.getElem?_cons_succ, List.set_cons_succ, List.set_cons_zero, List.length_cons, List.length_nil, Nat.reduceAdd, Nat.zero_add, reduceIte, Nat.reduceLeDiff, true_and, List.cons_append, List.nil_append, isTy_lst Ai.h, rn_len_l Ai.h, rn_append Ai.h, isTy_lst As.h, rn_len_l As.h, rn_append As.h, isTy_lst A.h, rn_len_l A.h, rn_append A.h, isTy_lst B.h, rn_len_l B.h, rn_append B.h]
      refine ⟨by rw [List.length_map]; omega, ?_⟩
      generalize hS_5 : List.set S_4 q _ = S_5
      have W_5 := At.wrs' A hS_5
      have A' := At.put' A hS_5
      replace Ai := Ai.wr W_5 (by first | assumption | exact Ne.symm (by assumption) | omega)
      replace As := As.wr W_5 (by first | assumption | exact Ne.symm (by assumption) | omega)
      replace B := B.wr W_5 (by first | assumption | exact Ne.symm (by assumption) | omega)
      replace X := X.wr W_5 A.lo
      clear hS_5 A
      have A := A'
      clear A'
      unfold mayB at hpm
      simp only [Bool.and_eq_true, Bool.or_eq_true, decide_eq_true_eq] at hpm
      obtain ⟨g1, g2, g3⟩ := hpm
      have eN : (need : Int) - 1 + p.2 = ((need - 1 + p.2.toNat : Nat) : Int) := by omega
      rw [eN]
      refine ⟨_, _, _, _, _, (need - 1 + p.2.toNat), ps ++ [p], rfl, ?_, Ai, As, ?_, ?_, ?_, ?_, ?_, X⟩
      · rw [List.map_append]; exact A
      · rw [List.length_append, hl]; rfl
      · intro y hy
        rcases List.mem_append.mp hy with z | z
        · exact hps y z
        · rw [List.mem_singleton.mp z]; exact hpi
      · intro suf hs
        rw [List.map_append, List.append_assoc]
        refine hF _ ?_
        obtain ⟨k, rfl⟩ : ∃ k, need = k + 1 := ⟨need - 1, by omega⟩
        show Fo (k + p.2.toNat) suf
        exact hs
      · intro h
        refine ⟨by omega, by omega, ?_⟩
        rw [← g2]; congr 1; omega
      · intro h
        omega
  · skip
    subst he
    simp only [rn_var, rn_c, rn_op, rn_un, rn_dE, rn_ch, rn_dAnd, rn_dOr, rn_dNot, rn_dYes, rn_and, rn_or, rn_not, rn_if, rn_aNil, rn_aCons, rn_A, rn_mkT, rn_mkL, rn_oNon, rn_asI, rn_oSm, rn_sl, rn_M, rn_isi, rn_lrev, rn_add_i, rn_add_t, rn_sub_i, rn_mul_i, rn_fdiv_i, rn_mod_i, rn_pow_i, rn_lt_i, rn_le_i, rn_gt_i, rn_ge_i, rn_neg_i, rn_eq_i, rn_ne_i, rn_eq_b, rn_eq_s, rn_is, rn_isnot, rn_sl_t, kN_nx, kN_rt, kN_bk, kN_ct, rs_nil, rs_cons, rs_brk, rs_cnt, rs_ex, rs_ret, rs_retN, rs_if, rs_set, rs_par, rs_par3, rs_asg, rs_sub, rn_int_i, rn_abs_i, rn_asB, rn_iSeq, rn_iRng1, rn_iEnu, rn_iZp, rn_iRng2, rn_iRng3, rn_iRv, rn_dic0, rn_dic1, rn_max2, rn_MT, ex_tup, rn_revS, isTy_str, List.getElem?_cons_zero, List.getElem?_cons_succ, List.set_cons_succ, List.set_cons_zero, List.length_cons, List.length_nil, Nat.reduceAdd, Nat.zero_add, reduceIte, Nat.reduceLeDiff, true_and, List.cons_append, List.nil_append]
    rw [dn_len] at hl hz
    refine ⟨q, ps, rfl, A, hl, hps, ?_, X⟩
    have := hF [] (by rw [hz rfl]; exact trivial)
    rwa [List.append_nil] at this
theorem odd_spec {S0 S : Sto} {b c n : Nat} {m : Int} (X : Ext b c S0 S) (hn : n ≤ S0.length) (lb : b < n) (lc : c < n) (h1 : -1000000 ≤ m) (h2 : m ≤ 1000000) : Rn (f__law_odd [.loc b, .int m] S) fun r S' => Nf b c n S' 14 700 r ∧ Ext b c S0 S' := by
  unfold f__law_odd
  rw [rn_runD]
  unfold b__law_odd
  show Rs (sCons _ _ [some (.loc b), some (.int m), none, none, none] S) _
  rw [rs_cons, rs_set]
  try simp only [rn_var, rn_c, rn_op, rn_un, rn_dE, rn_ch, rn_dAnd, rn_dOr, rn_dNot, rn_dYes, rn_and, rn_or, rn_not, rn_if, rn_aNil, rn_aCons, rn_A, rn_mkT, rn_mkL, rn_oNon, rn_asI, rn_oSm, rn_sl, rn_M, rn_isi, rn_lrev, rn_add_i, rn_add_t, rn_sub_i, rn_mul_i, rn_fdiv_i, rn_mod_i, rn_pow_i, rn_lt_i, rn_le_i, rn_gt_i, rn_ge_i, rn_neg_i, rn_eq_i, rn_ne_i, rn_eq_b, rn_eq_s, rn_is, rn_isnot, rn_sl_t, kN_nx, kN_rt, kN_bk, kN_ct, rs_nil, rs_brk, rs_cnt, rs_ret, rs_retN, rn_int_i, rn_abs_i, rn_asB, rn_iSeq, rn_iRng1, rn_iEnu, rn_iZp, rn_iRng2, rn_iRng3, rn_iRv, rn_dic0, rn_dic1, rn_max2, rn_MT, ex_tup, rn_revS, isTy_str, List.getElem?_cons_zero, List.getElem?_cons_succ, List.set_cons_succ, List.set_cons_zero, List.length_cons, List.length_nil, Nat.reduceAdd, Nat.zero_add, reduceIte, Nat.reduceLeDiff, true_and, List.cons_append, List.nil_append]
  rw [rs_cons]
  refine for_pre (W := fun w S1 => ∃ k : Nat, k ≤ 12 ∧ w = wR 0 k ∧ Ext b c S0 S1) ?_ (fun w S1 hd ⟨k, hk, hw, X⟩ => ?_)
  · try simp only [rn_var, rn_c, rn_op, rn_un, rn_dE, rn_ch, rn_dAnd, rn_dOr, rn_dNot, rn_dYes, rn_and, rn_or, rn_not, rn_if, rn_aNil, rn_aCons, rn_A, rn_mkT, rn_mkL, rn_oNon, rn_asI, rn_oSm, rn_sl, rn_M, rn_isi, rn_lrev, rn_add_i, rn_add_t, rn_sub_i, rn_mul_i, rn_fdiv_i, rn_mod_i, rn_pow_i, rn_lt_i, rn_le_i, rn_gt_i, rn_ge_i, rn_neg_i, rn_eq_i, rn_ne_i, rn_eq_b, rn_eq_s, rn_is, rn_isnot, rn_sl_t, kN_nx, kN_rt, kN_bk, kN_ct, rs_nil, rs_cons, rs_brk, rs_cnt, rs_ex, rs_ret, rs_retN, rs_if, rs_set, rs_par, rs_par3, rs_asg, rs_sub, rn_int_i, rn_abs_i, rn_asB, rn_iSeq, rn_iRng1, rn_iEnu, rn_iZp, rn_iRng2, rn_iRng3, rn_iRv, rn_dic0, rn_dic1, rn_max2, rn_MT, ex_tup, rn_revS, isTy_str, List.getElem?_cons_zero, List.getElem?_cons_succ, List.set_cons_succ, List.set_cons_zero, List.length_cons, List.length_nil, Nat.reduceAdd, Nat.zero_add, reduceIte, Nat.reduceLeDiff, true_and, List.cons_append, List.nil_append]
    generalize hS_1 : S ++ [_] = S_1
    have A := At.new' X hS_1
    have Y_1 := Ext.new' X hS_1
    have q_lo := X.len
    replace X := X.mv Y_1
    clear hS_1
    generalize hq_q : List.length S = q at A q_lo  ⊢
    refine (pick_spec X.bag A.seq (by simp) (by simp)).mono ?_
    rintro r S_2 ⟨hr, Y_2⟩
    replace A := A.mv Y_2
    replace X := X.mv Y_2
    simp only [List.mem_cons, List.not_mem_nil, or_false] at hr
    rcases hr with rfl | rfl | rfl <;> exact ⟨_, rfl, by omega, _, by decide, rfl, X⟩
  subst hw
  refine for_rule ((List.range k).map fun j : Nat => PV.int (0 + j)) (fun i e S2 => ∃ (v : PV) (x3 x4 : Option PV), e = [some (.loc b), some (.int m), some v, x3, x4] ∧ Nf b c n S2 (i + 1) (70 + 5 * i) v ∧ Ext b c S0 S2) hd ⟨_, none, none, rfl, Nf.tup (Rf.cons (Nf.int lb lc (by omega) (by omega) (Nat.le_refl 63)) (Rf.nil lb lc (m := 0)) (k := 65) (by omega)) (by omega), X⟩ (fun i e S _ h => wR_at i) (fun i x e S2 hx ⟨v, x3, x4, he, hv, X⟩ => ?_) (fun e S2 ⟨v, x3, x4, he, hv, X⟩ => ?_)
  · skip
    subst he
    refine ⟨[(3, x)], rfl, ?_⟩
    try simp only [setP, wipeP, List.foldl_cons, List.foldl_nil, List.set_cons_succ, List.set_cons_zero]
    try simp only [rn_var, rn_c, rn_op, rn_un, rn_dE, rn_ch, rn_dAnd, rn_dOr, rn_dNot, rn_dYes, rn_and, rn_or, rn_not, rn_if, rn_aNil, rn_aCons, rn_A, rn_mkT, rn_mkL, rn_oNon, rn_asI, rn_oSm, rn_sl, rn_M, rn_isi, rn_lrev, rn_add_i, rn_add_t, rn_sub_i, rn_mul_i, rn_fdiv_i, rn_mod_i, rn_pow_i, rn_lt_i, rn_le_i, rn_gt_i, rn_ge_i, rn_neg_i, rn_eq_i, rn_ne_i, rn_eq_b, rn_eq_s, rn_is, rn_isnot, rn_sl_t, kN_nx, kN_rt, kN_bk, kN_ct, rs_nil, rs_cons, rs_brk, rs_cnt, rs_ex, rs_ret, rs_retN, rs_if, rs_set, rs_par, rs_par3, rs_asg, rs_sub, rn_int_i, rn_abs_i, rn_asB, rn_iSeq, rn_iRng1, rn_iEnu, rn_iZp, rn_iRng2, rn_iRng3, rn_iRv, rn_dic0, rn_dic1, rn_max2, rn_MT, ex_tup, rn_revS, isTy_str, List.getElem?_cons_zero, List.getElem?_cons_succ, List.set_cons_succ, List.set_cons_zero, List.length_cons, List.length_nil, Nat.reduceAdd, Nat.zero_add, reduceIte, Nat.reduceLeDiff, true_and, List.cons_append, List.nil_append]
    refine (draw_spec X.bag (n := 2) (by omega) (by omega)).mono ?_
    rintro r S_3 ⟨k, rfl, k0, k1, Y_3⟩
    replace hv := hv.mv Y_3
    replace X := X.mv Y_3
    try simp only [rn_var, rn_c, rn_op, rn_un, rn_dE, rn_ch, rn_dAnd, rn_dOr, rn_dNot, rn_dYes, rn_and, rn_or, rn_not, rn_if, rn_aNil, rn_aCons, rn_A, rn_mkT, rn_mkL, rn_oNon, rn_asI, rn_oSm, rn_sl, rn_M, rn_isi, rn_lrev, rn_add_i, rn_add_t, rn_sub_i, rn_mul_i, rn_fdiv_i, rn_mod_i, rn_pow_i, rn_lt_i, rn_le_i, rn_gt_i, rn_ge_i, rn_neg_i, rn_eq_i, rn_ne_i, rn_eq_b, rn_eq_s, rn_is, rn_isnot, rn_sl_t, kN_nx, kN_rt, kN_bk, kN_ct, rs_nil, rs_cons, rs_brk, rs_cnt, rs_ex, rs_ret, rs_retN, rs_if, rs_set, rs_par, rs_par3, rs_asg, rs_sub, rn_int_i, rn_abs_i, rn_asB, rn_iSeq, rn_iRng1, rn_iEnu, rn_iZp, rn_iRng2, rn_iRng3, rn_iRv, rn_dic0, rn_dic1, rn_max2, rn_MT, ex_tup, rn_revS, isTy_str, List.getElem?_cons_zero, List.getElem?_cons_succ, List.set_cons_succ, List.set_cons_zero, List.length_cons, List.length_nil, Nat.reduceAdd, Nat.zero_add, reduceIte, Nat.reduceLeDiff, true_and, List.cons_append, List.nil_append]
    refine ⟨fun _ => ?_, fun _ => ?_⟩
    · generalize hS_4 : S_3 ++ [_] = S_4
      have A := At.new' X hS_4
      have Y_4 := Ext.new' X hS_4
      have q_lo := X.len
      replace hv := hv.mv Y_4
      replace X := X.mv Y_4
      clear hS_4
      generalize hq_q : List.length S_3 = q at A q_lo  ⊢
      exact ⟨_, _, _, rfl, Nf.lst (Rf.cons hv (Rf.nil lb lc (m := 0)) (Nat.le_refl _)) (by have := A.lo; omega) A.h (by omega), X⟩
    · exact ⟨_, _, _, rfl, Nf.tup (Rf.cons hv (Rf.nil lb lc (m := 0)) (Nat.le_refl _)) (by omega), X⟩
  · skip
    subst he
    rw [List.length_map, List.length_range] at hv
    replace hv := hv.up (d' := 13) (m' := 130) (by omega) (by omega)
    simp only [kN_nx]
    rw [rs_cons, rs_set]
    simp only [rn_var, rn_c, rn_op, rn_un, rn_dE, rn_ch, rn_dAnd, rn_dOr, rn_dNot, rn_dYes, rn_and, rn_or, rn_not, rn_if, rn_aNil, rn_aCons, rn_A, rn_mkT, rn_mkL, rn_oNon, rn_asI, rn_oSm, rn_sl, rn_M, rn_isi, rn_lrev, rn_add_i, rn_add_t, rn_sub_i, rn_mul_i, rn_fdiv_i, rn_mod_i, rn_pow_i, rn_lt_i, rn_le_i, rn_gt_i, rn_ge_i, rn_neg_i, rn_eq_i, rn_ne_i, rn_eq_b, rn_eq_s, rn_is, rn_isnot, rn_sl_t, kN_nx, kN_rt, kN_bk, kN_ct, rs_nil, rs_brk, rs_cnt, rs_ret, rs_retN, rn_int_i, rn_abs_i, rn_asB, rn_iSeq, rn_iRng1, rn_iEnu, rn_iZp, rn_iRng2, rn_iRng3, rn_iRv, rn_dic0, rn_dic1, rn_max2, rn_MT, ex_tup, rn_revS, isTy_str, List.getElem?_cons_zero, List.getElem?_cons_succ, List.set_cons_succ, List.set_cons_zero, List.length_cons, List.length_nil, Nat.reduceAdd, Nat.zero_add, reduceIte, Nat.reduceLeDiff, true_and, List.cons_append, List.nil_append, rn_pow_i]
    refine ⟨by decide, ?_⟩
    generalize hS_5 : S2 ++ [_] = S_5
    have A1 := At.new' X hS_5
    have Y_5 := Ext.new' X hS_5
    have q1_lo := X.len
    replace hv := hv.mv Y_5
    replace X := X.mv Y_5
    clear hS_5
    generalize hq_q1 : List.length S2 = q1 at A1 q1_lo  ⊢
    generalize hS_6 : S_5 ++ [_] = S_6
    have A2 := At.new' X hS_6
    have Y_6 := Ext.new' X hS_6
    have q2_lo := X.len
    have q1_ne_q2 := A1.lt
    replace A1 := A1.mv Y_6
    replace hv := hv.mv Y_6
    replace X := X.mv Y_6
    clear hS_6
    generalize hq_q2 : List.length S_5 = q2 at A2 q2_lo q1_ne_q2 ⊢
    generalize hS_7 : S_6 ++ [_] = S_7
    have A3 := At.new' X hS_7
    have Y_7 := Ext.new' X hS_7
    have q3_lo := X.len
    have q1_ne_q3 := A1.lt
    have q2_ne_q3 := A2.lt
    replace A1 := A1.mv Y_7
    replace A2 := A2.mv Y_7
    replace hv := hv.mv Y_7
    replace X := X.mv Y_7
    clear hS_7
    generalize hq_q3 : List.length S_6 = q3 at A3 q3_lo q1_ne_q3 q2_ne_q3 ⊢
    refine ⟨_, rfl, ?_⟩
    generalize hS_8 : S_7 ++ [_] = S_8
    have A4 := At.new' X hS_8
    have Y_8 := Ext.new' X hS_8
    have q4_lo := X.len
    have q1_ne_q4 := A1.lt
    have q2_ne_q4 := A2.lt
    have q3_ne_q4 := A3.lt
    replace A1 := A1.mv Y_8
    replace A2 := A2.mv Y_8
    replace A3 := A3.mv Y_8
    replace hv := hv.mv Y_8
    replace X := X.mv Y_8
    clear hS_8
    generalize hq_q4 : List.length S_7 = q4 at A4 q4_lo q1_ne_q4 q2_ne_q4 q3_ne_q4 ⊢
    generalize hS_9 : S_8 ++ [_] = S_9
    have A5 := At.new' X hS_9
    have Y_9 := Ext.new' X hS_9
    have q5_lo := X.len
    have q1_ne_q5 := A1.lt
    have q2_ne_q5 := A2.lt
    have q3_ne_q5 := A3.lt
    have q4_ne_q5 := A4.lt
    replace A1 := A1.mv Y_9
    replace A2 := A2.mv Y_9
    replace A3 := A3.mv Y_9
    replace A4 := A4.mv Y_9
    replace hv := hv.mv Y_9
    replace X := X.mv Y_9
    clear hS_9
    generalize hq_q5 : List.length S_8 = q5 at A5 q5_lo q1_ne_q5 q2_ne_q5 q3_ne_q5 q4_ne_q5 ⊢
    generalize hS_10 : S_9 ++ [_] = S_10
    have A := At.new' X hS_10
    have Y_10 := Ext.new' X hS_10
    have q_lo := X.len
    have q1_ne_q := A1.lt
    have q2_ne_q := A2.lt
    have q3_ne_q := A3.lt
    have q4_ne_q := A4.lt
    have q5_ne_q := A5.lt
    replace A1 := A1.mv Y_10
    replace A2 := A2.mv Y_10
    replace A3 := A3.mv Y_10
    replace A4 := A4.mv Y_10
    replace A5 := A5.mv Y_10
    replace hv := hv.mv Y_10
    replace X := X.mv Y_10
    clear hS_10
    generalize hq_q : List.length S_9 = q at A q_lo q1_ne_q q2_ne_q q3_ne_q q4_ne_q q5_ne_q ⊢
    have i0 : ∀ {i : Int} {d : Nat}, -1000000 ≤ i → i ≤ 1000000 → Nf b c n S_10 d 63 (.int i) := fun a z => Nf.int lb lc a z (Nat.le_refl _)
    have t1 : ∀ {x : PV} {d m : Nat}, Nf b c n S_10 d m x → Nf b c n S_10 (d + 1) (m + 5) (.tup [x]) := fun h => Nf.tup (Rf.cons h (Rf.nil lb lc (m := 0)) (Nat.le_refl _)) (by omega)
    have t2 : ∀ {x y : PV} {d m m' : Nat}, Nf b c n S_10 d m x → Nf b c n S_10 d m' y → Nf b c n S_10 (d + 1) (m + m' + 7) (.tup [x, y]) := fun h k => Nf.tup (Rf.cons h (Rf.cons k (Rf.nil lb lc (m := 0)) (Nat.le_refl _)) (Nat.le_refl _)) (by omega)
    have l0 : Nf b c n S_10 1 70 (.loc q3) := Nf.lst (Rf.cons (i0 (i := 0) (by omega) (by omega)) (Rf.nil lb lc (m := 0)) (Nat.le_refl _)) (by have := A3.lo; omega) A3.h (by omega)
    have l5 : Nf b c n S_10 1 70 (.loc q5) := Nf.lst (Rf.cons (i0 (i := 0) (by omega) (by omega)) (Rf.nil lb lc (m := 0)) (Nat.le_refl _)) (by have := A5.lo; omega) A5.h (by omega)
    have l1 : Nf b c n S_10 1 10 (.loc q1) := Nf.lst (Rf.nil lb lc (m := 0)) (by have := A1.lo; omega) A1.h (by omega)
    have d2 : Nf b c n S_10 1 10 (.loc q2) := Nf.dic0 lb lc (by have := A2.lo; omega) A2.h (by omega)
    have d4 : Nf b c n S_10 2 100 (.loc q4) := Nf.dic1 (t1 (i0 (i := 0) (by omega) (by omega))) (by decide) (by have := A4.lo; omega) A4.h (by decide)
    have st : ∀ {z : Str} {d : Nat}, (reprText z).length ≤ 60 → Nf b c n S_10 d 60 (.str z) := fun h => Nf.str lb lc h
    have hall : Af b c n S_10 14 700 _ := Af.cons ((Nf.non lb lc (Nat.le_refl _)).up (Nat.zero_le _) (by omega)) <| Af.cons ((Nf.bl (v := true) lb lc (Nat.le_refl _)).up (Nat.zero_le _) (by omega)) <| Af.cons ((Nf.bl (v := false) lb lc (Nat.le_refl _)).up (Nat.zero_le _) (by omega)) <|
      Af.cons ((i0 (i := -1) (by omega) (by omega)).up (Nat.zero_le _) (by omega)) <| Af.cons ((i0 (i := 0) (by omega) (by omega)).up (Nat.zero_le _) (by omega)) <| Af.cons ((i0 (i := 1) (by omega) (by omega)).up (Nat.zero_le _) (by omega)) <| Af.cons ((i0 (i := 4) (by omega) (by omega)).up (Nat.zero_le _) (by omega)) <|
      Af.cons ((i0 h1 h2).up (Nat.zero_le _) (by omega)) <| Af.cons ((Nf.big (i := 10 ^ (40 : Int).toNat) lb lc (by decide) (Nat.le_refl _)).up (Nat.zero_le _) (by omega)) <|
      Af.cons ((st (z := "") (by decide +kernel)).up (Nat.zero_le _) (by omega)) <| Af.cons ((st (z := "0") (by decide +kernel)).up (Nat.zero_le _) (by omega)) <| Af.cons ((st (z := "a(b)") (by decide +kernel)).up (Nat.zero_le _) (by omega)) <|
      Af.cons ((Nf.tup (Rf.nil lb lc (m := 0) (d := 0)) (Nat.le_refl _)).up (by omega) (by omega)) <| Af.cons (l1.up (by omega) (by omega)) <| Af.cons (d2.up (by omega) (by omega)) <| Af.cons (l0.up (by omega) (by omega)) <| Af.cons (d4.up (by omega) (by omega)) <|
      Af.cons ((t1 (t1 (i0 (d := 0) (i := 0) (by omega) (by omega)))).up (by omega) (by omega)) <| Af.cons ((t1 (Nf.non lb lc (d := 0) (Nat.le_refl _))).up (by omega) (by omega)) <| Af.cons ((t1 (st (z := "0") (d := 0) (by decide +kernel))).up (by omega) (by omega)) <|
      Af.cons ((t1 (Nf.bl (v := true) lb lc (d := 0) (Nat.le_refl _))).up (by omega) (by omega)) <| Af.cons ((t1 (Nf.bl (v := false) lb lc (d := 0) (Nat.le_refl _))).up (by omega) (by omega)) <| Af.cons ((t1 (i0 (d := 0) (i := -1) (by omega) (by omega))).up (by omega) (by omega)) <| Af.cons ((t1 (i0 (d := 0) h1 h2)).up (by omega) (by omega)) <|
      Af.cons ((t2 (i0 (d := 0) (i := 0) (by omega) (by omega)) (i0 (i := 0) (by omega) (by omega))).up (by omega) (by omega)) <| Af.cons ((t2 (i0 (d := 1) (i := 0) (by omega) (by omega)) (t1 (i0 (i := 0) (by omega) (by omega)))).up (by omega) (by omega)) <| Af.cons ((t1 l5).up (by omega) (by omega)) <| Af.cons (hv.up (by omega) (by omega)) <| Af.nil lb lc
    refine (pick_spec X.bag A.seq (by simp) (by simp)).mono ?_
    rintro r S_11 ⟨hr, Y_11⟩
    replace A1 := A1.mv Y_11
    replace A2 := A2.mv Y_11
    replace A3 := A3.mv Y_11
    replace A4 := A4.mv Y_11
    replace A5 := A5.mv Y_11
    replace A := A.mv Y_11
    replace hv := hv.mv Y_11
    replace hall := hall.mv Y_11
    replace X := X.mv Y_11
    exact ⟨hall.get hr, X⟩
theorem bent_spec {S0 S : Sto} {b c n d m : Nat} {k : Int} {r : List PV} {sg : List Int} (hs : SigOk sg) (X : Ext b c S0 S) (hn : n ≤ S0.length) (lb : b < n) (lc : c < n) (h : Nf b c n S (d + 1) m (.tup (.int k :: r))) (hk0 : 0 ≤ k) (hk1 : k ≤ 5) (hl : r.length ≤ 1000) (hd : 12 ≤ d) : Rn (f__law_bent [.loc b, .tup (.int k :: r), .tup (sg.map PV.int)] S) fun x S' => Nf b c n S' (d + 2) (m + 800) x ∧ Ext b c S0 S' := by
  have h0 : (0 : Int) ∈ sg := hs.2.2.2.elim fun i h => List.mem_of_getElem? h
  have l1 := hs.1
  have l6 := hs.2.1
  have hix : sg.idxOf 0 < sg.length := List.idxOf_lt_length_of_mem h0
  have e0 : ixP (PV.int k :: r) 0 = some (.int k) := ixP_nat (n := 0) rfl
  have eS : ∀ S, seqOf (.tup (PV.int k :: r)) S = some (PV.int k :: r) := fun _ => rfl
  have eC : cutP (PV.int k :: r) (some 1) none = r := by rw [cut_fromI (by omega)]; rfl
  have eL : cutP (PV.int k :: r) none (some (-1)) = (PV.int k :: r).dropLast := cut_init
  unfold f__law_bent
  rw [rn_runD]
  unfold b__law_bent
  show Rs (sCons _ _ [some (.loc b), some (.tup (.int k :: r)), some (.tup (sg.map PV.int)), none, none, none] S) _
  rw [rs_cons]
  try simp only [rn_var, rn_c, rn_op, rn_un, rn_dE, rn_ch, rn_dAnd, rn_dOr, rn_dNot, rn_dYes, rn_and, rn_or, rn_not, rn_if, rn_aNil, rn_aCons, rn_A, rn_mkT, rn_mkL, rn_oNon, rn_asI, rn_oSm, rn_sl, rn_M, rn_isi, rn_lrev, rn_add_i, rn_add_t, rn_sub_i, rn_mul_i, rn_fdiv_i, rn_mod_i, rn_pow_i, rn_lt_i, rn_le_i, rn_gt_i, rn_ge_i, rn_neg_i, rn_eq_i, rn_ne_i, rn_eq_b, rn_eq_s, rn_is, rn_isnot, rn_sl_t, kN_nx, kN_rt, kN_bk, kN_ct, rs_nil, rs_brk, rs_cnt, rs_ret, rs_retN, rn_int_i, rn_abs_i, rn_asB, rn_iSeq, rn_iRng1, rn_iEnu, rn_iZp, rn_iRng2, rn_iRng3, rn_iRv, rn_dic0, rn_dic1, rn_max2, rn_MT, ex_tup, rn_revS, isTy_str, List.getElem?_cons_zero, List.getElem?_cons_succ, List.set_cons_succ, List.set_cons_zero, List.length_cons, List.length_nil, Nat.reduceAdd, Nat.zero_add, reduceIte, Nat.reduceLeDiff, true_and, List.cons_append, List.nil_append, rs_par3, rn_len_t, rn_index_t h0, List.length_map]
  refine (draw_spec X.bag (n := 12) (by omega) (by omega)).mono ?_
  rintro r S_1 ⟨w, rfl, w0, w1, Y_1⟩
  replace h := h.mv Y_1
  replace X := X.mv Y_1
  refine ⟨_, _, _, rfl, ?_⟩
  have hr := h.row
  have hr2 : Rf b c n S_1 d m r := Rf.splitR (xs := [PV.int k]) hr
  have leaf : Nf b c n S_1 d 70 (.tup [.int (sg.idxOf 0 : Nat)]) := (Nf.tup (d := 0) (Rf.cons (Nf.int lb lc (by omega) (by omega) (Nat.le_refl 63)) (Rf.nil lb lc (m := 0)) (Nat.le_refl _)) (by omega)).up (by omega) (Nat.le_refl _)
  have cons : ∀ {S} {x : PV}, Nf b c n S d 63 x → Rf b c n S d m r → Nf b c n S (d + 2) (m + 800) (.tup (x :: r)) := fun hx hr => (Nf.tup (Rf.cons hx hr (Nat.le_refl _)) (Nat.le_refl _)).up (by omega) (by omega)
  have io : ∀ {S} {i : Int}, -1000000 ≤ i → i ≤ 1000000 → Nf b c n S d 63 (.int i) := fun a z => Nf.int lb lc a z (Nat.le_refl _)
  try simp only [rn_var, rn_c, rn_op, rn_un, rn_dE, rn_ch, rn_dAnd, rn_dOr, rn_dNot, rn_dYes, rn_and, rn_or, rn_not, rn_if, rn_aNil, rn_aCons, rn_A, rn_mkT, rn_mkL, rn_oNon, rn_asI, rn_oSm, rn_sl, rn_M, rn_isi, rn_lrev, rn_add_i, rn_add_t, rn_sub_i, rn_mul_i, rn_fdiv_i, rn_mod_i, rn_pow_i, rn_lt_i, rn_le_i, rn_gt_i, rn_ge_i, rn_neg_i, rn_eq_i, rn_ne_i, rn_eq_b, rn_eq_s, rn_is, rn_isnot, rn_sl_t, kN_nx, kN_rt, kN_bk, kN_ct, rs_nil, rs_cons, rs_brk, rs_cnt, rs_ex, rs_ret, rs_retN, rs_if, rs_set, rs_par, rs_par3, rs_asg, rs_sub, rn_int_i, rn_abs_i, rn_asB, rn_iSeq, rn_iRng1, rn_iEnu, rn_iZp, rn_iRng2, rn_iRng3, rn_iRv, rn_dic0, rn_dic1, rn_max2, rn_MT, ex_tup, rn_revS, isTy_str, List.getElem?_cons_zero, List.getElem?_cons_succ, List.set_cons_succ, List.set_cons_zero, List.length_cons, List.length_nil, Nat.reduceAdd, Nat.zero_add, reduceIte, Nat.reduceLeDiff, true_and, List.cons_append, List.nil_append, ix_tup e0, rn_list (eS _), eC, eL, Nat.add_comm 1]
  refine ⟨fun _ => ⟨by omega, ?_⟩, fun _ => ⟨fun _ => ⟨fun _ => ⟨by omega, ?_, X⟩, fun _ => ⟨by omega, ?_, X⟩⟩, fun _ => ⟨fun _ => ⟨by omega, ?_, X⟩, fun _ => ⟨fun _ => ⟨by omega, by omega, ?_, X⟩, fun _ => ⟨fun _ => ?_, fun _ => ⟨fun _ => ⟨?_, X⟩, fun _ => ⟨fun _ => ?_, fun _ => ?_⟩⟩⟩⟩⟩⟩⟩
  · rename_i hw
    have hw := of_decide_eq_true hw
    refine ⟨by omega, ?_⟩
    generalize hS_2 : S_1 ++ [_] = S_2
    have A1 := At.new' X hS_2
    have Y_2 := Ext.new' X hS_2
    have q1_lo := X.len
    replace h := h.mv Y_2
    replace hr := hr.mv Y_2
    replace leaf := leaf.mv Y_2
    replace X := X.mv Y_2
    clear hS_2
    generalize hq_q1 : List.length S_1 = q1 at A1 q1_lo  ⊢
    generalize hS_3 : S_2 ++ [_] = S_3
    have A2 := At.new' X hS_3
    have Y_3 := Ext.new' X hS_3
    have q2_lo := X.len
    have q1_ne_q2 := A1.lt
    replace A1 := A1.mv Y_3
    replace h := h.mv Y_3
    replace hr := hr.mv Y_3
    replace leaf := leaf.mv Y_3
    replace X := X.mv Y_3
    clear hS_3
    generalize hq_q2 : List.length S_2 = q2 at A2 q2_lo q1_ne_q2 ⊢
    have hA : Af b c n S_3 (d + 2) (m + 800) _ := Af.cons ((Nf.lst hr (by have := A1.lo; omega) A1.h (Nat.le_refl _)).up (by omega) (by omega)) <| Af.cons ((Nf.tup (hr.append (Rf.cons leaf (Rf.nil lb lc (m := 0)) (Nat.le_refl _)) (Nat.le_refl _)) (Nat.le_refl _)).up (by omega) (by omega)) <| Af.cons ((Nf.tup hr.dropLast (Nat.le_refl _)).up (by omega) (by omega)) <| Af.cons ((Nf.tup (Rf.cons (Nf.tup hr (Nat.le_refl _)) (Rf.nil lb lc (m := 0)) (Nat.le_refl _)) (Nat.le_refl _)).up (by omega) (by omega)) <| Af.nil lb lc
    refine ix_all A2 (by omega) (by simp; omega) fun v hv => ⟨hA.get hv, X⟩
  · exact cons (io (by omega) (by omega)) hr2
  · exact cons (io (by omega) (by omega)) hr2
  · exact cons (Nf.bl lb lc (by omega)) hr2
  · have g0 := Int.emod_nonneg (k + 1) (show (sg.length : Int) ≠ 0 by omega)
    have g1 := Int.emod_lt_of_pos (k + 1) (show 0 < (sg.length : Int) by omega)
    exact cons (io (by omega) (by omega)) hr2
  · rw [rn_str_i (Nat.lt_of_lt_of_le (show k.natAbs < 6 by omega) (by decide))]
    refine ⟨by omega, ?_, X⟩
    refine cons (Nf.str lb lc ?_) hr2
    have : k = 0 ∨ k = 1 ∨ k = 2 ∨ k = 3 ∨ k = 4 ∨ k = 5 := by omega
    rcases this with rfl | rfl | rfl | rfl | rfl | rfl <;> decide +kernel
  · exact (io (by omega) (by omega)).up (by omega) (by omega)
  · refine ⟨by omega, _, rfl, ?_⟩
    generalize hS_4 : S_1 ++ [_] = S_4
    have A1 := At.new' X hS_4
    have Y_4 := Ext.new' X hS_4
    have q1_lo := X.len
    replace h := h.mv Y_4
    replace hr := hr.mv Y_4
    replace X := X.mv Y_4
    clear hS_4
    generalize hq_q1 : List.length S_1 = q1 at A1 q1_lo  ⊢
    generalize hS_5 : S_4 ++ [_] = S_5
    have A2 := At.new' X hS_5
    have Y_5 := Ext.new' X hS_5
    have q2_lo := X.len
    have q1_ne_q2 := A1.lt
    replace A1 := A1.mv Y_5
    replace h := h.mv Y_5
    replace hr := hr.mv Y_5
    replace X := X.mv Y_5
    clear hS_5
    generalize hq_q2 : List.length S_4 = q2 at A2 q2_lo q1_ne_q2 ⊢
    have kl := key_len (k := k) (by omega) (by omega)
    exact ⟨(Nf.dic1 (Nf.lst hr (by have := A1.lo; omega) A1.h (Nat.le_refl _)) kl.2 (by have := A2.lo; omega) A2.h (Nat.le_refl _)).up (by omega) (by omega), X⟩
  · refine (odd_spec X hn lb lc (by omega) (by omega)).mono ?_
    rintro x S' ⟨hx, X⟩
    exact ⟨hx.up (by omega) (by omega), X⟩
theorem Fo.drop : ∀ (n : Nat) {as : List Int} {k : Nat}, Fo k as → ∃ m, Fo m (as.drop n)
  | 0, _, k, h => ⟨k, h⟩
  | n + 1, [], k, h => ⟨k, h⟩
  | n + 1, a :: r, k, h => by
    cases k with
    | zero => exact False.elim h
    | succ k => exact Fo.drop n (as := r) (k := k + a.toNat) h
theorem Fo.uniq : ∀ {as : List Int} {k m : Nat}, Fo k as → Fo m as → k = m
  | [], k, m, h, g => by cases k <;> cases m <;> first | rfl | exact False.elim h | exact False.elim g
  | a :: r, k, m, h, g => by
    cases k with
    | zero => exact False.elim h
    | succ k =>
      cases m with
      | zero => exact False.elim g
      | succ m =>
        have := Fo.uniq (as := r) (k := k + a.toNat) (m := m + a.toNat) h g
        omega
/-- what the next sign of a row, read from its end, takes from the stack -/
theorem fo_take {ps : List (Int × Int)} {xs : List PV} {i : Nat} (hF : Fo 1 (ps.map (·.2))) (hi : i < ps.length) (hx : Fo xs.length ((ps.drop (ps.length - i)).map (·.2))) : ∃ p ys zs, ps[ps.length - 1 - i]? = some p ∧ xs = ys ++ zs ∧ zs.length = p.2.toNat ∧ Fo (ys.length + 1) ((ps.drop (ps.length - (i + 1))).map (·.2)) := by
  have h1 : ps.length - 1 - i < ps.length := by omega
  have e : ps.drop (ps.length - (i + 1)) = ps[ps.length - 1 - i] :: ps.drop (ps.length - i) := by
    have : ps.length - (i + 1) = ps.length - 1 - i := by omega
    rw [this, List.drop_eq_getElem_cons h1]
    congr 2
    omega
  generalize hp : ps[ps.length - 1 - i] = p at e
  obtain ⟨m, hm⟩ := Fo.drop (ps.length - (i + 1)) hF
  rw [← List.map_drop] at hm
  rw [e] at hm ⊢
  rw [List.map_cons] at hm ⊢
  cases m with
  | zero => exact False.elim hm
  | succ m =>
    have hm2 : Fo (m + p.2.toNat) ((ps.drop (ps.length - i)).map (·.2)) := hm
    have hu := Fo.uniq hx hm2
    refine ⟨p, xs.take m, xs.drop m, by rw [List.getElem?_eq_getElem h1, hp], (List.take_append_drop m xs).symm, by rw [List.length_drop]; omega, ?_⟩
    rw [List.length_take, Nat.min_eq_left (by omega)]
    exact hm
theorem spoilt_spec {S0 S : Sto} {b c n nr np qr qp : Nat} {ps : List (Int × Int)} {pl sg : List Int} (hs : SigOk sg) (hp : ∀ p ∈ ps, 0 ≤ p.1 ∧ sg[p.1.toNat]? = some p.2) (hF : Fo 1 (ps.map (·.2))) (hL : ps.length ≤ 44) (hL1 : 1 ≤ ps.length) (hP : pl.length ≤ 3)
    (R : At b c nr S qr (.lst (ps.map fun p => PV.int p.1))) (P : At b c np S qp (.lst (pl.map PV.int))) (X : Ext b c S0 S) (hn : n ≤ S0.length) (lb : b < n) (lc : c < n) :
    Rn (f__law_spoilt [.loc b, .loc qr, .tup (sg.map PV.int), .loc qp] S) fun r S' => Nf b c n S' 61 60000 r ∧ Ext b c S0 S' := by
  unfold f__law_spoilt
  rw [rn_runD]
  unfold b__law_spoilt
  show Rs (sCons _ _ [some (.loc b), some (.loc qr), some (.tup (sg.map PV.int)), some (.loc qp), none, none, none, none] S) _
  rw [rs_cons, rs_set]
  try simp only [rn_var, rn_c, rn_op, rn_un, rn_dE, rn_ch, rn_dAnd, rn_dOr, rn_dNot, rn_dYes, rn_and, rn_or, rn_not, rn_if, rn_aNil, rn_aCons, rn_A, rn_mkT, rn_mkL, rn_oNon, rn_asI, rn_oSm, rn_sl, rn_M, rn_isi, rn_lrev, rn_add_i, rn_add_t, rn_sub_i, rn_mul_i, rn_fdiv_i, rn_mod_i, rn_pow_i, rn_lt_i, rn_le_i, rn_gt_i, rn_ge_i, rn_neg_i, rn_eq_i, rn_ne_i, rn_eq_b, rn_eq_s, rn_is, rn_isnot, rn_sl_t, kN_nx, kN_rt, kN_bk, kN_ct, rs_nil, rs_brk, rs_cnt, rs_ret, rs_retN, rn_int_i, rn_abs_i, rn_asB, rn_iSeq, rn_iRng1, rn_iEnu, rn_iZp, rn_iRng2, rn_iRng3, rn_iRv, rn_dic0, rn_dic1, rn_max2, rn_MT, ex_tup, rn_revS, isTy_str, List.getElem?_cons_zero, List.getElem?_cons_succ, List.set_cons_succ, List.set_cons_zero, List.length_cons, List.length_nil, Nat.reduceAdd, Nat.zero_add, reduceIte, Nat.reduceLeDiff, true_and, List.cons_append, List.nil_append, isTy_lst R.h, rn_len_l R.h, rn_append R.h, isTy_lst P.h, rn_len_l P.h, rn_append P.h]
  generalize hS_1 : S ++ [_] = S_1
  have A := At.new' X hS_1
  have Y_1 := Ext.new' X hS_1
  have q_lo := X.len
  have qr_ne_q := R.lt
  have qp_ne_q := P.lt
  replace R := R.mv Y_1
  replace P := P.mv Y_1
  replace X := X.mv Y_1
  clear hS_1
  generalize hq_q : List.length S = q at A q_lo qr_ne_q qp_ne_q ⊢
  have lb1 : b < q + 1 := by omega
  have lc1 : c < q + 1 := by omega
  rw [rs_cons]
  refine for_rn (dnL ((ps.length : Int) - 1) ps.length) (fun i e S3 => ∃ (x5 x6 x7 : Option PV) (xs : List PV), e = [some (.loc b), some (.loc qr), some (.tup (sg.map PV.int)), some (.loc qp), some (.loc q), x5, x6, x7] ∧ At b c S0.length S3 q (.lst xs) ∧ At b c nr S3 qr (.lst (ps.map fun p => PV.int p.1)) ∧ At b c np S3 qp (.lst (pl.map PV.int)) ∧
    Fo xs.length ((ps.drop (ps.length - i)).map (·.2)) ∧ Rf b c (q + 1) S3 (14 + i + pl.countP fun y => decide (((ps.length - i : Nat) : Int) ≤ y)) (i * 1300) xs ∧ xs.length ≤ i ∧ Ext b c S0 S3) ?_ (fun i x e S3 hx ⟨x5, x6, x7, xs, he, A, R, P, hx', hr, hxl, X⟩ => ?_) (fun e S3 ⟨x5, x6, x7, xs, he, A, R, P, hx', hr, hxl, X⟩ => ?_)
  · try simp only [rn_var, rn_c, rn_op, rn_un, rn_dE, rn_ch, rn_dAnd, rn_dOr, rn_dNot, rn_dYes, rn_and, rn_or, rn_not, rn_if, rn_aNil, rn_aCons, rn_A, rn_mkT, rn_mkL, rn_oNon, rn_asI, rn_oSm, rn_sl, rn_M, rn_isi, rn_lrev, rn_add_i, rn_add_t, rn_sub_i, rn_mul_i, rn_fdiv_i, rn_mod_i, rn_pow_i, rn_lt_i, rn_le_i, rn_gt_i, rn_ge_i, rn_neg_i, rn_eq_i, rn_ne_i, rn_eq_b, rn_eq_s, rn_is, rn_isnot, rn_sl_t, kN_nx, kN_rt, kN_bk, kN_ct, rs_nil, rs_cons, rs_brk, rs_cnt, rs_ex, rs_ret, rs_retN, rs_if, rs_set, rs_par, rs_par3, rs_asg, rs_sub, rn_int_i, rn_abs_i, rn_asB, rn_iSeq, rn_iRng1, rn_iEnu, rn_iZp, rn_iRng2, rn_iRng3, rn_iRv, rn_dic0, rn_dic1, rn_max2, rn_MT, ex_tup, rn_revS, isTy_str, List.getElem?_cons_zero, List.getElem?_cons_succ, List.set_cons_succ, List.set_cons_zero, List.length_cons, List.length_nil, Nat.reduceAdd, Nat.zero_add, reduceIte, Nat.reduceLeDiff, true_and, List.cons_append, List.nil_append, isTy_lst R.h, rn_len_l R.h, rn_append R.h, isTy_lst P.h, rn_len_l P.h, rn_append P.h, isTy_lst A.h, rn_len_l A.h, rn_append A.h, List.length_map]
    refine ⟨_, _, _, rfl, (okR_down (by omega) (by omega) (by omega)).1, ?_⟩
    rw [(okR_down (a := (ps.length : Int) - 1) (b := -1) (by omega) (by omega) (by omega)).2]
    rw [show (ps.length : Int) - 1 - -1 = ps.length by omega, Int.toNat_natCast]
    refine ⟨⟨none, none, none, [], rfl, A, R, P, ?_, (Rf.nil lb1 lc1), Nat.zero_le _, X⟩, fun i e S _ => wR3_at i⟩
    rw [Nat.sub_zero, List.drop_length]
    exact trivial
  · skip
    obtain ⟨hi, rfl⟩ := dn_get hx
    subst he
    obtain ⟨p, ys, zs, hpi, rfl, hz, hF2⟩ := fo_take hF hi hx'
    have hpm := List.mem_of_getElem? hpi
    obtain ⟨p0, hsg⟩ := hp p hpm
    have ha := hs.2.2.1 p.2 (List.mem_of_getElem? hsg)
    have hk6 : p.1.toNat < sg.length := lt_of_get hsg
    have l6 := hs.2.1
    have hat : (ps.length : Int) - 1 - i = ((ps.length - 1 - i : Nat) : Int) := by omega
    rw [List.length_append] at hxl
    refine ⟨_, rfl, ?_⟩
    try simp only [setP, wipeP, List.foldl_cons, List.foldl_nil, List.set_cons_succ, List.set_cons_zero]
    rw [rs_cons, rs_set]
    have ixr : ∀ {S Q}, At b c nr S qr (.lst (ps.map fun p => PV.int p.1)) → (Rn (opIx (.loc qr) (.int ((ps.length : Int) - 1 - i)) S) Q ↔ Q (.int p.1) S) := fun R => ix_loc R.h (by rw [hat]; exact ixP_nat (by rw [List.getElem?_map, hpi]; rfl))
    have ixs : ∀ {S Q}, Rn (opIx (.tup (sg.map PV.int)) (.int p.1) S) Q ↔ Q (.int p.2) S := ix_tup (ixP_int p0 (by rw [List.getElem?_map, hsg]; rfl))
    try simp only [rn_var, rn_c, rn_op, rn_un, rn_dE, rn_ch, rn_dAnd, rn_dOr, rn_dNot, rn_dYes, rn_and, rn_or, rn_not, rn_if, rn_aNil, rn_aCons, rn_A, rn_mkT, rn_mkL, rn_oNon, rn_asI, rn_oSm, rn_sl, rn_M, rn_isi, rn_lrev, rn_add_i, rn_add_t, rn_sub_i, rn_mul_i, rn_fdiv_i, rn_mod_i, rn_pow_i, rn_lt_i, rn_le_i, rn_gt_i, rn_ge_i, rn_neg_i, rn_eq_i, rn_ne_i, rn_eq_b, rn_eq_s, rn_is, rn_isnot, rn_sl_t, kN_nx, kN_rt, kN_bk, kN_ct, rs_nil, rs_brk, rs_cnt, rs_ret, rs_retN, rn_int_i, rn_abs_i, rn_asB, rn_iSeq, rn_iRng1, rn_iEnu, rn_iZp, rn_iRng2, rn_iRng3, rn_iRv, rn_dic0, rn_dic1, rn_max2, rn_MT, ex_tup, rn_revS, isTy_str, List.getElem?_cons_zero, List.getElem?_cons_succ, List.set_cons_succ, List.set_cons_zero, List.length_cons, List.length_nil, Nat.reduceAdd, Nat.zero_add, reduceIte, Nat.reduceLeDiff, true_and, List.cons_append, List.nil_append, isTy_lst R.h, rn_len_l R.h, rn_append R.h, isTy_lst P.h, rn_len_l P.h, rn_append P.h, ixr R]
    obtain ⟨a, a', hys, hzs, haa⟩ := hr.splitA
    generalize hS_2 : S3 ++ [_] = S_2
    have A1 := At.new' X hS_2
    have Y_2 := Ext.new' X hS_2
    have q1_lo := X.len
    have qr_ne_q1 := R.lt
    have qp_ne_q1 := P.lt
    have q_ne_q1 := A.lt
    replace R := R.mv Y_2
    replace P := P.mv Y_2
    replace A := A.mv Y_2
    replace hys := hys.mv Y_2
    replace hzs := hzs.mv Y_2
    replace X := X.mv Y_2
    clear hS_2
    generalize hq_q1 : List.length S3 = q1 at A1 q1_lo qr_ne_q1 qp_ne_q1 q_ne_q1 ⊢
    refine pops A (by omega) (by decide) rfl ?_ fun S' A' W => ?_
    · try simp only [rn_var, rn_c, rn_op, rn_un, rn_dE, rn_ch, rn_dAnd, rn_dOr, rn_dNot, rn_dYes, rn_and, rn_or, rn_not, rn_if, rn_aNil, rn_aCons, rn_A, rn_mkT, rn_mkL, rn_oNon, rn_asI, rn_oSm, rn_sl, rn_M, rn_isi, rn_lrev, rn_add_i, rn_add_t, rn_sub_i, rn_mul_i, rn_fdiv_i, rn_mod_i, rn_pow_i, rn_lt_i, rn_le_i, rn_gt_i, rn_ge_i, rn_neg_i, rn_eq_i, rn_ne_i, rn_eq_b, rn_eq_s, rn_is, rn_isnot, rn_sl_t, kN_nx, kN_rt, kN_bk, kN_ct, rs_nil, rs_cons, rs_brk, rs_cnt, rs_ex, rs_ret, rs_retN, rs_if, rs_set, rs_par, rs_par3, rs_asg, rs_sub, rn_int_i, rn_abs_i, rn_asB, rn_iSeq, rn_iRng1, rn_iEnu, rn_iZp, rn_iRng2, rn_iRng3, rn_iRv, rn_dic0, rn_dic1, rn_max2, rn_MT, ex_tup, rn_revS, isTy_str, List.getElem?_cons_zero, List.getElem?_cons_succ, List.set_cons_succ, List.set_cons_zero, List.length_cons, List.length_nil, Nat.reduceAdd, Nat.zero_add, reduceIte, Nat.reduceLeDiff, true_and, List.cons_append, List.nil_append, isTy_lst R.h, rn_len_l R.h, rn_append R.h, isTy_lst P.h, rn_len_l P.h, rn_append P.h, isTy_lst A.h, rn_len_l A.h, rn_append A.h, isTy_lst A1.h, rn_len_l A1.h, rn_append A1.h, ixr R, ixs]
      exact ⟨_, rfl, by omega, by rw [hz]⟩
    replace R := R.wr W (by omega)
    replace P := P.wr W (by omega)
    replace A1 := A1.wr W (by omega)
    replace hys := hys.wr W (by omega)
    replace hzs := hzs.wr W (by omega)
    replace X := X.wr W A'.lo
    clear A
    have A := A'
    clear A'
    generalize hS_3 : S' ++ [_] = S_3
    have A2 := At.new' X hS_3
    have Y_3 := Ext.new' X hS_3
    have q2_lo := X.len
    have qr_ne_q2 := R.lt
    have qp_ne_q2 := P.lt
    have q_ne_q2 := A.lt
    have q1_ne_q2 := A1.lt
    replace R := R.mv Y_3
    replace P := P.mv Y_3
    replace A := A.mv Y_3
    replace A1 := A1.mv Y_3
    replace hys := hys.mv Y_3
    replace hzs := hzs.mv Y_3
    replace X := X.mv Y_3
    clear hS_3
    generalize hq_q2 : List.length S' = q2 at A2 q2_lo qr_ne_q2 qp_ne_q2 q_ne_q2 q1_ne_q2 ⊢
    rw [rn_add_l A1.h A2.h]
    refine ⟨by simp; omega, ?_⟩
    generalize hS_4 : S_3 ++ [_] = S_4
    have A3 := At.new' X hS_4
    have Y_4 := Ext.new' X hS_4
    have q3_lo := X.len
    have qr_ne_q3 := R.lt
    have qp_ne_q3 := P.lt
    have q_ne_q3 := A.lt
    have q1_ne_q3 := A1.lt
    have q2_ne_q3 := A2.lt
    replace R := R.mv Y_4
    replace P := P.mv Y_4
    replace A := A.mv Y_4
    replace A1 := A1.mv Y_4
    replace A2 := A2.mv Y_4
    replace hys := hys.mv Y_4
    replace hzs := hzs.mv Y_4
    replace X := X.mv Y_4
    clear hS_4
    generalize hq_q3 : List.length S_3 = q3 at A3 q3_lo qr_ne_q3 qp_ne_q3 q_ne_q3 q1_ne_q3 q2_ne_q3 ⊢
    rw [rn_tuple (seq_at A3.h)]
    simp only [kN_nx, List.cons_append, List.nil_append]
    rw [rs_ex]
    try simp only [rn_var, rn_c, rn_op, rn_un, rn_dE, rn_ch, rn_dAnd, rn_dOr, rn_dNot, rn_dYes, rn_and, rn_or, rn_not, rn_if, rn_aNil, rn_aCons, rn_A, rn_mkT, rn_mkL, rn_oNon, rn_asI, rn_oSm, rn_sl, rn_M, rn_isi, rn_lrev, rn_add_i, rn_add_t, rn_sub_i, rn_mul_i, rn_fdiv_i, rn_mod_i, rn_pow_i, rn_lt_i, rn_le_i, rn_gt_i, rn_ge_i, rn_neg_i, rn_eq_i, rn_ne_i, rn_eq_b, rn_eq_s, rn_is, rn_isnot, rn_sl_t, kN_nx, kN_rt, kN_bk, kN_ct, rs_nil, rs_brk, rs_cnt, rs_ret, rs_retN, rn_int_i, rn_abs_i, rn_asB, rn_iSeq, rn_iRng1, rn_iEnu, rn_iZp, rn_iRng2, rn_iRng3, rn_iRv, rn_dic0, rn_dic1, rn_max2, rn_MT, ex_tup, rn_revS, isTy_str, List.getElem?_cons_zero, List.getElem?_cons_succ, List.set_cons_succ, List.set_cons_zero, List.length_cons, List.length_nil, Nat.reduceAdd, Nat.zero_add, reduceIte, Nat.reduceLeDiff, true_and, List.cons_append, List.nil_append, isTy_lst R.h, rn_len_l R.h, rn_append R.h, isTy_lst P.h, rn_len_l P.h, rn_append P.h, isTy_lst A.h, rn_len_l A.h, rn_append A.h, isTy_lst A1.h, rn_len_l A1.h, rn_append A1.h, isTy_lst A2.h, rn_len_l A2.h, rn_append A2.h, isTy_lst A3.h, rn_len_l A3.h, rn_append A3.h, rn_in_l P.h]
    have hrow : Rf b c (q + 1) S_4 (14 + i + pl.countP fun y => decide (((ps.length - i : Nat) : Int) ≤ y)) (65 + a') (PV.int p.1 :: zs.reverse) := Rf.cons (Nf.int lb1 lc1 (by omega) (by omega) (Nat.le_refl 63)) hzs.rev (Nat.le_refl _)
    have hth := Nf.tup hrow (Nat.le_refl _)
    have hcnt : ∀ D, (pl.countP fun y => decide (((ps.length - i : Nat) : Int) ≤ y)) ≤ D → True := fun _ _ => trivial
    have le1 : (pl.countP fun y => decide (((ps.length - i : Nat) : Int) ≤ y)) ≤ (pl.countP fun y => decide (((ps.length - (i + 1) : Nat) : Int) ≤ y)) := List.countP_mono_left fun y _ h => by
      have := of_decide_eq_true h
      exact decide_eq_true (by omega)
    have le2 : (ps.length : Int) - 1 - i ∈ pl → (pl.countP fun y => decide (((ps.length - i : Nat) : Int) ≤ y)) + 1 ≤ (pl.countP fun y => decide (((ps.length - (i + 1) : Nat) : Int) ≤ y)) := fun h => by
      obtain ⟨s, t, rfl⟩ := List.append_of_mem h
      rw [List.countP_append, List.countP_append, List.countP_cons, List.countP_cons, if_neg (by rw [hat]; simp; omega), if_pos (by rw [hat]; exact decide_eq_true (by omega))]
      have l1 : (s.countP fun y => decide (((ps.length - i : Nat) : Int) ≤ y)) ≤ (s.countP fun y => decide (((ps.length - (i + 1) : Nat) : Int) ≤ y)) := List.countP_mono_left fun y _ h => by
        have := of_decide_eq_true h
        exact decide_eq_true (by omega)
      have l2 : (t.countP fun y => decide (((ps.length - i : Nat) : Int) ≤ y)) ≤ (t.countP fun y => decide (((ps.length - (i + 1) : Nat) : Int) ≤ y)) := List.countP_mono_left fun y _ h => by
        have := of_decide_eq_true h
        exact decide_eq_true (by omega)
      omega
    have fin : ∀ (v : PV) (S5 : Sto), At b c S0.length S5 q (.lst ys) → At b c nr S5 qr (.lst (ps.map fun p => PV.int p.1)) → At b c np S5 qp (.lst (pl.map PV.int)) → Rf b c (q + 1) S5 (14 + (i + 1) + pl.countP fun y => decide (((ps.length - (i + 1) : Nat) : Int) ≤ y)) a ys → Nf b c (q + 1) S5 (14 + (i + 1) + pl.countP fun y => decide (((ps.length - (i + 1) : Nat) : Int) ≤ y)) (a' + 1000) v → Ext b c S0 S5 →
        (ys.length < 16777216 ∧ ∃ (x5' x6' x7' : Option PV) (xs : List PV), [some (PV.loc b), some (.loc qr), some (.tup (sg.map PV.int)), some (.loc qp), some (.loc q), some (.int ((ps.length : Int) - 1 - i)), some (.tup (PV.int p.1 :: zs.reverse)), x7] = [some (.loc b), some (.loc qr), some (.tup (sg.map PV.int)), some (.loc qp), some (.loc q), x5', x6', x7'] ∧ At b c S0.length (S5.set q (.lst (ys ++ [v]))) q (.lst xs) ∧ At b c nr (S5.set q (.lst (ys ++ [v]))) qr (.lst (ps.map fun p => PV.int p.1)) ∧ At b c np (S5.set q (.lst (ys ++ [v]))) qp (.lst (pl.map PV.int)) ∧
    Fo xs.length ((ps.drop (ps.length - (i + 1))).map (·.2)) ∧ Rf b c (q + 1) (S5.set q (.lst (ys ++ [v]))) (14 + (i + 1) + pl.countP fun y => decide (((ps.length - (i + 1) : Nat) : Int) ≤ y)) ((i + 1) * 1300) xs ∧ xs.length ≤ i + 1 ∧ Ext b c S0 (S5.set q (.lst (ys ++ [v])))) := fun v S5 A R P hy hv X => by
      refine ⟨by omega, ?_⟩
      generalize hS_5 : List.set S5 q _ = S_5
      have W_5 := At.wrs' A hS_5
      have A' := At.put' A hS_5
      replace R := R.wr W_5 (by first | assumption | exact Ne.symm (by assumption) | omega)
      replace P := P.wr W_5 (by first | assumption | exact Ne.symm (by assumption) | omega)
      replace hy := hy.wr W_5 (by first | assumption | omega)
      replace hv := hv.wr W_5 (by first | assumption | omega)
      replace X := X.wr W_5 A.lo
      clear hS_5 A
      have A := A'
      clear A'
      exact ⟨_, _, _, ys ++ [v], rfl, A, R, P, by rw [List.length_append]; exact hF2, hy.append (Rf.cons hv (Rf.nil lb1 lc1 (m := 0)) (Nat.le_refl _)) (by omega), by simp; omega, X⟩
    refine ⟨fun hin => ?_, fun hin => ?_⟩
    · have hin : (ps.length : Int) - 1 - i ∈ pl := by simpa using hin
      have := le2 hin
      refine (bent_spec hs (Ext.refl X.bag) (Nat.succ_le_of_lt A.lt) lb1 lc1 hth p0 (by omega) (by simp; omega) (by omega)).mono ?_
      rintro v S_6 ⟨hv, Y_6⟩
      replace R := R.mv Y_6
      replace P := P.mv Y_6
      replace A := A.mv Y_6
      replace A1 := A1.mv Y_6
      replace A2 := A2.mv Y_6
      replace A3 := A3.mv Y_6
      replace hys := hys.mv Y_6
      replace hzs := hzs.mv Y_6
      replace hth := hth.mv Y_6
      replace X := X.mv Y_6
      rw [rn_append A.h]
      exact fin _ _ A R P (hys.up (by omega) (Nat.le_refl _)) (hv.up (by omega) (by omega)) X
    · exact fin _ _ A R P (hys.up (by omega) (Nat.le_refl _)) (hth.up (by omega) (by omega)) X
  · skip
    subst he
    rw [dn_len] at hx' hr hxl
    rw [Nat.sub_self, List.drop_zero] at hx'
    have h1 := Fo.uniq hx' hF
    obtain ⟨v, rfl⟩ := List.length_eq_one_iff.mp h1
    simp only [rn_var, rn_c, rn_op, rn_un, rn_dE, rn_ch, rn_dAnd, rn_dOr, rn_dNot, rn_dYes, rn_and, rn_or, rn_not, rn_if, rn_aNil, rn_aCons, rn_A, rn_mkT, rn_mkL, rn_oNon, rn_asI, rn_oSm, rn_sl, rn_M, rn_isi, rn_lrev, rn_add_i, rn_add_t, rn_sub_i, rn_mul_i, rn_fdiv_i, rn_mod_i, rn_pow_i, rn_lt_i, rn_le_i, rn_gt_i, rn_ge_i, rn_neg_i, rn_eq_i, rn_ne_i, rn_eq_b, rn_eq_s, rn_is, rn_isnot, rn_sl_t, kN_nx, kN_rt, kN_bk, kN_ct, rs_nil, rs_cons, rs_brk, rs_cnt, rs_ex, rs_ret, rs_retN, rs_if, rs_set, rs_par, rs_par3, rs_asg, rs_sub, rn_int_i, rn_abs_i, rn_asB, rn_iSeq, rn_iRng1, rn_iEnu, rn_iZp, rn_iRng2, rn_iRng3, rn_iRv, rn_dic0, rn_dic1, rn_max2, rn_MT, ex_tup, rn_revS, isTy_str, List.getElem?_cons_zero, List.getElem?_cons_succ, List.set_cons_succ, List.set_cons_zero, List.length_cons, List.length_nil, Nat.reduceAdd, Nat.zero_add, reduceIte, Nat.reduceLeDiff, true_and, List.cons_append, List.nil_append]
    rw [ix_loc A.h (ixP_last rfl)]
    have hc := List.countP_le_length (p := fun y => decide (((ps.length - ps.length : Nat) : Int) ≤ y)) (l := pl)
    exact ⟨((hr.af.get List.mem_cons_self).low (by have := A.lo; omega) lb lc).up (by omega) (by omega), X⟩
theorem withbool_spec {S0 S : Sto} {b c n nr qr : Nat} {ps : List (Int × Int)} {sg : List Int} {at_ : Int} (hs : SigOk sg) (hp : ∀ p ∈ ps, 0 ≤ p.1 ∧ sg[p.1.toNat]? = some p.2) (hF : Fo 1 (ps.map (·.2))) (hL : ps.length ≤ 44) (hL1 : 1 ≤ ps.length)
    (R : At b c nr S qr (.lst (ps.map fun p => PV.int p.1))) (X : Ext b c S0 S) (hn : n ≤ S0.length) (lb : b < n) (lc : c < n) :
    Rn (f__law_with_bool [.loc qr, .tup (sg.map PV.int), .int at_] S) fun r S' => Nf b c n S' 61 60000 r ∧ Ext b c S0 S' := by
  unfold f__law_with_bool
  rw [rn_runD]
  unfold b__law_with_bool
  show Rs (sCons _ _ [some (.loc qr), some (.tup (sg.map PV.int)), some (.int at_), none, none, none, none] S) _
  rw [rs_cons, rs_set]
  try simp only [rn_var, rn_c, rn_op, rn_un, rn_dE, rn_ch, rn_dAnd, rn_dOr, rn_dNot, rn_dYes, rn_and, rn_or, rn_not, rn_if, rn_aNil, rn_aCons, rn_A, rn_mkT, rn_mkL, rn_oNon, rn_asI, rn_oSm, rn_sl, rn_M, rn_isi, rn_lrev, rn_add_i, rn_add_t, rn_sub_i, rn_mul_i, rn_fdiv_i, rn_mod_i, rn_pow_i, rn_lt_i, rn_le_i, rn_gt_i, rn_ge_i, rn_neg_i, rn_eq_i, rn_ne_i, rn_eq_b, rn_eq_s, rn_is, rn_isnot, rn_sl_t, kN_nx, kN_rt, kN_bk, kN_ct, rs_nil, rs_brk, rs_cnt, rs_ret, rs_retN, rn_int_i, rn_abs_i, rn_asB, rn_iSeq, rn_iRng1, rn_iEnu, rn_iZp, rn_iRng2, rn_iRng3, rn_iRv, rn_dic0, rn_dic1, rn_max2, rn_MT, ex_tup, rn_revS, isTy_str, List.getElem?_cons_zero, List.getElem?_cons_succ, List.set_cons_succ, List.set_cons_zero, List.length_cons, List.length_nil, Nat.reduceAdd, Nat.zero_add, reduceIte, Nat.reduceLeDiff, true_and, List.cons_append, List.nil_append, isTy_lst R.h, rn_len_l R.h, rn_append R.h]
  generalize hS_1 : S ++ [_] = S_1
  have A := At.new' X hS_1
  have Y_1 := Ext.new' X hS_1
  have q_lo := X.len
  have qr_ne_q := R.lt
  replace R := R.mv Y_1
  replace X := X.mv Y_1
  clear hS_1
  generalize hq_q : List.length S = q at A q_lo qr_ne_q ⊢
  have lb1 : b < q + 1 := by omega
  have lc1 : c < q + 1 := by omega
  rw [rs_cons]
  refine for_rn (dnL ((ps.length : Int) - 1) ps.length) (fun i e S3 => ∃ (x5 x6 x7 : Option PV) (xs : List PV), e = [some (.loc qr), some (.tup (sg.map PV.int)), some (.int at_), some (.loc q), x5, x6, x7] ∧ At b c S0.length S3 q (.lst xs) ∧ At b c nr S3 qr (.lst (ps.map fun p => PV.int p.1)) ∧
    Fo xs.length ((ps.drop (ps.length - i)).map (·.2)) ∧ Rf b c (q + 1) S3 i (i * 1300) xs ∧ xs.length ≤ i ∧ Ext b c S0 S3) ?_ (fun i x e S3 hx ⟨x5, x6, x7, xs, he, A, R, hx', hr, hxl, X⟩ => ?_) (fun e S3 ⟨x5, x6, x7, xs, he, A, R, hx', hr, hxl, X⟩ => ?_)
  · try simp only [rn_var, rn_c, rn_op, rn_un, rn_dE, rn_ch, rn_dAnd, rn_dOr, rn_dNot, rn_dYes, rn_and, rn_or, rn_not, rn_if, rn_aNil, rn_aCons, rn_A, rn_mkT, rn_mkL, rn_oNon, rn_asI, rn_oSm, rn_sl, rn_M, rn_isi, rn_lrev, rn_add_i, rn_add_t, rn_sub_i, rn_mul_i, rn_fdiv_i, rn_mod_i, rn_pow_i, rn_lt_i, rn_le_i, rn_gt_i, rn_ge_i, rn_neg_i, rn_eq_i, rn_ne_i, rn_eq_b, rn_eq_s, rn_is, rn_isnot, rn_sl_t, kN_nx, kN_rt, kN_bk, kN_ct, rs_nil, rs_cons, rs_brk, rs_cnt, rs_ex, rs_ret, rs_retN, rs_if, rs_set, rs_par, rs_par3, rs_asg, rs_sub, rn_int_i, rn_abs_i, rn_asB, rn_iSeq, rn_iRng1, rn_iEnu, rn_iZp, rn_iRng2, rn_iRng3, rn_iRv, rn_dic0, rn_dic1, rn_max2, rn_MT, ex_tup, rn_revS, isTy_str, List.getElem?_cons_zero, List.getElem?_cons_succ, List.set_cons_succ, List.set_cons_zero, List.length_cons, List.length_nil, Nat.reduceAdd, Nat.zero_add, reduceIte, Nat.reduceLeDiff, true_and, List.cons_append, List.nil_append, isTy_lst R.h, rn_len_l R.h, rn_append R.h, isTy_lst A.h, rn_len_l A.h, rn_append A.h, List.length_map]
    refine ⟨_, _, _, rfl, (okR_down (by omega) (by omega) (by omega)).1, ?_⟩
    rw [(okR_down (a := (ps.length : Int) - 1) (b := -1) (by omega) (by omega) (by omega)).2]
    rw [show (ps.length : Int) - 1 - -1 = ps.length by omega, Int.toNat_natCast]
    refine ⟨⟨none, none, none, [], rfl, A, R, ?_, (Rf.nil lb1 lc1), Nat.zero_le _, X⟩, fun i e S _ => wR3_at i⟩
    rw [Nat.sub_zero, List.drop_length]
    exact trivial
  · skip
    obtain ⟨hi, rfl⟩ := dn_get hx
    subst he
    obtain ⟨p, ys, zs, hpi, rfl, hz, hF2⟩ := fo_take hF hi hx'
    have hpm := List.mem_of_getElem? hpi
    obtain ⟨p0, hsg⟩ := hp p hpm
    have ha := hs.2.2.1 p.2 (List.mem_of_getElem? hsg)
    have hk6 : p.1.toNat < sg.length := lt_of_get hsg
    have l6 := hs.2.1
    have hat : (ps.length : Int) - 1 - i = ((ps.length - 1 - i : Nat) : Int) := by omega
    rw [List.length_append] at hxl
    refine ⟨_, rfl, ?_⟩
    try simp only [setP, wipeP, List.foldl_cons, List.foldl_nil, List.set_cons_succ, List.set_cons_zero]
    have ixr : ∀ {S Q}, At b c nr S qr (.lst (ps.map fun p => PV.int p.1)) → (Rn (opIx (.loc qr) (.int ((ps.length : Int) - 1 - i)) S) Q ↔ Q (.int p.1) S) := fun R => ix_loc R.h (by rw [hat]; exact ixP_nat (by rw [List.getElem?_map, hpi]; rfl))
    have ixs : ∀ {S Q}, Rn (opIx (.tup (sg.map PV.int)) (.int p.1) S) Q ↔ Q (.int p.2) S := ix_tup (ixP_int p0 (by rw [List.getElem?_map, hsg]; rfl))
    obtain ⟨a, a', hys, hzs, haa⟩ := hr.splitA
    rw [rs_cons, rs_set]
    refine Rn.mono (Q := fun v S4 => S4 = S3 ∧ ((∃ z, v = .bl z) ∨ v = .int p.1)) ?_ ?_
    · try simp only [rn_var, rn_c, rn_op, rn_un, rn_dE, rn_ch, rn_dAnd, rn_dOr, rn_dNot, rn_dYes, rn_and, rn_or, rn_not, rn_if, rn_aNil, rn_aCons, rn_A, rn_mkT, rn_mkL, rn_oNon, rn_asI, rn_oSm, rn_sl, rn_M, rn_isi, rn_lrev, rn_add_i, rn_add_t, rn_sub_i, rn_mul_i, rn_fdiv_i, rn_mod_i, rn_pow_i, rn_lt_i, rn_le_i, rn_gt_i, rn_ge_i, rn_neg_i, rn_eq_i, rn_ne_i, rn_eq_b, rn_eq_s, rn_is, rn_isnot, rn_sl_t, kN_nx, kN_rt, kN_bk, kN_ct, rs_nil, rs_cons, rs_brk, rs_cnt, rs_ex, rs_ret, rs_retN, rs_if, rs_set, rs_par, rs_par3, rs_asg, rs_sub, rn_int_i, rn_abs_i, rn_asB, rn_iSeq, rn_iRng1, rn_iEnu, rn_iZp, rn_iRng2, rn_iRng3, rn_iRv, rn_dic0, rn_dic1, rn_max2, rn_MT, ex_tup, rn_revS, isTy_str, List.getElem?_cons_zero, List.getElem?_cons_succ, List.set_cons_succ, List.set_cons_zero, List.length_cons, List.length_nil, Nat.reduceAdd, Nat.zero_add, reduceIte, Nat.reduceLeDiff, true_and, List.cons_append, List.nil_append, isTy_lst R.h, rn_len_l R.h, rn_append R.h, ixr R]
      refine ⟨fun _ => ⟨fun _ => ?_, fun _ => ?_⟩, fun _ => ⟨fun h => (nomatch h), fun _ => ?_⟩⟩
      · exact .inl ⟨_, rfl⟩
      · exact .inr trivial
      · exact .inr trivial
    rintro v S4 ⟨rfl, hv⟩
    try simp only [rn_var, rn_c, rn_op, rn_un, rn_dE, rn_ch, rn_dAnd, rn_dOr, rn_dNot, rn_dYes, rn_and, rn_or, rn_not, rn_if, rn_aNil, rn_aCons, rn_A, rn_mkT, rn_mkL, rn_oNon, rn_asI, rn_oSm, rn_sl, rn_M, rn_isi, rn_lrev, rn_add_i, rn_add_t, rn_sub_i, rn_mul_i, rn_fdiv_i, rn_mod_i, rn_pow_i, rn_lt_i, rn_le_i, rn_gt_i, rn_ge_i, rn_neg_i, rn_eq_i, rn_ne_i, rn_eq_b, rn_eq_s, rn_is, rn_isnot, rn_sl_t, kN_nx, kN_rt, kN_bk, kN_ct, rs_nil, rs_brk, rs_cnt, rs_ret, rs_retN, rn_int_i, rn_abs_i, rn_asB, rn_iSeq, rn_iRng1, rn_iEnu, rn_iZp, rn_iRng2, rn_iRng3, rn_iRv, rn_dic0, rn_dic1, rn_max2, rn_MT, ex_tup, rn_revS, isTy_str, List.getElem?_cons_zero, List.getElem?_cons_succ, List.set_cons_succ, List.set_cons_zero, List.length_cons, List.length_nil, Nat.reduceAdd, Nat.zero_add, reduceIte, Nat.reduceLeDiff, true_and, List.cons_append, List.nil_append, isTy_lst R.h, rn_len_l R.h, rn_append R.h, isTy_lst A.h, rn_len_l A.h, rn_append A.h]
    rw [rs_ex]
    try simp only [rn_var, rn_c, rn_op, rn_un, rn_dE, rn_ch, rn_dAnd, rn_dOr, rn_dNot, rn_dYes, rn_and, rn_or, rn_not, rn_if, rn_aNil, rn_aCons, rn_A, rn_mkT, rn_mkL, rn_oNon, rn_asI, rn_oSm, rn_sl, rn_M, rn_isi, rn_lrev, rn_add_i, rn_add_t, rn_sub_i, rn_mul_i, rn_fdiv_i, rn_mod_i, rn_pow_i, rn_lt_i, rn_le_i, rn_gt_i, rn_ge_i, rn_neg_i, rn_eq_i, rn_ne_i, rn_eq_b, rn_eq_s, rn_is, rn_isnot, rn_sl_t, kN_nx, kN_rt, kN_bk, kN_ct, rs_nil, rs_brk, rs_cnt, rs_ret, rs_retN, rn_int_i, rn_abs_i, rn_asB, rn_iSeq, rn_iRng1, rn_iEnu, rn_iZp, rn_iRng2, rn_iRng3, rn_iRv, rn_dic0, rn_dic1, rn_max2, rn_MT, ex_tup, rn_revS, isTy_str, List.getElem?_cons_zero, List.getElem?_cons_succ, List.set_cons_succ, List.set_cons_zero, List.length_cons, List.length_nil, Nat.reduceAdd, Nat.zero_add, reduceIte, Nat.reduceLeDiff, true_and, List.cons_append, List.nil_append, isTy_lst R.h, rn_len_l R.h, rn_append R.h, isTy_lst A.h, rn_len_l A.h, rn_append A.h]
    generalize hS_2 : S4 ++ [_] = S_2
    have A1 := At.new' X hS_2
    have Y_2 := Ext.new' X hS_2
    have q1_lo := X.len
    have qr_ne_q1 := R.lt
    have q_ne_q1 := A.lt
    replace R := R.mv Y_2
    replace A := A.mv Y_2
    replace hys := hys.mv Y_2
    replace hzs := hzs.mv Y_2
    replace X := X.mv Y_2
    clear hS_2
    generalize hq_q1 : List.length S4 = q1 at A1 q1_lo qr_ne_q1 q_ne_q1 ⊢
    have hv : ∀ {S : Sto} {d : Nat}, Nf b c (q + 1) S d 63 v := fun {S d} => by
      rcases hv with ⟨z, rfl⟩ | rfl
      · exact Nf.bl lb1 lc1 (by omega)
      · exact Nf.int lb1 lc1 (by omega) (by omega) (Nat.le_refl _)
    refine pops A (by omega) (by decide) rfl ?_ fun S' A' W => ?_
    · try simp only [rn_var, rn_c, rn_op, rn_un, rn_dE, rn_ch, rn_dAnd, rn_dOr, rn_dNot, rn_dYes, rn_and, rn_or, rn_not, rn_if, rn_aNil, rn_aCons, rn_A, rn_mkT, rn_mkL, rn_oNon, rn_asI, rn_oSm, rn_sl, rn_M, rn_isi, rn_lrev, rn_add_i, rn_add_t, rn_sub_i, rn_mul_i, rn_fdiv_i, rn_mod_i, rn_pow_i, rn_lt_i, rn_le_i, rn_gt_i, rn_ge_i, rn_neg_i, rn_eq_i, rn_ne_i, rn_eq_b, rn_eq_s, rn_is, rn_isnot, rn_sl_t, kN_nx, kN_rt, kN_bk, kN_ct, rs_nil, rs_cons, rs_brk, rs_cnt, rs_ex, rs_ret, rs_retN, rs_if, rs_set, rs_par, rs_par3, rs_asg, rs_sub, rn_int_i, rn_abs_i, rn_asB, rn_iSeq, rn_iRng1, rn_iEnu, rn_iZp, rn_iRng2, rn_iRng3, rn_iRv, rn_dic0, rn_dic1, rn_max2, rn_MT, ex_tup, rn_revS, isTy_str, List.getElem?_cons_zero, List.getElem?_cons_succ, List.set_cons_succ, List.set_cons_zero, List.length_cons, List.length_nil, Nat.reduceAdd, Nat.zero_add, reduceIte, Nat.reduceLeDiff, true_and, List.cons_append, List.nil_append, isTy_lst R.h, rn_len_l R.h, rn_append R.h, isTy_lst A.h, rn_len_l A.h, rn_append A.h, isTy_lst A1.h, rn_len_l A1.h, rn_append A1.h, ixr R, ixs]
      exact ⟨_, rfl, by omega, by rw [hz]⟩
    replace R := R.wr W (by omega)
    replace A1 := A1.wr W (by omega)
    replace hys := hys.wr W (by omega)
    replace hzs := hzs.wr W (by omega)
    replace X := X.wr W A'.lo
    clear A
    have A := A'
    clear A'
    generalize hS_3 : S' ++ [_] = S_3
    have A2 := At.new' X hS_3
    have Y_3 := Ext.new' X hS_3
    have q2_lo := X.len
    have qr_ne_q2 := R.lt
    have q_ne_q2 := A.lt
    have q1_ne_q2 := A1.lt
    replace R := R.mv Y_3
    replace A := A.mv Y_3
    replace A1 := A1.mv Y_3
    replace hys := hys.mv Y_3
    replace hzs := hzs.mv Y_3
    replace X := X.mv Y_3
    clear hS_3
    generalize hq_q2 : List.length S' = q2 at A2 q2_lo qr_ne_q2 q_ne_q2 q1_ne_q2 ⊢
    rw [rn_add_l A1.h A2.h]
    refine ⟨by simp; omega, ?_⟩
    generalize hS_4 : S_3 ++ [_] = S_4
    have A3 := At.new' X hS_4
    have Y_4 := Ext.new' X hS_4
    have q3_lo := X.len
    have qr_ne_q3 := R.lt
    have q_ne_q3 := A.lt
    have q1_ne_q3 := A1.lt
    have q2_ne_q3 := A2.lt
    replace R := R.mv Y_4
    replace A := A.mv Y_4
    replace A1 := A1.mv Y_4
    replace A2 := A2.mv Y_4
    replace hys := hys.mv Y_4
    replace hzs := hzs.mv Y_4
    replace X := X.mv Y_4
    clear hS_4
    generalize hq_q3 : List.length S_3 = q3 at A3 q3_lo qr_ne_q3 q_ne_q3 q1_ne_q3 q2_ne_q3 ⊢
    rw [rn_tuple (seq_at A3.h), rn_append A.h]
    refine ⟨by omega, ?_⟩
    have hth := Nf.tup (Rf.cons hv hzs.rev (Nat.le_refl _)) (Nat.le_refl _)
    generalize hS_5 : List.set S_4 q _ = S_5
    have W_5 := At.wrs' A hS_5
    have A' := At.put' A hS_5
    replace R := R.wr W_5 (by first | assumption | exact Ne.symm (by assumption) | omega)
    replace A1 := A1.wr W_5 (by first | assumption | exact Ne.symm (by assumption) | omega)
    replace A2 := A2.wr W_5 (by first | assumption | exact Ne.symm (by assumption) | omega)
    replace A3 := A3.wr W_5 (by first | assumption | exact Ne.symm (by assumption) | omega)
    replace hys := hys.wr W_5 (by first | assumption | omega)
    replace hzs := hzs.wr W_5 (by first | assumption | omega)
    replace hth := hth.wr W_5 (by first | assumption | omega)
    replace X := X.wr W_5 A.lo
    clear hS_5 A
    have A := A'
    clear A'
    exact ⟨_, _, _, ys ++ [_], rfl, A, R, by rw [List.length_append]; exact hF2, (hys.up (by omega) (Nat.le_refl _)).append (Rf.cons hth (Rf.nil lb1 lc1 (m := 0)) (Nat.le_refl _)) (by omega), by simp; omega, X⟩
  · skip
    subst he
    rw [dn_len] at hx' hr hxl
    rw [Nat.sub_self, List.drop_zero] at hx'
    have h1 := Fo.uniq hx' hF
    obtain ⟨v, rfl⟩ := List.length_eq_one_iff.mp h1
    simp only [rn_var, rn_c, rn_op, rn_un, rn_dE, rn_ch, rn_dAnd, rn_dOr, rn_dNot, rn_dYes, rn_and, rn_or, rn_not, rn_if, rn_aNil, rn_aCons, rn_A, rn_mkT, rn_mkL, rn_oNon, rn_asI, rn_oSm, rn_sl, rn_M, rn_isi, rn_lrev, rn_add_i, rn_add_t, rn_sub_i, rn_mul_i, rn_fdiv_i, rn_mod_i, rn_pow_i, rn_lt_i, rn_le_i, rn_gt_i, rn_ge_i, rn_neg_i, rn_eq_i, rn_ne_i, rn_eq_b, rn_eq_s, rn_is, rn_isnot, rn_sl_t, kN_nx, kN_rt, kN_bk, kN_ct, rs_nil, rs_cons, rs_brk, rs_cnt, rs_ex, rs_ret, rs_retN, rs_if, rs_set, rs_par, rs_par3, rs_asg, rs_sub, rn_int_i, rn_abs_i, rn_asB, rn_iSeq, rn_iRng1, rn_iEnu, rn_iZp, rn_iRng2, rn_iRng3, rn_iRv, rn_dic0, rn_dic1, rn_max2, rn_MT, ex_tup, rn_revS, isTy_str, List.getElem?_cons_zero, List.getElem?_cons_succ, List.set_cons_succ, List.set_cons_zero, List.length_cons, List.length_nil, Nat.reduceAdd, Nat.zero_add, reduceIte, Nat.reduceLeDiff, true_and, List.cons_append, List.nil_append]
    rw [ix_loc A.h (ixP_last rfl)]
    exact ⟨((hr.af.get List.mem_cons_self).low (by have := A.lo; omega) lb lc).up (by omega) (by omega), X⟩
/-- how great a tower is -/
def towS (a : Nat) : Nat → Nat
  | 0 => 700
  | i + 1 => a * (towS a i + 2) + 70
theorem tow_le {a i : Nat} (h : (a = 1 ∧ i ≤ 44) ∨ (a = 2 ∧ i ≤ 7) ∨ (a = 3 ∧ i ≤ 5)) : towS a i ≤ 200000 := by
  have h1 : ∀ i, i < 45 → towS 1 i ≤ 200000 := by decide +kernel
  have h2 : ∀ i, i < 8 → towS 2 i ≤ 200000 := by decide +kernel
  have h3 : ∀ i, i < 6 → towS 3 i ≤ 200000 := by decide +kernel
  rcases h with ⟨rfl, h⟩ | ⟨rfl, h⟩ | ⟨rfl, h⟩
  · exact h1 i (by omega)
  · exact h2 i (by omega)
  · exact h3 i (by omega)
theorem tower_spec {S0 S : Sto} {b c n : Nat} {sg : List Int} (hs : SigOk sg) (X : Ext b c S0 S) (hn : n ≤ S0.length) (lb : b < n) (lc : c < n) :
    Rn (f__law_tower [.loc b, .tup (sg.map PV.int)] S) fun r S' => Nf b c n S' 61 200000 r ∧ Ext b c S0 S' := by
  have h0 : (0 : Int) ∈ sg := hs.2.2.2.elim fun i h => List.mem_of_getElem? h
  have l1 := hs.1
  have l6 := hs.2.1
  have hix : sg.idxOf 0 < sg.length := List.idxOf_lt_length_of_mem h0
  unfold f__law_tower
  rw [rn_runD]
  unfold b__law_tower
  show Rs (sCons _ _ [some (.loc b), some (.tup (sg.map PV.int)), none, none, none, none, none] S) _
  rw [rs_cons, rs_set]
  refine lc_fm ((List.range sg.length).map fun j : Nat => PV.int (0 + j)) S (fun x => match x with
    | .int j => if 0 < sg.getD j.toNat 0 then some (.int j) else none
    | _ => none) ?_ (by simp; omega) (fun x hx => ?_) ?_
  · try simp only [rn_var, rn_c, rn_op, rn_un, rn_dE, rn_ch, rn_dAnd, rn_dOr, rn_dNot, rn_dYes, rn_and, rn_or, rn_not, rn_if, rn_aNil, rn_aCons, rn_A, rn_mkT, rn_mkL, rn_oNon, rn_asI, rn_oSm, rn_sl, rn_M, rn_isi, rn_lrev, rn_add_i, rn_add_t, rn_sub_i, rn_mul_i, rn_fdiv_i, rn_mod_i, rn_pow_i, rn_lt_i, rn_le_i, rn_gt_i, rn_ge_i, rn_neg_i, rn_eq_i, rn_ne_i, rn_eq_b, rn_eq_s, rn_is, rn_isnot, rn_sl_t, kN_nx, kN_rt, kN_bk, kN_ct, rs_nil, rs_cons, rs_brk, rs_cnt, rs_ex, rs_ret, rs_retN, rs_if, rs_set, rs_par, rs_par3, rs_asg, rs_sub, rn_int_i, rn_abs_i, rn_asB, rn_iSeq, rn_iRng1, rn_iEnu, rn_iZp, rn_iRng2, rn_iRng3, rn_iRv, rn_dic0, rn_dic1, rn_max2, rn_MT, ex_tup, rn_revS, isTy_str, List.getElem?_cons_zero, List.getElem?_cons_succ, List.set_cons_succ, List.set_cons_zero, List.length_cons, List.length_nil, Nat.reduceAdd, Nat.zero_add, reduceIte, Nat.reduceLeDiff, true_and, List.cons_append, List.nil_append, rn_len_t, List.length_map]
    exact ⟨_, rfl, by omega, fun i => wR_at i⟩
  · obtain ⟨j, hj, rfl⟩ := List.mem_map.mp hx
    have hj := List.mem_range.mp hj
    refine ⟨_, rfl, rfl, ?_⟩
    try simp only [setP, wipeP, List.foldl_cons, List.foldl_nil, List.set_cons_succ, List.set_cons_zero]
    have e : sg[j]? = some sg[j] := List.getElem?_eq_getElem hj
    have e2 : sg.getD ((0 : Int) + (j : Int)).toNat 0 = sg[j] := by rw [show ((0 : Int) + (j : Int)).toNat = j by omega, List.getD_eq_getElem?_getD, e]; rfl
    have ix : ixP (sg.map PV.int) (0 + (j : Int)) = some (.int sg[j]) := ixP_int (by omega) (by rw [show ((0 : Int) + (j : Int)).toNat = j by omega, List.getElem?_map, e]; rfl)
    try simp only [rn_var, rn_c, rn_op, rn_un, rn_dE, rn_ch, rn_dAnd, rn_dOr, rn_dNot, rn_dYes, rn_and, rn_or, rn_not, rn_if, rn_aNil, rn_aCons, rn_A, rn_mkT, rn_mkL, rn_oNon, rn_asI, rn_oSm, rn_sl, rn_M, rn_isi, rn_lrev, rn_add_i, rn_add_t, rn_sub_i, rn_mul_i, rn_fdiv_i, rn_mod_i, rn_pow_i, rn_lt_i, rn_le_i, rn_gt_i, rn_ge_i, rn_neg_i, rn_eq_i, rn_ne_i, rn_eq_b, rn_eq_s, rn_is, rn_isnot, rn_sl_t, kN_nx, kN_rt, kN_bk, kN_ct, rs_nil, rs_cons, rs_brk, rs_cnt, rs_ex, rs_ret, rs_retN, rs_if, rs_set, rs_par, rs_par3, rs_asg, rs_sub, rn_int_i, rn_abs_i, rn_asB, rn_iSeq, rn_iRng1, rn_iEnu, rn_iZp, rn_iRng2, rn_iRng3, rn_iRv, rn_dic0, rn_dic1, rn_max2, rn_MT, ex_tup, rn_revS, isTy_str, List.getElem?_cons_zero, List.getElem?_cons_succ, List.set_cons_succ, List.set_cons_zero, List.length_cons, List.length_nil, Nat.reduceAdd, Nat.zero_add, reduceIte, Nat.reduceLeDiff, true_and, List.cons_append, List.nil_append, ix_tup ix]
    refine ⟨fun h => ?_, fun h => ?_⟩
    · have := of_decide_eq_true h
      rw [e2, if_pos this]
    · have := of_decide_eq_false h
      rw [e2, if_neg this]
  generalize hM : List.filterMap _ _ = M
  have hMm : ∀ y ∈ M, ∃ (j : Nat) (a : Int), y = .int (j : Int) ∧ sg[j]? = some a ∧ 0 < a := fun y hy => by
    rw [← hM] at hy
    obtain ⟨x, hx, h⟩ := List.mem_filterMap.mp hy
    obtain ⟨j, hj, rfl⟩ := List.mem_map.mp hx
    have hj := List.mem_range.mp hj
    simp only at h
    split at h
    · rename_i hb
      cases h
      rw [show ((0 : Int) + (j : Int)).toNat = j by omega, List.getD_eq_getElem?_getD, List.getElem?_eq_getElem hj] at hb
      exact ⟨j, sg[j], by rw [Int.zero_add], List.getElem?_eq_getElem hj, hb⟩
    · cases h
  have hMl : M.length ≤ 6 := by
    rw [← hM]
    refine Nat.le_trans (List.length_filterMap_le _ _) ?_
    simp
    omega
  generalize hS_1 : S ++ [_] = S_1
  have A := At.new' X hS_1
  have Y_1 := Ext.new' X hS_1
  have q_lo := X.len
  replace X := X.mv Y_1
  clear hS_1
  generalize hq_q : List.length S = q at A q_lo  ⊢
  simp only [kN_nx]
  rw [rs_cons, rs_set]
  refine Rn.mono (Q := fun v S4 => Nf b c n S4 14 700 v ∧ At b c S0.length S4 q (.lst M) ∧ Ext b c S0 S4) ?_ ?_
  · try simp only [rn_var, rn_c, rn_op, rn_un, rn_dE, rn_ch, rn_dAnd, rn_dOr, rn_dNot, rn_dYes, rn_and, rn_or, rn_not, rn_if, rn_aNil, rn_aCons, rn_A, rn_mkT, rn_mkL, rn_oNon, rn_asI, rn_oSm, rn_sl, rn_M, rn_isi, rn_lrev, rn_add_i, rn_add_t, rn_sub_i, rn_mul_i, rn_fdiv_i, rn_mod_i, rn_pow_i, rn_lt_i, rn_le_i, rn_gt_i, rn_ge_i, rn_neg_i, rn_eq_i, rn_ne_i, rn_eq_b, rn_eq_s, rn_is, rn_isnot, rn_sl_t, kN_nx, kN_rt, kN_bk, kN_ct, rs_nil, rs_cons, rs_brk, rs_cnt, rs_ex, rs_ret, rs_retN, rs_if, rs_set, rs_par, rs_par3, rs_asg, rs_sub, rn_int_i, rn_abs_i, rn_asB, rn_iSeq, rn_iRng1, rn_iEnu, rn_iZp, rn_iRng2, rn_iRng3, rn_iRv, rn_dic0, rn_dic1, rn_max2, rn_MT, ex_tup, rn_revS, isTy_str, List.getElem?_cons_zero, List.getElem?_cons_succ, List.set_cons_succ, List.set_cons_zero, List.length_cons, List.length_nil, Nat.reduceAdd, Nat.zero_add, reduceIte, Nat.reduceLeDiff, true_and, List.cons_append, List.nil_append, isTy_lst A.h, rn_len_l A.h, rn_append A.h, rn_len_t, rn_index_t h0, List.length_map]
    refine (draw_spec X.bag (n := 2) (by omega) (by omega)).mono ?_
    rintro r S_2 ⟨k, rfl, k0, k1, Y_2⟩
    replace A := A.mv Y_2
    replace X := X.mv Y_2
    try simp only [rn_var, rn_c, rn_op, rn_un, rn_dE, rn_ch, rn_dAnd, rn_dOr, rn_dNot, rn_dYes, rn_and, rn_or, rn_not, rn_if, rn_aNil, rn_aCons, rn_A, rn_mkT, rn_mkL, rn_oNon, rn_asI, rn_oSm, rn_sl, rn_M, rn_isi, rn_lrev, rn_add_i, rn_add_t, rn_sub_i, rn_mul_i, rn_fdiv_i, rn_mod_i, rn_pow_i, rn_lt_i, rn_le_i, rn_gt_i, rn_ge_i, rn_neg_i, rn_eq_i, rn_ne_i, rn_eq_b, rn_eq_s, rn_is, rn_isnot, rn_sl_t, kN_nx, kN_rt, kN_bk, kN_ct, rs_nil, rs_cons, rs_brk, rs_cnt, rs_ex, rs_ret, rs_retN, rs_if, rs_set, rs_par, rs_par3, rs_asg, rs_sub, rn_int_i, rn_abs_i, rn_asB, rn_iSeq, rn_iRng1, rn_iEnu, rn_iZp, rn_iRng2, rn_iRng3, rn_iRv, rn_dic0, rn_dic1, rn_max2, rn_MT, ex_tup, rn_revS, isTy_str, List.getElem?_cons_zero, List.getElem?_cons_succ, List.set_cons_succ, List.set_cons_zero, List.length_cons, List.length_nil, Nat.reduceAdd, Nat.zero_add, reduceIte, Nat.reduceLeDiff, true_and, List.cons_append, List.nil_append, isTy_lst A.h, rn_len_l A.h, rn_append A.h, rn_len_t, rn_index_t h0, List.length_map]
    refine ⟨fun _ => ?_, fun _ => ?_⟩
    · refine (odd_spec (Ext.refl X.bag) (by have := A.lt; have := A.lo; omega) lb lc (by omega) (by omega)).mono ?_
      rintro v S_3 ⟨hv, Y_3⟩
      replace A := A.mv Y_3
      replace X := X.mv Y_3
      exact ⟨hv, A, X⟩
    · exact ⟨(Nf.tup (d := 0) (Rf.cons (Nf.int lb lc (by omega) (by omega) (Nat.le_refl 63)) (Rf.nil lb lc (m := 0)) (Nat.le_refl _)) (Nat.le_refl _)).up (by omega) (by omega), A, X⟩
  rintro v S4 ⟨hv, A, X⟩
  simp only [kN_nx]
  rw [rs_cons, rs_if]
  try simp only [rn_var, rn_c, rn_op, rn_un, rn_dE, rn_ch, rn_dAnd, rn_dOr, rn_dNot, rn_dYes, rn_and, rn_or, rn_not, rn_if, rn_aNil, rn_aCons, rn_A, rn_mkT, rn_mkL, rn_oNon, rn_asI, rn_oSm, rn_sl, rn_M, rn_isi, rn_lrev, rn_add_i, rn_add_t, rn_sub_i, rn_mul_i, rn_fdiv_i, rn_mod_i, rn_pow_i, rn_lt_i, rn_le_i, rn_gt_i, rn_ge_i, rn_neg_i, rn_eq_i, rn_ne_i, rn_eq_b, rn_eq_s, rn_is, rn_isnot, rn_sl_t, kN_nx, kN_rt, kN_bk, kN_ct, rs_nil, rs_brk, rs_cnt, rs_ret, rs_retN, rn_int_i, rn_abs_i, rn_asB, rn_iSeq, rn_iRng1, rn_iEnu, rn_iZp, rn_iRng2, rn_iRng3, rn_iRv, rn_dic0, rn_dic1, rn_max2, rn_MT, ex_tup, rn_revS, isTy_str, List.getElem?_cons_zero, List.getElem?_cons_succ, List.set_cons_succ, List.set_cons_zero, List.length_cons, List.length_nil, Nat.reduceAdd, Nat.zero_add, reduceIte, Nat.reduceLeDiff, true_and, List.cons_append, List.nil_append, isTy_lst A.h, rn_len_l A.h, rn_append A.h]
  generalize hS_4 : S4 ++ [_] = S_4
  have A2 := At.new' X hS_4
  have Y_4 := Ext.new' X hS_4
  have q2_lo := X.len
  have q_ne_q2 := A.lt
  replace A := A.mv Y_4
  replace hv := hv.mv Y_4
  replace X := X.mv Y_4
  clear hS_4
  generalize hq_q2 : List.length S4 = q2 at A2 q2_lo q_ne_q2 ⊢
  rw [rn_eqA_l A.h A2.h]
  simp only [rn_asB]
  refine ⟨fun _ => ?_, fun hne => ?_⟩
  · exact ⟨hv.up (by omega) (by omega), X⟩
  · have hne : M ≠ [] := fun z => by subst z; cases hne
    try simp only [rn_var, rn_c, rn_op, rn_un, rn_dE, rn_ch, rn_dAnd, rn_dOr, rn_dNot, rn_dYes, rn_and, rn_or, rn_not, rn_if, rn_aNil, rn_aCons, rn_A, rn_mkT, rn_mkL, rn_oNon, rn_asI, rn_oSm, rn_sl, rn_M, rn_isi, rn_lrev, rn_add_i, rn_add_t, rn_sub_i, rn_mul_i, rn_fdiv_i, rn_mod_i, rn_pow_i, rn_lt_i, rn_le_i, rn_gt_i, rn_ge_i, rn_neg_i, rn_eq_i, rn_ne_i, rn_eq_b, rn_eq_s, rn_is, rn_isnot, rn_sl_t, kN_nx, kN_rt, kN_bk, kN_ct, rs_nil, rs_cons, rs_brk, rs_cnt, rs_ex, rs_ret, rs_retN, rs_if, rs_set, rs_par, rs_par3, rs_asg, rs_sub, rn_int_i, rn_abs_i, rn_asB, rn_iSeq, rn_iRng1, rn_iEnu, rn_iZp, rn_iRng2, rn_iRng3, rn_iRv, rn_dic0, rn_dic1, rn_max2, rn_MT, ex_tup, rn_revS, isTy_str, List.getElem?_cons_zero, List.getElem?_cons_succ, List.set_cons_succ, List.set_cons_zero, List.length_cons, List.length_nil, Nat.reduceAdd, Nat.zero_add, reduceIte, Nat.reduceLeDiff, true_and, List.cons_append, List.nil_append, isTy_lst A.h, rn_len_l A.h, rn_append A.h, isTy_lst A2.h, rn_len_l A2.h, rn_append A2.h]
    refine (pick_spec X.bag A.seq hne (by omega)).mono ?_
    rintro r S_5 ⟨hr, Y_5⟩
    replace A := A.mv Y_5
    replace A2 := A2.mv Y_5
    replace hv := hv.mv Y_5
    replace X := X.mv Y_5
    obtain ⟨j, a, rfl, hj, ha⟩ := hMm r hr
    have ha3 := hs.2.2.1 a (List.mem_of_getElem? hj)
    have jl : j < sg.length := lt_of_get hj
    have ix : ixP (sg.map PV.int) (j : Int) = some (.int a) := ixP_nat (by rw [List.getElem?_map, hj]; rfl)
    refine (draw_spec X.bag (n := 9) (by omega) (by omega)).mono ?_
    rintro r S_6 ⟨k1, rfl, k10, k11, Y_6⟩
    replace A := A.mv Y_6
    replace A2 := A2.mv Y_6
    replace hv := hv.mv Y_6
    replace X := X.mv Y_6
    rw [rn_add_i]
    refine (draw_spec X.bag (n := 7) (by omega) (by omega)).mono ?_
    rintro r S_7 ⟨k2, rfl, k20, k21, Y_7⟩
    replace A := A.mv Y_7
    replace A2 := A2.mv Y_7
    replace hv := hv.mv Y_7
    replace X := X.mv Y_7
    rw [rn_add_i]
    refine (draw_spec X.bag (n := 5) (by omega) (by omega)).mono ?_
    rintro r S_8 ⟨k3, rfl, k30, k31, Y_8⟩
    replace A := A.mv Y_8
    replace A2 := A2.mv Y_8
    replace hv := hv.mv Y_8
    replace X := X.mv Y_8
    rw [rn_add_i]
    generalize hS_9 : S_8 ++ [_] = S_9
    have A3 := At.new' X hS_9
    have Y_9 := Ext.new' X hS_9
    have q3_lo := X.len
    have q_ne_q3 := A.lt
    have q2_ne_q3 := A2.lt
    replace A := A.mv Y_9
    replace A2 := A2.mv Y_9
    replace hv := hv.mv Y_9
    replace X := X.mv Y_9
    clear hS_9
    generalize hq_q3 : List.length S_8 = q3 at A3 q3_lo q_ne_q3 q2_ne_q3 ⊢
    rw [ix_tup ix]
    obtain ⟨t, ht, ht2⟩ : ∃ t : Int, ixP [PV.int 0, .int (36 + k1), .int (1 + k2), .int (1 + k3)] a = some (.int t) ∧ ((a = 1 ∧ 0 ≤ t ∧ t ≤ 44) ∨ (a = 2 ∧ 0 ≤ t ∧ t ≤ 7) ∨ (a = 3 ∧ 0 ≤ t ∧ t ≤ 5)) := by
      have : a = 1 ∨ a = 2 ∨ a = 3 := by omega
      rcases this with rfl | rfl | rfl
      · exact ⟨36 + k1, ixP_nat (n := 1) rfl, by omega⟩
      · exact ⟨1 + k2, ixP_nat (n := 2) rfl, by omega⟩
      · exact ⟨1 + k3, ixP_nat (n := 3) rfl, by omega⟩
    rw [ix_loc A3.h ht]
    refine for_rn ((List.range t.toNat).map fun j : Nat => PV.int (0 + j)) (fun i e S5 => ∃ (v : PV) (x6 : Option PV), e = [some (.loc b), some (.tup (sg.map PV.int)), some (.loc q), some v, some (.int j), some (.int t), x6] ∧ Nf b c n S5 (14 + i) (towS a.toNat i) v ∧ Ext b c S0 S5) ?_ (fun i x e S5 hx ⟨v, x6, he, hv, X⟩ => ?_) (fun e S5 ⟨v, x6, he, hv, X⟩ => ?_)
    · try simp only [rn_var, rn_c, rn_op, rn_un, rn_dE, rn_ch, rn_dAnd, rn_dOr, rn_dNot, rn_dYes, rn_and, rn_or, rn_not, rn_if, rn_aNil, rn_aCons, rn_A, rn_mkT, rn_mkL, rn_oNon, rn_asI, rn_oSm, rn_sl, rn_M, rn_isi, rn_lrev, rn_add_i, rn_add_t, rn_sub_i, rn_mul_i, rn_fdiv_i, rn_mod_i, rn_pow_i, rn_lt_i, rn_le_i, rn_gt_i, rn_ge_i, rn_neg_i, rn_eq_i, rn_ne_i, rn_eq_b, rn_eq_s, rn_is, rn_isnot, rn_sl_t, kN_nx, kN_rt, kN_bk, kN_ct, rs_nil, rs_cons, rs_brk, rs_cnt, rs_ex, rs_ret, rs_retN, rs_if, rs_set, rs_par, rs_par3, rs_asg, rs_sub, rn_int_i, rn_abs_i, rn_asB, rn_iSeq, rn_iRng1, rn_iEnu, rn_iZp, rn_iRng2, rn_iRng3, rn_iRv, rn_dic0, rn_dic1, rn_max2, rn_MT, ex_tup, rn_revS, isTy_str, List.getElem?_cons_zero, List.getElem?_cons_succ, List.set_cons_succ, List.set_cons_zero, List.length_cons, List.length_nil, Nat.reduceAdd, Nat.zero_add, reduceIte, Nat.reduceLeDiff, true_and, List.cons_append, List.nil_append, isTy_lst A.h, rn_len_l A.h, rn_append A.h, isTy_lst A2.h, rn_len_l A2.h, rn_append A2.h, isTy_lst A3.h, rn_len_l A3.h, rn_append A3.h]
      exact ⟨_, rfl, by omega, ⟨_, none, rfl, hv, X⟩, fun i e S _ => wR_at i⟩
    · skip
      subst he
      refine ⟨[(6, x)], rfl, ?_⟩
      try simp only [setP, wipeP, List.foldl_cons, List.foldl_nil, List.set_cons_succ, List.set_cons_zero]
      try simp only [rn_var, rn_c, rn_op, rn_un, rn_dE, rn_ch, rn_dAnd, rn_dOr, rn_dNot, rn_dYes, rn_and, rn_or, rn_not, rn_if, rn_aNil, rn_aCons, rn_A, rn_mkT, rn_mkL, rn_oNon, rn_asI, rn_oSm, rn_sl, rn_M, rn_isi, rn_lrev, rn_add_i, rn_add_t, rn_sub_i, rn_mul_i, rn_fdiv_i, rn_mod_i, rn_pow_i, rn_lt_i, rn_le_i, rn_gt_i, rn_ge_i, rn_neg_i, rn_eq_i, rn_ne_i, rn_eq_b, rn_eq_s, rn_is, rn_isnot, rn_sl_t, kN_nx, kN_rt, kN_bk, kN_ct, rs_nil, rs_cons, rs_brk, rs_cnt, rs_ex, rs_ret, rs_retN, rs_if, rs_set, rs_par, rs_par3, rs_asg, rs_sub, rn_int_i, rn_abs_i, rn_asB, rn_iSeq, rn_iRng1, rn_iEnu, rn_iZp, rn_iRng2, rn_iRng3, rn_iRv, rn_dic0, rn_dic1, rn_max2, rn_MT, ex_tup, rn_revS, isTy_str, List.getElem?_cons_zero, List.getElem?_cons_succ, List.set_cons_succ, List.set_cons_zero, List.length_cons, List.length_nil, Nat.reduceAdd, Nat.zero_add, reduceIte, Nat.reduceLeDiff, true_and, List.cons_append, List.nil_append, ix_tup ix]
      generalize hS_10 : S5 ++ [_] = S_10
      have B1 := At.new' X hS_10
      have Y_10 := Ext.new' X hS_10
      have p1_lo := X.len
      replace hv := hv.mv Y_10
      replace X := X.mv Y_10
      clear hS_10
      generalize hq_p1 : List.length S5 = p1 at B1 p1_lo  ⊢
      generalize hS_11 : S_10 ++ [_] = S_11
      have B2 := At.new' X hS_11
      have Y_11 := Ext.new' X hS_11
      have p2_lo := X.len
      have p1_ne_p2 := B1.lt
      replace B1 := B1.mv Y_11
      replace hv := hv.mv Y_11
      replace X := X.mv Y_11
      clear hS_11
      generalize hq_p2 : List.length S_10 = p2 at B2 p2_lo p1_ne_p2 ⊢
      rw [mul1 B2 (by omega) (by omega)]
      generalize hS_12 : S_11 ++ [_] = S_12
      have B3 := At.new' X hS_12
      have Y_12 := Ext.new' X hS_12
      have p3_lo := X.len
      have p1_ne_p3 := B1.lt
      have p2_ne_p3 := B2.lt
      replace B1 := B1.mv Y_12
      replace B2 := B2.mv Y_12
      replace hv := hv.mv Y_12
      replace X := X.mv Y_12
      clear hS_12
      generalize hq_p3 : List.length S_11 = p3 at B3 p3_lo p1_ne_p3 p2_ne_p3 ⊢
      rw [rn_add_l B1.h B3.h]
      refine ⟨by simp; omega, ?_⟩
      generalize hS_13 : S_12 ++ [_] = S_13
      have B4 := At.new' X hS_13
      have Y_13 := Ext.new' X hS_13
      have p4_lo := X.len
      have p1_ne_p4 := B1.lt
      have p2_ne_p4 := B2.lt
      have p3_ne_p4 := B3.lt
      replace B1 := B1.mv Y_13
      replace B2 := B2.mv Y_13
      replace B3 := B3.mv Y_13
      replace hv := hv.mv Y_13
      replace X := X.mv Y_13
      clear hS_13
      generalize hq_p4 : List.length S_12 = p4 at B4 p4_lo p1_ne_p4 p2_ne_p4 p3_ne_p4 ⊢
      rw [rn_tuple (seq_at B4.h)]
      exact ⟨_, _, rfl, (Nf.tup (Rf.cons (Nf.int lb lc (by omega) (by omega) (Nat.le_refl 63)) (Rf.rep hv a.toNat) (Nat.le_refl _)) (Nat.le_refl _)).up (by omega) (by show _ ≤ a.toNat * (towS a.toNat i + 2) + 70; omega), X⟩
    · skip
      subst he
      rw [List.length_map, List.length_range] at hv
      try simp only [rn_var, rn_c, rn_op, rn_un, rn_dE, rn_ch, rn_dAnd, rn_dOr, rn_dNot, rn_dYes, rn_and, rn_or, rn_not, rn_if, rn_aNil, rn_aCons, rn_A, rn_mkT, rn_mkL, rn_oNon, rn_asI, rn_oSm, rn_sl, rn_M, rn_isi, rn_lrev, rn_add_i, rn_add_t, rn_sub_i, rn_mul_i, rn_fdiv_i, rn_mod_i, rn_pow_i, rn_lt_i, rn_le_i, rn_gt_i, rn_ge_i, rn_neg_i, rn_eq_i, rn_ne_i, rn_eq_b, rn_eq_s, rn_is, rn_isnot, rn_sl_t, kN_nx, kN_rt, kN_bk, kN_ct, rs_nil, rs_cons, rs_brk, rs_cnt, rs_ex, rs_ret, rs_retN, rs_if, rs_set, rs_par, rs_par3, rs_asg, rs_sub, rn_int_i, rn_abs_i, rn_asB, rn_iSeq, rn_iRng1, rn_iEnu, rn_iZp, rn_iRng2, rn_iRng3, rn_iRv, rn_dic0, rn_dic1, rn_max2, rn_MT, ex_tup, rn_revS, isTy_str, List.getElem?_cons_zero, List.getElem?_cons_succ, List.set_cons_succ, List.set_cons_zero, List.length_cons, List.length_nil, Nat.reduceAdd, Nat.zero_add, reduceIte, Nat.reduceLeDiff, true_and, List.cons_append, List.nil_append]
      exact ⟨hv.up (by omega) (tow_le (by omega)), X⟩
def itsOf (sg : List Int) : List (Int × Int) := (List.range sg.length).map fun j : Nat => ((j : Int), sg.getD j 0)
theorem itsOf_ok {sg : List Int} {p : Int × Int} (h : p ∈ itsOf sg) : 0 ≤ p.1 ∧ sg[p.1.toNat]? = some p.2 := by
  obtain ⟨j, hj, rfl⟩ := List.mem_map.mp h
  have hj := List.mem_range.mp hj
  refine ⟨Int.natCast_nonneg j, ?_⟩
  show sg[((j : Int)).toNat]? = some (sg.getD j 0)
  rw [Int.toNat_natCast, List.getD_eq_getElem?_getD, List.getElem?_eq_getElem hj]
  rfl
theorem itsOf_get {sg : List Int} {j : Nat} {a : Int} (h : sg[j]? = some a) : ((j : Int), a) ∈ itsOf sg := by
  refine List.mem_map.mpr ⟨j, List.mem_range.mpr (lt_of_get h), ?_⟩
  rw [List.getD_eq_getElem?_getD, h]
  rfl
theorem itsOf_its {sg : List Int} (hs : SigOk sg) : Its sg (itsOf sg) := by
  refine ⟨fun p hp => hs.2.2.1 p.2 (List.mem_of_getElem? (itsOf_ok hp).2), ?_, fun a ha _ => ?_, ?_⟩
  · obtain ⟨i, hi⟩ := hs.2.2.2
    exact ⟨_, itsOf_get hi, rfl⟩
  · obtain ⟨j, hj⟩ := List.mem_iff_getElem?.mp ha
    exact ⟨_, itsOf_get hj, rfl⟩
  · have := hs.2.1
    unfold itsOf
    rw [List.length_map, List.length_range]
    omega
theorem items_spec {S : Sto} {sg : List Int} {e : Sl} {i j : Nat} {Q : PV → Sto → Prop} (hs : SigOk sg) (he : e[i]? = some (some (.tup (sg.map PV.int)))) (hij : i ≠ j) (hl : j < e.length) (fin : Q (.loc S.length) (S ++ [.lst ((itsOf sg).map prV)])) :
    Rn (eLc (iRngOne (aCons (eA fLen (aCons (eVar i) aNil)) aNil)) (gN j) dYes (eA mkT (aCons (eVar j) (aCons (eOp opIx (eVar i) (eVar j)) aNil))) [j] e S) Q := by
  have l6 := hs.2.1
  refine lc_map ((List.range sg.length).map fun j : Nat => PV.int (0 + j)) (fun x y => y = match x with
    | .int k => prV (k, sg.getD k.toNat 0)
    | _ => .non) (fun S2 => S2 = S) ?_ (by simp; omega) (fun x hx S2 h2 => ?_) (fun ys S2 hA h2 => ?_)
  · simp only [rn_var, rn_c, rn_op, rn_un, rn_dE, rn_ch, rn_dAnd, rn_dOr, rn_dNot, rn_dYes, rn_and, rn_or, rn_not, rn_if, rn_aNil, rn_aCons, rn_A, rn_mkT, rn_mkL, rn_oNon, rn_asI, rn_oSm, rn_sl, rn_M, rn_isi, rn_lrev, rn_add_i, rn_add_t, rn_sub_i, rn_mul_i, rn_fdiv_i, rn_mod_i, rn_pow_i, rn_lt_i, rn_le_i, rn_gt_i, rn_ge_i, rn_neg_i, rn_eq_i, rn_ne_i, rn_eq_b, rn_eq_s, rn_is, rn_isnot, rn_sl_t, kN_nx, kN_rt, kN_bk, kN_ct, rs_nil, rs_cons, rs_brk, rs_cnt, rs_ex, rs_ret, rs_retN, rs_if, rs_set, rs_par, rs_par3, rs_asg, rs_sub, rn_int_i, rn_abs_i, rn_asB, rn_iSeq, rn_iRng1, rn_iEnu, rn_iZp, rn_iRng2, rn_iRng3, rn_iRv, rn_dic0, rn_dic1, rn_max2, rn_MT, ex_tup, rn_revS, isTy_str, List.getElem?_cons_zero, List.getElem?_cons_succ, List.set_cons_succ, List.set_cons_zero, List.length_cons, List.length_nil, Nat.reduceAdd, Nat.zero_add, reduceIte, Nat.reduceLeDiff, true_and, List.cons_append, List.nil_append, he, rn_len_t, List.length_map]
    exact ⟨_, rfl, by omega, fun i S _ => wR_at i⟩
  · subst h2
    obtain ⟨k, hk, rfl⟩ := List.mem_map.mp hx
    have hk := List.mem_range.mp hk
    refine ⟨[(j, .int (0 + (k : Int)))], rfl, by simp, ?_⟩
    have ix : ixP (sg.map PV.int) (0 + (k : Int)) = some (.int (sg.getD ((0 : Int) + k).toNat 0)) := ixP_int (by omega) (by
      rw [show ((0 : Int) + (k : Int)).toNat = k by omega, List.getElem?_map, List.getD_eq_getElem?_getD, List.getElem?_eq_getElem hk]; rfl)
    have ej : (setP (wipeP e [j]) [(j, PV.int (0 + (k : Int)))])[j]? = some (some (.int (0 + (k : Int)))) := by
      unfold setP wipeP wipeP
      simp only [List.foldl_cons, List.foldl_nil]
      exact List.getElem?_set_self (by simpa using hl)
    simp only [rn_A, rn_aCons, rn_aNil, rn_op, rn_var, ej, setP_ne hij, he, ix_tup ix, rn_mkT, List.length_cons, List.length_nil]
    exact ⟨by omega, rfl, trivial⟩
  · subst h2
    rw [hA.map_eq, List.map_map]
    have e : (List.range sg.length).map ((fun x => match x with
      | PV.int k => prV (k, sg.getD k.toNat 0)
      | _ => .non) ∘ fun j : Nat => PV.int (0 + (j : Int))) = (itsOf sg).map prV := by
      unfold itsOf
      rw [List.map_map]
      refine List.map_congr_left fun j hj => ?_
      show prV (0 + (j : Int), sg.getD ((0 : Int) + (j : Int)).toNat 0) = prV ((j : Int), sg.getD j 0)
      rw [Int.zero_add, Int.toNat_natCast]
    rw [e]
    exact fin
theorem values_spec {S0 S : Sto} {b c n : Nat} {sg : List Int} (hs : SigOk sg) (X : Ext b c S0 S) (hn : n ≤ S0.length) (lb : b < n) (lc : c < n) :
    Rn (f__law_term_values [.loc b, .tup (sg.map PV.int)] S) fun r S' => ∃ (q : Nat) (vals : List PV), r = .loc q ∧ At b c S0.length S' q (.lst vals) ∧ vals.length ≤ 12 ∧ Af b c n S' 61 200000 vals ∧ Ext b c S0 S' := by
  have l1 := hs.1
  have l6 := hs.2.1
  have hI := itsOf_its hs
  unfold f__law_term_values
  rw [rn_runD]
  unfold b__law_term_values
  show Rs (sCons _ _ [some (.loc b), some (.tup (sg.map PV.int)), none, none, none, none, none, none, none, none, none, none, none, none] S) _
  rw [rs_cons, rs_par]
  try simp only [rn_var, rn_c, rn_op, rn_un, rn_dE, rn_ch, rn_dAnd, rn_dOr, rn_dNot, rn_dYes, rn_and, rn_or, rn_not, rn_if, rn_aNil, rn_aCons, rn_A, rn_mkT, rn_mkL, rn_oNon, rn_asI, rn_oSm, rn_sl, rn_M, rn_isi, rn_lrev, rn_add_i, rn_add_t, rn_sub_i, rn_mul_i, rn_fdiv_i, rn_mod_i, rn_pow_i, rn_lt_i, rn_le_i, rn_gt_i, rn_ge_i, rn_neg_i, rn_eq_i, rn_ne_i, rn_eq_b, rn_eq_s, rn_is, rn_isnot, rn_sl_t, kN_nx, kN_rt, kN_bk, kN_ct, rs_nil, rs_brk, rs_cnt, rs_ret, rs_retN, rn_int_i, rn_abs_i, rn_asB, rn_iSeq, rn_iRng1, rn_iEnu, rn_iZp, rn_iRng2, rn_iRng3, rn_iRv, rn_dic0, rn_dic1, rn_max2, rn_MT, ex_tup, rn_revS, isTy_str, List.getElem?_cons_zero, List.getElem?_cons_succ, List.set_cons_succ, List.set_cons_zero, List.length_cons, List.length_nil, Nat.reduceAdd, Nat.zero_add, reduceIte, Nat.reduceLeDiff, true_and, List.cons_append, List.nil_append]
  refine items_spec hs rfl (by decide) (by simp) ?_
  generalize hS_1 : S ++ [_] = S_1
  have Ai := At.new' X hS_1
  have Y_1 := Ext.new' X hS_1
  have qi_lo := X.len
  replace X := X.mv Y_1
  clear hS_1
  generalize hq_qi : List.length S = qi at Ai qi_lo  ⊢
  refine (sums_spec hs (Ext.refl X.bag)).mono ?_
  rintro r S_2 ⟨qs, bs, rfl, As, hm, Y_2⟩
  replace Ai := Ai.mv Y_2
  replace X := X.mv Y_2
  refine ⟨_, _, rfl, ?_⟩
  replace As := As.low (Nat.zero_le _)
  rw [rs_cons, rs_set]
  try simp only [rn_var, rn_c, rn_op, rn_un, rn_dE, rn_ch, rn_dAnd, rn_dOr, rn_dNot, rn_dYes, rn_and, rn_or, rn_not, rn_if, rn_aNil, rn_aCons, rn_A, rn_mkT, rn_mkL, rn_oNon, rn_asI, rn_oSm, rn_sl, rn_M, rn_isi, rn_lrev, rn_add_i, rn_add_t, rn_sub_i, rn_mul_i, rn_fdiv_i, rn_mod_i, rn_pow_i, rn_lt_i, rn_le_i, rn_gt_i, rn_ge_i, rn_neg_i, rn_eq_i, rn_ne_i, rn_eq_b, rn_eq_s, rn_is, rn_isnot, rn_sl_t, kN_nx, kN_rt, kN_bk, kN_ct, rs_nil, rs_brk, rs_cnt, rs_ret, rs_retN, rn_int_i, rn_abs_i, rn_asB, rn_iSeq, rn_iRng1, rn_iEnu, rn_iZp, rn_iRng2, rn_iRng3, rn_iRv, rn_dic0, rn_dic1, rn_max2, rn_MT, ex_tup, rn_revS, isTy_str, List.getElem?_cons_zero, List.getElem?_cons_succ, List.set_cons_succ, List.set_cons_zero, List.length_cons, List.length_nil, Nat.reduceAdd, Nat.zero_add, reduceIte, Nat.reduceLeDiff, true_and, List.cons_append, List.nil_append, isTy_lst Ai.h, rn_len_l Ai.h, rn_append Ai.h, isTy_lst As.h, rn_len_l As.h, rn_append As.h, rn_len_t, List.length_map]
  refine (odd_spec (Ext.refl X.bag) (by have := Ai.lo; have := Ai.lt; omega) lb lc (by omega) (by omega)).mono ?_
  rintro vo S_3 ⟨hvo, Y_3⟩
  replace Ai := Ai.mv Y_3
  replace As := As.mv Y_3
  replace X := X.mv Y_3
  refine (tower_spec hs (Ext.refl X.bag) (by have := Ai.lo; have := Ai.lt; omega) lb lc).mono ?_
  rintro vt S_4 ⟨hvt, Y_4⟩
  replace Ai := Ai.mv Y_4
  replace As := As.mv Y_4
  replace hvo := hvo.mv Y_4
  replace X := X.mv Y_4
  generalize hSa : S_4 = Sa at *
  have Xa := Ext.refl X.bag
  have lqi := Ai.lt
  have lqs := As.lt
  generalize hS_5 : Sa ++ [_] = S_5
  have A := At.new' X hS_5
  have Y_5 := Ext.new' X hS_5
  have q_lo := X.len
  have qi_ne_q := Ai.lt
  have qs_ne_q := As.lt
  replace Ai := Ai.mv Y_5
  replace As := As.mv Y_5
  replace Xa := Xa.mv Y_5
  replace X := X.mv Y_5
  clear hS_5
  generalize hq_q : List.length Sa = q at A q_lo qi_ne_q qs_ne_q ⊢
  have hva := hvo
  have lb1 : b < q + 1 := by omega
  have lc1 : c < q + 1 := by omega
  rw [rs_cons]
  refine for_rn ((List.range 6).map fun j : Nat => PV.int (0 + j)) (fun i e S3 => ∃ (x5 x6 x7 x8 x9 x10 x11 x12 x13 : Option PV) (vs : List PV), e = [some (.loc b), some (.tup (sg.map PV.int)), some (.loc qi), some (.loc qs), some (.loc q), x5, x6, x7, x8, x9, x10, x11, x12, x13] ∧ At b c S0.length S3 q (.lst ([vo, vt] ++ vs)) ∧ At b c S0.length S3 qi (.lst ((itsOf sg).map prV)) ∧ At b c 0 S3 qs (.lst (bs.map PV.bl)) ∧
    vs.length = i ∧ Af b c (q + 1) S3 61 200000 vs ∧ Ext b c Sa S3 ∧ Ext b c S0 S3) ?_ (fun i x e S3 hx ⟨x5, x6, x7, x8, x9, x10, x11, x12, x13, vs, he, A, Ai, As, hl, hvs, Xa, X⟩ => ?_) (fun e S3 ⟨x5, x6, x7, x8, x9, x10, x11, x12, x13, vs, he, A, Ai, As, hl, hvs, Xa, X⟩ => ?_)
  · try simp only [rn_var, rn_c, rn_op, rn_un, rn_dE, rn_ch, rn_dAnd, rn_dOr, rn_dNot, rn_dYes, rn_and, rn_or, rn_not, rn_if, rn_aNil, rn_aCons, rn_A, rn_mkT, rn_mkL, rn_oNon, rn_asI, rn_oSm, rn_sl, rn_M, rn_isi, rn_lrev, rn_add_i, rn_add_t, rn_sub_i, rn_mul_i, rn_fdiv_i, rn_mod_i, rn_pow_i, rn_lt_i, rn_le_i, rn_gt_i, rn_ge_i, rn_neg_i, rn_eq_i, rn_ne_i, rn_eq_b, rn_eq_s, rn_is, rn_isnot, rn_sl_t, kN_nx, kN_rt, kN_bk, kN_ct, rs_nil, rs_cons, rs_brk, rs_cnt, rs_ex, rs_ret, rs_retN, rs_if, rs_set, rs_par, rs_par3, rs_asg, rs_sub, rn_int_i, rn_abs_i, rn_asB, rn_iSeq, rn_iRng1, rn_iEnu, rn_iZp, rn_iRng2, rn_iRng3, rn_iRv, rn_dic0, rn_dic1, rn_max2, rn_MT, ex_tup, rn_revS, isTy_str, List.getElem?_cons_zero, List.getElem?_cons_succ, List.set_cons_succ, List.set_cons_zero, List.length_cons, List.length_nil, Nat.reduceAdd, Nat.zero_add, reduceIte, Nat.reduceLeDiff, true_and, List.cons_append, List.nil_append, isTy_lst Ai.h, rn_len_l Ai.h, rn_append Ai.h, isTy_lst As.h, rn_len_l As.h, rn_append As.h, isTy_lst A.h, rn_len_l A.h, rn_append A.h]
    exact ⟨_, rfl, by omega, ⟨none, none, none, none, none, none, none, none, none, [], rfl, A, Ai, As, rfl, Af.nil lb1 lc1, Xa, X⟩, fun i e S _ => wR_at i⟩
  · skip
    subst he
    rw [List.getElem?_map] at hx
    obtain ⟨j, hj, rfl⟩ := Option.map_eq_some_iff.mp hx
    have hi6 := lt_of_get hj
    rw [List.length_range] at hi6
    refine ⟨_, rfl, ?_⟩
    try simp only [setP, wipeP, List.foldl_cons, List.foldl_nil, List.set_cons_succ, List.set_cons_zero]
    rw [rs_cons, rs_asg]
    try simp only [rn_var, rn_c, rn_op, rn_un, rn_dE, rn_ch, rn_dAnd, rn_dOr, rn_dNot, rn_dYes, rn_and, rn_or, rn_not, rn_if, rn_aNil, rn_aCons, rn_A, rn_mkT, rn_mkL, rn_oNon, rn_asI, rn_oSm, rn_sl, rn_M, rn_isi, rn_lrev, rn_add_i, rn_add_t, rn_sub_i, rn_mul_i, rn_fdiv_i, rn_mod_i, rn_pow_i, rn_lt_i, rn_le_i, rn_gt_i, rn_ge_i, rn_neg_i, rn_eq_i, rn_ne_i, rn_eq_b, rn_eq_s, rn_is, rn_isnot, rn_sl_t, kN_nx, kN_rt, kN_bk, kN_ct, rs_nil, rs_brk, rs_cnt, rs_ret, rs_retN, rn_int_i, rn_abs_i, rn_asB, rn_iSeq, rn_iRng1, rn_iEnu, rn_iZp, rn_iRng2, rn_iRng3, rn_iRv, rn_dic0, rn_dic1, rn_max2, rn_MT, ex_tup, rn_revS, isTy_str, List.getElem?_cons_zero, List.getElem?_cons_succ, List.set_cons_succ, List.set_cons_zero, List.length_cons, List.length_nil, Nat.reduceAdd, Nat.zero_add, reduceIte, Nat.reduceLeDiff, true_and, List.cons_append, List.nil_append, isTy_lst Ai.h, rn_len_l Ai.h, rn_append Ai.h, isTy_lst As.h, rn_len_l As.h, rn_append As.h, isTy_lst A.h, rn_len_l A.h, rn_append A.h]
    generalize hS_6 : S3 ++ [_] = S_6
    have B1 := At.new' X hS_6
    have Y_6 := Ext.new' X hS_6
    have w1_lo := X.len
    have qi_ne_w1 := Ai.lt
    have qs_ne_w1 := As.lt
    have q_ne_w1 := A.lt
    replace Ai := Ai.mv Y_6
    replace As := As.mv Y_6
    replace A := A.mv Y_6
    replace hvs := hvs.mv Y_6
    replace Xa := Xa.mv Y_6
    replace X := X.mv Y_6
    clear hS_6
    generalize hq_w1 : List.length S3 = w1 at B1 w1_lo qi_ne_w1 qs_ne_w1 q_ne_w1 ⊢
    refine (pick_spec X.bag B1.seq (by simp) (by simp)).mono ?_
    rintro r S_7 ⟨hr, Y_7⟩
    replace Ai := Ai.mv Y_7
    replace As := As.mv Y_7
    replace A := A.mv Y_7
    replace B1 := B1.mv Y_7
    replace hvs := hvs.mv Y_7
    replace Xa := Xa.mv Y_7
    replace X := X.mv Y_7
    obtain ⟨lo, hi, rfl, lo1, lo2, hi1, hi2⟩ : ∃ lo hi : Int, r = .tup [.int lo, .int hi] ∧ 1 ≤ lo ∧ lo ≤ 41 ∧ 1 ≤ hi ∧ hi ≤ 44 := by
      simp only [List.mem_cons, List.not_mem_nil, or_false] at hr
      rcases hr with rfl | rfl | rfl | rfl <;> exact ⟨_, _, rfl, by omega, by omega, by omega, by omega⟩
    refine ⟨[(6, .int lo), (7, .int hi)], rfl, ?_⟩
    try simp only [setP, wipeP, List.foldl_cons, List.foldl_nil, List.set_cons_succ, List.set_cons_zero]
    rw [rs_cons]
    refine Rs.mono (q := fun o e S4 => o = .nx ∧ ∃ lo hi : Int, e = [some (.loc b), some (.tup (sg.map PV.int)), some (.loc qi), some (.loc qs), some (.loc q), some (.int (0 + (j : Int))), some (.int lo), some (.int hi), x8, x9, x10, x11, x12, x13] ∧ 1 ≤ lo ∧ lo ≤ 41 ∧ 1 ≤ hi ∧ hi ≤ 44 ∧ At b c S0.length S4 q (.lst ([vo, vt] ++ vs)) ∧ At b c S0.length S4 qi (.lst ((itsOf sg).map prV)) ∧ At b c 0 S4 qs (.lst (bs.map PV.bl)) ∧ Af b c (q + 1) S4 61 200000 vs ∧ Ext b c Sa S4 ∧ Ext b c S0 S4) ?_ ?_
    · have two : ∀ (r : PV) (S5 : Sto), (∃ lo hi : Int, r = .tup [.int lo, .int hi] ∧ 1 ≤ lo ∧ lo ≤ 41 ∧ 1 ≤ hi ∧ hi ≤ 44) → At b c S0.length S5 q (.lst ([vo, vt] ++ vs)) → At b c S0.length S5 qi (.lst ((itsOf sg).map prV)) → At b c 0 S5 qs (.lst (bs.map PV.bl)) → Af b c (q + 1) S5 61 200000 vs → Ext b c Sa S5 → Ext b c S0 S5 →
          ∃ as, gT 2 (EV.gCons (gN 6) (EV.gCons (gN 7) EV.gNil)) r = some as ∧ (∃ lo_1 hi_1 : Int, setP [some (.loc b), some (.tup (sg.map PV.int)), some (.loc qi), some (.loc qs), some (.loc q), some (.int (0 + (j : Int))), some (.int lo), some (.int hi), x8, x9, x10, x11, x12, x13] as = [some (.loc b), some (.tup (sg.map PV.int)), some (.loc qi), some (.loc qs), some (.loc q), some (.int (0 + (j : Int))), some (.int lo_1), some (.int hi_1), x8, x9, x10, x11, x12, x13] ∧ 1 ≤ lo_1 ∧ lo_1 ≤ 41 ∧ 1 ≤ hi_1 ∧ hi_1 ≤ 44 ∧ At b c S0.length S5 q (.lst ([vo, vt] ++ vs)) ∧ At b c S0.length S5 qi (.lst ((itsOf sg).map prV)) ∧ At b c 0 S5 qs (.lst (bs.map PV.bl)) ∧ Af b c (q + 1) S5 61 200000 vs ∧ Ext b c Sa S5 ∧ Ext b c S0 S5) := by
        rintro r S5 ⟨lo, hi, rfl, h1, h2, h3, h4⟩ A Ai As hvs Xa X
        exact ⟨[(6, .int lo), (7, .int hi)], rfl, lo, hi, rfl, h1, h2, h3, h4, A, Ai, As, hvs, Xa, X⟩
      try simp only [rn_var, rn_c, rn_op, rn_un, rn_dE, rn_ch, rn_dAnd, rn_dOr, rn_dNot, rn_dYes, rn_and, rn_or, rn_not, rn_if, rn_aNil, rn_aCons, rn_A, rn_mkT, rn_mkL, rn_oNon, rn_asI, rn_oSm, rn_sl, rn_M, rn_isi, rn_lrev, rn_add_i, rn_add_t, rn_sub_i, rn_mul_i, rn_fdiv_i, rn_mod_i, rn_pow_i, rn_lt_i, rn_le_i, rn_gt_i, rn_ge_i, rn_neg_i, rn_eq_i, rn_ne_i, rn_eq_b, rn_eq_s, rn_is, rn_isnot, rn_sl_t, kN_nx, kN_rt, kN_bk, kN_ct, rs_nil, rs_cons, rs_brk, rs_cnt, rs_ex, rs_ret, rs_retN, rs_if, rs_set, rs_par, rs_par3, rs_asg, rs_sub, rn_int_i, rn_abs_i, rn_asB, rn_iSeq, rn_iRng1, rn_iEnu, rn_iZp, rn_iRng2, rn_iRng3, rn_iRv, rn_dic0, rn_dic1, rn_max2, rn_MT, ex_tup, rn_revS, isTy_str, List.getElem?_cons_zero, List.getElem?_cons_succ, List.set_cons_succ, List.set_cons_zero, List.length_cons, List.length_nil, Nat.reduceAdd, Nat.zero_add, reduceIte, Nat.reduceLeDiff, true_and, List.cons_append, List.nil_append, isTy_lst Ai.h, rn_len_l Ai.h, rn_append Ai.h, isTy_lst As.h, rn_len_l As.h, rn_append As.h, isTy_lst A.h, rn_len_l A.h, rn_append A.h, isTy_lst B1.h, rn_len_l B1.h, rn_append B1.h]
      refine ⟨fun _ => ⟨fun _ => ?_, fun _ => ?_⟩, fun _ => ⟨lo, hi, rfl, lo1, lo2, hi1, hi2, A, Ai, As, hvs, Xa, X⟩⟩
      · generalize hS_8 : S_7 ++ [_] = S_8
        have B2 := At.new' X hS_8
        have Y_8 := Ext.new' X hS_8
        have w2_lo := X.len
        have qi_ne_w2 := Ai.lt
        have qs_ne_w2 := As.lt
        have q_ne_w2 := A.lt
        have w1_ne_w2 := B1.lt
        replace Ai := Ai.mv Y_8
        replace As := As.mv Y_8
        replace A := A.mv Y_8
        replace B1 := B1.mv Y_8
        replace hvs := hvs.mv Y_8
        replace Xa := Xa.mv Y_8
        replace X := X.mv Y_8
        clear hS_8
        generalize hq_w2 : List.length S_7 = w2 at B2 w2_lo qi_ne_w2 qs_ne_w2 q_ne_w2 w1_ne_w2 ⊢
        refine (pick_spec X.bag B2.seq (by simp) (by simp)).mono ?_
        rintro r S_9 ⟨hr, Y_9⟩
        replace Ai := Ai.mv Y_9
        replace As := As.mv Y_9
        replace A := A.mv Y_9
        replace B1 := B1.mv Y_9
        replace B2 := B2.mv Y_9
        replace hvs := hvs.mv Y_9
        replace Xa := Xa.mv Y_9
        replace X := X.mv Y_9
        refine two r _ ?_ A Ai As hvs Xa X
        simp only [List.mem_cons, List.not_mem_nil, or_false] at hr
        rcases hr with rfl | rfl <;> exact ⟨_, _, rfl, by omega, by omega, by omega, by omega⟩
      · generalize hS_10 : S_7 ++ [_] = S_10
        have B2 := At.new' X hS_10
        have Y_10 := Ext.new' X hS_10
        have w2_lo := X.len
        have qi_ne_w2 := Ai.lt
        have qs_ne_w2 := As.lt
        have q_ne_w2 := A.lt
        have w1_ne_w2 := B1.lt
        replace Ai := Ai.mv Y_10
        replace As := As.mv Y_10
        replace A := A.mv Y_10
        replace B1 := B1.mv Y_10
        replace hvs := hvs.mv Y_10
        replace Xa := Xa.mv Y_10
        replace X := X.mv Y_10
        clear hS_10
        generalize hq_w2 : List.length S_7 = w2 at B2 w2_lo qi_ne_w2 qs_ne_w2 q_ne_w2 w1_ne_w2 ⊢
        refine (pick_spec X.bag B2.seq (by simp) (by simp)).mono ?_
        rintro r S_11 ⟨hr, Y_11⟩
        replace Ai := Ai.mv Y_11
        replace As := As.mv Y_11
        replace A := A.mv Y_11
        replace B1 := B1.mv Y_11
        replace B2 := B2.mv Y_11
        replace hvs := hvs.mv Y_11
        replace Xa := Xa.mv Y_11
        replace X := X.mv Y_11
        refine two r _ ?_ A Ai As hvs Xa X
        simp only [List.mem_cons, List.not_mem_nil, or_false] at hr
        rcases hr with rfl | rfl | rfl <;> exact ⟨_, _, rfl, by omega, by omega, by omega, by omega⟩
    rintro o e S4 ⟨rfl, lo, hi, rfl, lo1, lo2, hi1, hi2, A, Ai, As, hvs, Xa, X⟩
    simp only [kN_nx]
    rw [rs_cons, rs_set]
    try simp only [rn_var, rn_c, rn_op, rn_un, rn_dE, rn_ch, rn_dAnd, rn_dOr, rn_dNot, rn_dYes, rn_and, rn_or, rn_not, rn_if, rn_aNil, rn_aCons, rn_A, rn_mkT, rn_mkL, rn_oNon, rn_asI, rn_oSm, rn_sl, rn_M, rn_isi, rn_lrev, rn_add_i, rn_add_t, rn_sub_i, rn_mul_i, rn_fdiv_i, rn_mod_i, rn_pow_i, rn_lt_i, rn_le_i, rn_gt_i, rn_ge_i, rn_neg_i, rn_eq_i, rn_ne_i, rn_eq_b, rn_eq_s, rn_is, rn_isnot, rn_sl_t, kN_nx, kN_rt, kN_bk, kN_ct, rs_nil, rs_brk, rs_cnt, rs_ret, rs_retN, rn_int_i, rn_abs_i, rn_asB, rn_iSeq, rn_iRng1, rn_iEnu, rn_iZp, rn_iRng2, rn_iRng3, rn_iRv, rn_dic0, rn_dic1, rn_max2, rn_MT, ex_tup, rn_revS, isTy_str, List.getElem?_cons_zero, List.getElem?_cons_succ, List.set_cons_succ, List.set_cons_zero, List.length_cons, List.length_nil, Nat.reduceAdd, Nat.zero_add, reduceIte, Nat.reduceLeDiff, true_and, List.cons_append, List.nil_append, isTy_lst Ai.h, rn_len_l Ai.h, rn_append Ai.h, isTy_lst As.h, rn_len_l As.h, rn_append As.h, isTy_lst A.h, rn_len_l A.h, rn_append A.h]
    refine (size_spec hm As (Ext.refl X.bag) lo1 (by omega) (by omega) (by omega)).mono ?_
    rintro r S_12 ⟨m, rfl, m1, m2, mb, Y_12⟩
    replace Ai := Ai.mv Y_12
    replace As := As.mv Y_12
    replace A := A.mv Y_12
    replace hvs := hvs.mv Y_12
    replace Xa := Xa.mv Y_12
    replace X := X.mv Y_12
    have ltq := A.lt
    have ltqi := Ai.lt
    have ltqs := As.lt
    refine (row_spec hI hm Ai As (Ext.refl X.bag) (by have := Ai.lt; omega) (by have := As.lt; omega) m1 (by omega) mb).mono ?_
    rintro r S_13 ⟨qr, ps, rfl, R, hpl, hpm, hF, Y_13⟩
    replace Ai := Ai.mv Y_13
    replace As := As.mv Y_13
    replace A := A.mv Y_13
    replace hvs := hvs.mv Y_13
    replace Xa := Xa.mv Y_13
    replace X := X.mv Y_13
    rw [rs_cons, rs_set]
    try simp only [rn_var, rn_c, rn_op, rn_un, rn_dE, rn_ch, rn_dAnd, rn_dOr, rn_dNot, rn_dYes, rn_and, rn_or, rn_not, rn_if, rn_aNil, rn_aCons, rn_A, rn_mkT, rn_mkL, rn_oNon, rn_asI, rn_oSm, rn_sl, rn_M, rn_isi, rn_lrev, rn_add_i, rn_add_t, rn_sub_i, rn_mul_i, rn_fdiv_i, rn_mod_i, rn_pow_i, rn_lt_i, rn_le_i, rn_gt_i, rn_ge_i, rn_neg_i, rn_eq_i, rn_ne_i, rn_eq_b, rn_eq_s, rn_is, rn_isnot, rn_sl_t, kN_nx, kN_rt, kN_bk, kN_ct, rs_nil, rs_brk, rs_cnt, rs_ret, rs_retN, rn_int_i, rn_abs_i, rn_asB, rn_iSeq, rn_iRng1, rn_iEnu, rn_iZp, rn_iRng2, rn_iRng3, rn_iRv, rn_dic0, rn_dic1, rn_max2, rn_MT, ex_tup, rn_revS, isTy_str, List.getElem?_cons_zero, List.getElem?_cons_succ, List.set_cons_succ, List.set_cons_zero, List.length_cons, List.length_nil, Nat.reduceAdd, Nat.zero_add, reduceIte, Nat.reduceLeDiff, true_and, List.cons_append, List.nil_append, isTy_lst Ai.h, rn_len_l Ai.h, rn_append Ai.h, isTy_lst As.h, rn_len_l As.h, rn_append As.h, isTy_lst A.h, rn_len_l A.h, rn_append A.h, isTy_lst R.h, rn_len_l R.h, rn_append R.h]
    have q_ne_qr : q ≠ qr := by have := R.lo; omega
    have qi_ne_qr : qi ≠ qr := by have := R.lo; omega
    have qs_ne_qr : qs ≠ qr := by have := R.lo; omega
    replace R := R.low (n := 0) (Nat.zero_le _)
    generalize hSb : S_13 = Sb at *
    have hvb := hvs
    have ltqb := A.lt
    have Xb := Ext.refl X.bag
    generalize hS_14 : Sb ++ [_] = S_14
    have P := At.new' X hS_14
    have Y_14 := Ext.new' X hS_14
    have qp_lo := X.len
    have qi_ne_qp := Ai.lt
    have qs_ne_qp := As.lt
    have q_ne_qp := A.lt
    have qr_ne_qp := R.lt
    replace Ai := Ai.mv Y_14
    replace As := As.mv Y_14
    replace A := A.mv Y_14
    replace R := R.mv Y_14
    replace Xa := Xa.mv Y_14
    replace Xb := Xb.mv Y_14
    replace X := X.mv Y_14
    clear hS_14
    generalize hq_qp : List.length Sb = qp at P qp_lo qi_ne_qp qs_ne_qp q_ne_qp qr_ne_qp ⊢
    rw [rs_cons]
    have hLi : (ps.length : Int) = m := by omega
    refine Rs.mono (q := fun o e S4 => o = .nx ∧ ∃ (x10 : Option PV) (pl : List Int), e = [some (.loc b), some (.tup (sg.map PV.int)), some (.loc qi), some (.loc qs), some (.loc q), some (.int (0 + (j : Int))), some (.int lo), some (.int hi), some (.loc qr), some (.loc qp), x10, x11, x12, x13] ∧ pl.length ≤ 3 ∧ At b c S0.length S4 qp (.lst (pl.map PV.int)) ∧ At b c 0 S4 qr (.lst (ps.map fun p => PV.int p.1)) ∧ At b c S0.length S4 q (.lst ([vo, vt] ++ vs)) ∧ At b c S0.length S4 qi (.lst ((itsOf sg).map prV)) ∧ At b c 0 S4 qs (.lst (bs.map PV.bl)) ∧ Ext b c Sb S4 ∧ Ext b c Sa S4 ∧ Ext b c S0 S4) ?_ ?_
    · refine for_pre (W := fun w S5 => ∃ k : Nat, k ≤ 3 ∧ w = wR 0 k ∧ At b c S0.length S5 qp (.lst []) ∧ At b c 0 S5 qr (.lst (ps.map fun p => PV.int p.1)) ∧ At b c S0.length S5 q (.lst ([vo, vt] ++ vs)) ∧ At b c S0.length S5 qi (.lst ((itsOf sg).map prV)) ∧ At b c 0 S5 qs (.lst (bs.map PV.bl)) ∧ Ext b c Sb S5 ∧ Ext b c Sa S5 ∧ Ext b c S0 S5) ?_ (fun w S5 hd ⟨k, hk, hw, P, R, A, Ai, As, Xb, Xa, X⟩ => ?_)
      · try simp only [rn_var, rn_c, rn_op, rn_un, rn_dE, rn_ch, rn_dAnd, rn_dOr, rn_dNot, rn_dYes, rn_and, rn_or, rn_not, rn_if, rn_aNil, rn_aCons, rn_A, rn_mkT, rn_mkL, rn_oNon, rn_asI, rn_oSm, rn_sl, rn_M, rn_isi, rn_lrev, rn_add_i, rn_add_t, rn_sub_i, rn_mul_i, rn_fdiv_i, rn_mod_i, rn_pow_i, rn_lt_i, rn_le_i, rn_gt_i, rn_ge_i, rn_neg_i, rn_eq_i, rn_ne_i, rn_eq_b, rn_eq_s, rn_is, rn_isnot, rn_sl_t, kN_nx, kN_rt, kN_bk, kN_ct, rs_nil, rs_cons, rs_brk, rs_cnt, rs_ex, rs_ret, rs_retN, rs_if, rs_set, rs_par, rs_par3, rs_asg, rs_sub, rn_int_i, rn_abs_i, rn_asB, rn_iSeq, rn_iRng1, rn_iEnu, rn_iZp, rn_iRng2, rn_iRng3, rn_iRv, rn_dic0, rn_dic1, rn_max2, rn_MT, ex_tup, rn_revS, isTy_str, List.getElem?_cons_zero, List.getElem?_cons_succ, List.set_cons_succ, List.set_cons_zero, List.length_cons, List.length_nil, Nat.reduceAdd, Nat.zero_add, reduceIte, Nat.reduceLeDiff, true_and, List.cons_append, List.nil_append, isTy_lst Ai.h, rn_len_l Ai.h, rn_append Ai.h, isTy_lst As.h, rn_len_l As.h, rn_append As.h, isTy_lst A.h, rn_len_l A.h, rn_append A.h, isTy_lst R.h, rn_len_l R.h, rn_append R.h, isTy_lst P.h, rn_len_l P.h, rn_append P.h]
        generalize hS_15 : S_14 ++ [_] = S_15
        have B3 := At.new' X hS_15
        have Y_15 := Ext.new' X hS_15
        have w3_lo := X.len
        have qi_ne_w3 := Ai.lt
        have qs_ne_w3 := As.lt
        have q_ne_w3 := A.lt
        have qr_ne_w3 := R.lt
        have qp_ne_w3 := P.lt
        replace Ai := Ai.mv Y_15
        replace As := As.mv Y_15
        replace A := A.mv Y_15
        replace R := R.mv Y_15
        replace P := P.mv Y_15
        replace Xa := Xa.mv Y_15
        replace Xb := Xb.mv Y_15
        replace X := X.mv Y_15
        clear hS_15
        generalize hq_w3 : List.length S_14 = w3 at B3 w3_lo qi_ne_w3 qs_ne_w3 q_ne_w3 qr_ne_w3 qp_ne_w3 ⊢
        refine (pick_spec X.bag B3.seq (by simp) (by simp)).mono ?_
        rintro r S_16 ⟨hr, Y_16⟩
        replace Ai := Ai.mv Y_16
        replace As := As.mv Y_16
        replace A := A.mv Y_16
        replace R := R.mv Y_16
        replace P := P.mv Y_16
        replace B3 := B3.mv Y_16
        replace Xa := Xa.mv Y_16
        replace Xb := Xb.mv Y_16
        replace X := X.mv Y_16
        simp only [List.mem_cons, List.not_mem_nil, or_false] at hr
        rcases hr with rfl | rfl | rfl | rfl | rfl <;> exact ⟨_, rfl, by omega, _, by decide, rfl, P, R, A, Ai, As, Xb, Xa, X⟩
      subst hw
      refine for_rule ((List.range k).map fun j : Nat => PV.int (0 + j)) (fun i e S6 => ∃ (x10 : Option PV) (pl : List Int), e = [some (.loc b), some (.tup (sg.map PV.int)), some (.loc qi), some (.loc qs), some (.loc q), some (.int (0 + (j : Int))), some (.int lo), some (.int hi), some (.loc qr), some (.loc qp), x10, x11, x12, x13] ∧ pl.length = i ∧ At b c S0.length S6 qp (.lst (pl.map PV.int)) ∧ At b c 0 S6 qr (.lst (ps.map fun p => PV.int p.1)) ∧ At b c S0.length S6 q (.lst ([vo, vt] ++ vs)) ∧ At b c S0.length S6 qi (.lst ((itsOf sg).map prV)) ∧ At b c 0 S6 qs (.lst (bs.map PV.bl)) ∧ Ext b c Sb S6 ∧ Ext b c Sa S6 ∧ Ext b c S0 S6) hd ⟨x10, [], rfl, rfl, P, R, A, Ai, As, Xb, Xa, X⟩ (fun i e S _ _ => wR_at i) (fun i x e S6 hx ⟨x10, pl, he, hpl2, P, R, A, Ai, As, Xb, Xa, X⟩ => ?_) (fun e S6 ⟨x10, pl, he, hpl2, P, R, A, Ai, As, Xb, Xa, X⟩ => ?_)
      · skip
        subst he
        have hik := lt_of_get hx
        rw [List.length_map, List.length_range] at hik
        refine ⟨[(10, x)], rfl, ?_⟩
        try simp only [setP, wipeP, List.foldl_cons, List.foldl_nil, List.set_cons_succ, List.set_cons_zero]
        try simp only [rn_var, rn_c, rn_op, rn_un, rn_dE, rn_ch, rn_dAnd, rn_dOr, rn_dNot, rn_dYes, rn_and, rn_or, rn_not, rn_if, rn_aNil, rn_aCons, rn_A, rn_mkT, rn_mkL, rn_oNon, rn_asI, rn_oSm, rn_sl, rn_M, rn_isi, rn_lrev, rn_add_i, rn_add_t, rn_sub_i, rn_mul_i, rn_fdiv_i, rn_mod_i, rn_pow_i, rn_lt_i, rn_le_i, rn_gt_i, rn_ge_i, rn_neg_i, rn_eq_i, rn_ne_i, rn_eq_b, rn_eq_s, rn_is, rn_isnot, rn_sl_t, kN_nx, kN_rt, kN_bk, kN_ct, rs_nil, rs_cons, rs_brk, rs_cnt, rs_ex, rs_ret, rs_retN, rs_if, rs_set, rs_par, rs_par3, rs_asg, rs_sub, rn_int_i, rn_abs_i, rn_asB, rn_iSeq, rn_iRng1, rn_iEnu, rn_iZp, rn_iRng2, rn_iRng3, rn_iRv, rn_dic0, rn_dic1, rn_max2, rn_MT, ex_tup, rn_revS, isTy_str, List.getElem?_cons_zero, List.getElem?_cons_succ, List.set_cons_succ, List.set_cons_zero, List.length_cons, List.length_nil, Nat.reduceAdd, Nat.zero_add, reduceIte, Nat.reduceLeDiff, true_and, List.cons_append, List.nil_append, isTy_lst Ai.h, rn_len_l Ai.h, rn_append Ai.h, isTy_lst As.h, rn_len_l As.h, rn_append As.h, isTy_lst A.h, rn_len_l A.h, rn_append A.h, isTy_lst R.h, rn_len_l R.h, rn_append R.h, isTy_lst P.h, rn_len_l P.h, rn_append P.h, List.length_map]
        refine (draw_spec X.bag (n := (ps.length : Int)) (by omega) (by omega)).mono ?_
        rintro r S_17 ⟨k1, rfl, k10, k11, Y_17⟩
        replace Ai := Ai.mv Y_17
        replace As := As.mv Y_17
        replace A := A.mv Y_17
        replace R := R.mv Y_17
        replace P := P.mv Y_17
        replace Xb := Xb.mv Y_17
        replace Xa := Xa.mv Y_17
        replace X := X.mv Y_17
        try simp only [rn_var, rn_c, rn_op, rn_un, rn_dE, rn_ch, rn_dAnd, rn_dOr, rn_dNot, rn_dYes, rn_and, rn_or, rn_not, rn_if, rn_aNil, rn_aCons, rn_A, rn_mkT, rn_mkL, rn_oNon, rn_asI, rn_oSm, rn_sl, rn_M, rn_isi, rn_lrev, rn_add_i, rn_add_t, rn_sub_i, rn_mul_i, rn_fdiv_i, rn_mod_i, rn_pow_i, rn_lt_i, rn_le_i, rn_gt_i, rn_ge_i, rn_neg_i, rn_eq_i, rn_ne_i, rn_eq_b, rn_eq_s, rn_is, rn_isnot, rn_sl_t, kN_nx, kN_rt, kN_bk, kN_ct, rs_nil, rs_cons, rs_brk, rs_cnt, rs_ex, rs_ret, rs_retN, rs_if, rs_set, rs_par, rs_par3, rs_asg, rs_sub, rn_int_i, rn_abs_i, rn_asB, rn_iSeq, rn_iRng1, rn_iEnu, rn_iZp, rn_iRng2, rn_iRng3, rn_iRv, rn_dic0, rn_dic1, rn_max2, rn_MT, ex_tup, rn_revS, isTy_str, List.getElem?_cons_zero, List.getElem?_cons_succ, List.set_cons_succ, List.set_cons_zero, List.length_cons, List.length_nil, Nat.reduceAdd, Nat.zero_add, reduceIte, Nat.reduceLeDiff, true_and, List.cons_append, List.nil_append, isTy_lst Ai.h, rn_len_l Ai.h, rn_append Ai.h, isTy_lst As.h, rn_len_l As.h, rn_append As.h, isTy_lst A.h, rn_len_l A.h, rn_append A.h, isTy_lst R.h, rn_len_l R.h, rn_append R.h, isTy_lst P.h, rn_len_l P.h, rn_append P.h, List.length_map]
        refine (draw_spec X.bag (n := 5) (by omega) (by omega)).mono ?_
        rintro r S_18 ⟨k2, rfl, k20, k21, Y_18⟩
        replace Ai := Ai.mv Y_18
        replace As := As.mv Y_18
        replace A := A.mv Y_18
        replace R := R.mv Y_18
        replace P := P.mv Y_18
        replace Xb := Xb.mv Y_18
        replace Xa := Xa.mv Y_18
        replace X := X.mv Y_18
        try simp only [rn_var, rn_c, rn_op, rn_un, rn_dE, rn_ch, rn_dAnd, rn_dOr, rn_dNot, rn_dYes, rn_and, rn_or, rn_not, rn_if, rn_aNil, rn_aCons, rn_A, rn_mkT, rn_mkL, rn_oNon, rn_asI, rn_oSm, rn_sl, rn_M, rn_isi, rn_lrev, rn_add_i, rn_add_t, rn_sub_i, rn_mul_i, rn_fdiv_i, rn_mod_i, rn_pow_i, rn_lt_i, rn_le_i, rn_gt_i, rn_ge_i, rn_neg_i, rn_eq_i, rn_ne_i, rn_eq_b, rn_eq_s, rn_is, rn_isnot, rn_sl_t, kN_nx, kN_rt, kN_bk, kN_ct, rs_nil, rs_cons, rs_brk, rs_cnt, rs_ex, rs_ret, rs_retN, rs_if, rs_set, rs_par, rs_par3, rs_asg, rs_sub, rn_int_i, rn_abs_i, rn_asB, rn_iSeq, rn_iRng1, rn_iEnu, rn_iZp, rn_iRng2, rn_iRng3, rn_iRv, rn_dic0, rn_dic1, rn_max2, rn_MT, ex_tup, rn_revS, isTy_str, List.getElem?_cons_zero, List.getElem?_cons_succ, List.set_cons_succ, List.set_cons_zero, List.length_cons, List.length_nil, Nat.reduceAdd, Nat.zero_add, reduceIte, Nat.reduceLeDiff, true_and, List.cons_append, List.nil_append, isTy_lst Ai.h, rn_len_l Ai.h, rn_append Ai.h, isTy_lst As.h, rn_len_l As.h, rn_append As.h, isTy_lst A.h, rn_len_l A.h, rn_append A.h, isTy_lst R.h, rn_len_l R.h, rn_append R.h, isTy_lst P.h, rn_len_l P.h, rn_append P.h]
        generalize hS_19 : S_18 ++ [_] = S_19
        have B4 := At.new' X hS_19
        have Y_19 := Ext.new' X hS_19
        have w4_lo := X.len
        have qi_ne_w4 := Ai.lt
        have qs_ne_w4 := As.lt
        have q_ne_w4 := A.lt
        have qr_ne_w4 := R.lt
        have qp_ne_w4 := P.lt
        replace Ai := Ai.mv Y_19
        replace As := As.mv Y_19
        replace A := A.mv Y_19
        replace R := R.mv Y_19
        replace P := P.mv Y_19
        replace Xb := Xb.mv Y_19
        replace Xa := Xa.mv Y_19
        replace X := X.mv Y_19
        clear hS_19
        generalize hq_w4 : List.length S_18 = w4 at B4 w4_lo qi_ne_w4 qs_ne_w4 q_ne_w4 qr_ne_w4 qp_ne_w4 ⊢
        refine (pick_spec X.bag B4.seq (by simp) (by simp)).mono ?_
        rintro r S_20 ⟨hr, Y_20⟩
        replace Ai := Ai.mv Y_20
        replace As := As.mv Y_20
        replace A := A.mv Y_20
        replace R := R.mv Y_20
        replace P := P.mv Y_20
        replace B4 := B4.mv Y_20
        replace Xb := Xb.mv Y_20
        replace Xa := Xa.mv Y_20
        replace X := X.mv Y_20
        obtain ⟨z, rfl⟩ : ∃ z : Int, r = .int z := by
          simp only [List.mem_cons, List.not_mem_nil, or_false] at hr
          rcases hr with rfl | rfl <;> exact ⟨_, rfl⟩
        rw [rn_append P.h]
        refine ⟨by rw [List.length_map]; omega, ?_⟩
        generalize hS_21 : List.set S_20 qp _ = S_21
        have W_21 := At.wrs' P hS_21
        have P' := At.put' P hS_21
        replace Ai := Ai.wr W_21 (by first | assumption | exact Ne.symm (by assumption) | omega)
        replace As := As.wr W_21 (by first | assumption | exact Ne.symm (by assumption) | omega)
        replace A := A.wr W_21 (by first | assumption | exact Ne.symm (by assumption) | omega)
        replace R := R.wr W_21 (by first | assumption | exact Ne.symm (by assumption) | omega)
        replace B4 := B4.wr W_21 (by first | assumption | exact Ne.symm (by assumption) | omega)
        replace Xb := Xb.wr W_21 (by first | assumption | omega)
        replace Xa := Xa.wr W_21 (by first | assumption | omega)
        replace X := X.wr W_21 P.lo
        clear hS_21 P
        have P := P'
        clear P'
        exact ⟨_, pl ++ [z], rfl, by rw [List.length_append, hpl2]; rfl, by rw [List.map_append]; exact P, R, A, Ai, As, Xb, Xa, X⟩
      · subst he
        rw [List.length_map, List.length_range] at hpl2
        exact ⟨rfl, x10, pl, rfl, by omega, P, R, A, Ai, As, Xb, Xa, X⟩
    rintro o e S4 ⟨rfl, x10, pl, rfl, hpl3, P, R, A, Ai, As, Xb, Xa, X⟩
    have hvs := hvb.mv Xb
    simp only [kN_nx]
    rw [rs_ex]
    try simp only [rn_var, rn_c, rn_op, rn_un, rn_dE, rn_ch, rn_dAnd, rn_dOr, rn_dNot, rn_dYes, rn_and, rn_or, rn_not, rn_if, rn_aNil, rn_aCons, rn_A, rn_mkT, rn_mkL, rn_oNon, rn_asI, rn_oSm, rn_sl, rn_M, rn_isi, rn_lrev, rn_add_i, rn_add_t, rn_sub_i, rn_mul_i, rn_fdiv_i, rn_mod_i, rn_pow_i, rn_lt_i, rn_le_i, rn_gt_i, rn_ge_i, rn_neg_i, rn_eq_i, rn_ne_i, rn_eq_b, rn_eq_s, rn_is, rn_isnot, rn_sl_t, kN_nx, kN_rt, kN_bk, kN_ct, rs_nil, rs_brk, rs_cnt, rs_ret, rs_retN, rn_int_i, rn_abs_i, rn_asB, rn_iSeq, rn_iRng1, rn_iEnu, rn_iZp, rn_iRng2, rn_iRng3, rn_iRv, rn_dic0, rn_dic1, rn_max2, rn_MT, ex_tup, rn_revS, isTy_str, List.getElem?_cons_zero, List.getElem?_cons_succ, List.set_cons_succ, List.set_cons_zero, List.length_cons, List.length_nil, Nat.reduceAdd, Nat.zero_add, reduceIte, Nat.reduceLeDiff, true_and, List.cons_append, List.nil_append, isTy_lst Ai.h, rn_len_l Ai.h, rn_append Ai.h, isTy_lst As.h, rn_len_l As.h, rn_append As.h, isTy_lst A.h, rn_len_l A.h, rn_append A.h, isTy_lst R.h, rn_len_l R.h, rn_append R.h, isTy_lst P.h, rn_len_l P.h, rn_append P.h]
    refine (spoilt_spec hs (fun p hp => itsOf_ok (hpm p hp)) hF (by omega) (by omega) hpl3 R P (Ext.refl X.bag) (Nat.succ_le_of_lt A.lt) lb1 lc1).mono ?_
    rintro v S_22 ⟨hv, Y_22⟩
    replace Ai := Ai.mv Y_22
    replace As := As.mv Y_22
    replace A := A.mv Y_22
    replace R := R.mv Y_22
    replace P := P.mv Y_22
    replace hvs := hvs.mv Y_22
    replace Xa := Xa.mv Y_22
    replace X := X.mv Y_22
    rw [rn_append A.h]
    refine ⟨by simp; omega, ?_⟩
    generalize hS_23 : List.set S_22 q _ = S_23
    have W_23 := At.wrs' A hS_23
    have A' := At.put' A hS_23
    replace Ai := Ai.wr W_23 (by first | assumption | exact Ne.symm (by assumption) | omega)
    replace As := As.wr W_23 (by first | assumption | exact Ne.symm (by assumption) | omega)
    replace R := R.wr W_23 (by first | assumption | exact Ne.symm (by assumption) | omega)
    replace P := P.wr W_23 (by first | assumption | exact Ne.symm (by assumption) | omega)
    replace hvs := hvs.wr W_23 (by first | assumption | omega)
    replace Xa := Xa.wr W_23 (by first | assumption | omega)
    replace hv := hv.wr W_23 (by first | assumption | omega)
    replace X := X.wr W_23 A.lo
    clear hS_23 A
    have A := A'
    clear A'
    exact ⟨_, _, _, _, _, _, _, _, _, vs ++ [v], rfl, A, Ai, As, by rw [List.length_append, hl]; rfl, hvs.snoc (hv.up (by omega) (by omega)), Xa, X⟩
  · skip
    subst he
    rw [List.length_map, List.length_range] at hl
    simp only [kN_nx]
    rw [rs_cons, rs_set]
    try simp only [rn_var, rn_c, rn_op, rn_un, rn_dE, rn_ch, rn_dAnd, rn_dOr, rn_dNot, rn_dYes, rn_and, rn_or, rn_not, rn_if, rn_aNil, rn_aCons, rn_A, rn_mkT, rn_mkL, rn_oNon, rn_asI, rn_oSm, rn_sl, rn_M, rn_isi, rn_lrev, rn_add_i, rn_add_t, rn_sub_i, rn_mul_i, rn_fdiv_i, rn_mod_i, rn_pow_i, rn_lt_i, rn_le_i, rn_gt_i, rn_ge_i, rn_neg_i, rn_eq_i, rn_ne_i, rn_eq_b, rn_eq_s, rn_is, rn_isnot, rn_sl_t, kN_nx, kN_rt, kN_bk, kN_ct, rs_nil, rs_brk, rs_cnt, rs_ret, rs_retN, rn_int_i, rn_abs_i, rn_asB, rn_iSeq, rn_iRng1, rn_iEnu, rn_iZp, rn_iRng2, rn_iRng3, rn_iRv, rn_dic0, rn_dic1, rn_max2, rn_MT, ex_tup, rn_revS, isTy_str, List.getElem?_cons_zero, List.getElem?_cons_succ, List.set_cons_succ, List.set_cons_zero, List.length_cons, List.length_nil, Nat.reduceAdd, Nat.zero_add, reduceIte, Nat.reduceLeDiff, true_and, List.cons_append, List.nil_append, isTy_lst Ai.h, rn_len_l Ai.h, rn_append Ai.h, isTy_lst As.h, rn_len_l As.h, rn_append As.h, isTy_lst A.h, rn_len_l A.h, rn_append A.h]
    refine (size_spec hm As (Ext.refl X.bag) (by omega) (by omega) (by omega) (by omega)).mono ?_
    rintro r S_24 ⟨m, rfl, m1, m2, mb, Y_24⟩
    replace Ai := Ai.mv Y_24
    replace As := As.mv Y_24
    replace A := A.mv Y_24
    replace hvs := hvs.mv Y_24
    replace Xa := Xa.mv Y_24
    replace X := X.mv Y_24
    have ltq := A.lt
    have ltqi := Ai.lt
    have ltqs := As.lt
    refine (row_spec hI hm Ai As (Ext.refl X.bag) (by have := Ai.lt; omega) (by have := As.lt; omega) m1 (by omega) mb).mono ?_
    rintro r S_25 ⟨qr, ps, rfl, R, hpl, hpm, hF, Y_25⟩
    replace Ai := Ai.mv Y_25
    replace As := As.mv Y_25
    replace A := A.mv Y_25
    replace hvs := hvs.mv Y_25
    replace Xa := Xa.mv Y_25
    replace X := X.mv Y_25
    replace R := R.low (n := 0) (Nat.zero_le _)
    rw [rs_cons, rs_set]
    try simp only [rn_var, rn_c, rn_op, rn_un, rn_dE, rn_ch, rn_dAnd, rn_dOr, rn_dNot, rn_dYes, rn_and, rn_or, rn_not, rn_if, rn_aNil, rn_aCons, rn_A, rn_mkT, rn_mkL, rn_oNon, rn_asI, rn_oSm, rn_sl, rn_M, rn_isi, rn_lrev, rn_add_i, rn_add_t, rn_sub_i, rn_mul_i, rn_fdiv_i, rn_mod_i, rn_pow_i, rn_lt_i, rn_le_i, rn_gt_i, rn_ge_i, rn_neg_i, rn_eq_i, rn_ne_i, rn_eq_b, rn_eq_s, rn_is, rn_isnot, rn_sl_t, kN_nx, kN_rt, kN_bk, kN_ct, rs_nil, rs_brk, rs_cnt, rs_ret, rs_retN, rn_int_i, rn_abs_i, rn_asB, rn_iSeq, rn_iRng1, rn_iEnu, rn_iZp, rn_iRng2, rn_iRng3, rn_iRv, rn_dic0, rn_dic1, rn_max2, rn_MT, ex_tup, rn_revS, isTy_str, List.getElem?_cons_zero, List.getElem?_cons_succ, List.set_cons_succ, List.set_cons_zero, List.length_cons, List.length_nil, Nat.reduceAdd, Nat.zero_add, reduceIte, Nat.reduceLeDiff, true_and, List.cons_append, List.nil_append, isTy_lst Ai.h, rn_len_l Ai.h, rn_append Ai.h, isTy_lst As.h, rn_len_l As.h, rn_append As.h, isTy_lst A.h, rn_len_l A.h, rn_append A.h, isTy_lst R.h, rn_len_l R.h, rn_append R.h]
    refine lc_fm ((List.range ps.length).map fun j : Nat => PV.int (0 + j)) S_25 (fun x => match x with
      | .int j => if (ps.map (·.1)).getD j.toNat 0 < 2 then some (.int j) else none
      | _ => none) ?_ (by simp; omega) (fun x hx => ?_) ?_
    · try simp only [rn_var, rn_c, rn_op, rn_un, rn_dE, rn_ch, rn_dAnd, rn_dOr, rn_dNot, rn_dYes, rn_and, rn_or, rn_not, rn_if, rn_aNil, rn_aCons, rn_A, rn_mkT, rn_mkL, rn_oNon, rn_asI, rn_oSm, rn_sl, rn_M, rn_isi, rn_lrev, rn_add_i, rn_add_t, rn_sub_i, rn_mul_i, rn_fdiv_i, rn_mod_i, rn_pow_i, rn_lt_i, rn_le_i, rn_gt_i, rn_ge_i, rn_neg_i, rn_eq_i, rn_ne_i, rn_eq_b, rn_eq_s, rn_is, rn_isnot, rn_sl_t, kN_nx, kN_rt, kN_bk, kN_ct, rs_nil, rs_cons, rs_brk, rs_cnt, rs_ex, rs_ret, rs_retN, rs_if, rs_set, rs_par, rs_par3, rs_asg, rs_sub, rn_int_i, rn_abs_i, rn_asB, rn_iSeq, rn_iRng1, rn_iEnu, rn_iZp, rn_iRng2, rn_iRng3, rn_iRv, rn_dic0, rn_dic1, rn_max2, rn_MT, ex_tup, rn_revS, isTy_str, List.getElem?_cons_zero, List.getElem?_cons_succ, List.set_cons_succ, List.set_cons_zero, List.length_cons, List.length_nil, Nat.reduceAdd, Nat.zero_add, reduceIte, Nat.reduceLeDiff, true_and, List.cons_append, List.nil_append, isTy_lst Ai.h, rn_len_l Ai.h, rn_append Ai.h, isTy_lst As.h, rn_len_l As.h, rn_append As.h, isTy_lst A.h, rn_len_l A.h, rn_append A.h, isTy_lst R.h, rn_len_l R.h, rn_append R.h, List.length_map]
      exact ⟨_, rfl, by omega, fun i => wR_at i⟩
    · obtain ⟨j, hj, rfl⟩ := List.mem_map.mp hx
      have hj := List.mem_range.mp hj
      refine ⟨_, rfl, rfl, ?_⟩
      try simp only [setP, wipeP, List.foldl_cons, List.foldl_nil, List.set_cons_succ, List.set_cons_zero]
      have e : ps[j]? = some ps[j] := List.getElem?_eq_getElem hj
      have e2 : (ps.map (·.1)).getD ((0 : Int) + (j : Int)).toNat 0 = ps[j].1 := by rw [show ((0 : Int) + (j : Int)).toNat = j by omega, List.getD_eq_getElem?_getD, List.getElem?_map, e]; rfl
      have ix : ixP (ps.map fun p => PV.int p.1) (0 + (j : Int)) = some (.int ps[j].1) := ixP_int (by omega) (by rw [show ((0 : Int) + (j : Int)).toNat = j by omega, List.getElem?_map, e]; rfl)
      try simp only [rn_var, rn_c, rn_op, rn_un, rn_dE, rn_ch, rn_dAnd, rn_dOr, rn_dNot, rn_dYes, rn_and, rn_or, rn_not, rn_if, rn_aNil, rn_aCons, rn_A, rn_mkT, rn_mkL, rn_oNon, rn_asI, rn_oSm, rn_sl, rn_M, rn_isi, rn_lrev, rn_add_i, rn_add_t, rn_sub_i, rn_mul_i, rn_fdiv_i, rn_mod_i, rn_pow_i, rn_lt_i, rn_le_i, rn_gt_i, rn_ge_i, rn_neg_i, rn_eq_i, rn_ne_i, rn_eq_b, rn_eq_s, rn_is, rn_isnot, rn_sl_t, kN_nx, kN_rt, kN_bk, kN_ct, rs_nil, rs_cons, rs_brk, rs_cnt, rs_ex, rs_ret, rs_retN, rs_if, rs_set, rs_par, rs_par3, rs_asg, rs_sub, rn_int_i, rn_abs_i, rn_asB, rn_iSeq, rn_iRng1, rn_iEnu, rn_iZp, rn_iRng2, rn_iRng3, rn_iRv, rn_dic0, rn_dic1, rn_max2, rn_MT, ex_tup, rn_revS, isTy_str, List.getElem?_cons_zero, List.getElem?_cons_succ, List.set_cons_succ, List.set_cons_zero, List.length_cons, List.length_nil, Nat.reduceAdd, Nat.zero_add, reduceIte, Nat.reduceLeDiff, true_and, List.cons_append, List.nil_append, isTy_lst Ai.h, rn_len_l Ai.h, rn_append Ai.h, isTy_lst As.h, rn_len_l As.h, rn_append As.h, isTy_lst A.h, rn_len_l A.h, rn_append A.h, isTy_lst R.h, rn_len_l R.h, rn_append R.h, ix_loc R.h ix]
      refine ⟨fun h => ?_, fun h => ?_⟩
      · have := of_decide_eq_true h
        rw [e2, if_pos this]
      · have := of_decide_eq_false h
        rw [e2, if_neg this]
    generalize hM : List.filterMap _ _ = M
    have hMm : ∀ y ∈ M, ∃ j : Int, y = .int j := fun y hy => by
      rw [← hM] at hy
      obtain ⟨x, hx, h⟩ := List.mem_filterMap.mp hy
      obtain ⟨j, hj, rfl⟩ := List.mem_map.mp hx
      simp only at h
      split at h
      · cases h
        exact ⟨_, rfl⟩
      · cases h
    have hMl : M.length ≤ 100 := by
      rw [← hM]
      refine Nat.le_trans (List.length_filterMap_le _ _) ?_
      simp
      omega
    generalize hS_26 : S_25 ++ [_] = S_26
    have B1 := At.new' X hS_26
    have Y_26 := Ext.new' X hS_26
    have w1_lo := X.len
    have qi_ne_w1 := Ai.lt
    have qs_ne_w1 := As.lt
    have q_ne_w1 := A.lt
    have qr_ne_w1 := R.lt
    replace Ai := Ai.mv Y_26
    replace As := As.mv Y_26
    replace A := A.mv Y_26
    replace R := R.mv Y_26
    replace hvs := hvs.mv Y_26
    replace Xa := Xa.mv Y_26
    replace X := X.mv Y_26
    clear hS_26
    generalize hq_w1 : List.length S_25 = w1 at B1 w1_lo qi_ne_w1 qs_ne_w1 q_ne_w1 qr_ne_w1 ⊢
    generalize hS_27 : S_26 ++ [_] = S_27
    have B2 := At.new' X hS_27
    have Y_27 := Ext.new' X hS_27
    have w2_lo := X.len
    have qi_ne_w2 := Ai.lt
    have qs_ne_w2 := As.lt
    have q_ne_w2 := A.lt
    have qr_ne_w2 := R.lt
    have w1_ne_w2 := B1.lt
    replace Ai := Ai.mv Y_27
    replace As := As.mv Y_27
    replace A := A.mv Y_27
    replace R := R.mv Y_27
    replace B1 := B1.mv Y_27
    replace hvs := hvs.mv Y_27
    replace Xa := Xa.mv Y_27
    replace X := X.mv Y_27
    clear hS_27
    generalize hq_w2 : List.length S_26 = w2 at B2 w2_lo qi_ne_w2 qs_ne_w2 q_ne_w2 qr_ne_w2 w1_ne_w2 ⊢
    rw [rn_add_l B1.h B2.h]
    refine ⟨by simp; omega, ?_⟩
    generalize hS_28 : S_27 ++ [_] = S_28
    have B3 := At.new' X hS_28
    have Y_28 := Ext.new' X hS_28
    have w3_lo := X.len
    have qi_ne_w3 := Ai.lt
    have qs_ne_w3 := As.lt
    have q_ne_w3 := A.lt
    have qr_ne_w3 := R.lt
    have w1_ne_w3 := B1.lt
    have w2_ne_w3 := B2.lt
    replace Ai := Ai.mv Y_28
    replace As := As.mv Y_28
    replace A := A.mv Y_28
    replace R := R.mv Y_28
    replace B1 := B1.mv Y_28
    replace B2 := B2.mv Y_28
    replace hvs := hvs.mv Y_28
    replace Xa := Xa.mv Y_28
    replace X := X.mv Y_28
    clear hS_28
    generalize hq_w3 : List.length S_27 = w3 at B3 w3_lo qi_ne_w3 qs_ne_w3 q_ne_w3 qr_ne_w3 w1_ne_w3 w2_ne_w3 ⊢
    rw [rs_cons, rs_set]
    try simp only [rn_var, rn_c, rn_op, rn_un, rn_dE, rn_ch, rn_dAnd, rn_dOr, rn_dNot, rn_dYes, rn_and, rn_or, rn_not, rn_if, rn_aNil, rn_aCons, rn_A, rn_mkT, rn_mkL, rn_oNon, rn_asI, rn_oSm, rn_sl, rn_M, rn_isi, rn_lrev, rn_add_i, rn_add_t, rn_sub_i, rn_mul_i, rn_fdiv_i, rn_mod_i, rn_pow_i, rn_lt_i, rn_le_i, rn_gt_i, rn_ge_i, rn_neg_i, rn_eq_i, rn_ne_i, rn_eq_b, rn_eq_s, rn_is, rn_isnot, rn_sl_t, kN_nx, kN_rt, kN_bk, kN_ct, rs_nil, rs_brk, rs_cnt, rs_ret, rs_retN, rn_int_i, rn_abs_i, rn_asB, rn_iSeq, rn_iRng1, rn_iEnu, rn_iZp, rn_iRng2, rn_iRng3, rn_iRv, rn_dic0, rn_dic1, rn_max2, rn_MT, ex_tup, rn_revS, isTy_str, List.getElem?_cons_zero, List.getElem?_cons_succ, List.set_cons_succ, List.set_cons_zero, List.length_cons, List.length_nil, Nat.reduceAdd, Nat.zero_add, reduceIte, Nat.reduceLeDiff, true_and, List.cons_append, List.nil_append, isTy_lst Ai.h, rn_len_l Ai.h, rn_append Ai.h, isTy_lst As.h, rn_len_l As.h, rn_append As.h, isTy_lst A.h, rn_len_l A.h, rn_append A.h, isTy_lst R.h, rn_len_l R.h, rn_append R.h, isTy_lst B1.h, rn_len_l B1.h, rn_append B1.h, isTy_lst B2.h, rn_len_l B2.h, rn_append B2.h, isTy_lst B3.h, rn_len_l B3.h, rn_append B3.h]
    refine (pick_spec X.bag B3.seq (by simp) (by simp; omega)).mono ?_
    rintro r S_29 ⟨hr, Y_29⟩
    replace Ai := Ai.mv Y_29
    replace As := As.mv Y_29
    replace A := A.mv Y_29
    replace R := R.mv Y_29
    replace B1 := B1.mv Y_29
    replace B2 := B2.mv Y_29
    replace B3 := B3.mv Y_29
    replace hvs := hvs.mv Y_29
    replace Xa := Xa.mv Y_29
    replace X := X.mv Y_29
    obtain ⟨z, rfl⟩ : ∃ z : Int, r = .int z := by
      rcases List.mem_append.mp hr with h | h
      · exact hMm r h
      · exact ⟨0, List.mem_singleton.mp h⟩
    try simp only [rn_var, rn_c, rn_op, rn_un, rn_dE, rn_ch, rn_dAnd, rn_dOr, rn_dNot, rn_dYes, rn_and, rn_or, rn_not, rn_if, rn_aNil, rn_aCons, rn_A, rn_mkT, rn_mkL, rn_oNon, rn_asI, rn_oSm, rn_sl, rn_M, rn_isi, rn_lrev, rn_add_i, rn_add_t, rn_sub_i, rn_mul_i, rn_fdiv_i, rn_mod_i, rn_pow_i, rn_lt_i, rn_le_i, rn_gt_i, rn_ge_i, rn_neg_i, rn_eq_i, rn_ne_i, rn_eq_b, rn_eq_s, rn_is, rn_isnot, rn_sl_t, kN_nx, kN_rt, kN_bk, kN_ct, rs_nil, rs_cons, rs_brk, rs_cnt, rs_ex, rs_ret, rs_retN, rs_if, rs_set, rs_par, rs_par3, rs_asg, rs_sub, rn_int_i, rn_abs_i, rn_asB, rn_iSeq, rn_iRng1, rn_iEnu, rn_iZp, rn_iRng2, rn_iRng3, rn_iRv, rn_dic0, rn_dic1, rn_max2, rn_MT, ex_tup, rn_revS, isTy_str, List.getElem?_cons_zero, List.getElem?_cons_succ, List.set_cons_succ, List.set_cons_zero, List.length_cons, List.length_nil, Nat.reduceAdd, Nat.zero_add, reduceIte, Nat.reduceLeDiff, true_and, List.cons_append, List.nil_append, isTy_lst Ai.h, rn_len_l Ai.h, rn_append Ai.h, isTy_lst As.h, rn_len_l As.h, rn_append As.h, isTy_lst A.h, rn_len_l A.h, rn_append A.h, isTy_lst R.h, rn_len_l R.h, rn_append R.h, isTy_lst B1.h, rn_len_l B1.h, rn_append B1.h, isTy_lst B2.h, rn_len_l B2.h, rn_append B2.h, isTy_lst B3.h, rn_len_l B3.h, rn_append B3.h]
    refine (withbool_spec hs (fun p hp => itsOf_ok (hpm p hp)) hF (by omega) (by omega) R (Ext.refl X.bag) (Nat.succ_le_of_lt A.lt) lb1 lc1).mono ?_
    rintro v1 S_30 ⟨hv1, Y_30⟩
    replace Ai := Ai.mv Y_30
    replace As := As.mv Y_30
    replace A := A.mv Y_30
    replace R := R.mv Y_30
    replace B1 := B1.mv Y_30
    replace B2 := B2.mv Y_30
    replace B3 := B3.mv Y_30
    replace hvs := hvs.mv Y_30
    replace Xa := Xa.mv Y_30
    replace X := X.mv Y_30
    try simp only [rn_var, rn_c, rn_op, rn_un, rn_dE, rn_ch, rn_dAnd, rn_dOr, rn_dNot, rn_dYes, rn_and, rn_or, rn_not, rn_if, rn_aNil, rn_aCons, rn_A, rn_mkT, rn_mkL, rn_oNon, rn_asI, rn_oSm, rn_sl, rn_M, rn_isi, rn_lrev, rn_add_i, rn_add_t, rn_sub_i, rn_mul_i, rn_fdiv_i, rn_mod_i, rn_pow_i, rn_lt_i, rn_le_i, rn_gt_i, rn_ge_i, rn_neg_i, rn_eq_i, rn_ne_i, rn_eq_b, rn_eq_s, rn_is, rn_isnot, rn_sl_t, kN_nx, kN_rt, kN_bk, kN_ct, rs_nil, rs_cons, rs_brk, rs_cnt, rs_ex, rs_ret, rs_retN, rs_if, rs_set, rs_par, rs_par3, rs_asg, rs_sub, rn_int_i, rn_abs_i, rn_asB, rn_iSeq, rn_iRng1, rn_iEnu, rn_iZp, rn_iRng2, rn_iRng3, rn_iRv, rn_dic0, rn_dic1, rn_max2, rn_MT, ex_tup, rn_revS, isTy_str, List.getElem?_cons_zero, List.getElem?_cons_succ, List.set_cons_succ, List.set_cons_zero, List.length_cons, List.length_nil, Nat.reduceAdd, Nat.zero_add, reduceIte, Nat.reduceLeDiff, true_and, List.cons_append, List.nil_append, isTy_lst Ai.h, rn_len_l Ai.h, rn_append Ai.h, isTy_lst As.h, rn_len_l As.h, rn_append As.h, isTy_lst A.h, rn_len_l A.h, rn_append A.h, isTy_lst R.h, rn_len_l R.h, rn_append R.h, isTy_lst B1.h, rn_len_l B1.h, rn_append B1.h, isTy_lst B2.h, rn_len_l B2.h, rn_append B2.h, isTy_lst B3.h, rn_len_l B3.h, rn_append B3.h]
    refine (withbool_spec hs (fun p hp => itsOf_ok (hpm p hp)) hF (by omega) (by omega) R (Ext.refl X.bag) (Nat.succ_le_of_lt A.lt) lb1 lc1).mono ?_
    rintro v2 S_31 ⟨hv2, Y_31⟩
    replace Ai := Ai.mv Y_31
    replace As := As.mv Y_31
    replace A := A.mv Y_31
    replace R := R.mv Y_31
    replace B1 := B1.mv Y_31
    replace B2 := B2.mv Y_31
    replace B3 := B3.mv Y_31
    replace hvs := hvs.mv Y_31
    replace Xa := Xa.mv Y_31
    replace hv1 := hv1.mv Y_31
    replace X := X.mv Y_31
    try simp only [rn_var, rn_c, rn_op, rn_un, rn_dE, rn_ch, rn_dAnd, rn_dOr, rn_dNot, rn_dYes, rn_and, rn_or, rn_not, rn_if, rn_aNil, rn_aCons, rn_A, rn_mkT, rn_mkL, rn_oNon, rn_asI, rn_oSm, rn_sl, rn_M, rn_isi, rn_lrev, rn_add_i, rn_add_t, rn_sub_i, rn_mul_i, rn_fdiv_i, rn_mod_i, rn_pow_i, rn_lt_i, rn_le_i, rn_gt_i, rn_ge_i, rn_neg_i, rn_eq_i, rn_ne_i, rn_eq_b, rn_eq_s, rn_is, rn_isnot, rn_sl_t, kN_nx, kN_rt, kN_bk, kN_ct, rs_nil, rs_cons, rs_brk, rs_cnt, rs_ex, rs_ret, rs_retN, rs_if, rs_set, rs_par, rs_par3, rs_asg, rs_sub, rn_int_i, rn_abs_i, rn_asB, rn_iSeq, rn_iRng1, rn_iEnu, rn_iZp, rn_iRng2, rn_iRng3, rn_iRv, rn_dic0, rn_dic1, rn_max2, rn_MT, ex_tup, rn_revS, isTy_str, List.getElem?_cons_zero, List.getElem?_cons_succ, List.set_cons_succ, List.set_cons_zero, List.length_cons, List.length_nil, Nat.reduceAdd, Nat.zero_add, reduceIte, Nat.reduceLeDiff, true_and, List.cons_append, List.nil_append, isTy_lst Ai.h, rn_len_l Ai.h, rn_append Ai.h, isTy_lst As.h, rn_len_l As.h, rn_append As.h, isTy_lst A.h, rn_len_l A.h, rn_append A.h, isTy_lst R.h, rn_len_l R.h, rn_append R.h, isTy_lst B1.h, rn_len_l B1.h, rn_append B1.h, isTy_lst B2.h, rn_len_l B2.h, rn_append B2.h, isTy_lst B3.h, rn_len_l B3.h, rn_append B3.h]
    generalize hS_32 : S_31 ++ [_] = S_32
    have B5 := At.new' X hS_32
    have Y_32 := Ext.new' X hS_32
    have w5_lo := X.len
    have qi_ne_w5 := Ai.lt
    have qs_ne_w5 := As.lt
    have q_ne_w5 := A.lt
    have qr_ne_w5 := R.lt
    have w1_ne_w5 := B1.lt
    have w2_ne_w5 := B2.lt
    have w3_ne_w5 := B3.lt
    replace Ai := Ai.mv Y_32
    replace As := As.mv Y_32
    replace A := A.mv Y_32
    replace R := R.mv Y_32
    replace B1 := B1.mv Y_32
    replace B2 := B2.mv Y_32
    replace B3 := B3.mv Y_32
    replace hvs := hvs.mv Y_32
    replace Xa := Xa.mv Y_32
    replace hv1 := hv1.mv Y_32
    replace hv2 := hv2.mv Y_32
    replace X := X.mv Y_32
    clear hS_32
    generalize hq_w5 : List.length S_31 = w5 at B5 w5_lo qi_ne_w5 qs_ne_w5 q_ne_w5 qr_ne_w5 w1_ne_w5 w2_ne_w5 w3_ne_w5 ⊢
    rw [rn_add_l A.h B5.h]
    refine ⟨by simp; omega, ?_⟩
    generalize hS_33 : S_32 ++ [_] = S_33
    have B6 := At.new' X hS_33
    have Y_33 := Ext.new' X hS_33
    have w6_lo := X.len
    have qi_ne_w6 := Ai.lt
    have qs_ne_w6 := As.lt
    have q_ne_w6 := A.lt
    have qr_ne_w6 := R.lt
    have w1_ne_w6 := B1.lt
    have w2_ne_w6 := B2.lt
    have w3_ne_w6 := B3.lt
    have w5_ne_w6 := B5.lt
    replace Ai := Ai.mv Y_33
    replace As := As.mv Y_33
    replace A := A.mv Y_33
    replace R := R.mv Y_33
    replace B1 := B1.mv Y_33
    replace B2 := B2.mv Y_33
    replace B3 := B3.mv Y_33
    replace B5 := B5.mv Y_33
    replace hvs := hvs.mv Y_33
    replace Xa := Xa.mv Y_33
    replace hv1 := hv1.mv Y_33
    replace hv2 := hv2.mv Y_33
    replace X := X.mv Y_33
    clear hS_33
    generalize hq_w6 : List.length S_32 = w6 at B6 w6_lo qi_ne_w6 qs_ne_w6 q_ne_w6 qr_ne_w6 w1_ne_w6 w2_ne_w6 w3_ne_w6 w5_ne_w6 ⊢
    exact ⟨w6, _, rfl, B6, by simp; omega, Af.append (Af.append (Af.cons ((hvo.mv Xa).up (by omega) (by omega)) (Af.cons (hvt.mv Xa) (Af.nil lb lc))) (hvs.low (by omega) lb lc)) (Af.cons ((hv1.low (by omega) lb lc).up (by omega) (by omega)) (Af.cons ((hv2.low (by omega) lb lc).up (by omega) (by omega)) (Af.nil lb lc))), X⟩
theorem sigvalue_spec {S0 S : Sto} {b c n : Nat} (X : Ext b c S0 S) (hn : n ≤ S0.length) (lb : b < n) (lc : c < n) :
    Rn (f__law_signature_value [.loc b] S) fun r S' => Nf b c n S' 61 200000 r ∧ Ext b c S0 S' := by
  unfold f__law_signature_value
  rw [rn_runD]
  unfold b__law_signature_value
  show Rs (sCons _ _ [some (.loc b), none, none, none, none, none, none] S) _
  rw [rs_cons, rs_set]
  refine lc_pre (W := fun w S1 => ∃ k : Nat, k ≤ 8 ∧ w = wR 0 k ∧ Ext b c S0 S1) ?_ (fun w S1 hd ⟨k, hk, hw, X⟩ => ?_)
  · try simp only [rn_var, rn_c, rn_op, rn_un, rn_dE, rn_ch, rn_dAnd, rn_dOr, rn_dNot, rn_dYes, rn_and, rn_or, rn_not, rn_if, rn_aNil, rn_aCons, rn_A, rn_mkT, rn_mkL, rn_oNon, rn_asI, rn_oSm, rn_sl, rn_M, rn_isi, rn_lrev, rn_add_i, rn_add_t, rn_sub_i, rn_mul_i, rn_fdiv_i, rn_mod_i, rn_pow_i, rn_lt_i, rn_le_i, rn_gt_i, rn_ge_i, rn_neg_i, rn_eq_i, rn_ne_i, rn_eq_b, rn_eq_s, rn_is, rn_isnot, rn_sl_t, kN_nx, kN_rt, kN_bk, kN_ct, rs_nil, rs_cons, rs_brk, rs_cnt, rs_ex, rs_ret, rs_retN, rs_if, rs_set, rs_par, rs_par3, rs_asg, rs_sub, rn_int_i, rn_abs_i, rn_asB, rn_iSeq, rn_iRng1, rn_iEnu, rn_iZp, rn_iRng2, rn_iRng3, rn_iRv, rn_dic0, rn_dic1, rn_max2, rn_MT, ex_tup, rn_revS, isTy_str, List.getElem?_cons_zero, List.getElem?_cons_succ, List.set_cons_succ, List.set_cons_zero, List.length_cons, List.length_nil, Nat.reduceAdd, Nat.zero_add, reduceIte, Nat.reduceLeDiff, true_and, List.cons_append, List.nil_append]
    generalize hS_1 : S ++ [_] = S_1
    have A := At.new' X hS_1
    have Y_1 := Ext.new' X hS_1
    have q_lo := X.len
    replace X := X.mv Y_1
    clear hS_1
    generalize hq_q : List.length S = q at A q_lo  ⊢
    refine (pick_spec X.bag A.seq (by simp) (by simp)).mono ?_
    rintro r S_2 ⟨hr, Y_2⟩
    replace A := A.mv Y_2
    replace X := X.mv Y_2
    obtain ⟨k, rfl, k0, k8⟩ : ∃ k : Nat, r = .int (k : Int) ∧ 0 ≤ k ∧ k ≤ 8 := by
      simp only [List.mem_cons, List.not_mem_nil, or_false] at hr
      rcases hr with rfl | rfl | rfl | rfl | rfl | rfl | rfl | rfl | rfl | rfl | rfl | rfl
      · exact ⟨1, rfl, by omega, by omega⟩
      · exact ⟨2, rfl, by omega, by omega⟩
      · exact ⟨3, rfl, by omega, by omega⟩
      · exact ⟨4, rfl, by omega, by omega⟩
      · exact ⟨5, rfl, by omega, by omega⟩
      · exact ⟨6, rfl, by omega, by omega⟩
      · exact ⟨6, rfl, by omega, by omega⟩
      · exact ⟨7, rfl, by omega, by omega⟩
      · exact ⟨7, rfl, by omega, by omega⟩
      · exact ⟨8, rfl, by omega, by omega⟩
      · exact ⟨0, rfl, by omega, by omega⟩
      · exact ⟨3, rfl, by omega, by omega⟩
    exact ⟨_, rfl, by omega, k, k8, by rw [Int.toNat_natCast], X⟩
  subst hw
  refine lc_map ((List.range k).map fun j : Nat => PV.int (0 + j)) (fun _ y => ∃ a : Int, y = .int a ∧ 0 ≤ a ∧ a ≤ 3) (fun S2 => Ext b c S0 S2) ⟨_, _, hd, X, fun i S _ => wR_at i⟩ (by simp; omega) (fun x hx S2 X2 => ?_) (fun ys S2 hA X => ?_)
  · refine ⟨[(6, x)], rfl, rfl, ?_⟩
    try simp only [setP, wipeP, List.foldl_cons, List.foldl_nil, List.set_cons_succ, List.set_cons_zero]
    try simp only [rn_var, rn_c, rn_op, rn_un, rn_dE, rn_ch, rn_dAnd, rn_dOr, rn_dNot, rn_dYes, rn_and, rn_or, rn_not, rn_if, rn_aNil, rn_aCons, rn_A, rn_mkT, rn_mkL, rn_oNon, rn_asI, rn_oSm, rn_sl, rn_M, rn_isi, rn_lrev, rn_add_i, rn_add_t, rn_sub_i, rn_mul_i, rn_fdiv_i, rn_mod_i, rn_pow_i, rn_lt_i, rn_le_i, rn_gt_i, rn_ge_i, rn_neg_i, rn_eq_i, rn_ne_i, rn_eq_b, rn_eq_s, rn_is, rn_isnot, rn_sl_t, kN_nx, kN_rt, kN_bk, kN_ct, rs_nil, rs_cons, rs_brk, rs_cnt, rs_ex, rs_ret, rs_retN, rs_if, rs_set, rs_par, rs_par3, rs_asg, rs_sub, rn_int_i, rn_abs_i, rn_asB, rn_iSeq, rn_iRng1, rn_iEnu, rn_iZp, rn_iRng2, rn_iRng3, rn_iRv, rn_dic0, rn_dic1, rn_max2, rn_MT, ex_tup, rn_revS, isTy_str, List.getElem?_cons_zero, List.getElem?_cons_succ, List.set_cons_succ, List.set_cons_zero, List.length_cons, List.length_nil, Nat.reduceAdd, Nat.zero_add, reduceIte, Nat.reduceLeDiff, true_and, List.cons_append, List.nil_append]
    refine (draw_spec X2.bag (n := 4) (by omega) (by omega)).mono ?_
    rintro r S_3 ⟨a, rfl, a0, a1, Y_3⟩
    replace X2 := X2.mv Y_3
    exact ⟨⟨a, rfl, a0, by omega⟩, X2⟩
  obtain ⟨ns, rfl, hns⟩ := ints_of (P := fun a => 0 ≤ a ∧ a ≤ 3) fun y hy => (hA.mem hy).elim fun x hx => hx.2
  have hlen : ns.length = k := by have := hA.len; simpa using this
  generalize hS_4 : S2 ++ [_] = S_4
  have A := At.new' X hS_4
  have Y_4 := Ext.new' X hS_4
  have q_lo := X.len
  replace X := X.mv Y_4
  clear hS_4
  generalize hq_q : List.length S2 = q at A q_lo  ⊢
  have lb1 : b < q + 1 := by omega
  have lc1 : c < q + 1 := by omega
  simp only [kN_nx]
  rw [rs_cons]
  have hva : Af b c (q + 1) S_4 1 100 (ns.map PV.int) := ⟨lb1, lc1, fun y hy => by
    obtain ⟨a, ha, rfl⟩ := List.mem_map.mp hy
    exact (Nf.int lb1 lc1 (by have := hns a ha; omega) (by have := hns a ha; omega) (by omega) : Nf b c (q + 1) S_4 1 100 (.int a)).nd⟩
  refine Rs.mono (q := fun o e S4 => o = .nx ∧ ∃ xs : List PV, e = [some (.loc b), some (.loc q), none, none, none, none, none] ∧ xs.length ≤ 8 ∧ At b c S0.length S4 q (.lst xs) ∧ Af b c (q + 1) S4 1 100 xs ∧ Ext b c S0 S4) ?_ ?_
  · skip
    try simp only [rn_var, rn_c, rn_op, rn_un, rn_dE, rn_ch, rn_dAnd, rn_dOr, rn_dNot, rn_dYes, rn_and, rn_or, rn_not, rn_if, rn_aNil, rn_aCons, rn_A, rn_mkT, rn_mkL, rn_oNon, rn_asI, rn_oSm, rn_sl, rn_M, rn_isi, rn_lrev, rn_add_i, rn_add_t, rn_sub_i, rn_mul_i, rn_fdiv_i, rn_mod_i, rn_pow_i, rn_lt_i, rn_le_i, rn_gt_i, rn_ge_i, rn_neg_i, rn_eq_i, rn_ne_i, rn_eq_b, rn_eq_s, rn_is, rn_isnot, rn_sl_t, kN_nx, kN_rt, kN_bk, kN_ct, rs_nil, rs_brk, rs_cnt, rs_ret, rs_retN, rn_int_i, rn_abs_i, rn_asB, rn_iSeq, rn_iRng1, rn_iEnu, rn_iZp, rn_iRng2, rn_iRng3, rn_iRv, rn_dic0, rn_dic1, rn_max2, rn_MT, ex_tup, rn_revS, isTy_str, List.getElem?_cons_zero, List.getElem?_cons_succ, List.set_cons_succ, List.set_cons_zero, List.length_cons, List.length_nil, Nat.reduceAdd, Nat.zero_add, reduceIte, Nat.reduceLeDiff, true_and, List.cons_append, List.nil_append, isTy_lst A.h, rn_len_l A.h, rn_append A.h]
    rw [rs_if]
    try simp only [rn_var, rn_c, rn_op, rn_un, rn_dE, rn_ch, rn_dAnd, rn_dOr, rn_dNot, rn_dYes, rn_and, rn_or, rn_not, rn_if, rn_aNil, rn_aCons, rn_A, rn_mkT, rn_mkL, rn_oNon, rn_asI, rn_oSm, rn_sl, rn_M, rn_isi, rn_lrev, rn_add_i, rn_add_t, rn_sub_i, rn_mul_i, rn_fdiv_i, rn_mod_i, rn_pow_i, rn_lt_i, rn_le_i, rn_gt_i, rn_ge_i, rn_neg_i, rn_eq_i, rn_ne_i, rn_eq_b, rn_eq_s, rn_is, rn_isnot, rn_sl_t, kN_nx, kN_rt, kN_bk, kN_ct, rs_nil, rs_brk, rs_cnt, rs_ret, rs_retN, rn_int_i, rn_abs_i, rn_asB, rn_iSeq, rn_iRng1, rn_iEnu, rn_iZp, rn_iRng2, rn_iRng3, rn_iRv, rn_dic0, rn_dic1, rn_max2, rn_MT, ex_tup, rn_revS, isTy_str, List.getElem?_cons_zero, List.getElem?_cons_succ, List.set_cons_succ, List.set_cons_zero, List.length_cons, List.length_nil, Nat.reduceAdd, Nat.zero_add, reduceIte, Nat.reduceLeDiff, true_and, List.cons_append, List.nil_append, isTy_lst A.h, rn_len_l A.h, rn_append A.h]
    generalize hS_5 : S_4 ++ [_] = S_5
    have A2 := At.new' X hS_5
    have Y_5 := Ext.new' X hS_5
    have q2_lo := X.len
    have q_ne_q2 := A.lt
    replace A := A.mv Y_5
    replace hva := hva.mv Y_5
    replace X := X.mv Y_5
    clear hS_5
    generalize hq_q2 : List.length S_4 = q2 at A2 q2_lo q_ne_q2 ⊢
    rw [rn_neA_l A.h A2.h]
    simp only [rn_asB]
    refine ⟨fun hne => ?_, fun _ => ⟨fun h => (nomatch h), fun _ => ⟨_, by rw [List.length_map]; omega, A, hva, X⟩⟩⟩
    have k1 : 0 < k := by
      cases ns with
      | nil => cases hne
      | cons a r => rw [← hlen]; simp
    refine (draw_spec X.bag (n := 4) (by omega) (by omega)).mono ?_
    rintro r S_6 ⟨d, rfl, d0, d1, Y_6⟩
    replace A := A.mv Y_6
    replace A2 := A2.mv Y_6
    replace hva := hva.mv Y_6
    replace X := X.mv Y_6
    try simp only [rn_var, rn_c, rn_op, rn_un, rn_dE, rn_ch, rn_dAnd, rn_dOr, rn_dNot, rn_dYes, rn_and, rn_or, rn_not, rn_if, rn_aNil, rn_aCons, rn_A, rn_mkT, rn_mkL, rn_oNon, rn_asI, rn_oSm, rn_sl, rn_M, rn_isi, rn_lrev, rn_add_i, rn_add_t, rn_sub_i, rn_mul_i, rn_fdiv_i, rn_mod_i, rn_pow_i, rn_lt_i, rn_le_i, rn_gt_i, rn_ge_i, rn_neg_i, rn_eq_i, rn_ne_i, rn_eq_b, rn_eq_s, rn_is, rn_isnot, rn_sl_t, kN_nx, kN_rt, kN_bk, kN_ct, rs_nil, rs_cons, rs_brk, rs_cnt, rs_ex, rs_ret, rs_retN, rs_if, rs_set, rs_par, rs_par3, rs_asg, rs_sub, rn_int_i, rn_abs_i, rn_asB, rn_iSeq, rn_iRng1, rn_iEnu, rn_iZp, rn_iRng2, rn_iRng3, rn_iRv, rn_dic0, rn_dic1, rn_max2, rn_MT, ex_tup, rn_revS, isTy_str, List.getElem?_cons_zero, List.getElem?_cons_succ, List.set_cons_succ, List.set_cons_zero, List.length_cons, List.length_nil, Nat.reduceAdd, Nat.zero_add, reduceIte, Nat.reduceLeDiff, true_and, List.cons_append, List.nil_append, isTy_lst A.h, rn_len_l A.h, rn_append A.h, isTy_lst A2.h, rn_len_l A2.h, rn_append A2.h]
    refine ⟨fun _ => ?_, fun _ => ⟨_, by rw [List.length_map]; omega, A, hva, X⟩⟩
    rw [List.length_map]
    refine (draw_spec X.bag (n := (ns.length : Int)) (by omega) (by omega)).mono ?_
    rintro r S_7 ⟨z, rfl, z0, z1, Y_7⟩
    replace A := A.mv Y_7
    replace A2 := A2.mv Y_7
    replace hva := hva.mv Y_7
    replace X := X.mv Y_7
    refine ⟨_, set_at A.h z0 (by rw [List.length_map]; omega), ?_⟩
    generalize hS_8 : List.set S_7 q _ = S_8
    have W_8 := At.wrs' A hS_8
    have A' := At.put' A hS_8
    replace A2 := A2.wr W_8 (by first | assumption | exact Ne.symm (by assumption) | omega)
    replace hva := hva.wr W_8 (by first | assumption | omega)
    replace X := X.wr W_8 A.lo
    clear hS_8 A
    have A := A'
    clear A'
    refine ⟨_, by rw [List.length_set, List.length_map]; omega, A, ⟨lb1, lc1, fun y hy => ?_⟩, X⟩
    rcases List.mem_or_eq_of_mem_set hy with h | h
    · exact hva.all y h
    · rw [h]; exact (Nf.int lb1 lc1 (by omega) (by omega) (by omega) : Nf b c (q + 1) S_8 1 100 (.int 0)).nd
  rintro o e S4 ⟨rfl, xs, rfl, hxl, A, hxs, X⟩
  simp only [kN_nx]
  rw [rs_cons]
  refine Rs.mono (q := fun o e S4 => o = .nx ∧ ∃ (xs : List PV) (x2 x3 x4 : Option PV), e = [some (.loc b), some (.loc q), x2, x3, x4, none, none] ∧ xs.length ≤ 8 ∧ At b c S0.length S4 q (.lst xs) ∧ Af b c (q + 1) S4 1 100 xs ∧ Ext b c S0 S4) ?_ ?_
  · refine for_pre (W := fun w S5 => ∃ k : Nat, w = wR 0 k ∧ At b c S0.length S5 q (.lst xs) ∧ Af b c (q + 1) S5 1 100 xs ∧ Ext b c S0 S5) ?_ (fun w S5 hd ⟨k, hw, A, hxs, X⟩ => ?_)
    · skip
      try simp only [rn_var, rn_c, rn_op, rn_un, rn_dE, rn_ch, rn_dAnd, rn_dOr, rn_dNot, rn_dYes, rn_and, rn_or, rn_not, rn_if, rn_aNil, rn_aCons, rn_A, rn_mkT, rn_mkL, rn_oNon, rn_asI, rn_oSm, rn_sl, rn_M, rn_isi, rn_lrev, rn_add_i, rn_add_t, rn_sub_i, rn_mul_i, rn_fdiv_i, rn_mod_i, rn_pow_i, rn_lt_i, rn_le_i, rn_gt_i, rn_ge_i, rn_neg_i, rn_eq_i, rn_ne_i, rn_eq_b, rn_eq_s, rn_is, rn_isnot, rn_sl_t, kN_nx, kN_rt, kN_bk, kN_ct, rs_nil, rs_cons, rs_brk, rs_cnt, rs_ex, rs_ret, rs_retN, rs_if, rs_set, rs_par, rs_par3, rs_asg, rs_sub, rn_int_i, rn_abs_i, rn_asB, rn_iSeq, rn_iRng1, rn_iEnu, rn_iZp, rn_iRng2, rn_iRng3, rn_iRv, rn_dic0, rn_dic1, rn_max2, rn_MT, ex_tup, rn_revS, isTy_str, List.getElem?_cons_zero, List.getElem?_cons_succ, List.set_cons_succ, List.set_cons_zero, List.length_cons, List.length_nil, Nat.reduceAdd, Nat.zero_add, reduceIte, Nat.reduceLeDiff, true_and, List.cons_append, List.nil_append, isTy_lst A.h, rn_len_l A.h, rn_append A.h]
      generalize hS_9 : S4 ++ [_] = S_9
      have B3 := At.new' X hS_9
      have Y_9 := Ext.new' X hS_9
      have w3_lo := X.len
      have q_ne_w3 := A.lt
      replace A := A.mv Y_9
      replace hxs := hxs.mv Y_9
      replace X := X.mv Y_9
      clear hS_9
      generalize hq_w3 : List.length S4 = w3 at B3 w3_lo q_ne_w3 ⊢
      refine (pick_spec X.bag B3.seq (by simp) (by simp)).mono ?_
      rintro r S_10 ⟨hr, Y_10⟩
      replace A := A.mv Y_10
      replace B3 := B3.mv Y_10
      replace hxs := hxs.mv Y_10
      replace X := X.mv Y_10
      simp only [List.mem_cons, List.not_mem_nil, or_false] at hr
      rcases hr with rfl | rfl | rfl | rfl | rfl <;> exact ⟨_, rfl, by omega, _, rfl, A, hxs, X⟩
    subst hw
    refine for_rule ((List.range k).map fun j : Nat => PV.int (0 + j)) (fun i e S6 => ∃ (xs : List PV) (x2 x3 x4 : Option PV), e = [some (.loc b), some (.loc q), x2, x3, x4, none, none] ∧ xs.length ≤ 8 ∧ At b c S0.length S6 q (.lst xs) ∧ Af b c (q + 1) S6 1 100 xs ∧ Ext b c S0 S6) hd ⟨xs, none, none, none, rfl, hxl, A, hxs, X⟩ (fun i e S _ _ => wR_at i) (fun i x e S6 hx ⟨xs, x2, x3, x4, he, hxl, A, hxs, X⟩ => ?_) (fun e S6 ⟨xs, x2, x3, x4, he, hxl, A, hxs, X⟩ => ?_)
    · skip
      subst he
      refine ⟨[(2, x)], rfl, ?_⟩
      try simp only [setP, wipeP, List.foldl_cons, List.foldl_nil, List.set_cons_succ, List.set_cons_zero]
      rw [rs_if]
      try simp only [rn_var, rn_c, rn_op, rn_un, rn_dE, rn_ch, rn_dAnd, rn_dOr, rn_dNot, rn_dYes, rn_and, rn_or, rn_not, rn_if, rn_aNil, rn_aCons, rn_A, rn_mkT, rn_mkL, rn_oNon, rn_asI, rn_oSm, rn_sl, rn_M, rn_isi, rn_lrev, rn_add_i, rn_add_t, rn_sub_i, rn_mul_i, rn_fdiv_i, rn_mod_i, rn_pow_i, rn_lt_i, rn_le_i, rn_gt_i, rn_ge_i, rn_neg_i, rn_eq_i, rn_ne_i, rn_eq_b, rn_eq_s, rn_is, rn_isnot, rn_sl_t, kN_nx, kN_rt, kN_bk, kN_ct, rs_nil, rs_brk, rs_cnt, rs_ret, rs_retN, rn_int_i, rn_abs_i, rn_asB, rn_iSeq, rn_iRng1, rn_iEnu, rn_iZp, rn_iRng2, rn_iRng3, rn_iRv, rn_dic0, rn_dic1, rn_max2, rn_MT, ex_tup, rn_revS, isTy_str, List.getElem?_cons_zero, List.getElem?_cons_succ, List.set_cons_succ, List.set_cons_zero, List.length_cons, List.length_nil, Nat.reduceAdd, Nat.zero_add, reduceIte, Nat.reduceLeDiff, true_and, List.cons_append, List.nil_append, isTy_lst A.h, rn_len_l A.h, rn_append A.h]
      generalize hS_11 : S6 ++ [_] = S_11
      have A2 := At.new' X hS_11
      have Y_11 := Ext.new' X hS_11
      have q2_lo := X.len
      have q_ne_q2 := A.lt
      replace A := A.mv Y_11
      replace hxs := hxs.mv Y_11
      replace X := X.mv Y_11
      clear hS_11
      generalize hq_q2 : List.length S6 = q2 at A2 q2_lo q_ne_q2 ⊢
      rw [rn_neA_l A.h A2.h]
      simp only [rn_asB]
      refine ⟨fun hne => ?_, fun _ => ?_⟩
      · have k1 : 0 < xs.length := by
          cases xs with
          | nil => cases hne
          | cons a r => simp
        try simp only [rn_var, rn_c, rn_op, rn_un, rn_dE, rn_ch, rn_dAnd, rn_dOr, rn_dNot, rn_dYes, rn_and, rn_or, rn_not, rn_if, rn_aNil, rn_aCons, rn_A, rn_mkT, rn_mkL, rn_oNon, rn_asI, rn_oSm, rn_sl, rn_M, rn_isi, rn_lrev, rn_add_i, rn_add_t, rn_sub_i, rn_mul_i, rn_fdiv_i, rn_mod_i, rn_pow_i, rn_lt_i, rn_le_i, rn_gt_i, rn_ge_i, rn_neg_i, rn_eq_i, rn_ne_i, rn_eq_b, rn_eq_s, rn_is, rn_isnot, rn_sl_t, kN_nx, kN_rt, kN_bk, kN_ct, rs_nil, rs_cons, rs_brk, rs_cnt, rs_ex, rs_ret, rs_retN, rs_if, rs_set, rs_par, rs_par3, rs_asg, rs_sub, rn_int_i, rn_abs_i, rn_asB, rn_iSeq, rn_iRng1, rn_iEnu, rn_iZp, rn_iRng2, rn_iRng3, rn_iRv, rn_dic0, rn_dic1, rn_max2, rn_MT, ex_tup, rn_revS, isTy_str, List.getElem?_cons_zero, List.getElem?_cons_succ, List.set_cons_succ, List.set_cons_zero, List.length_cons, List.length_nil, Nat.reduceAdd, Nat.zero_add, reduceIte, Nat.reduceLeDiff, true_and, List.cons_append, List.nil_append, isTy_lst A.h, rn_len_l A.h, rn_append A.h, isTy_lst A2.h, rn_len_l A2.h, rn_append A2.h]
        refine (draw_spec X.bag (n := (xs.length : Int)) (by omega) (by omega)).mono ?_
        rintro r S_12 ⟨z, rfl, z0, z1, Y_12⟩
        replace A := A.mv Y_12
        replace A2 := A2.mv Y_12
        replace hxs := hxs.mv Y_12
        replace X := X.mv Y_12
        try simp only [rn_var, rn_c, rn_op, rn_un, rn_dE, rn_ch, rn_dAnd, rn_dOr, rn_dNot, rn_dYes, rn_and, rn_or, rn_not, rn_if, rn_aNil, rn_aCons, rn_A, rn_mkT, rn_mkL, rn_oNon, rn_asI, rn_oSm, rn_sl, rn_M, rn_isi, rn_lrev, rn_add_i, rn_add_t, rn_sub_i, rn_mul_i, rn_fdiv_i, rn_mod_i, rn_pow_i, rn_lt_i, rn_le_i, rn_gt_i, rn_ge_i, rn_neg_i, rn_eq_i, rn_ne_i, rn_eq_b, rn_eq_s, rn_is, rn_isnot, rn_sl_t, kN_nx, kN_rt, kN_bk, kN_ct, rs_nil, rs_cons, rs_brk, rs_cnt, rs_ex, rs_ret, rs_retN, rs_if, rs_set, rs_par, rs_par3, rs_asg, rs_sub, rn_int_i, rn_abs_i, rn_asB, rn_iSeq, rn_iRng1, rn_iEnu, rn_iZp, rn_iRng2, rn_iRng3, rn_iRv, rn_dic0, rn_dic1, rn_max2, rn_MT, ex_tup, rn_revS, isTy_str, List.getElem?_cons_zero, List.getElem?_cons_succ, List.set_cons_succ, List.set_cons_zero, List.length_cons, List.length_nil, Nat.reduceAdd, Nat.zero_add, reduceIte, Nat.reduceLeDiff, true_and, List.cons_append, List.nil_append, isTy_lst A.h, rn_len_l A.h, rn_append A.h, isTy_lst A2.h, rn_len_l A2.h, rn_append A2.h, rn_pow_i]
        refine ⟨by decide, ?_⟩
        generalize hS_13 : S_12 ++ [_] = S_13
        have A3 := At.new' X hS_13
        have Y_13 := Ext.new' X hS_13
        have q3_lo := X.len
        have q_ne_q3 := A.lt
        have q2_ne_q3 := A2.lt
        replace A := A.mv Y_13
        replace A2 := A2.mv Y_13
        replace hxs := hxs.mv Y_13
        replace X := X.mv Y_13
        clear hS_13
        generalize hq_q3 : List.length S_12 = q3 at A3 q3_lo q_ne_q3 q2_ne_q3 ⊢
        refine ⟨by decide, ?_⟩
        generalize hS_14 : S_13 ++ [_] = S_14
        have A4 := At.new' X hS_14
        have Y_14 := Ext.new' X hS_14
        have q4_lo := X.len
        have q_ne_q4 := A.lt
        have q2_ne_q4 := A2.lt
        have q3_ne_q4 := A3.lt
        replace A := A.mv Y_14
        replace A2 := A2.mv Y_14
        replace A3 := A3.mv Y_14
        replace hxs := hxs.mv Y_14
        replace X := X.mv Y_14
        clear hS_14
        generalize hq_q4 : List.length S_13 = q4 at A4 q4_lo q_ne_q4 q2_ne_q4 q3_ne_q4 ⊢
        have i0 : ∀ {i : Int}, i.natAbs < 10 ^ 62 → Nf b c (q + 1) S_14 1 100 (.int i) := fun a => Nf.big lb1 lc1 a (by omega)
        have hA : Af b c (q + 1) S_14 1 100 _ := Af.cons (Nf.bl (v := true) lb1 lc1 (by omega)) <| Af.cons (Nf.bl (v := false) lb1 lc1 (by omega)) <| Af.cons (i0 (i := -1) (by decide)) <| Af.cons (i0 (i := 4) (by decide)) <| Af.cons (i0 (i := 4) (by decide)) <| Af.cons (i0 (i := 5) (by decide)) <| Af.cons (i0 (i := 10 ^ (40 : Int).toNat) (by decide)) <|
          Af.cons (Nf.str (z := "0") lb1 lc1 (by decide +kernel)) <| Af.cons (Nf.non lb1 lc1 (by omega)) <| Af.cons (Nf.tup (Rf.cons (Nf.int (d := 0) (i := 0) lb1 lc1 (by omega) (by omega) (Nat.le_refl 63)) (Rf.nil lb1 lc1 (m := 0)) (Nat.le_refl _)) (by omega)) <| Af.cons (Nf.lst (Rf.cons (Nf.int (d := 0) (i := 0) lb1 lc1 (by omega) (by omega) (Nat.le_refl 63)) (Rf.nil lb1 lc1 (m := 0)) (Nat.le_refl _)) (by omega) A3.h (by omega)) <|
          Af.cons (Nf.str (z := "") lb1 lc1 (by decide +kernel)) <| Af.cons (i0 (i := -(10 ^ (9 : Int).toNat)) (by decide)) <| Af.nil lb1 lc1
        refine (pick_spec X.bag A4.seq (by simp) (by simp)).mono ?_
        rintro r S_15 ⟨hr, Y_15⟩
        replace A := A.mv Y_15
        replace A2 := A2.mv Y_15
        replace A3 := A3.mv Y_15
        replace A4 := A4.mv Y_15
        replace hxs := hxs.mv Y_15
        replace hA := hA.mv Y_15
        replace X := X.mv Y_15
        have hr := hA.get hr
        refine ⟨_, set_at A.h z0 (by omega), ?_⟩
        generalize hS_16 : List.set S_15 q _ = S_16
        have W_16 := At.wrs' A hS_16
        have A' := At.put' A hS_16
        replace A2 := A2.wr W_16 (by first | assumption | exact Ne.symm (by assumption) | omega)
        replace A3 := A3.wr W_16 (by first | assumption | exact Ne.symm (by assumption) | omega)
        replace A4 := A4.wr W_16 (by first | assumption | exact Ne.symm (by assumption) | omega)
        replace hxs := hxs.wr W_16 (by first | assumption | omega)
        replace hA := hA.wr W_16 (by first | assumption | omega)
        replace hr := hr.wr W_16 (by first | assumption | omega)
        replace X := X.wr W_16 A.lo
        clear hS_16 A
        have A := A'
        clear A'
        refine ⟨_, _, _, _, rfl, by rw [List.length_set]; exact hxl, A, ⟨lb1, lc1, fun y hy => ?_⟩, X⟩
        rcases List.mem_or_eq_of_mem_set hy with h | h
        · exact hxs.all y h
        · rw [h]; exact hr.nd
      · exact ⟨xs, _, _, _, rfl, hxl, A, hxs, X⟩
    · subst he
      exact ⟨rfl, xs, x2, x3, x4, rfl, hxl, A, hxs, X⟩
  rintro o e S4 ⟨rfl, xs, x2, x3, x4, rfl, hxl, A, hxs, X⟩
  have hall := fun {S : Sto} (h : Af b c (q + 1) S 1 100 xs) => (h.rf (k := 900) (by have : xs.length * (100 + 2) ≤ 8 * 102 := Nat.mul_le_mul_right _ hxl; omega)).low (n' := n) (by have := A.lo; omega) lb lc
  try simp only [rn_var, rn_c, rn_op, rn_un, rn_dE, rn_ch, rn_dAnd, rn_dOr, rn_dNot, rn_dYes, rn_and, rn_or, rn_not, rn_if, rn_aNil, rn_aCons, rn_A, rn_mkT, rn_mkL, rn_oNon, rn_asI, rn_oSm, rn_sl, rn_M, rn_isi, rn_lrev, rn_add_i, rn_add_t, rn_sub_i, rn_mul_i, rn_fdiv_i, rn_mod_i, rn_pow_i, rn_lt_i, rn_le_i, rn_gt_i, rn_ge_i, rn_neg_i, rn_eq_i, rn_ne_i, rn_eq_b, rn_eq_s, rn_is, rn_isnot, rn_sl_t, kN_nx, kN_rt, kN_bk, kN_ct, rs_nil, rs_cons, rs_brk, rs_cnt, rs_ex, rs_ret, rs_retN, rs_if, rs_set, rs_par, rs_par3, rs_asg, rs_sub, rn_int_i, rn_abs_i, rn_asB, rn_iSeq, rn_iRng1, rn_iEnu, rn_iZp, rn_iRng2, rn_iRng3, rn_iRv, rn_dic0, rn_dic1, rn_max2, rn_MT, ex_tup, rn_revS, isTy_str, List.getElem?_cons_zero, List.getElem?_cons_succ, List.set_cons_succ, List.set_cons_zero, List.length_cons, List.length_nil, Nat.reduceAdd, Nat.zero_add, reduceIte, Nat.reduceLeDiff, true_and, List.cons_append, List.nil_append, isTy_lst A.h, rn_len_l A.h, rn_append A.h]
  refine (draw_spec X.bag (n := 12) (by omega) (by omega)).mono ?_
  rintro r S_17 ⟨w, rfl, w0, w1, Y_17⟩
  replace A := A.mv Y_17
  replace hxs := hxs.mv Y_17
  replace X := X.mv Y_17
  try simp only [rn_var, rn_c, rn_op, rn_un, rn_dE, rn_ch, rn_dAnd, rn_dOr, rn_dNot, rn_dYes, rn_and, rn_or, rn_not, rn_if, rn_aNil, rn_aCons, rn_A, rn_mkT, rn_mkL, rn_oNon, rn_asI, rn_oSm, rn_sl, rn_M, rn_isi, rn_lrev, rn_add_i, rn_add_t, rn_sub_i, rn_mul_i, rn_fdiv_i, rn_mod_i, rn_pow_i, rn_lt_i, rn_le_i, rn_gt_i, rn_ge_i, rn_neg_i, rn_eq_i, rn_ne_i, rn_eq_b, rn_eq_s, rn_is, rn_isnot, rn_sl_t, kN_nx, kN_rt, kN_bk, kN_ct, rs_nil, rs_cons, rs_brk, rs_cnt, rs_ex, rs_ret, rs_retN, rs_if, rs_set, rs_par, rs_par3, rs_asg, rs_sub, rn_int_i, rn_abs_i, rn_asB, rn_iSeq, rn_iRng1, rn_iEnu, rn_iZp, rn_iRng2, rn_iRng3, rn_iRv, rn_dic0, rn_dic1, rn_max2, rn_MT, ex_tup, rn_revS, isTy_str, List.getElem?_cons_zero, List.getElem?_cons_succ, List.set_cons_succ, List.set_cons_zero, List.length_cons, List.length_nil, Nat.reduceAdd, Nat.zero_add, reduceIte, Nat.reduceLeDiff, true_and, List.cons_append, List.nil_append, isTy_lst A.h, rn_len_l A.h, rn_append A.h, rn_tuple (seq_at A.h)]
  refine ⟨fun _ => ⟨(Nf.lst (hall hxs) (by have := A.lo; omega) A.h (Nat.le_refl _)).up (by omega) (by omega), X⟩, fun _ => ⟨fun _ => ?_, fun _ => ⟨(Nf.tup (hall hxs) (Nat.le_refl _)).up (by omega) (by omega), X⟩⟩⟩
  refine (odd_spec (Ext.refl X.bag) (by have := A.lo; have := A.lt; omega) lb lc (by omega) (by omega)).mono ?_
  rintro v S_18 ⟨hv, Y_18⟩
  replace A := A.mv Y_18
  replace hxs := hxs.mv Y_18
  replace X := X.mv Y_18
  exact ⟨hv.up (by omega) (by omega), X⟩
/-! values that have types throughout -/
def Vk (b c n : Nat) (S : Sto) (x : PV) : Prop := ∃ d m, m ≤ 16000000 ∧ Nf b c n S d m x
structure Vs (b c n : Nat) (S : Sto) (st : List (List Int × PV)) : Prop where
  all : ∀ p ∈ st, Vk b c n S p.2
section
variable {b c n q : Nat} {S S' : Sto} {x : PV} {xs : List PV} {st st' : List (List Int × PV)}
theorem Vk.mv (h : Vk b c n S x) (X : Ext b c S S') : Vk b c n S' x := let ⟨d, m, h1, h2⟩ := h; ⟨d, m, h1, h2.mv X⟩
theorem Vk.wr (h : Vk b c n S x) (W : Wr b c S q S') (hq : q < n) : Vk b c n S' x := let ⟨d, m, h1, h2⟩ := h; ⟨d, m, h1, h2.wr W hq⟩
theorem Vs.mv (h : Vs b c n S st) (X : Ext b c S S') : Vs b c n S' st := ⟨fun p hp => (h.all p hp).mv X⟩
theorem Vs.wr (h : Vs b c n S st) (W : Wr b c S q S') (hq : q < n) : Vs b c n S' st := ⟨fun p hp => (h.all p hp).wr W hq⟩
theorem Rd.len2 {P : Nat → Prop} {d m : Nat} (h : Rd P S d m xs) : 2 * xs.length ≤ m := by
  obtain ⟨ns, h1, h2⟩ := h
  have key : ∀ {xs : List PV} {ns : List Nat}, All2 (fun y m => Nd P S d m y) xs ns → 2 * xs.length ≤ tot ns := by
    intro xs ns h
    induction h with
    | nil => simp
    | cons _ _ ih => rw [tot_cons, List.length_cons]; omega
  exact Nat.le_trans (key h1) h2
theorem Vk.kids (h : Vk b c n S (.tup xs)) : xs.length ≤ 8000000 ∧ ∀ y ∈ xs, Vk b c n S y := by
  obtain ⟨d, m, hm, h⟩ := h
  cases d with
  | zero => exact False.elim h.nd
  | succ d =>
    have hr := h.row
    exact ⟨by have := Rd.len2 hr.rd; omega, fun y hy => ⟨d, m, hm, hr.af.get hy⟩⟩
theorem Vk.tyAll (h : Vk b c n S x) : TyAll S x := by
  refine ⟨?_, fun xs e => ?_⟩
  · obtain ⟨d, m, hm, h⟩ := h
    exact h.ty
  · subst e
    obtain ⟨h1, h2⟩ := h.kids
    exact ⟨by omega, fun y hy => let ⟨d, m, _, h⟩ := h2 y hy; h.ty⟩
theorem Vs.nil : Vs b c n S [] := ⟨fun _ h => nomatch h⟩
theorem Vs.tail {p : List Int × PV} (h : Vs b c n S (p :: st)) : Vs b c n S st := ⟨fun q hq => h.all q (List.mem_cons_of_mem _ hq)⟩
theorem Vs.append (h : Vs b c n S st) (k : Vs b c n S st') : Vs b c n S (st ++ st') := ⟨fun p hp => (List.mem_append.mp hp).elim (h.all p) (k.all p)⟩
theorem Vs.inner {w : List Int} (h : Vk b c n S x) : Vs b c n S (innerOf w x) := ⟨fun p hp => by
  unfold innerOf at hp
  split at hp
  · rename_i y r
    obtain ⟨j, hj, rfl⟩ := List.mem_mapIdx.mp hp
    exact h.kids.2 _ (List.mem_cons_of_mem _ (List.getElem_mem hj))
  · cases hp⟩
end
/-! the walk with variables -/
def isVar (nv : Int) (x : PV) : Bool := match x with
  | .int i => decide (0 ≤ i) && decide (i ≤ nv - 1)
  | _ => false
def dueV (sg : List Int) (nv : Int) : Nat → List (List Int × PV) → PV
  | _, [] => .non
  | 0, _ :: _ => .str "size"
  | n + 1, (w, x) :: st => if isVar nv x = true then dueV sg nv n st else if isThing sg x = true then dueV sg nv n (innerOf w x ++ st) else .tup [.str "form", ways w]
theorem dueV_zero (sg : List Int) : ∀ (n : Nat) (st : List (List Int × PV)), dueV sg 0 n st = dueT sg n st
  | n, [] => by unfold dueV dueT; rfl
  | 0, _ :: _ => by unfold dueV dueT; rfl
  | n + 1, (w, x) :: st => by
    have e : isVar 0 x = false := by
      cases x with
      | int i => simp [isVar]; omega
      | _ => rfl
    unfold dueV dueT
    rw [e, if_neg (by decide), dueV_zero sg n (innerOf w x ++ st)]
def wt (p : List Int × PV) : PV := .tup [ways p.1, p.2]
def tw (p : List Int × PV) : PV := .tup [p.2, ways p.1]
theorem inner_wt {w : List Int} {y : PV} {r : List PV} : (innerOf w (.tup (y :: r))).map wt = (enuL r).map fun z => match z with
    | .pr (.int i) v => .tup [ways (w ++ [i]), v]
    | _ => .non := by
  unfold innerOf enuL
  simp only [List.mapIdx_eq_zipIdx_map, List.map_map]
  rfl
theorem whole_var {S : Sto} {x : PV} {nv : Int} (h : TyOk S x) : Rn (f_is_whole [x, .int 0, .int (nv - 1)] S) fun r S' => r = .bl (isVar nv x) ∧ S' = S := by
  refine (whole_spec h).mono ?_
  rintro r S' ⟨e, rfl⟩
  refine ⟨?_, rfl⟩
  rw [e]
  cases x <;> rfl
theorem ways_app {w : List Int} {i : Int} {S : Sto} {Q : PV → Sto → Prop} (h : w.length ≤ 1000) : Rn (opAdd (ways w) (.tup [.int i]) S) Q ↔ Q (ways (w ++ [i])) S := by
  unfold ways
  rw [rn_add_t]
  simp only [List.length_map, List.length_cons, List.length_nil, List.map_append, List.map_cons, List.map_nil]
  exact ⟨fun h => h.2, fun k => ⟨by omega, k⟩⟩
theorem thingerr_spec {S0 S : Sto} {b c n : Nat} {sg : List Int} {v : PV} {nv : Int} (hs : SigOk sg) (X : Ext b c S0 S) (hv : Vk b c n S v) : Rn (f_thing_error [.tup (sg.map PV.int), v, .int nv] S) fun r S' => r = dueV sg nv 40 [([], v)] ∧ Ext b c S0 S' := by
  obtain ⟨Sv, hSv⟩ : ∃ Sv, Sv = S := ⟨S, rfl⟩
  have Xv : Ext b c Sv S := by rw [hSv]; exact Ext.refl X.bag
  have hv0 : Vk b c n Sv v := by rw [hSv]; exact hv
  have hSl : Sv.length = S.length := by rw [hSv]
  unfold f_thing_error
  rw [rn_runD]
  unfold b_thing_error
  show Rs (sCons _ _ [some (.tup (sg.map PV.int)), some (v), some (.int nv), none, none, none, none, none, none, none] S) _
  rw [rs_cons, rs_par]
  try simp only [rn_var, rn_c, rn_op, rn_un, rn_dE, rn_ch, rn_dAnd, rn_dOr, rn_dNot, rn_dYes, rn_and, rn_or, rn_not, rn_if, rn_aNil, rn_aCons, rn_A, rn_mkT, rn_mkL, rn_oNon, rn_asI, rn_oSm, rn_sl, rn_M, rn_isi, rn_lrev, rn_add_i, rn_add_t, rn_sub_i, rn_mul_i, rn_fdiv_i, rn_mod_i, rn_pow_i, rn_lt_i, rn_le_i, rn_gt_i, rn_ge_i, rn_neg_i, rn_eq_i, rn_ne_i, rn_eq_b, rn_eq_s, rn_is, rn_isnot, rn_sl_t, kN_nx, kN_rt, kN_bk, kN_ct, rs_nil, rs_brk, rs_cnt, rs_ret, rs_retN, rn_int_i, rn_abs_i, rn_asB, rn_iSeq, rn_iRng1, rn_iEnu, rn_iZp, rn_iRng2, rn_iRng3, rn_iRv, rn_dic0, rn_dic1, rn_max2, rn_MT, ex_tup, rn_revS, isTy_str, List.getElem?_cons_zero, List.getElem?_cons_succ, List.set_cons_succ, List.set_cons_zero, List.length_cons, List.length_nil, Nat.reduceAdd, Nat.zero_add, reduceIte, Nat.reduceLeDiff, true_and, List.cons_append, List.nil_append]
  generalize hS_1 : S ++ [_] = S_1
  have A := At.new' X hS_1
  have Y_1 := Ext.new' X hS_1
  have q_lo := X.len
  replace Xv := Xv.mv Y_1
  replace X := X.mv Y_1
  clear hS_1
  generalize hq_q : List.length S = q at A q_lo  ⊢
  refine ⟨_, _, rfl, ?_⟩
  rw [rs_cons]
  generalize hD : dueV sg nv 40 [([], v)] = D
  refine wh_rule (fun k e S1 => ∃ (many : Nat) (st : List (List Int × PV)) (x5 x6 x7 x8 x9 : Option PV), e = [some (.tup (sg.map PV.int)), some v, some (.int nv), some (.loc q), some (.int (many : Int)), x5, x6, x7, x8, x9] ∧ k + many = 41 ∧ many ≤ 40 ∧ At b c S0.length S1 q (.lst (st.reverse.map wt)) ∧ dueV sg nv (40 - many) st = D ∧ Vs b c n Sv st ∧ (∀ p ∈ st, p.1.length ≤ many) ∧ st.length ≤ 3 * many + 1 ∧ Ext b c Sv S1 ∧ Ext b c S0 S1) ?_ 41 _ _ ⟨0, [([], v)], none, none, none, none, none, rfl, rfl, by omega, A, hD, ⟨fun p hp => by rw [List.mem_singleton.mp hp]; exact hv0⟩, (fun p hp => by rw [List.mem_singleton.mp hp]; simp), by simp, Xv, X⟩
  rintro k e S1 ⟨many, st, x5, x6, x7, x8, x9, rfl, hk, hm, A, hDu, hVs, hw, hsl, Xv, X⟩
  try simp only [rn_var, rn_c, rn_op, rn_un, rn_dE, rn_ch, rn_dAnd, rn_dOr, rn_dNot, rn_dYes, rn_and, rn_or, rn_not, rn_if, rn_aNil, rn_aCons, rn_A, rn_mkT, rn_mkL, rn_oNon, rn_asI, rn_oSm, rn_sl, rn_M, rn_isi, rn_lrev, rn_add_i, rn_add_t, rn_sub_i, rn_mul_i, rn_fdiv_i, rn_mod_i, rn_pow_i, rn_lt_i, rn_le_i, rn_gt_i, rn_ge_i, rn_neg_i, rn_eq_i, rn_ne_i, rn_eq_b, rn_eq_s, rn_is, rn_isnot, rn_sl_t, kN_nx, kN_rt, kN_bk, kN_ct, rs_nil, rs_brk, rs_cnt, rs_ret, rs_retN, rn_int_i, rn_abs_i, rn_asB, rn_iSeq, rn_iRng1, rn_iEnu, rn_iZp, rn_iRng2, rn_iRng3, rn_iRv, rn_dic0, rn_dic1, rn_max2, rn_MT, ex_tup, rn_revS, isTy_str, List.getElem?_cons_zero, List.getElem?_cons_succ, List.set_cons_succ, List.set_cons_zero, List.length_cons, List.length_nil, Nat.reduceAdd, Nat.zero_add, reduceIte, Nat.reduceLeDiff, true_and, List.cons_append, List.nil_append, isTy_lst A.h, rn_len_l A.h, rn_append A.h]
  generalize hS_2 : S1 ++ [_] = S_2
  have A2 := At.new' X hS_2
  have Y_2 := Ext.new' X hS_2
  have q2_lo := X.len
  have q_ne_q2 := A.lt
  replace A := A.mv Y_2
  replace Xv := Xv.mv Y_2
  replace X := X.mv Y_2
  clear hS_2
  generalize hq_q2 : List.length S1 = q2 at A2 q2_lo q_ne_q2 ⊢
  rw [rn_neA_l A.h A2.h]
  simp only [rn_asB]
  cases st with
  | nil =>
    refine ⟨fun h => (nomatch h), fun _ => ?_⟩
    unfold dueV at hDu
    exact ⟨hDu, X⟩
  | cons p st =>
    obtain ⟨w, x⟩ := p
    refine ⟨fun _ => ?_, fun h => ?_⟩
    · have hx := hVs.all (w, x) List.mem_cons_self
      have hwl : w.length ≤ many := hw (w, x) List.mem_cons_self
      have hst : ((w, x) :: st).reverse.map wt = st.reverse.map wt ++ [wt (w, x)] := by simp
      rw [hst] at A
      rw [rs_cons, rs_asg]
      try simp only [rn_var, rn_c, rn_op, rn_un, rn_dE, rn_ch, rn_dAnd, rn_dOr, rn_dNot, rn_dYes, rn_and, rn_or, rn_not, rn_if, rn_aNil, rn_aCons, rn_A, rn_mkT, rn_mkL, rn_oNon, rn_asI, rn_oSm, rn_sl, rn_M, rn_isi, rn_lrev, rn_add_i, rn_add_t, rn_sub_i, rn_mul_i, rn_fdiv_i, rn_mod_i, rn_pow_i, rn_lt_i, rn_le_i, rn_gt_i, rn_ge_i, rn_neg_i, rn_eq_i, rn_ne_i, rn_eq_b, rn_eq_s, rn_is, rn_isnot, rn_sl_t, kN_nx, kN_rt, kN_bk, kN_ct, rs_nil, rs_brk, rs_cnt, rs_ret, rs_retN, rn_int_i, rn_abs_i, rn_asB, rn_iSeq, rn_iRng1, rn_iEnu, rn_iZp, rn_iRng2, rn_iRng3, rn_iRv, rn_dic0, rn_dic1, rn_max2, rn_MT, ex_tup, rn_revS, isTy_str, List.getElem?_cons_zero, List.getElem?_cons_succ, List.set_cons_succ, List.set_cons_zero, List.length_cons, List.length_nil, Nat.reduceAdd, Nat.zero_add, reduceIte, Nat.reduceLeDiff, true_and, List.cons_append, List.nil_append, isTy_lst A.h, rn_len_l A.h, rn_append A.h, isTy_lst A2.h, rn_len_l A2.h, rn_append A2.h, rn_pop A.h]
      generalize hS_3 : List.set S_2 q _ = S_3
      have W_3 := At.wrs' A hS_3
      have A' := At.put' A hS_3
      replace A2 := A2.wr W_3 (by first | assumption | exact Ne.symm (by assumption) | omega)
      replace Xv := Xv.wr W_3 (by first | assumption | omega)
      replace X := X.wr W_3 A.lo
      clear hS_3 A
      have A := A'
      clear A'
      refine ⟨[(5, ways w), (6, x)], rfl, ?_⟩
      try simp only [setP, wipeP, List.foldl_cons, List.foldl_nil, List.set_cons_succ, List.set_cons_zero]
      have h40 : ((many : Int) == 40) = decide (many = 40) := by by_cases c : many = 40 <;> simp [c]; omega
      rw [rs_cons, rs_if]
      try simp only [rn_var, rn_c, rn_op, rn_un, rn_dE, rn_ch, rn_dAnd, rn_dOr, rn_dNot, rn_dYes, rn_and, rn_or, rn_not, rn_if, rn_aNil, rn_aCons, rn_A, rn_mkT, rn_mkL, rn_oNon, rn_asI, rn_oSm, rn_sl, rn_M, rn_isi, rn_lrev, rn_add_i, rn_add_t, rn_sub_i, rn_mul_i, rn_fdiv_i, rn_mod_i, rn_pow_i, rn_lt_i, rn_le_i, rn_gt_i, rn_ge_i, rn_neg_i, rn_eq_i, rn_ne_i, rn_eq_b, rn_eq_s, rn_is, rn_isnot, rn_sl_t, kN_nx, kN_rt, kN_bk, kN_ct, rs_nil, rs_brk, rs_cnt, rs_ret, rs_retN, rn_int_i, rn_abs_i, rn_asB, rn_iSeq, rn_iRng1, rn_iEnu, rn_iZp, rn_iRng2, rn_iRng3, rn_iRv, rn_dic0, rn_dic1, rn_max2, rn_MT, ex_tup, rn_revS, isTy_str, List.getElem?_cons_zero, List.getElem?_cons_succ, List.set_cons_succ, List.set_cons_zero, List.length_cons, List.length_nil, Nat.reduceAdd, Nat.zero_add, reduceIte, Nat.reduceLeDiff, true_and, List.cons_append, List.nil_append, isTy_lst A.h, rn_len_l A.h, rn_append A.h, isTy_lst A2.h, rn_len_l A2.h, rn_append A2.h, h40]
      refine ⟨fun hc => ?_, fun hc => ?_⟩
      · have hc := of_decide_eq_true hc
        subst hc
        unfold dueV at hDu
        try simp only [rn_var, rn_c, rn_op, rn_un, rn_dE, rn_ch, rn_dAnd, rn_dOr, rn_dNot, rn_dYes, rn_and, rn_or, rn_not, rn_if, rn_aNil, rn_aCons, rn_A, rn_mkT, rn_mkL, rn_oNon, rn_asI, rn_oSm, rn_sl, rn_M, rn_isi, rn_lrev, rn_add_i, rn_add_t, rn_sub_i, rn_mul_i, rn_fdiv_i, rn_mod_i, rn_pow_i, rn_lt_i, rn_le_i, rn_gt_i, rn_ge_i, rn_neg_i, rn_eq_i, rn_ne_i, rn_eq_b, rn_eq_s, rn_is, rn_isnot, rn_sl_t, kN_nx, kN_rt, kN_bk, kN_ct, rs_nil, rs_cons, rs_brk, rs_cnt, rs_ex, rs_ret, rs_retN, rs_if, rs_set, rs_par, rs_par3, rs_asg, rs_sub, rn_int_i, rn_abs_i, rn_asB, rn_iSeq, rn_iRng1, rn_iEnu, rn_iZp, rn_iRng2, rn_iRng3, rn_iRv, rn_dic0, rn_dic1, rn_max2, rn_MT, ex_tup, rn_revS, isTy_str, List.getElem?_cons_zero, List.getElem?_cons_succ, List.set_cons_succ, List.set_cons_zero, List.length_cons, List.length_nil, Nat.reduceAdd, Nat.zero_add, reduceIte, Nat.reduceLeDiff, true_and, List.cons_append, List.nil_append, isTy_lst A.h, rn_len_l A.h, rn_append A.h, isTy_lst A2.h, rn_len_l A2.h, rn_append A2.h]
        exact ⟨hDu, X⟩
      · have hc := of_decide_eq_false hc
        obtain ⟨f, hf⟩ : ∃ f, 40 - many = f + 1 := ⟨39 - many, by omega⟩
        rw [hf] at hDu
        unfold dueV at hDu
        try simp only [rn_var, rn_c, rn_op, rn_un, rn_dE, rn_ch, rn_dAnd, rn_dOr, rn_dNot, rn_dYes, rn_and, rn_or, rn_not, rn_if, rn_aNil, rn_aCons, rn_A, rn_mkT, rn_mkL, rn_oNon, rn_asI, rn_oSm, rn_sl, rn_M, rn_isi, rn_lrev, rn_add_i, rn_add_t, rn_sub_i, rn_mul_i, rn_fdiv_i, rn_mod_i, rn_pow_i, rn_lt_i, rn_le_i, rn_gt_i, rn_ge_i, rn_neg_i, rn_eq_i, rn_ne_i, rn_eq_b, rn_eq_s, rn_is, rn_isnot, rn_sl_t, kN_nx, kN_rt, kN_bk, kN_ct, rs_nil, rs_brk, rs_cnt, rs_ret, rs_retN, rn_int_i, rn_abs_i, rn_asB, rn_iSeq, rn_iRng1, rn_iEnu, rn_iZp, rn_iRng2, rn_iRng3, rn_iRv, rn_dic0, rn_dic1, rn_max2, rn_MT, ex_tup, rn_revS, isTy_str, List.getElem?_cons_zero, List.getElem?_cons_succ, List.set_cons_succ, List.set_cons_zero, List.length_cons, List.length_nil, Nat.reduceAdd, Nat.zero_add, reduceIte, Nat.reduceLeDiff, true_and, List.cons_append, List.nil_append, isTy_lst A.h, rn_len_l A.h, rn_append A.h, isTy_lst A2.h, rn_len_l A2.h, rn_append A2.h]
        rw [rs_cons, rs_set]
        try simp only [rn_var, rn_c, rn_op, rn_un, rn_dE, rn_ch, rn_dAnd, rn_dOr, rn_dNot, rn_dYes, rn_and, rn_or, rn_not, rn_if, rn_aNil, rn_aCons, rn_A, rn_mkT, rn_mkL, rn_oNon, rn_asI, rn_oSm, rn_sl, rn_M, rn_isi, rn_lrev, rn_add_i, rn_add_t, rn_sub_i, rn_mul_i, rn_fdiv_i, rn_mod_i, rn_pow_i, rn_lt_i, rn_le_i, rn_gt_i, rn_ge_i, rn_neg_i, rn_eq_i, rn_ne_i, rn_eq_b, rn_eq_s, rn_is, rn_isnot, rn_sl_t, kN_nx, kN_rt, kN_bk, kN_ct, rs_nil, rs_brk, rs_cnt, rs_ret, rs_retN, rn_int_i, rn_abs_i, rn_asB, rn_iSeq, rn_iRng1, rn_iEnu, rn_iZp, rn_iRng2, rn_iRng3, rn_iRv, rn_dic0, rn_dic1, rn_max2, rn_MT, ex_tup, rn_revS, isTy_str, List.getElem?_cons_zero, List.getElem?_cons_succ, List.set_cons_succ, List.set_cons_zero, List.length_cons, List.length_nil, Nat.reduceAdd, Nat.zero_add, reduceIte, Nat.reduceLeDiff, true_and, List.cons_append, List.nil_append, isTy_lst A.h, rn_len_l A.h, rn_append A.h, isTy_lst A2.h, rn_len_l A2.h, rn_append A2.h]
        rw [rs_if]
        try simp only [rn_var, rn_c, rn_op, rn_un, rn_dE, rn_ch, rn_dAnd, rn_dOr, rn_dNot, rn_dYes, rn_and, rn_or, rn_not, rn_if, rn_aNil, rn_aCons, rn_A, rn_mkT, rn_mkL, rn_oNon, rn_asI, rn_oSm, rn_sl, rn_M, rn_isi, rn_lrev, rn_add_i, rn_add_t, rn_sub_i, rn_mul_i, rn_fdiv_i, rn_mod_i, rn_pow_i, rn_lt_i, rn_le_i, rn_gt_i, rn_ge_i, rn_neg_i, rn_eq_i, rn_ne_i, rn_eq_b, rn_eq_s, rn_is, rn_isnot, rn_sl_t, kN_nx, kN_rt, kN_bk, kN_ct, rs_nil, rs_brk, rs_cnt, rs_ret, rs_retN, rn_int_i, rn_abs_i, rn_asB, rn_iSeq, rn_iRng1, rn_iEnu, rn_iZp, rn_iRng2, rn_iRng3, rn_iRv, rn_dic0, rn_dic1, rn_max2, rn_MT, ex_tup, rn_revS, isTy_str, List.getElem?_cons_zero, List.getElem?_cons_succ, List.set_cons_succ, List.set_cons_zero, List.length_cons, List.length_nil, Nat.reduceAdd, Nat.zero_add, reduceIte, Nat.reduceLeDiff, true_and, List.cons_append, List.nil_append, isTy_lst A.h, rn_len_l A.h, rn_append A.h, isTy_lst A2.h, rn_len_l A2.h, rn_append A2.h]
        have hty := (hx.mv Xv).tyAll
        refine (whole_var hty.1).mono ?_
        rintro r S_4 ⟨rfl, hS_4⟩
        rw [hS_4]
        clear hS_4 S_4
        simp only [rn_asB]
        have key : ∀ (st2 : List (List Int × PV)) (S5 : Sto) (x7 x8 x9 : Option PV), dueV sg nv f st2 = D → At b c S0.length S5 q (.lst (st2.reverse.map wt)) → Vs b c n Sv st2 → (∀ p ∈ st2, p.1.length ≤ many + 1) → st2.length ≤ 3 * (many + 1) + 1 → Ext b c Sv S5 → Ext b c S0 S5 →
            ∃ m', m' < k ∧ ∃ (many' : Nat) (st : List (List Int × PV)) (y5 y6 y7 y8 y9 : Option PV), [some (PV.tup (sg.map PV.int)), some v, some (.int nv), some (.loc q), some (.int ((many : Int) + 1)), some (ways w), some x, x7, x8, x9] = [some (.tup (sg.map PV.int)), some v, some (.int nv), some (.loc q), some (.int (many' : Int)), y5, y6, y7, y8, y9] ∧ m' + many' = 41 ∧ many' ≤ 40 ∧ At b c S0.length S5 q (.lst (st.reverse.map wt)) ∧ dueV sg nv (40 - many') st = D ∧ Vs b c n Sv st ∧ (∀ p ∈ st, p.1.length ≤ many') ∧ st.length ≤ 3 * many' + 1 ∧ Ext b c Sv S5 ∧ Ext b c S0 S5 := fun st2 S5 x7 x8 x9 h1 h2 h3 h4 h5 h6 h7 =>
          ⟨k - 1, by omega, many + 1, st2, _, _, _, _, _, rfl, by omega, by omega, h2, by rw [show 40 - (many + 1) = f by omega]; exact h1, h3, h4, h5, h6, h7⟩
        refine ⟨fun hvar => ?_, fun hvar => ?_⟩
        · have hvar : isVar nv x = false := by simpa using hvar
          rw [hvar] at hDu
          rw [if_neg (by decide)] at hDu
          rw [rs_cons, rs_if]
          try simp only [rn_var, rn_c, rn_op, rn_un, rn_dE, rn_ch, rn_dAnd, rn_dOr, rn_dNot, rn_dYes, rn_and, rn_or, rn_not, rn_if, rn_aNil, rn_aCons, rn_A, rn_mkT, rn_mkL, rn_oNon, rn_asI, rn_oSm, rn_sl, rn_M, rn_isi, rn_lrev, rn_add_i, rn_add_t, rn_sub_i, rn_mul_i, rn_fdiv_i, rn_mod_i, rn_pow_i, rn_lt_i, rn_le_i, rn_gt_i, rn_ge_i, rn_neg_i, rn_eq_i, rn_ne_i, rn_eq_b, rn_eq_s, rn_is, rn_isnot, rn_sl_t, kN_nx, kN_rt, kN_bk, kN_ct, rs_nil, rs_brk, rs_cnt, rs_ret, rs_retN, rn_int_i, rn_abs_i, rn_asB, rn_iSeq, rn_iRng1, rn_iEnu, rn_iZp, rn_iRng2, rn_iRng3, rn_iRv, rn_dic0, rn_dic1, rn_max2, rn_MT, ex_tup, rn_revS, isTy_str, List.getElem?_cons_zero, List.getElem?_cons_succ, List.set_cons_succ, List.set_cons_zero, List.length_cons, List.length_nil, Nat.reduceAdd, Nat.zero_add, reduceIte, Nat.reduceLeDiff, true_and, List.cons_append, List.nil_append, isTy_lst A.h, rn_len_l A.h, rn_append A.h, isTy_lst A2.h, rn_len_l A2.h, rn_append A2.h]
          refine (thing_spec hs hty).mono ?_
          rintro r S_5 ⟨rfl, hS_5⟩
          rw [hS_5]
          clear hS_5 S_5
          simp only [rn_asB]
          refine ⟨fun hth => ?_, fun hth => ?_⟩
          · have hth : isThing sg x = false := by simpa using hth
            rw [hth, if_neg (by decide)] at hDu
            try simp only [rn_var, rn_c, rn_op, rn_un, rn_dE, rn_ch, rn_dAnd, rn_dOr, rn_dNot, rn_dYes, rn_and, rn_or, rn_not, rn_if, rn_aNil, rn_aCons, rn_A, rn_mkT, rn_mkL, rn_oNon, rn_asI, rn_oSm, rn_sl, rn_M, rn_isi, rn_lrev, rn_add_i, rn_add_t, rn_sub_i, rn_mul_i, rn_fdiv_i, rn_mod_i, rn_pow_i, rn_lt_i, rn_le_i, rn_gt_i, rn_ge_i, rn_neg_i, rn_eq_i, rn_ne_i, rn_eq_b, rn_eq_s, rn_is, rn_isnot, rn_sl_t, kN_nx, kN_rt, kN_bk, kN_ct, rs_nil, rs_cons, rs_brk, rs_cnt, rs_ex, rs_ret, rs_retN, rs_if, rs_set, rs_par, rs_par3, rs_asg, rs_sub, rn_int_i, rn_abs_i, rn_asB, rn_iSeq, rn_iRng1, rn_iEnu, rn_iZp, rn_iRng2, rn_iRng3, rn_iRv, rn_dic0, rn_dic1, rn_max2, rn_MT, ex_tup, rn_revS, isTy_str, List.getElem?_cons_zero, List.getElem?_cons_succ, List.set_cons_succ, List.set_cons_zero, List.length_cons, List.length_nil, Nat.reduceAdd, Nat.zero_add, reduceIte, Nat.reduceLeDiff, true_and, List.cons_append, List.nil_append, isTy_lst A.h, rn_len_l A.h, rn_append A.h, isTy_lst A2.h, rn_len_l A2.h, rn_append A2.h]
            exact ⟨hDu, X⟩
          · have hth : isThing sg x = true := by simpa using hth
            rw [hth, if_pos rfl] at hDu
            obtain ⟨s, r, rfl⟩ : ∃ s r, x = .tup (s :: r) := by
              unfold isThing at hth
              split at hth
              · exact ⟨_, _, rfl⟩
              · cases hth
            have hr3 : r.length ≤ 3 := by
              unfold isThing at hth
              split at hth
              · rename_i i r' e
                cases e
                split at hth
                · rename_i a ha
                  have := hs.2.2.1 a (List.mem_of_getElem? ha)
                  simp at hth
                  omega
                · simp at hth
              · cases hth
            have eC : cutP (s :: r) (some 1) none = r := by rw [cut_fromI (by omega)]; rfl
            try simp only [rn_var, rn_c, rn_op, rn_un, rn_dE, rn_ch, rn_dAnd, rn_dOr, rn_dNot, rn_dYes, rn_and, rn_or, rn_not, rn_if, rn_aNil, rn_aCons, rn_A, rn_mkT, rn_mkL, rn_oNon, rn_asI, rn_oSm, rn_sl, rn_M, rn_isi, rn_lrev, rn_add_i, rn_add_t, rn_sub_i, rn_mul_i, rn_fdiv_i, rn_mod_i, rn_pow_i, rn_lt_i, rn_le_i, rn_gt_i, rn_ge_i, rn_neg_i, rn_eq_i, rn_ne_i, rn_eq_b, rn_eq_s, rn_is, rn_isnot, rn_sl_t, kN_nx, kN_rt, kN_bk, kN_ct, rs_nil, rs_brk, rs_cnt, rs_ret, rs_retN, rn_int_i, rn_abs_i, rn_asB, rn_iSeq, rn_iRng1, rn_iEnu, rn_iZp, rn_iRng2, rn_iRng3, rn_iRv, rn_dic0, rn_dic1, rn_max2, rn_MT, ex_tup, rn_revS, isTy_str, List.getElem?_cons_zero, List.getElem?_cons_succ, List.set_cons_succ, List.set_cons_zero, List.length_cons, List.length_nil, Nat.reduceAdd, Nat.zero_add, reduceIte, Nat.reduceLeDiff, true_and, List.cons_append, List.nil_append, isTy_lst A.h, rn_len_l A.h, rn_append A.h, isTy_lst A2.h, rn_len_l A2.h, rn_append A2.h]
            rw [rs_cons, rs_set]
            try simp only [rn_var, rn_c, rn_op, rn_un, rn_dE, rn_ch, rn_dAnd, rn_dOr, rn_dNot, rn_dYes, rn_and, rn_or, rn_not, rn_if, rn_aNil, rn_aCons, rn_A, rn_mkT, rn_mkL, rn_oNon, rn_asI, rn_oSm, rn_sl, rn_M, rn_isi, rn_lrev, rn_add_i, rn_add_t, rn_sub_i, rn_mul_i, rn_fdiv_i, rn_mod_i, rn_pow_i, rn_lt_i, rn_le_i, rn_gt_i, rn_ge_i, rn_neg_i, rn_eq_i, rn_ne_i, rn_eq_b, rn_eq_s, rn_is, rn_isnot, rn_sl_t, kN_nx, kN_rt, kN_bk, kN_ct, rs_nil, rs_brk, rs_cnt, rs_ret, rs_retN, rn_int_i, rn_abs_i, rn_asB, rn_iSeq, rn_iRng1, rn_iEnu, rn_iZp, rn_iRng2, rn_iRng3, rn_iRv, rn_dic0, rn_dic1, rn_max2, rn_MT, ex_tup, rn_revS, isTy_str, List.getElem?_cons_zero, List.getElem?_cons_succ, List.set_cons_succ, List.set_cons_zero, List.length_cons, List.length_nil, Nat.reduceAdd, Nat.zero_add, reduceIte, Nat.reduceLeDiff, true_and, List.cons_append, List.nil_append, isTy_lst A.h, rn_len_l A.h, rn_append A.h, isTy_lst A2.h, rn_len_l A2.h, rn_append A2.h]
            refine lc_map (enuL r) (fun z y => y = match z with
              | .pr (.int i) v => .tup [ways (w ++ [i]), v]
              | _ => .non) (fun S6 => S6 = S_3) ?_ (by rw [enu_len]; omega) (fun z hz S6 h6 => ?_) (fun ys S6 hA h6 => ?_)
            · try simp only [rn_var, rn_c, rn_op, rn_un, rn_dE, rn_ch, rn_dAnd, rn_dOr, rn_dNot, rn_dYes, rn_and, rn_or, rn_not, rn_if, rn_aNil, rn_aCons, rn_A, rn_mkT, rn_mkL, rn_oNon, rn_asI, rn_oSm, rn_sl, rn_M, rn_isi, rn_lrev, rn_add_i, rn_add_t, rn_sub_i, rn_mul_i, rn_fdiv_i, rn_mod_i, rn_pow_i, rn_lt_i, rn_le_i, rn_gt_i, rn_ge_i, rn_neg_i, rn_eq_i, rn_ne_i, rn_eq_b, rn_eq_s, rn_is, rn_isnot, rn_sl_t, kN_nx, kN_rt, kN_bk, kN_ct, rs_nil, rs_cons, rs_brk, rs_cnt, rs_ex, rs_ret, rs_retN, rs_if, rs_set, rs_par, rs_par3, rs_asg, rs_sub, rn_int_i, rn_abs_i, rn_asB, rn_iSeq, rn_iRng1, rn_iEnu, rn_iZp, rn_iRng2, rn_iRng3, rn_iRv, rn_dic0, rn_dic1, rn_max2, rn_MT, ex_tup, rn_revS, isTy_str, List.getElem?_cons_zero, List.getElem?_cons_succ, List.set_cons_succ, List.set_cons_zero, List.length_cons, List.length_nil, Nat.reduceAdd, Nat.zero_add, reduceIte, Nat.reduceLeDiff, true_and, List.cons_append, List.nil_append, isTy_lst A.h, rn_len_l A.h, rn_append A.h, isTy_lst A2.h, rn_len_l A2.h, rn_append A2.h, eC]
              exact ⟨_, _, rfl, rfl, fun i S _ => wE_at rfl⟩
            · subst h6
              obtain ⟨i, y, hi, rfl⟩ := enu_mem hz
              refine ⟨[(8, .int i), (9, y)], rfl, rfl, ?_⟩
              try simp only [setP, wipeP, List.foldl_cons, List.foldl_nil, List.set_cons_succ, List.set_cons_zero]
              try simp only [rn_var, rn_c, rn_op, rn_un, rn_dE, rn_ch, rn_dAnd, rn_dOr, rn_dNot, rn_dYes, rn_and, rn_or, rn_not, rn_if, rn_aNil, rn_aCons, rn_A, rn_mkT, rn_mkL, rn_oNon, rn_asI, rn_oSm, rn_sl, rn_M, rn_isi, rn_lrev, rn_add_i, rn_add_t, rn_sub_i, rn_mul_i, rn_fdiv_i, rn_mod_i, rn_pow_i, rn_lt_i, rn_le_i, rn_gt_i, rn_ge_i, rn_neg_i, rn_eq_i, rn_ne_i, rn_eq_b, rn_eq_s, rn_is, rn_isnot, rn_sl_t, kN_nx, kN_rt, kN_bk, kN_ct, rs_nil, rs_cons, rs_brk, rs_cnt, rs_ex, rs_ret, rs_retN, rs_if, rs_set, rs_par, rs_par3, rs_asg, rs_sub, rn_int_i, rn_abs_i, rn_asB, rn_iSeq, rn_iRng1, rn_iEnu, rn_iZp, rn_iRng2, rn_iRng3, rn_iRv, rn_dic0, rn_dic1, rn_max2, rn_MT, ex_tup, rn_revS, isTy_str, List.getElem?_cons_zero, List.getElem?_cons_succ, List.set_cons_succ, List.set_cons_zero, List.length_cons, List.length_nil, Nat.reduceAdd, Nat.zero_add, reduceIte, Nat.reduceLeDiff, true_and, List.cons_append, List.nil_append, isTy_lst A.h, rn_len_l A.h, rn_append A.h, isTy_lst A2.h, rn_len_l A2.h, rn_append A2.h, ways_app (show w.length ≤ 1000 by omega)]
            · rw [hA.map_eq, ← inner_wt (y := s)]
              subst h6
              have hil : (innerOf w (.tup (s :: r))).length = r.length := by unfold innerOf; simp
              generalize hS_6 : S6 ++ [_] = S_6
              have A3 := At.new' X hS_6
              have Y_6 := Ext.new' X hS_6
              have q3_lo := X.len
              have q_ne_q3 := A.lt
              replace A := A.mv Y_6
              replace Xv := Xv.mv Y_6
              replace X := X.mv Y_6
              clear hS_6
              generalize hq_q3 : List.length S6 = q3 at A3 q3_lo q_ne_q3 ⊢
              rw [rs_ex]
              try simp only [rn_var, rn_c, rn_op, rn_un, rn_dE, rn_ch, rn_dAnd, rn_dOr, rn_dNot, rn_dYes, rn_and, rn_or, rn_not, rn_if, rn_aNil, rn_aCons, rn_A, rn_mkT, rn_mkL, rn_oNon, rn_asI, rn_oSm, rn_sl, rn_M, rn_isi, rn_lrev, rn_add_i, rn_add_t, rn_sub_i, rn_mul_i, rn_fdiv_i, rn_mod_i, rn_pow_i, rn_lt_i, rn_le_i, rn_gt_i, rn_ge_i, rn_neg_i, rn_eq_i, rn_ne_i, rn_eq_b, rn_eq_s, rn_is, rn_isnot, rn_sl_t, kN_nx, kN_rt, kN_bk, kN_ct, rs_nil, rs_brk, rs_cnt, rs_ret, rs_retN, rn_int_i, rn_abs_i, rn_asB, rn_iSeq, rn_iRng1, rn_iEnu, rn_iZp, rn_iRng2, rn_iRng3, rn_iRv, rn_dic0, rn_dic1, rn_max2, rn_MT, ex_tup, rn_revS, isTy_str, List.getElem?_cons_zero, List.getElem?_cons_succ, List.set_cons_succ, List.set_cons_zero, List.length_cons, List.length_nil, Nat.reduceAdd, Nat.zero_add, reduceIte, Nat.reduceLeDiff, true_and, List.cons_append, List.nil_append, isTy_lst A.h, rn_len_l A.h, rn_append A.h, isTy_lst A3.h, rn_len_l A3.h, rn_append A3.h]
              rw [rn_rev_l A3.h (by rw [List.length_map]; omega)]
              generalize hS_7 : S_6 ++ [_] = S_7
              have A4 := At.new' X hS_7
              have Y_7 := Ext.new' X hS_7
              have q4_lo := X.len
              have q_ne_q4 := A.lt
              have q3_ne_q4 := A3.lt
              replace A := A.mv Y_7
              replace A3 := A3.mv Y_7
              replace Xv := Xv.mv Y_7
              replace X := X.mv Y_7
              clear hS_7
              generalize hq_q4 : List.length S_6 = q4 at A4 q4_lo q_ne_q4 q3_ne_q4 ⊢
              rw [rn_extend A.h A4.h]
              refine ⟨by simp at hsl ⊢; omega, ?_⟩
              generalize hS_8 : List.set S_7 q _ = S_8
              have W_8 := At.wrs' A hS_8
              have A' := At.put' A hS_8
              replace A3 := A3.wr W_8 (by first | assumption | exact Ne.symm (by assumption) | omega)
              replace A4 := A4.wr W_8 (by first | assumption | exact Ne.symm (by assumption) | omega)
              replace Xv := Xv.wr W_8 (by first | assumption | omega)
              replace X := X.wr W_8 A.lo
              clear hS_8 A
              have A := A'
              clear A'
              refine key (innerOf w (.tup (s :: r)) ++ st) _ _ _ _ hDu ?_ ((Vs.inner hx).append hVs.tail) ?_ (by rw [List.length_append, hil]; simp at hsl; omega) Xv X
              · rw [List.reverse_append, List.map_append, List.map_reverse (l := innerOf w (.tup (s :: r)))]
                exact A
              · intro p hp
                rcases List.mem_append.mp hp with h | h
                · unfold innerOf at h
                  obtain ⟨j, hj, rfl⟩ := List.mem_mapIdx.mp h
                  simp only [List.length_append, List.length_cons, List.length_nil]
                  omega
                · have := hw p (List.mem_cons_of_mem _ h)
                  omega
        · have hvar : isVar nv x = true := by simpa using hvar
          rw [hvar, if_pos rfl] at hDu
          try simp only [rn_var, rn_c, rn_op, rn_un, rn_dE, rn_ch, rn_dAnd, rn_dOr, rn_dNot, rn_dYes, rn_and, rn_or, rn_not, rn_if, rn_aNil, rn_aCons, rn_A, rn_mkT, rn_mkL, rn_oNon, rn_asI, rn_oSm, rn_sl, rn_M, rn_isi, rn_lrev, rn_add_i, rn_add_t, rn_sub_i, rn_mul_i, rn_fdiv_i, rn_mod_i, rn_pow_i, rn_lt_i, rn_le_i, rn_gt_i, rn_ge_i, rn_neg_i, rn_eq_i, rn_ne_i, rn_eq_b, rn_eq_s, rn_is, rn_isnot, rn_sl_t, kN_nx, kN_rt, kN_bk, kN_ct, rs_nil, rs_cons, rs_brk, rs_cnt, rs_ex, rs_ret, rs_retN, rs_if, rs_set, rs_par, rs_par3, rs_asg, rs_sub, rn_int_i, rn_abs_i, rn_asB, rn_iSeq, rn_iRng1, rn_iEnu, rn_iZp, rn_iRng2, rn_iRng3, rn_iRv, rn_dic0, rn_dic1, rn_max2, rn_MT, ex_tup, rn_revS, isTy_str, List.getElem?_cons_zero, List.getElem?_cons_succ, List.set_cons_succ, List.set_cons_zero, List.length_cons, List.length_nil, Nat.reduceAdd, Nat.zero_add, reduceIte, Nat.reduceLeDiff, true_and, List.cons_append, List.nil_append, isTy_lst A.h, rn_len_l A.h, rn_append A.h, isTy_lst A2.h, rn_len_l A2.h, rn_append A2.h]
          exact key st _ _ _ _ hDu A hVs.tail (fun p hp => by have := hw p (List.mem_cons_of_mem _ hp); omega) (by simp at hsl; omega) Xv X
    · simp [isNil] at h
theorem duet_spec {S0 S : Sto} {b c n : Nat} {sg : List Int} {v : PV} (hs : SigOk sg) (X : Ext b c S0 S) (hv : Vk b c n S v) : Rn (f__law_due_term [.tup (sg.map PV.int), v] S) fun r S' => r = dueT sg 40 [([], v)] ∧ Ext b c S0 S' := by
  obtain ⟨Sv, hSv⟩ : ∃ Sv, Sv = S := ⟨S, rfl⟩
  have Xv : Ext b c Sv S := by rw [hSv]; exact Ext.refl X.bag
  have hv0 : Vk b c n Sv v := by rw [hSv]; exact hv
  have hSl : Sv.length = S.length := by rw [hSv]
  unfold f__law_due_term
  rw [rn_runD]
  unfold b__law_due_term
  show Rs (sCons _ _ [some (.tup (sg.map PV.int)), some (v), none, none, none, none, none] S) _
  rw [rs_cons, rs_set]
  try simp only [rn_var, rn_c, rn_op, rn_un, rn_dE, rn_ch, rn_dAnd, rn_dOr, rn_dNot, rn_dYes, rn_and, rn_or, rn_not, rn_if, rn_aNil, rn_aCons, rn_A, rn_mkT, rn_mkL, rn_oNon, rn_asI, rn_oSm, rn_sl, rn_M, rn_isi, rn_lrev, rn_add_i, rn_add_t, rn_sub_i, rn_mul_i, rn_fdiv_i, rn_mod_i, rn_pow_i, rn_lt_i, rn_le_i, rn_gt_i, rn_ge_i, rn_neg_i, rn_eq_i, rn_ne_i, rn_eq_b, rn_eq_s, rn_is, rn_isnot, rn_sl_t, kN_nx, kN_rt, kN_bk, kN_ct, rs_nil, rs_brk, rs_cnt, rs_ret, rs_retN, rn_int_i, rn_abs_i, rn_asB, rn_iSeq, rn_iRng1, rn_iEnu, rn_iZp, rn_iRng2, rn_iRng3, rn_iRv, rn_dic0, rn_dic1, rn_max2, rn_MT, ex_tup, rn_revS, isTy_str, List.getElem?_cons_zero, List.getElem?_cons_succ, List.set_cons_succ, List.set_cons_zero, List.length_cons, List.length_nil, Nat.reduceAdd, Nat.zero_add, reduceIte, Nat.reduceLeDiff, true_and, List.cons_append, List.nil_append]
  generalize hS_1 : S ++ [_] = S_1
  have A := At.new' X hS_1
  have Y_1 := Ext.new' X hS_1
  have q_lo := X.len
  replace Xv := Xv.mv Y_1
  replace X := X.mv Y_1
  clear hS_1
  generalize hq_q : List.length S = q at A q_lo  ⊢
  rw [rs_cons]
  generalize hD : dueT sg 40 [([], v)] = D
  refine for_rn ((List.range 41).map fun j : Nat => PV.int (0 + j)) (fun many e S1 => ∃ (st : List (List Int × PV)) (x3 x4 x5 x6 : Option PV), e = [some (.tup (sg.map PV.int)), some v, some (.loc q), x3, x4, x5, x6] ∧ many ≤ 40 ∧ At b c S0.length S1 q (.lst (st.reverse.map tw)) ∧ dueT sg (40 - many) st = D ∧ Vs b c n Sv st ∧ (∀ p ∈ st, p.1.length ≤ many) ∧ st.length ≤ 3 * many + 1 ∧ Ext b c Sv S1 ∧ Ext b c S0 S1) ?_ (fun many x e S1 hx ⟨st, x3, x4, x5, x6, he, hm, A, hDu, hVs, hw, hsl, Xv, X⟩ => ?_) (fun e S1 ⟨st, x3, x4, x5, x6, he, hm, A, hDu, hVs, hw, hsl, Xv, X⟩ => ?_)
  · try simp only [rn_var, rn_c, rn_op, rn_un, rn_dE, rn_ch, rn_dAnd, rn_dOr, rn_dNot, rn_dYes, rn_and, rn_or, rn_not, rn_if, rn_aNil, rn_aCons, rn_A, rn_mkT, rn_mkL, rn_oNon, rn_asI, rn_oSm, rn_sl, rn_M, rn_isi, rn_lrev, rn_add_i, rn_add_t, rn_sub_i, rn_mul_i, rn_fdiv_i, rn_mod_i, rn_pow_i, rn_lt_i, rn_le_i, rn_gt_i, rn_ge_i, rn_neg_i, rn_eq_i, rn_ne_i, rn_eq_b, rn_eq_s, rn_is, rn_isnot, rn_sl_t, kN_nx, kN_rt, kN_bk, kN_ct, rs_nil, rs_cons, rs_brk, rs_cnt, rs_ex, rs_ret, rs_retN, rs_if, rs_set, rs_par, rs_par3, rs_asg, rs_sub, rn_int_i, rn_abs_i, rn_asB, rn_iSeq, rn_iRng1, rn_iEnu, rn_iZp, rn_iRng2, rn_iRng3, rn_iRv, rn_dic0, rn_dic1, rn_max2, rn_MT, ex_tup, rn_revS, isTy_str, List.getElem?_cons_zero, List.getElem?_cons_succ, List.set_cons_succ, List.set_cons_zero, List.length_cons, List.length_nil, Nat.reduceAdd, Nat.zero_add, reduceIte, Nat.reduceLeDiff, true_and, List.cons_append, List.nil_append, isTy_lst A.h, rn_len_l A.h, rn_append A.h]
    exact ⟨_, rfl, by omega, ⟨[([], v)], none, none, none, none, rfl, A, hD, ⟨fun p hp => by rw [List.mem_singleton.mp hp]; exact hv0⟩, (fun p hp => by rw [List.mem_singleton.mp hp]; simp), by simp, Xv, X⟩, fun i e S _ => wR_at i⟩
  · skip
    subst he
    have hi := lt_of_get hx
    simp only [List.length_map, List.length_range] at hi
    rw [List.getElem?_map, List.getElem?_range hi] at hx
    cases hx
    refine ⟨_, rfl, ?_⟩
    try simp only [setP, wipeP, List.foldl_cons, List.foldl_nil, List.set_cons_succ, List.set_cons_zero]
    rw [rs_cons, rs_if]
    try simp only [rn_var, rn_c, rn_op, rn_un, rn_dE, rn_ch, rn_dAnd, rn_dOr, rn_dNot, rn_dYes, rn_and, rn_or, rn_not, rn_if, rn_aNil, rn_aCons, rn_A, rn_mkT, rn_mkL, rn_oNon, rn_asI, rn_oSm, rn_sl, rn_M, rn_isi, rn_lrev, rn_add_i, rn_add_t, rn_sub_i, rn_mul_i, rn_fdiv_i, rn_mod_i, rn_pow_i, rn_lt_i, rn_le_i, rn_gt_i, rn_ge_i, rn_neg_i, rn_eq_i, rn_ne_i, rn_eq_b, rn_eq_s, rn_is, rn_isnot, rn_sl_t, kN_nx, kN_rt, kN_bk, kN_ct, rs_nil, rs_brk, rs_cnt, rs_ret, rs_retN, rn_int_i, rn_abs_i, rn_asB, rn_iSeq, rn_iRng1, rn_iEnu, rn_iZp, rn_iRng2, rn_iRng3, rn_iRv, rn_dic0, rn_dic1, rn_max2, rn_MT, ex_tup, rn_revS, isTy_str, List.getElem?_cons_zero, List.getElem?_cons_succ, List.set_cons_succ, List.set_cons_zero, List.length_cons, List.length_nil, Nat.reduceAdd, Nat.zero_add, reduceIte, Nat.reduceLeDiff, true_and, List.cons_append, List.nil_append, isTy_lst A.h, rn_len_l A.h, rn_append A.h]
    generalize hS_2 : S1 ++ [_] = S_2
    have A2 := At.new' X hS_2
    have Y_2 := Ext.new' X hS_2
    have q2_lo := X.len
    have q_ne_q2 := A.lt
    replace A := A.mv Y_2
    replace Xv := Xv.mv Y_2
    replace X := X.mv Y_2
    clear hS_2
    generalize hq_q2 : List.length S1 = q2 at A2 q2_lo q_ne_q2 ⊢
    rw [rn_eqA_l A.h A2.h]
    simp only [rn_asB]
    cases st with
    | nil =>
      refine ⟨fun _ => ?_, fun h => (nomatch h)⟩
      unfold dueT at hDu
      try simp only [rn_var, rn_c, rn_op, rn_un, rn_dE, rn_ch, rn_dAnd, rn_dOr, rn_dNot, rn_dYes, rn_and, rn_or, rn_not, rn_if, rn_aNil, rn_aCons, rn_A, rn_mkT, rn_mkL, rn_oNon, rn_asI, rn_oSm, rn_sl, rn_M, rn_isi, rn_lrev, rn_add_i, rn_add_t, rn_sub_i, rn_mul_i, rn_fdiv_i, rn_mod_i, rn_pow_i, rn_lt_i, rn_le_i, rn_gt_i, rn_ge_i, rn_neg_i, rn_eq_i, rn_ne_i, rn_eq_b, rn_eq_s, rn_is, rn_isnot, rn_sl_t, kN_nx, kN_rt, kN_bk, kN_ct, rs_nil, rs_cons, rs_brk, rs_cnt, rs_ex, rs_ret, rs_retN, rs_if, rs_set, rs_par, rs_par3, rs_asg, rs_sub, rn_int_i, rn_abs_i, rn_asB, rn_iSeq, rn_iRng1, rn_iEnu, rn_iZp, rn_iRng2, rn_iRng3, rn_iRv, rn_dic0, rn_dic1, rn_max2, rn_MT, ex_tup, rn_revS, isTy_str, List.getElem?_cons_zero, List.getElem?_cons_succ, List.set_cons_succ, List.set_cons_zero, List.length_cons, List.length_nil, Nat.reduceAdd, Nat.zero_add, reduceIte, Nat.reduceLeDiff, true_and, List.cons_append, List.nil_append, isTy_lst A.h, rn_len_l A.h, rn_append A.h, isTy_lst A2.h, rn_len_l A2.h, rn_append A2.h]
      exact ⟨hDu, X⟩
    | cons p st =>
      obtain ⟨w, x⟩ := p
      refine ⟨fun h => by simp [isNil] at h, fun _ => ?_⟩
      have hx := hVs.all (w, x) List.mem_cons_self
      have hwl : w.length ≤ many := hw (w, x) List.mem_cons_self
      have hst : ((w, x) :: st).reverse.map tw = st.reverse.map tw ++ [tw (w, x)] := by simp
      rw [hst] at A
      have h40 : ((0 + (many : Int)) == 40) = decide (many = 40) := by by_cases c : many = 40 <;> simp [c]; omega
      try simp only [rn_var, rn_c, rn_op, rn_un, rn_dE, rn_ch, rn_dAnd, rn_dOr, rn_dNot, rn_dYes, rn_and, rn_or, rn_not, rn_if, rn_aNil, rn_aCons, rn_A, rn_mkT, rn_mkL, rn_oNon, rn_asI, rn_oSm, rn_sl, rn_M, rn_isi, rn_lrev, rn_add_i, rn_add_t, rn_sub_i, rn_mul_i, rn_fdiv_i, rn_mod_i, rn_pow_i, rn_lt_i, rn_le_i, rn_gt_i, rn_ge_i, rn_neg_i, rn_eq_i, rn_ne_i, rn_eq_b, rn_eq_s, rn_is, rn_isnot, rn_sl_t, kN_nx, kN_rt, kN_bk, kN_ct, rs_nil, rs_brk, rs_cnt, rs_ret, rs_retN, rn_int_i, rn_abs_i, rn_asB, rn_iSeq, rn_iRng1, rn_iEnu, rn_iZp, rn_iRng2, rn_iRng3, rn_iRv, rn_dic0, rn_dic1, rn_max2, rn_MT, ex_tup, rn_revS, isTy_str, List.getElem?_cons_zero, List.getElem?_cons_succ, List.set_cons_succ, List.set_cons_zero, List.length_cons, List.length_nil, Nat.reduceAdd, Nat.zero_add, reduceIte, Nat.reduceLeDiff, true_and, List.cons_append, List.nil_append, isTy_lst A.h, rn_len_l A.h, rn_append A.h, isTy_lst A2.h, rn_len_l A2.h, rn_append A2.h]
      rw [rs_cons, rs_if]
      try simp only [rn_var, rn_c, rn_op, rn_un, rn_dE, rn_ch, rn_dAnd, rn_dOr, rn_dNot, rn_dYes, rn_and, rn_or, rn_not, rn_if, rn_aNil, rn_aCons, rn_A, rn_mkT, rn_mkL, rn_oNon, rn_asI, rn_oSm, rn_sl, rn_M, rn_isi, rn_lrev, rn_add_i, rn_add_t, rn_sub_i, rn_mul_i, rn_fdiv_i, rn_mod_i, rn_pow_i, rn_lt_i, rn_le_i, rn_gt_i, rn_ge_i, rn_neg_i, rn_eq_i, rn_ne_i, rn_eq_b, rn_eq_s, rn_is, rn_isnot, rn_sl_t, kN_nx, kN_rt, kN_bk, kN_ct, rs_nil, rs_brk, rs_cnt, rs_ret, rs_retN, rn_int_i, rn_abs_i, rn_asB, rn_iSeq, rn_iRng1, rn_iEnu, rn_iZp, rn_iRng2, rn_iRng3, rn_iRv, rn_dic0, rn_dic1, rn_max2, rn_MT, ex_tup, rn_revS, isTy_str, List.getElem?_cons_zero, List.getElem?_cons_succ, List.set_cons_succ, List.set_cons_zero, List.length_cons, List.length_nil, Nat.reduceAdd, Nat.zero_add, reduceIte, Nat.reduceLeDiff, true_and, List.cons_append, List.nil_append, isTy_lst A.h, rn_len_l A.h, rn_append A.h, isTy_lst A2.h, rn_len_l A2.h, rn_append A2.h, h40]
      refine ⟨fun hc => ?_, fun hc => ?_⟩
      · have hc := of_decide_eq_true hc
        subst hc
        unfold dueT at hDu
        try simp only [rn_var, rn_c, rn_op, rn_un, rn_dE, rn_ch, rn_dAnd, rn_dOr, rn_dNot, rn_dYes, rn_and, rn_or, rn_not, rn_if, rn_aNil, rn_aCons, rn_A, rn_mkT, rn_mkL, rn_oNon, rn_asI, rn_oSm, rn_sl, rn_M, rn_isi, rn_lrev, rn_add_i, rn_add_t, rn_sub_i, rn_mul_i, rn_fdiv_i, rn_mod_i, rn_pow_i, rn_lt_i, rn_le_i, rn_gt_i, rn_ge_i, rn_neg_i, rn_eq_i, rn_ne_i, rn_eq_b, rn_eq_s, rn_is, rn_isnot, rn_sl_t, kN_nx, kN_rt, kN_bk, kN_ct, rs_nil, rs_cons, rs_brk, rs_cnt, rs_ex, rs_ret, rs_retN, rs_if, rs_set, rs_par, rs_par3, rs_asg, rs_sub, rn_int_i, rn_abs_i, rn_asB, rn_iSeq, rn_iRng1, rn_iEnu, rn_iZp, rn_iRng2, rn_iRng3, rn_iRv, rn_dic0, rn_dic1, rn_max2, rn_MT, ex_tup, rn_revS, isTy_str, List.getElem?_cons_zero, List.getElem?_cons_succ, List.set_cons_succ, List.set_cons_zero, List.length_cons, List.length_nil, Nat.reduceAdd, Nat.zero_add, reduceIte, Nat.reduceLeDiff, true_and, List.cons_append, List.nil_append, isTy_lst A.h, rn_len_l A.h, rn_append A.h, isTy_lst A2.h, rn_len_l A2.h, rn_append A2.h]
        exact ⟨hDu, X⟩
      · have hc := of_decide_eq_false hc
        obtain ⟨f, hf⟩ : ∃ f, 40 - many = f + 1 := ⟨39 - many, by omega⟩
        rw [hf] at hDu
        unfold dueT at hDu
        try simp only [rn_var, rn_c, rn_op, rn_un, rn_dE, rn_ch, rn_dAnd, rn_dOr, rn_dNot, rn_dYes, rn_and, rn_or, rn_not, rn_if, rn_aNil, rn_aCons, rn_A, rn_mkT, rn_mkL, rn_oNon, rn_asI, rn_oSm, rn_sl, rn_M, rn_isi, rn_lrev, rn_add_i, rn_add_t, rn_sub_i, rn_mul_i, rn_fdiv_i, rn_mod_i, rn_pow_i, rn_lt_i, rn_le_i, rn_gt_i, rn_ge_i, rn_neg_i, rn_eq_i, rn_ne_i, rn_eq_b, rn_eq_s, rn_is, rn_isnot, rn_sl_t, kN_nx, kN_rt, kN_bk, kN_ct, rs_nil, rs_brk, rs_cnt, rs_ret, rs_retN, rn_int_i, rn_abs_i, rn_asB, rn_iSeq, rn_iRng1, rn_iEnu, rn_iZp, rn_iRng2, rn_iRng3, rn_iRv, rn_dic0, rn_dic1, rn_max2, rn_MT, ex_tup, rn_revS, isTy_str, List.getElem?_cons_zero, List.getElem?_cons_succ, List.set_cons_succ, List.set_cons_zero, List.length_cons, List.length_nil, Nat.reduceAdd, Nat.zero_add, reduceIte, Nat.reduceLeDiff, true_and, List.cons_append, List.nil_append, isTy_lst A.h, rn_len_l A.h, rn_append A.h, isTy_lst A2.h, rn_len_l A2.h, rn_append A2.h]
        rw [rs_cons, rs_asg]
        try simp only [rn_var, rn_c, rn_op, rn_un, rn_dE, rn_ch, rn_dAnd, rn_dOr, rn_dNot, rn_dYes, rn_and, rn_or, rn_not, rn_if, rn_aNil, rn_aCons, rn_A, rn_mkT, rn_mkL, rn_oNon, rn_asI, rn_oSm, rn_sl, rn_M, rn_isi, rn_lrev, rn_add_i, rn_add_t, rn_sub_i, rn_mul_i, rn_fdiv_i, rn_mod_i, rn_pow_i, rn_lt_i, rn_le_i, rn_gt_i, rn_ge_i, rn_neg_i, rn_eq_i, rn_ne_i, rn_eq_b, rn_eq_s, rn_is, rn_isnot, rn_sl_t, kN_nx, kN_rt, kN_bk, kN_ct, rs_nil, rs_brk, rs_cnt, rs_ret, rs_retN, rn_int_i, rn_abs_i, rn_asB, rn_iSeq, rn_iRng1, rn_iEnu, rn_iZp, rn_iRng2, rn_iRng3, rn_iRv, rn_dic0, rn_dic1, rn_max2, rn_MT, ex_tup, rn_revS, isTy_str, List.getElem?_cons_zero, List.getElem?_cons_succ, List.set_cons_succ, List.set_cons_zero, List.length_cons, List.length_nil, Nat.reduceAdd, Nat.zero_add, reduceIte, Nat.reduceLeDiff, true_and, List.cons_append, List.nil_append, isTy_lst A.h, rn_len_l A.h, rn_append A.h, isTy_lst A2.h, rn_len_l A2.h, rn_append A2.h, rn_pop A.h]
        generalize hS_3 : List.set S_2 q _ = S_3
        have W_3 := At.wrs' A hS_3
        have A' := At.put' A hS_3
        replace A2 := A2.wr W_3 (by first | assumption | exact Ne.symm (by assumption) | omega)
        replace Xv := Xv.wr W_3 (by first | assumption | omega)
        replace X := X.wr W_3 A.lo
        clear hS_3 A
        have A := A'
        clear A'
        refine ⟨[(4, x), (5, ways w)], rfl, ?_⟩
        try simp only [setP, wipeP, List.foldl_cons, List.foldl_nil, List.set_cons_succ, List.set_cons_zero]
        have hty := (hx.mv Xv).tyAll
        have bad : isThing sg x = false → PV.tup [.str "form", ways w] = D ∧ Ext b c S0 S_3 := fun h => by
          rw [h, if_neg (by decide)] at hDu
          exact ⟨hDu, X⟩
        rw [rs_cons, rs_if]
        rcases hty.1.cases with e | ⟨v, e⟩ | ⟨i, e⟩ | ⟨z, e⟩ | ⟨xs, e⟩ | ⟨ht, ⟨m, e⟩ | ⟨m, e⟩⟩ | ⟨ht, m, e⟩
        · have e : x = _ := e
          subst e
          try simp only [rn_var, rn_c, rn_op, rn_un, rn_dE, rn_ch, rn_dAnd, rn_dOr, rn_dNot, rn_dYes, rn_and, rn_or, rn_not, rn_if, rn_aNil, rn_aCons, rn_A, rn_mkT, rn_mkL, rn_oNon, rn_asI, rn_oSm, rn_sl, rn_M, rn_isi, rn_lrev, rn_add_i, rn_add_t, rn_sub_i, rn_mul_i, rn_fdiv_i, rn_mod_i, rn_pow_i, rn_lt_i, rn_le_i, rn_gt_i, rn_ge_i, rn_neg_i, rn_eq_i, rn_ne_i, rn_eq_b, rn_eq_s, rn_is, rn_isnot, rn_sl_t, kN_nx, kN_rt, kN_bk, kN_ct, rs_nil, rs_cons, rs_brk, rs_cnt, rs_ex, rs_ret, rs_retN, rs_if, rs_set, rs_par, rs_par3, rs_asg, rs_sub, rn_int_i, rn_abs_i, rn_asB, rn_iSeq, rn_iRng1, rn_iEnu, rn_iZp, rn_iRng2, rn_iRng3, rn_iRv, rn_dic0, rn_dic1, rn_max2, rn_MT, ex_tup, rn_revS, isTy_str, List.getElem?_cons_zero, List.getElem?_cons_succ, List.set_cons_succ, List.set_cons_zero, List.length_cons, List.length_nil, Nat.reduceAdd, Nat.zero_add, reduceIte, Nat.reduceLeDiff, true_and, List.cons_append, List.nil_append, forall_const, true_implies, false_implies, reduceCtorEq, Bool.true_eq_false, Bool.false_eq_true, decide_true, beq_self_eq_true, Bool.not_true, Bool.not_false, and_true, ty_non, ty_bl, ty_int, ty_str, ty_tup, ty_fl, Option.some.injEq, exists_eq_left', isi_NoneType_bool, isi_NoneType_int, isi_NoneType_str, isi_NoneType_tuple, isi_NoneType_list, isi_NoneType_dict, isi_bool_bool, isi_bool_int, isi_bool_str, isi_bool_tuple, isi_bool_list, isi_bool_dict, isi_int_bool, isi_int_int, isi_int_str, isi_int_tuple, isi_int_list, isi_int_dict, isi_str_bool, isi_str_int, isi_str_str, isi_str_tuple, isi_str_list, isi_str_dict, isi_tuple_bool, isi_tuple_int, isi_tuple_str, isi_tuple_tuple, isi_tuple_list, isi_tuple_dict, isi_list_bool, isi_list_int, isi_list_str, isi_list_tuple, isi_list_list, isi_list_dict, isi_dict_bool, isi_dict_int, isi_dict_str, isi_dict_tuple, isi_dict_list, isi_dict_dict, isTy_lst A.h, rn_len_l A.h, rn_append A.h, isTy_lst A2.h, rn_len_l A2.h, rn_append A2.h]
          exact bad rfl
        · have e : x = _ := e
          subst e
          try simp only [rn_var, rn_c, rn_op, rn_un, rn_dE, rn_ch, rn_dAnd, rn_dOr, rn_dNot, rn_dYes, rn_and, rn_or, rn_not, rn_if, rn_aNil, rn_aCons, rn_A, rn_mkT, rn_mkL, rn_oNon, rn_asI, rn_oSm, rn_sl, rn_M, rn_isi, rn_lrev, rn_add_i, rn_add_t, rn_sub_i, rn_mul_i, rn_fdiv_i, rn_mod_i, rn_pow_i, rn_lt_i, rn_le_i, rn_gt_i, rn_ge_i, rn_neg_i, rn_eq_i, rn_ne_i, rn_eq_b, rn_eq_s, rn_is, rn_isnot, rn_sl_t, kN_nx, kN_rt, kN_bk, kN_ct, rs_nil, rs_cons, rs_brk, rs_cnt, rs_ex, rs_ret, rs_retN, rs_if, rs_set, rs_par, rs_par3, rs_asg, rs_sub, rn_int_i, rn_abs_i, rn_asB, rn_iSeq, rn_iRng1, rn_iEnu, rn_iZp, rn_iRng2, rn_iRng3, rn_iRv, rn_dic0, rn_dic1, rn_max2, rn_MT, ex_tup, rn_revS, isTy_str, List.getElem?_cons_zero, List.getElem?_cons_succ, List.set_cons_succ, List.set_cons_zero, List.length_cons, List.length_nil, Nat.reduceAdd, Nat.zero_add, reduceIte, Nat.reduceLeDiff, true_and, List.cons_append, List.nil_append, forall_const, true_implies, false_implies, reduceCtorEq, Bool.true_eq_false, Bool.false_eq_true, decide_true, beq_self_eq_true, Bool.not_true, Bool.not_false, and_true, ty_non, ty_bl, ty_int, ty_str, ty_tup, ty_fl, Option.some.injEq, exists_eq_left', isi_NoneType_bool, isi_NoneType_int, isi_NoneType_str, isi_NoneType_tuple, isi_NoneType_list, isi_NoneType_dict, isi_bool_bool, isi_bool_int, isi_bool_str, isi_bool_tuple, isi_bool_list, isi_bool_dict, isi_int_bool, isi_int_int, isi_int_str, isi_int_tuple, isi_int_list, isi_int_dict, isi_str_bool, isi_str_int, isi_str_str, isi_str_tuple, isi_str_list, isi_str_dict, isi_tuple_bool, isi_tuple_int, isi_tuple_str, isi_tuple_tuple, isi_tuple_list, isi_tuple_dict, isi_list_bool, isi_list_int, isi_list_str, isi_list_tuple, isi_list_list, isi_list_dict, isi_dict_bool, isi_dict_int, isi_dict_str, isi_dict_tuple, isi_dict_list, isi_dict_dict, isTy_lst A.h, rn_len_l A.h, rn_append A.h, isTy_lst A2.h, rn_len_l A2.h, rn_append A2.h]
          exact bad rfl
        · have e : x = _ := e
          subst e
          try simp only [rn_var, rn_c, rn_op, rn_un, rn_dE, rn_ch, rn_dAnd, rn_dOr, rn_dNot, rn_dYes, rn_and, rn_or, rn_not, rn_if, rn_aNil, rn_aCons, rn_A, rn_mkT, rn_mkL, rn_oNon, rn_asI, rn_oSm, rn_sl, rn_M, rn_isi, rn_lrev, rn_add_i, rn_add_t, rn_sub_i, rn_mul_i, rn_fdiv_i, rn_mod_i, rn_pow_i, rn_lt_i, rn_le_i, rn_gt_i, rn_ge_i, rn_neg_i, rn_eq_i, rn_ne_i, rn_eq_b, rn_eq_s, rn_is, rn_isnot, rn_sl_t, kN_nx, kN_rt, kN_bk, kN_ct, rs_nil, rs_cons, rs_brk, rs_cnt, rs_ex, rs_ret, rs_retN, rs_if, rs_set, rs_par, rs_par3, rs_asg, rs_sub, rn_int_i, rn_abs_i, rn_asB, rn_iSeq, rn_iRng1, rn_iEnu, rn_iZp, rn_iRng2, rn_iRng3, rn_iRv, rn_dic0, rn_dic1, rn_max2, rn_MT, ex_tup, rn_revS, isTy_str, List.getElem?_cons_zero, List.getElem?_cons_succ, List.set_cons_succ, List.set_cons_zero, List.length_cons, List.length_nil, Nat.reduceAdd, Nat.zero_add, reduceIte, Nat.reduceLeDiff, true_and, List.cons_append, List.nil_append, forall_const, true_implies, false_implies, reduceCtorEq, Bool.true_eq_false, Bool.false_eq_true, decide_true, beq_self_eq_true, Bool.not_true, Bool.not_false, and_true, ty_non, ty_bl, ty_int, ty_str, ty_tup, ty_fl, Option.some.injEq, exists_eq_left', isi_NoneType_bool, isi_NoneType_int, isi_NoneType_str, isi_NoneType_tuple, isi_NoneType_list, isi_NoneType_dict, isi_bool_bool, isi_bool_int, isi_bool_str, isi_bool_tuple, isi_bool_list, isi_bool_dict, isi_int_bool, isi_int_int, isi_int_str, isi_int_tuple, isi_int_list, isi_int_dict, isi_str_bool, isi_str_int, isi_str_str, isi_str_tuple, isi_str_list, isi_str_dict, isi_tuple_bool, isi_tuple_int, isi_tuple_str, isi_tuple_tuple, isi_tuple_list, isi_tuple_dict, isi_list_bool, isi_list_int, isi_list_str, isi_list_tuple, isi_list_list, isi_list_dict, isi_dict_bool, isi_dict_int, isi_dict_str, isi_dict_tuple, isi_dict_list, isi_dict_dict, isTy_lst A.h, rn_len_l A.h, rn_append A.h, isTy_lst A2.h, rn_len_l A2.h, rn_append A2.h]
          exact bad rfl
        · have e : x = _ := e
          subst e
          try simp only [rn_var, rn_c, rn_op, rn_un, rn_dE, rn_ch, rn_dAnd, rn_dOr, rn_dNot, rn_dYes, rn_and, rn_or, rn_not, rn_if, rn_aNil, rn_aCons, rn_A, rn_mkT, rn_mkL, rn_oNon, rn_asI, rn_oSm, rn_sl, rn_M, rn_isi, rn_lrev, rn_add_i, rn_add_t, rn_sub_i, rn_mul_i, rn_fdiv_i, rn_mod_i, rn_pow_i, rn_lt_i, rn_le_i, rn_gt_i, rn_ge_i, rn_neg_i, rn_eq_i, rn_ne_i, rn_eq_b, rn_eq_s, rn_is, rn_isnot, rn_sl_t, kN_nx, kN_rt, kN_bk, kN_ct, rs_nil, rs_cons, rs_brk, rs_cnt, rs_ex, rs_ret, rs_retN, rs_if, rs_set, rs_par, rs_par3, rs_asg, rs_sub, rn_int_i, rn_abs_i, rn_asB, rn_iSeq, rn_iRng1, rn_iEnu, rn_iZp, rn_iRng2, rn_iRng3, rn_iRv, rn_dic0, rn_dic1, rn_max2, rn_MT, ex_tup, rn_revS, isTy_str, List.getElem?_cons_zero, List.getElem?_cons_succ, List.set_cons_succ, List.set_cons_zero, List.length_cons, List.length_nil, Nat.reduceAdd, Nat.zero_add, reduceIte, Nat.reduceLeDiff, true_and, List.cons_append, List.nil_append, forall_const, true_implies, false_implies, reduceCtorEq, Bool.true_eq_false, Bool.false_eq_true, decide_true, beq_self_eq_true, Bool.not_true, Bool.not_false, and_true, ty_non, ty_bl, ty_int, ty_str, ty_tup, ty_fl, Option.some.injEq, exists_eq_left', isi_NoneType_bool, isi_NoneType_int, isi_NoneType_str, isi_NoneType_tuple, isi_NoneType_list, isi_NoneType_dict, isi_bool_bool, isi_bool_int, isi_bool_str, isi_bool_tuple, isi_bool_list, isi_bool_dict, isi_int_bool, isi_int_int, isi_int_str, isi_int_tuple, isi_int_list, isi_int_dict, isi_str_bool, isi_str_int, isi_str_str, isi_str_tuple, isi_str_list, isi_str_dict, isi_tuple_bool, isi_tuple_int, isi_tuple_str, isi_tuple_tuple, isi_tuple_list, isi_tuple_dict, isi_list_bool, isi_list_int, isi_list_str, isi_list_tuple, isi_list_list, isi_list_dict, isi_dict_bool, isi_dict_int, isi_dict_str, isi_dict_tuple, isi_dict_list, isi_dict_dict, isTy_lst A.h, rn_len_l A.h, rn_append A.h, isTy_lst A2.h, rn_len_l A2.h, rn_append A2.h]
          exact bad rfl
        · have e : x = _ := e
          subst e
          obtain ⟨hl, hy⟩ := hty.2 xs rfl
          cases xs with
          | nil => 
            try simp only [rn_var, rn_c, rn_op, rn_un, rn_dE, rn_ch, rn_dAnd, rn_dOr, rn_dNot, rn_dYes, rn_and, rn_or, rn_not, rn_if, rn_aNil, rn_aCons, rn_A, rn_mkT, rn_mkL, rn_oNon, rn_asI, rn_oSm, rn_sl, rn_M, rn_isi, rn_lrev, rn_add_i, rn_add_t, rn_sub_i, rn_mul_i, rn_fdiv_i, rn_mod_i, rn_pow_i, rn_lt_i, rn_le_i, rn_gt_i, rn_ge_i, rn_neg_i, rn_eq_i, rn_ne_i, rn_eq_b, rn_eq_s, rn_is, rn_isnot, rn_sl_t, kN_nx, kN_rt, kN_bk, kN_ct, rs_nil, rs_cons, rs_brk, rs_cnt, rs_ex, rs_ret, rs_retN, rs_if, rs_set, rs_par, rs_par3, rs_asg, rs_sub, rn_int_i, rn_abs_i, rn_asB, rn_iSeq, rn_iRng1, rn_iEnu, rn_iZp, rn_iRng2, rn_iRng3, rn_iRv, rn_dic0, rn_dic1, rn_max2, rn_MT, ex_tup, rn_revS, isTy_str, List.getElem?_cons_zero, List.getElem?_cons_succ, List.set_cons_succ, List.set_cons_zero, List.length_cons, List.length_nil, Nat.reduceAdd, Nat.zero_add, reduceIte, Nat.reduceLeDiff, true_and, List.cons_append, List.nil_append, forall_const, true_implies, false_implies, reduceCtorEq, Bool.true_eq_false, Bool.false_eq_true, decide_true, beq_self_eq_true, Bool.not_true, Bool.not_false, and_true, ty_non, ty_bl, ty_int, ty_str, ty_tup, ty_fl, Option.some.injEq, exists_eq_left', isi_NoneType_bool, isi_NoneType_int, isi_NoneType_str, isi_NoneType_tuple, isi_NoneType_list, isi_NoneType_dict, isi_bool_bool, isi_bool_int, isi_bool_str, isi_bool_tuple, isi_bool_list, isi_bool_dict, isi_int_bool, isi_int_int, isi_int_str, isi_int_tuple, isi_int_list, isi_int_dict, isi_str_bool, isi_str_int, isi_str_str, isi_str_tuple, isi_str_list, isi_str_dict, isi_tuple_bool, isi_tuple_int, isi_tuple_str, isi_tuple_tuple, isi_tuple_list, isi_tuple_dict, isi_list_bool, isi_list_int, isi_list_str, isi_list_tuple, isi_list_list, isi_list_dict, isi_dict_bool, isi_dict_int, isi_dict_str, isi_dict_tuple, isi_dict_list, isi_dict_dict, isTy_lst A.h, rn_len_l A.h, rn_append A.h, isTy_lst A2.h, rn_len_l A2.h, rn_append A2.h, rn_len_t]
            exact ⟨fun _ => bad rfl, fun h => by simp at h⟩
          | cons x0 r =>
            have h0 : ixP (x0 :: r) 0 = some x0 := ixP_nat (n := 0) rfl
            try simp only [rn_var, rn_c, rn_op, rn_un, rn_dE, rn_ch, rn_dAnd, rn_dOr, rn_dNot, rn_dYes, rn_and, rn_or, rn_not, rn_if, rn_aNil, rn_aCons, rn_A, rn_mkT, rn_mkL, rn_oNon, rn_asI, rn_oSm, rn_sl, rn_M, rn_isi, rn_lrev, rn_add_i, rn_add_t, rn_sub_i, rn_mul_i, rn_fdiv_i, rn_mod_i, rn_pow_i, rn_lt_i, rn_le_i, rn_gt_i, rn_ge_i, rn_neg_i, rn_eq_i, rn_ne_i, rn_eq_b, rn_eq_s, rn_is, rn_isnot, rn_sl_t, kN_nx, kN_rt, kN_bk, kN_ct, rs_nil, rs_brk, rs_cnt, rs_ret, rs_retN, rn_int_i, rn_abs_i, rn_asB, rn_iSeq, rn_iRng1, rn_iEnu, rn_iZp, rn_iRng2, rn_iRng3, rn_iRv, rn_dic0, rn_dic1, rn_max2, rn_MT, ex_tup, rn_revS, isTy_str, List.getElem?_cons_zero, List.getElem?_cons_succ, List.set_cons_succ, List.set_cons_zero, List.length_cons, List.length_nil, Nat.reduceAdd, Nat.zero_add, reduceIte, Nat.reduceLeDiff, true_and, List.cons_append, List.nil_append, forall_const, true_implies, false_implies, reduceCtorEq, Bool.true_eq_false, Bool.false_eq_true, decide_true, beq_self_eq_true, Bool.not_true, Bool.not_false, and_true, ty_non, ty_bl, ty_int, ty_str, ty_tup, ty_fl, Option.some.injEq, exists_eq_left', isi_NoneType_bool, isi_NoneType_int, isi_NoneType_str, isi_NoneType_tuple, isi_NoneType_list, isi_NoneType_dict, isi_bool_bool, isi_bool_int, isi_bool_str, isi_bool_tuple, isi_bool_list, isi_bool_dict, isi_int_bool, isi_int_int, isi_int_str, isi_int_tuple, isi_int_list, isi_int_dict, isi_str_bool, isi_str_int, isi_str_str, isi_str_tuple, isi_str_list, isi_str_dict, isi_tuple_bool, isi_tuple_int, isi_tuple_str, isi_tuple_tuple, isi_tuple_list, isi_tuple_dict, isi_list_bool, isi_list_int, isi_list_str, isi_list_tuple, isi_list_list, isi_list_dict, isi_dict_bool, isi_dict_int, isi_dict_str, isi_dict_tuple, isi_dict_list, isi_dict_dict, isTy_lst A.h, rn_len_l A.h, rn_append A.h, isTy_lst A2.h, rn_len_l A2.h, rn_append A2.h, rn_len_t]
            refine ⟨fun h => by simp at h; omega, fun _ => ?_⟩
            rw [rs_cons, rs_if]
            have base : ∀ y : PV, (∀ i, y ≠ .int i) → isThing sg (.tup (y :: r)) = false := fun y h => by
              unfold isThing
              split
              · rename_i i r' e
                cases e
                exact absurd rfl (h i)
              · rfl
            rcases (hy x0 List.mem_cons_self).cases with rfl | ⟨v, rfl⟩ | ⟨i, rfl⟩ | ⟨z, rfl⟩ | ⟨xs, rfl⟩ | ⟨ht, ⟨m, rfl⟩ | ⟨m, rfl⟩⟩ | ⟨ht, m, rfl⟩
            · try simp only [rn_var, rn_c, rn_op, rn_un, rn_dE, rn_ch, rn_dAnd, rn_dOr, rn_dNot, rn_dYes, rn_and, rn_or, rn_not, rn_if, rn_aNil, rn_aCons, rn_A, rn_mkT, rn_mkL, rn_oNon, rn_asI, rn_oSm, rn_sl, rn_M, rn_isi, rn_lrev, rn_add_i, rn_add_t, rn_sub_i, rn_mul_i, rn_fdiv_i, rn_mod_i, rn_pow_i, rn_lt_i, rn_le_i, rn_gt_i, rn_ge_i, rn_neg_i, rn_eq_i, rn_ne_i, rn_eq_b, rn_eq_s, rn_is, rn_isnot, rn_sl_t, kN_nx, kN_rt, kN_bk, kN_ct, rs_nil, rs_cons, rs_brk, rs_cnt, rs_ex, rs_ret, rs_retN, rs_if, rs_set, rs_par, rs_par3, rs_asg, rs_sub, rn_int_i, rn_abs_i, rn_asB, rn_iSeq, rn_iRng1, rn_iEnu, rn_iZp, rn_iRng2, rn_iRng3, rn_iRv, rn_dic0, rn_dic1, rn_max2, rn_MT, ex_tup, rn_revS, isTy_str, List.getElem?_cons_zero, List.getElem?_cons_succ, List.set_cons_succ, List.set_cons_zero, List.length_cons, List.length_nil, Nat.reduceAdd, Nat.zero_add, reduceIte, Nat.reduceLeDiff, true_and, List.cons_append, List.nil_append, forall_const, true_implies, false_implies, reduceCtorEq, Bool.true_eq_false, Bool.false_eq_true, decide_true, beq_self_eq_true, Bool.not_true, Bool.not_false, and_true, ty_non, ty_bl, ty_int, ty_str, ty_tup, ty_fl, Option.some.injEq, exists_eq_left', isi_NoneType_bool, isi_NoneType_int, isi_NoneType_str, isi_NoneType_tuple, isi_NoneType_list, isi_NoneType_dict, isi_bool_bool, isi_bool_int, isi_bool_str, isi_bool_tuple, isi_bool_list, isi_bool_dict, isi_int_bool, isi_int_int, isi_int_str, isi_int_tuple, isi_int_list, isi_int_dict, isi_str_bool, isi_str_int, isi_str_str, isi_str_tuple, isi_str_list, isi_str_dict, isi_tuple_bool, isi_tuple_int, isi_tuple_str, isi_tuple_tuple, isi_tuple_list, isi_tuple_dict, isi_list_bool, isi_list_int, isi_list_str, isi_list_tuple, isi_list_list, isi_list_dict, isi_dict_bool, isi_dict_int, isi_dict_str, isi_dict_tuple, isi_dict_list, isi_dict_dict, isTy_lst A.h, rn_len_l A.h, rn_append A.h, isTy_lst A2.h, rn_len_l A2.h, rn_append A2.h, ix_tup h0]
              exact bad rfl
            · try simp only [rn_var, rn_c, rn_op, rn_un, rn_dE, rn_ch, rn_dAnd, rn_dOr, rn_dNot, rn_dYes, rn_and, rn_or, rn_not, rn_if, rn_aNil, rn_aCons, rn_A, rn_mkT, rn_mkL, rn_oNon, rn_asI, rn_oSm, rn_sl, rn_M, rn_isi, rn_lrev, rn_add_i, rn_add_t, rn_sub_i, rn_mul_i, rn_fdiv_i, rn_mod_i, rn_pow_i, rn_lt_i, rn_le_i, rn_gt_i, rn_ge_i, rn_neg_i, rn_eq_i, rn_ne_i, rn_eq_b, rn_eq_s, rn_is, rn_isnot, rn_sl_t, kN_nx, kN_rt, kN_bk, kN_ct, rs_nil, rs_cons, rs_brk, rs_cnt, rs_ex, rs_ret, rs_retN, rs_if, rs_set, rs_par, rs_par3, rs_asg, rs_sub, rn_int_i, rn_abs_i, rn_asB, rn_iSeq, rn_iRng1, rn_iEnu, rn_iZp, rn_iRng2, rn_iRng3, rn_iRv, rn_dic0, rn_dic1, rn_max2, rn_MT, ex_tup, rn_revS, isTy_str, List.getElem?_cons_zero, List.getElem?_cons_succ, List.set_cons_succ, List.set_cons_zero, List.length_cons, List.length_nil, Nat.reduceAdd, Nat.zero_add, reduceIte, Nat.reduceLeDiff, true_and, List.cons_append, List.nil_append, forall_const, true_implies, false_implies, reduceCtorEq, Bool.true_eq_false, Bool.false_eq_true, decide_true, beq_self_eq_true, Bool.not_true, Bool.not_false, and_true, ty_non, ty_bl, ty_int, ty_str, ty_tup, ty_fl, Option.some.injEq, exists_eq_left', isi_NoneType_bool, isi_NoneType_int, isi_NoneType_str, isi_NoneType_tuple, isi_NoneType_list, isi_NoneType_dict, isi_bool_bool, isi_bool_int, isi_bool_str, isi_bool_tuple, isi_bool_list, isi_bool_dict, isi_int_bool, isi_int_int, isi_int_str, isi_int_tuple, isi_int_list, isi_int_dict, isi_str_bool, isi_str_int, isi_str_str, isi_str_tuple, isi_str_list, isi_str_dict, isi_tuple_bool, isi_tuple_int, isi_tuple_str, isi_tuple_tuple, isi_tuple_list, isi_tuple_dict, isi_list_bool, isi_list_int, isi_list_str, isi_list_tuple, isi_list_list, isi_list_dict, isi_dict_bool, isi_dict_int, isi_dict_str, isi_dict_tuple, isi_dict_list, isi_dict_dict, isTy_lst A.h, rn_len_l A.h, rn_append A.h, isTy_lst A2.h, rn_len_l A2.h, rn_append A2.h, ix_tup h0]
              exact bad rfl
            · try simp only [rn_var, rn_c, rn_op, rn_un, rn_dE, rn_ch, rn_dAnd, rn_dOr, rn_dNot, rn_dYes, rn_and, rn_or, rn_not, rn_if, rn_aNil, rn_aCons, rn_A, rn_mkT, rn_mkL, rn_oNon, rn_asI, rn_oSm, rn_sl, rn_M, rn_isi, rn_lrev, rn_add_i, rn_add_t, rn_sub_i, rn_mul_i, rn_fdiv_i, rn_mod_i, rn_pow_i, rn_lt_i, rn_le_i, rn_gt_i, rn_ge_i, rn_neg_i, rn_eq_i, rn_ne_i, rn_eq_b, rn_eq_s, rn_is, rn_isnot, rn_sl_t, kN_nx, kN_rt, kN_bk, kN_ct, rs_nil, rs_brk, rs_cnt, rs_ret, rs_retN, rn_int_i, rn_abs_i, rn_asB, rn_iSeq, rn_iRng1, rn_iEnu, rn_iZp, rn_iRng2, rn_iRng3, rn_iRv, rn_dic0, rn_dic1, rn_max2, rn_MT, ex_tup, rn_revS, isTy_str, List.getElem?_cons_zero, List.getElem?_cons_succ, List.set_cons_succ, List.set_cons_zero, List.length_cons, List.length_nil, Nat.reduceAdd, Nat.zero_add, reduceIte, Nat.reduceLeDiff, true_and, List.cons_append, List.nil_append, forall_const, true_implies, false_implies, reduceCtorEq, Bool.true_eq_false, Bool.false_eq_true, decide_true, beq_self_eq_true, Bool.not_true, Bool.not_false, and_true, ty_non, ty_bl, ty_int, ty_str, ty_tup, ty_fl, Option.some.injEq, exists_eq_left', isi_NoneType_bool, isi_NoneType_int, isi_NoneType_str, isi_NoneType_tuple, isi_NoneType_list, isi_NoneType_dict, isi_bool_bool, isi_bool_int, isi_bool_str, isi_bool_tuple, isi_bool_list, isi_bool_dict, isi_int_bool, isi_int_int, isi_int_str, isi_int_tuple, isi_int_list, isi_int_dict, isi_str_bool, isi_str_int, isi_str_str, isi_str_tuple, isi_str_list, isi_str_dict, isi_tuple_bool, isi_tuple_int, isi_tuple_str, isi_tuple_tuple, isi_tuple_list, isi_tuple_dict, isi_list_bool, isi_list_int, isi_list_str, isi_list_tuple, isi_list_list, isi_list_dict, isi_dict_bool, isi_dict_int, isi_dict_str, isi_dict_tuple, isi_dict_list, isi_dict_dict, isTy_lst A.h, rn_len_l A.h, rn_append A.h, isTy_lst A2.h, rn_len_l A2.h, rn_append A2.h, ix_tup h0, rn_len_t, List.length_map]
              have hIT : isThing sg (.tup (.int i :: r)) = (decide (0 ≤ i) && (match sg[i.toNat]? with
                | some a => decide (((r.length : Nat) : Int) = a)
                | none => false)) := rfl
              refine ⟨fun g0 => ⟨fun g1 => bad ?_, fun g1 => ?_⟩, fun g0 => bad ?_⟩
              · have g0 := of_decide_eq_true g0
                have g1 : ¬ i < (sg.length : Nat) := by simpa using g1
                rw [hIT, List.getElem?_eq_none_iff.mpr (by omega), Bool.and_false]
              · have g0 := of_decide_eq_true g0
                have g1 : i < (sg.length : Nat) := by simpa using g1
                have hgl : i.toNat < sg.length := by omega
                have hsg : sg[i.toNat]? = some sg[i.toNat] := List.getElem?_eq_getElem hgl
                have ha3 := hs.2.2.1 _ (List.getElem_mem hgl)
                generalize sg[i.toNat] = a at hsg ha3
                have ixs : ixP (sg.map PV.int) i = some (.int a) := ixP_int g0 (by rw [List.getElem?_map, hsg]; rfl)
                rw [hsg, decide_eq_true g0, Bool.true_and] at hIT
                have hIT : isThing sg (.tup (.int i :: r)) = decide (((r.length : Nat) : Int) = a) := hIT
                rw [rs_cons, rs_if]
                try simp only [rn_var, rn_c, rn_op, rn_un, rn_dE, rn_ch, rn_dAnd, rn_dOr, rn_dNot, rn_dYes, rn_and, rn_or, rn_not, rn_if, rn_aNil, rn_aCons, rn_A, rn_mkT, rn_mkL, rn_oNon, rn_asI, rn_oSm, rn_sl, rn_M, rn_isi, rn_lrev, rn_add_i, rn_add_t, rn_sub_i, rn_mul_i, rn_fdiv_i, rn_mod_i, rn_pow_i, rn_lt_i, rn_le_i, rn_gt_i, rn_ge_i, rn_neg_i, rn_eq_i, rn_ne_i, rn_eq_b, rn_eq_s, rn_is, rn_isnot, rn_sl_t, kN_nx, kN_rt, kN_bk, kN_ct, rs_nil, rs_brk, rs_cnt, rs_ret, rs_retN, rn_int_i, rn_abs_i, rn_asB, rn_iSeq, rn_iRng1, rn_iEnu, rn_iZp, rn_iRng2, rn_iRng3, rn_iRv, rn_dic0, rn_dic1, rn_max2, rn_MT, ex_tup, rn_revS, isTy_str, List.getElem?_cons_zero, List.getElem?_cons_succ, List.set_cons_succ, List.set_cons_zero, List.length_cons, List.length_nil, Nat.reduceAdd, Nat.zero_add, reduceIte, Nat.reduceLeDiff, true_and, List.cons_append, List.nil_append, forall_const, true_implies, false_implies, reduceCtorEq, Bool.true_eq_false, Bool.false_eq_true, decide_true, beq_self_eq_true, Bool.not_true, Bool.not_false, and_true, ty_non, ty_bl, ty_int, ty_str, ty_tup, ty_fl, Option.some.injEq, exists_eq_left', isi_NoneType_bool, isi_NoneType_int, isi_NoneType_str, isi_NoneType_tuple, isi_NoneType_list, isi_NoneType_dict, isi_bool_bool, isi_bool_int, isi_bool_str, isi_bool_tuple, isi_bool_list, isi_bool_dict, isi_int_bool, isi_int_int, isi_int_str, isi_int_tuple, isi_int_list, isi_int_dict, isi_str_bool, isi_str_int, isi_str_str, isi_str_tuple, isi_str_list, isi_str_dict, isi_tuple_bool, isi_tuple_int, isi_tuple_str, isi_tuple_tuple, isi_tuple_list, isi_tuple_dict, isi_list_bool, isi_list_int, isi_list_str, isi_list_tuple, isi_list_list, isi_list_dict, isi_dict_bool, isi_dict_int, isi_dict_str, isi_dict_tuple, isi_dict_list, isi_dict_dict, isTy_lst A.h, rn_len_l A.h, rn_append A.h, isTy_lst A2.h, rn_len_l A2.h, rn_append A2.h, ix_tup h0, rn_len_t, List.length_map, ix_tup ixs]
                refine ⟨fun g2 => bad ?_, fun g2 => ?_⟩
                · rw [hIT]
                  simp at g2 ⊢
                  omega
                · have hra : ((r.length : Nat) : Int) = a := by simp at g2; omega
                  rw [hIT, decide_eq_true hra, if_pos rfl] at hDu
                  generalize hin : innerOf w (.tup (.int i :: r)) = inner at hDu
                  have hil : inner.length = r.length := by rw [← hin]; unfold innerOf; simp
                  have hig : ∀ j (h : j < r.length), inner[j]? = some (w ++ [(j : Int)], r[j]) := fun j h => by
                    rw [← hin]
                    unfold innerOf
                    rw [List.getElem?_mapIdx, List.getElem?_eq_getElem h]
                    rfl
                  have hVi : Vs b c n Sv inner := hin ▸ Vs.inner hx
                  refine for_rn (dnL (r.length : Int) r.length) (fun j e S5 => ∃ x6 : Option PV, e = [some (.tup (sg.map PV.int)), some v, some (.loc q), some (.int (0 + (many : Int))), some (.tup (.int i :: r)), some (ways w), x6] ∧ At b c S0.length S5 q (.lst (st.reverse.map tw ++ ((inner.drop (r.length - j)).reverse.map tw))) ∧ Ext b c Sv S5 ∧ Ext b c S0 S5) ?_ (fun j x e S5 hx5 ⟨x6, he, A, Xv, X⟩ => ?_) (fun e S5 ⟨x6, he, A, Xv, X⟩ => ?_)
                  · try simp only [rn_var, rn_c, rn_op, rn_un, rn_dE, rn_ch, rn_dAnd, rn_dOr, rn_dNot, rn_dYes, rn_and, rn_or, rn_not, rn_if, rn_aNil, rn_aCons, rn_A, rn_mkT, rn_mkL, rn_oNon, rn_asI, rn_oSm, rn_sl, rn_M, rn_isi, rn_lrev, rn_add_i, rn_add_t, rn_sub_i, rn_mul_i, rn_fdiv_i, rn_mod_i, rn_pow_i, rn_lt_i, rn_le_i, rn_gt_i, rn_ge_i, rn_neg_i, rn_eq_i, rn_ne_i, rn_eq_b, rn_eq_s, rn_is, rn_isnot, rn_sl_t, kN_nx, kN_rt, kN_bk, kN_ct, rs_nil, rs_cons, rs_brk, rs_cnt, rs_ex, rs_ret, rs_retN, rs_if, rs_set, rs_par, rs_par3, rs_asg, rs_sub, rn_int_i, rn_abs_i, rn_asB, rn_iSeq, rn_iRng1, rn_iEnu, rn_iZp, rn_iRng2, rn_iRng3, rn_iRv, rn_dic0, rn_dic1, rn_max2, rn_MT, ex_tup, rn_revS, isTy_str, List.getElem?_cons_zero, List.getElem?_cons_succ, List.set_cons_succ, List.set_cons_zero, List.length_cons, List.length_nil, Nat.reduceAdd, Nat.zero_add, reduceIte, Nat.reduceLeDiff, true_and, List.cons_append, List.nil_append, isTy_lst A.h, rn_len_l A.h, rn_append A.h, isTy_lst A2.h, rn_len_l A2.h, rn_append A2.h, rn_len_t]
                    have e1 : ((r.length + 1 : Nat) : Int) - 1 = r.length := by omega
                    rw [e1]
                    refine ⟨_, _, _, rfl, (okR_down (by omega) (by omega) (by omega)).1, ?_⟩
                    rw [(okR_down (a := (r.length : Int)) (b := 0) (by omega) (by omega) (by omega)).2]
                    rw [show (r.length : Int) - 0 = r.length by omega, Int.toNat_natCast]
                    refine ⟨⟨x6, rfl, ?_, Xv, X⟩, fun i e S _ => wR3_at i⟩
                    rw [Nat.sub_zero, ← hil, List.drop_length]
                    simpa using A
                  · skip
                    obtain ⟨hj, rfl⟩ := dn_get hx5
                    subst he
                    have hj2 : r.length - 1 - j < r.length := by omega
                    refine ⟨_, rfl, ?_⟩
                    try simp only [setP, wipeP, List.foldl_cons, List.foldl_nil, List.set_cons_succ, List.set_cons_zero]
                    have ixk : ixP (PV.int i :: r) ((r.length : Int) - j) = some r[r.length - 1 - j] := ixP_int (by omega) (by
                      rw [show ((r.length : Int) - j).toNat = (r.length - 1 - j) + 1 by omega, List.getElem?_cons_succ, List.getElem?_eq_getElem hj2])
                    try simp only [rn_var, rn_c, rn_op, rn_un, rn_dE, rn_ch, rn_dAnd, rn_dOr, rn_dNot, rn_dYes, rn_and, rn_or, rn_not, rn_if, rn_aNil, rn_aCons, rn_A, rn_mkT, rn_mkL, rn_oNon, rn_asI, rn_oSm, rn_sl, rn_M, rn_isi, rn_lrev, rn_add_i, rn_add_t, rn_sub_i, rn_mul_i, rn_fdiv_i, rn_mod_i, rn_pow_i, rn_lt_i, rn_le_i, rn_gt_i, rn_ge_i, rn_neg_i, rn_eq_i, rn_ne_i, rn_eq_b, rn_eq_s, rn_is, rn_isnot, rn_sl_t, kN_nx, kN_rt, kN_bk, kN_ct, rs_nil, rs_cons, rs_brk, rs_cnt, rs_ex, rs_ret, rs_retN, rs_if, rs_set, rs_par, rs_par3, rs_asg, rs_sub, rn_int_i, rn_abs_i, rn_asB, rn_iSeq, rn_iRng1, rn_iEnu, rn_iZp, rn_iRng2, rn_iRng3, rn_iRv, rn_dic0, rn_dic1, rn_max2, rn_MT, ex_tup, rn_revS, isTy_str, List.getElem?_cons_zero, List.getElem?_cons_succ, List.set_cons_succ, List.set_cons_zero, List.length_cons, List.length_nil, Nat.reduceAdd, Nat.zero_add, reduceIte, Nat.reduceLeDiff, true_and, List.cons_append, List.nil_append, isTy_lst A.h, rn_len_l A.h, rn_append A.h, ix_tup ixk, ways_app (show w.length ≤ 1000 by omega)]
                    refine ⟨by simp at hsl ⊢; omega, ?_⟩
                    generalize hS_4 : List.set S5 q _ = S_4
                    have W_4 := At.wrs' A hS_4
                    have A' := At.put' A hS_4
                    replace Xv := Xv.wr W_4 (by first | assumption | omega)
                    replace X := X.wr W_4 A.lo
                    clear hS_4 A
                    have A := A'
                    clear A'
                    refine ⟨_, rfl, ?_, Xv, X⟩
                    have ed : inner.drop (r.length - (j + 1)) = (w ++ [(r.length : Int) - j - 1], r[r.length - 1 - j]) :: inner.drop (r.length - j) := by
                      have hk := hig (r.length - 1 - j) hj2
                      have hl2 : r.length - 1 - j < inner.length := by omega
                      rw [show r.length - (j + 1) = r.length - 1 - j by omega, List.drop_eq_getElem_cons hl2]
                      rw [List.getElem?_eq_getElem hl2] at hk
                      rw [Option.some.inj hk, show (r.length : Int) - j - 1 = ((r.length - 1 - j : Nat) : Int) by omega, show r.length - 1 - j + 1 = r.length - j by omega]
                    rw [ed, List.reverse_cons, List.map_append, ← List.append_assoc]
                    exact A
                  · skip
                    subst he
                    rw [dn_len, Nat.sub_self, List.drop_zero] at A
                    refine ⟨inner ++ st, _, _, _, _, rfl, by omega, ?_, by rw [show 40 - (many + 1) = f by omega]; exact hDu, hVi.append hVs.tail, ?_, by rw [List.length_append, hil]; simp at hsl; omega, Xv, X⟩
                    · rw [List.reverse_append, List.map_append]
                      exact A
                    · intro p hp
                      rcases List.mem_append.mp hp with h | h
                      · obtain ⟨j, hj⟩ := List.mem_iff_getElem?.mp h
                        have hjl := lt_of_get hj
                        rw [hig j (by omega)] at hj
                        cases hj
                        simp only [List.length_append, List.length_cons, List.length_nil]
                        omega
                      · have := hw p (List.mem_cons_of_mem _ h)
                        omega
              · have g0 := of_decide_eq_false g0
                rw [hIT, decide_eq_false g0, Bool.false_and]
            · try simp only [rn_var, rn_c, rn_op, rn_un, rn_dE, rn_ch, rn_dAnd, rn_dOr, rn_dNot, rn_dYes, rn_and, rn_or, rn_not, rn_if, rn_aNil, rn_aCons, rn_A, rn_mkT, rn_mkL, rn_oNon, rn_asI, rn_oSm, rn_sl, rn_M, rn_isi, rn_lrev, rn_add_i, rn_add_t, rn_sub_i, rn_mul_i, rn_fdiv_i, rn_mod_i, rn_pow_i, rn_lt_i, rn_le_i, rn_gt_i, rn_ge_i, rn_neg_i, rn_eq_i, rn_ne_i, rn_eq_b, rn_eq_s, rn_is, rn_isnot, rn_sl_t, kN_nx, kN_rt, kN_bk, kN_ct, rs_nil, rs_cons, rs_brk, rs_cnt, rs_ex, rs_ret, rs_retN, rs_if, rs_set, rs_par, rs_par3, rs_asg, rs_sub, rn_int_i, rn_abs_i, rn_asB, rn_iSeq, rn_iRng1, rn_iEnu, rn_iZp, rn_iRng2, rn_iRng3, rn_iRv, rn_dic0, rn_dic1, rn_max2, rn_MT, ex_tup, rn_revS, isTy_str, List.getElem?_cons_zero, List.getElem?_cons_succ, List.set_cons_succ, List.set_cons_zero, List.length_cons, List.length_nil, Nat.reduceAdd, Nat.zero_add, reduceIte, Nat.reduceLeDiff, true_and, List.cons_append, List.nil_append, forall_const, true_implies, false_implies, reduceCtorEq, Bool.true_eq_false, Bool.false_eq_true, decide_true, beq_self_eq_true, Bool.not_true, Bool.not_false, and_true, ty_non, ty_bl, ty_int, ty_str, ty_tup, ty_fl, Option.some.injEq, exists_eq_left', isi_NoneType_bool, isi_NoneType_int, isi_NoneType_str, isi_NoneType_tuple, isi_NoneType_list, isi_NoneType_dict, isi_bool_bool, isi_bool_int, isi_bool_str, isi_bool_tuple, isi_bool_list, isi_bool_dict, isi_int_bool, isi_int_int, isi_int_str, isi_int_tuple, isi_int_list, isi_int_dict, isi_str_bool, isi_str_int, isi_str_str, isi_str_tuple, isi_str_list, isi_str_dict, isi_tuple_bool, isi_tuple_int, isi_tuple_str, isi_tuple_tuple, isi_tuple_list, isi_tuple_dict, isi_list_bool, isi_list_int, isi_list_str, isi_list_tuple, isi_list_list, isi_list_dict, isi_dict_bool, isi_dict_int, isi_dict_str, isi_dict_tuple, isi_dict_list, isi_dict_dict, isTy_lst A.h, rn_len_l A.h, rn_append A.h, isTy_lst A2.h, rn_len_l A2.h, rn_append A2.h, ix_tup h0]
              exact bad rfl
            · try simp only [rn_var, rn_c, rn_op, rn_un, rn_dE, rn_ch, rn_dAnd, rn_dOr, rn_dNot, rn_dYes, rn_and, rn_or, rn_not, rn_if, rn_aNil, rn_aCons, rn_A, rn_mkT, rn_mkL, rn_oNon, rn_asI, rn_oSm, rn_sl, rn_M, rn_isi, rn_lrev, rn_add_i, rn_add_t, rn_sub_i, rn_mul_i, rn_fdiv_i, rn_mod_i, rn_pow_i, rn_lt_i, rn_le_i, rn_gt_i, rn_ge_i, rn_neg_i, rn_eq_i, rn_ne_i, rn_eq_b, rn_eq_s, rn_is, rn_isnot, rn_sl_t, kN_nx, kN_rt, kN_bk, kN_ct, rs_nil, rs_cons, rs_brk, rs_cnt, rs_ex, rs_ret, rs_retN, rs_if, rs_set, rs_par, rs_par3, rs_asg, rs_sub, rn_int_i, rn_abs_i, rn_asB, rn_iSeq, rn_iRng1, rn_iEnu, rn_iZp, rn_iRng2, rn_iRng3, rn_iRv, rn_dic0, rn_dic1, rn_max2, rn_MT, ex_tup, rn_revS, isTy_str, List.getElem?_cons_zero, List.getElem?_cons_succ, List.set_cons_succ, List.set_cons_zero, List.length_cons, List.length_nil, Nat.reduceAdd, Nat.zero_add, reduceIte, Nat.reduceLeDiff, true_and, List.cons_append, List.nil_append, forall_const, true_implies, false_implies, reduceCtorEq, Bool.true_eq_false, Bool.false_eq_true, decide_true, beq_self_eq_true, Bool.not_true, Bool.not_false, and_true, ty_non, ty_bl, ty_int, ty_str, ty_tup, ty_fl, Option.some.injEq, exists_eq_left', isi_NoneType_bool, isi_NoneType_int, isi_NoneType_str, isi_NoneType_tuple, isi_NoneType_list, isi_NoneType_dict, isi_bool_bool, isi_bool_int, isi_bool_str, isi_bool_tuple, isi_bool_list, isi_bool_dict, isi_int_bool, isi_int_int, isi_int_str, isi_int_tuple, isi_int_list, isi_int_dict, isi_str_bool, isi_str_int, isi_str_str, isi_str_tuple, isi_str_list, isi_str_dict, isi_tuple_bool, isi_tuple_int, isi_tuple_str, isi_tuple_tuple, isi_tuple_list, isi_tuple_dict, isi_list_bool, isi_list_int, isi_list_str, isi_list_tuple, isi_list_list, isi_list_dict, isi_dict_bool, isi_dict_int, isi_dict_str, isi_dict_tuple, isi_dict_list, isi_dict_dict, isTy_lst A.h, rn_len_l A.h, rn_append A.h, isTy_lst A2.h, rn_len_l A2.h, rn_append A2.h, ix_tup h0]
              exact bad rfl
            · try simp only [rn_var, rn_c, rn_op, rn_un, rn_dE, rn_ch, rn_dAnd, rn_dOr, rn_dNot, rn_dYes, rn_and, rn_or, rn_not, rn_if, rn_aNil, rn_aCons, rn_A, rn_mkT, rn_mkL, rn_oNon, rn_asI, rn_oSm, rn_sl, rn_M, rn_isi, rn_lrev, rn_add_i, rn_add_t, rn_sub_i, rn_mul_i, rn_fdiv_i, rn_mod_i, rn_pow_i, rn_lt_i, rn_le_i, rn_gt_i, rn_ge_i, rn_neg_i, rn_eq_i, rn_ne_i, rn_eq_b, rn_eq_s, rn_is, rn_isnot, rn_sl_t, kN_nx, kN_rt, kN_bk, kN_ct, rs_nil, rs_cons, rs_brk, rs_cnt, rs_ex, rs_ret, rs_retN, rs_if, rs_set, rs_par, rs_par3, rs_asg, rs_sub, rn_int_i, rn_abs_i, rn_asB, rn_iSeq, rn_iRng1, rn_iEnu, rn_iZp, rn_iRng2, rn_iRng3, rn_iRv, rn_dic0, rn_dic1, rn_max2, rn_MT, ex_tup, rn_revS, isTy_str, List.getElem?_cons_zero, List.getElem?_cons_succ, List.set_cons_succ, List.set_cons_zero, List.length_cons, List.length_nil, Nat.reduceAdd, Nat.zero_add, reduceIte, Nat.reduceLeDiff, true_and, List.cons_append, List.nil_append, forall_const, true_implies, false_implies, reduceCtorEq, Bool.true_eq_false, Bool.false_eq_true, decide_true, beq_self_eq_true, Bool.not_true, Bool.not_false, and_true, ty_non, ty_bl, ty_int, ty_str, ty_tup, ty_fl, Option.some.injEq, exists_eq_left', isi_NoneType_bool, isi_NoneType_int, isi_NoneType_str, isi_NoneType_tuple, isi_NoneType_list, isi_NoneType_dict, isi_bool_bool, isi_bool_int, isi_bool_str, isi_bool_tuple, isi_bool_list, isi_bool_dict, isi_int_bool, isi_int_int, isi_int_str, isi_int_tuple, isi_int_list, isi_int_dict, isi_str_bool, isi_str_int, isi_str_str, isi_str_tuple, isi_str_list, isi_str_dict, isi_tuple_bool, isi_tuple_int, isi_tuple_str, isi_tuple_tuple, isi_tuple_list, isi_tuple_dict, isi_list_bool, isi_list_int, isi_list_str, isi_list_tuple, isi_list_list, isi_list_dict, isi_dict_bool, isi_dict_int, isi_dict_str, isi_dict_tuple, isi_dict_list, isi_dict_dict, isTy_lst A.h, rn_len_l A.h, rn_append A.h, isTy_lst A2.h, rn_len_l A2.h, rn_append A2.h, ix_tup h0, ht]
              exact bad rfl
            · try simp only [rn_var, rn_c, rn_op, rn_un, rn_dE, rn_ch, rn_dAnd, rn_dOr, rn_dNot, rn_dYes, rn_and, rn_or, rn_not, rn_if, rn_aNil, rn_aCons, rn_A, rn_mkT, rn_mkL, rn_oNon, rn_asI, rn_oSm, rn_sl, rn_M, rn_isi, rn_lrev, rn_add_i, rn_add_t, rn_sub_i, rn_mul_i, rn_fdiv_i, rn_mod_i, rn_pow_i, rn_lt_i, rn_le_i, rn_gt_i, rn_ge_i, rn_neg_i, rn_eq_i, rn_ne_i, rn_eq_b, rn_eq_s, rn_is, rn_isnot, rn_sl_t, kN_nx, kN_rt, kN_bk, kN_ct, rs_nil, rs_cons, rs_brk, rs_cnt, rs_ex, rs_ret, rs_retN, rs_if, rs_set, rs_par, rs_par3, rs_asg, rs_sub, rn_int_i, rn_abs_i, rn_asB, rn_iSeq, rn_iRng1, rn_iEnu, rn_iZp, rn_iRng2, rn_iRng3, rn_iRv, rn_dic0, rn_dic1, rn_max2, rn_MT, ex_tup, rn_revS, isTy_str, List.getElem?_cons_zero, List.getElem?_cons_succ, List.set_cons_succ, List.set_cons_zero, List.length_cons, List.length_nil, Nat.reduceAdd, Nat.zero_add, reduceIte, Nat.reduceLeDiff, true_and, List.cons_append, List.nil_append, forall_const, true_implies, false_implies, reduceCtorEq, Bool.true_eq_false, Bool.false_eq_true, decide_true, beq_self_eq_true, Bool.not_true, Bool.not_false, and_true, ty_non, ty_bl, ty_int, ty_str, ty_tup, ty_fl, Option.some.injEq, exists_eq_left', isi_NoneType_bool, isi_NoneType_int, isi_NoneType_str, isi_NoneType_tuple, isi_NoneType_list, isi_NoneType_dict, isi_bool_bool, isi_bool_int, isi_bool_str, isi_bool_tuple, isi_bool_list, isi_bool_dict, isi_int_bool, isi_int_int, isi_int_str, isi_int_tuple, isi_int_list, isi_int_dict, isi_str_bool, isi_str_int, isi_str_str, isi_str_tuple, isi_str_list, isi_str_dict, isi_tuple_bool, isi_tuple_int, isi_tuple_str, isi_tuple_tuple, isi_tuple_list, isi_tuple_dict, isi_list_bool, isi_list_int, isi_list_str, isi_list_tuple, isi_list_list, isi_list_dict, isi_dict_bool, isi_dict_int, isi_dict_str, isi_dict_tuple, isi_dict_list, isi_dict_dict, isTy_lst A.h, rn_len_l A.h, rn_append A.h, isTy_lst A2.h, rn_len_l A2.h, rn_append A2.h, ix_tup h0]
              exact bad rfl
            · try simp only [rn_var, rn_c, rn_op, rn_un, rn_dE, rn_ch, rn_dAnd, rn_dOr, rn_dNot, rn_dYes, rn_and, rn_or, rn_not, rn_if, rn_aNil, rn_aCons, rn_A, rn_mkT, rn_mkL, rn_oNon, rn_asI, rn_oSm, rn_sl, rn_M, rn_isi, rn_lrev, rn_add_i, rn_add_t, rn_sub_i, rn_mul_i, rn_fdiv_i, rn_mod_i, rn_pow_i, rn_lt_i, rn_le_i, rn_gt_i, rn_ge_i, rn_neg_i, rn_eq_i, rn_ne_i, rn_eq_b, rn_eq_s, rn_is, rn_isnot, rn_sl_t, kN_nx, kN_rt, kN_bk, kN_ct, rs_nil, rs_cons, rs_brk, rs_cnt, rs_ex, rs_ret, rs_retN, rs_if, rs_set, rs_par, rs_par3, rs_asg, rs_sub, rn_int_i, rn_abs_i, rn_asB, rn_iSeq, rn_iRng1, rn_iEnu, rn_iZp, rn_iRng2, rn_iRng3, rn_iRv, rn_dic0, rn_dic1, rn_max2, rn_MT, ex_tup, rn_revS, isTy_str, List.getElem?_cons_zero, List.getElem?_cons_succ, List.set_cons_succ, List.set_cons_zero, List.length_cons, List.length_nil, Nat.reduceAdd, Nat.zero_add, reduceIte, Nat.reduceLeDiff, true_and, List.cons_append, List.nil_append, forall_const, true_implies, false_implies, reduceCtorEq, Bool.true_eq_false, Bool.false_eq_true, decide_true, beq_self_eq_true, Bool.not_true, Bool.not_false, and_true, ty_non, ty_bl, ty_int, ty_str, ty_tup, ty_fl, Option.some.injEq, exists_eq_left', isi_NoneType_bool, isi_NoneType_int, isi_NoneType_str, isi_NoneType_tuple, isi_NoneType_list, isi_NoneType_dict, isi_bool_bool, isi_bool_int, isi_bool_str, isi_bool_tuple, isi_bool_list, isi_bool_dict, isi_int_bool, isi_int_int, isi_int_str, isi_int_tuple, isi_int_list, isi_int_dict, isi_str_bool, isi_str_int, isi_str_str, isi_str_tuple, isi_str_list, isi_str_dict, isi_tuple_bool, isi_tuple_int, isi_tuple_str, isi_tuple_tuple, isi_tuple_list, isi_tuple_dict, isi_list_bool, isi_list_int, isi_list_str, isi_list_tuple, isi_list_list, isi_list_dict, isi_dict_bool, isi_dict_int, isi_dict_str, isi_dict_tuple, isi_dict_list, isi_dict_dict, isTy_lst A.h, rn_len_l A.h, rn_append A.h, isTy_lst A2.h, rn_len_l A2.h, rn_append A2.h, ix_tup h0, ht]
              exact bad rfl
        · have e : x = _ := e
          subst e
          try simp only [rn_var, rn_c, rn_op, rn_un, rn_dE, rn_ch, rn_dAnd, rn_dOr, rn_dNot, rn_dYes, rn_and, rn_or, rn_not, rn_if, rn_aNil, rn_aCons, rn_A, rn_mkT, rn_mkL, rn_oNon, rn_asI, rn_oSm, rn_sl, rn_M, rn_isi, rn_lrev, rn_add_i, rn_add_t, rn_sub_i, rn_mul_i, rn_fdiv_i, rn_mod_i, rn_pow_i, rn_lt_i, rn_le_i, rn_gt_i, rn_ge_i, rn_neg_i, rn_eq_i, rn_ne_i, rn_eq_b, rn_eq_s, rn_is, rn_isnot, rn_sl_t, kN_nx, kN_rt, kN_bk, kN_ct, rs_nil, rs_cons, rs_brk, rs_cnt, rs_ex, rs_ret, rs_retN, rs_if, rs_set, rs_par, rs_par3, rs_asg, rs_sub, rn_int_i, rn_abs_i, rn_asB, rn_iSeq, rn_iRng1, rn_iEnu, rn_iZp, rn_iRng2, rn_iRng3, rn_iRv, rn_dic0, rn_dic1, rn_max2, rn_MT, ex_tup, rn_revS, isTy_str, List.getElem?_cons_zero, List.getElem?_cons_succ, List.set_cons_succ, List.set_cons_zero, List.length_cons, List.length_nil, Nat.reduceAdd, Nat.zero_add, reduceIte, Nat.reduceLeDiff, true_and, List.cons_append, List.nil_append, forall_const, true_implies, false_implies, reduceCtorEq, Bool.true_eq_false, Bool.false_eq_true, decide_true, beq_self_eq_true, Bool.not_true, Bool.not_false, and_true, ty_non, ty_bl, ty_int, ty_str, ty_tup, ty_fl, Option.some.injEq, exists_eq_left', isi_NoneType_bool, isi_NoneType_int, isi_NoneType_str, isi_NoneType_tuple, isi_NoneType_list, isi_NoneType_dict, isi_bool_bool, isi_bool_int, isi_bool_str, isi_bool_tuple, isi_bool_list, isi_bool_dict, isi_int_bool, isi_int_int, isi_int_str, isi_int_tuple, isi_int_list, isi_int_dict, isi_str_bool, isi_str_int, isi_str_str, isi_str_tuple, isi_str_list, isi_str_dict, isi_tuple_bool, isi_tuple_int, isi_tuple_str, isi_tuple_tuple, isi_tuple_list, isi_tuple_dict, isi_list_bool, isi_list_int, isi_list_str, isi_list_tuple, isi_list_list, isi_list_dict, isi_dict_bool, isi_dict_int, isi_dict_str, isi_dict_tuple, isi_dict_list, isi_dict_dict, isTy_lst A.h, rn_len_l A.h, rn_append A.h, isTy_lst A2.h, rn_len_l A2.h, rn_append A2.h, ht]
          exact bad rfl
        · have e : x = _ := e
          subst e
          try simp only [rn_var, rn_c, rn_op, rn_un, rn_dE, rn_ch, rn_dAnd, rn_dOr, rn_dNot, rn_dYes, rn_and, rn_or, rn_not, rn_if, rn_aNil, rn_aCons, rn_A, rn_mkT, rn_mkL, rn_oNon, rn_asI, rn_oSm, rn_sl, rn_M, rn_isi, rn_lrev, rn_add_i, rn_add_t, rn_sub_i, rn_mul_i, rn_fdiv_i, rn_mod_i, rn_pow_i, rn_lt_i, rn_le_i, rn_gt_i, rn_ge_i, rn_neg_i, rn_eq_i, rn_ne_i, rn_eq_b, rn_eq_s, rn_is, rn_isnot, rn_sl_t, kN_nx, kN_rt, kN_bk, kN_ct, rs_nil, rs_cons, rs_brk, rs_cnt, rs_ex, rs_ret, rs_retN, rs_if, rs_set, rs_par, rs_par3, rs_asg, rs_sub, rn_int_i, rn_abs_i, rn_asB, rn_iSeq, rn_iRng1, rn_iEnu, rn_iZp, rn_iRng2, rn_iRng3, rn_iRv, rn_dic0, rn_dic1, rn_max2, rn_MT, ex_tup, rn_revS, isTy_str, List.getElem?_cons_zero, List.getElem?_cons_succ, List.set_cons_succ, List.set_cons_zero, List.length_cons, List.length_nil, Nat.reduceAdd, Nat.zero_add, reduceIte, Nat.reduceLeDiff, true_and, List.cons_append, List.nil_append, forall_const, true_implies, false_implies, reduceCtorEq, Bool.true_eq_false, Bool.false_eq_true, decide_true, beq_self_eq_true, Bool.not_true, Bool.not_false, and_true, ty_non, ty_bl, ty_int, ty_str, ty_tup, ty_fl, Option.some.injEq, exists_eq_left', isi_NoneType_bool, isi_NoneType_int, isi_NoneType_str, isi_NoneType_tuple, isi_NoneType_list, isi_NoneType_dict, isi_bool_bool, isi_bool_int, isi_bool_str, isi_bool_tuple, isi_bool_list, isi_bool_dict, isi_int_bool, isi_int_int, isi_int_str, isi_int_tuple, isi_int_list, isi_int_dict, isi_str_bool, isi_str_int, isi_str_str, isi_str_tuple, isi_str_list, isi_str_dict, isi_tuple_bool, isi_tuple_int, isi_tuple_str, isi_tuple_tuple, isi_tuple_list, isi_tuple_dict, isi_list_bool, isi_list_int, isi_list_str, isi_list_tuple, isi_list_list, isi_list_dict, isi_dict_bool, isi_dict_int, isi_dict_str, isi_dict_tuple, isi_dict_list, isi_dict_dict, isTy_lst A.h, rn_len_l A.h, rn_append A.h, isTy_lst A2.h, rn_len_l A2.h, rn_append A2.h, ht]
          exact bad rfl
        · have e : x = _ := e
          subst e
          try simp only [rn_var, rn_c, rn_op, rn_un, rn_dE, rn_ch, rn_dAnd, rn_dOr, rn_dNot, rn_dYes, rn_and, rn_or, rn_not, rn_if, rn_aNil, rn_aCons, rn_A, rn_mkT, rn_mkL, rn_oNon, rn_asI, rn_oSm, rn_sl, rn_M, rn_isi, rn_lrev, rn_add_i, rn_add_t, rn_sub_i, rn_mul_i, rn_fdiv_i, rn_mod_i, rn_pow_i, rn_lt_i, rn_le_i, rn_gt_i, rn_ge_i, rn_neg_i, rn_eq_i, rn_ne_i, rn_eq_b, rn_eq_s, rn_is, rn_isnot, rn_sl_t, kN_nx, kN_rt, kN_bk, kN_ct, rs_nil, rs_cons, rs_brk, rs_cnt, rs_ex, rs_ret, rs_retN, rs_if, rs_set, rs_par, rs_par3, rs_asg, rs_sub, rn_int_i, rn_abs_i, rn_asB, rn_iSeq, rn_iRng1, rn_iEnu, rn_iZp, rn_iRng2, rn_iRng3, rn_iRv, rn_dic0, rn_dic1, rn_max2, rn_MT, ex_tup, rn_revS, isTy_str, List.getElem?_cons_zero, List.getElem?_cons_succ, List.set_cons_succ, List.set_cons_zero, List.length_cons, List.length_nil, Nat.reduceAdd, Nat.zero_add, reduceIte, Nat.reduceLeDiff, true_and, List.cons_append, List.nil_append, forall_const, true_implies, false_implies, reduceCtorEq, Bool.true_eq_false, Bool.false_eq_true, decide_true, beq_self_eq_true, Bool.not_true, Bool.not_false, and_true, ty_non, ty_bl, ty_int, ty_str, ty_tup, ty_fl, Option.some.injEq, exists_eq_left', isi_NoneType_bool, isi_NoneType_int, isi_NoneType_str, isi_NoneType_tuple, isi_NoneType_list, isi_NoneType_dict, isi_bool_bool, isi_bool_int, isi_bool_str, isi_bool_tuple, isi_bool_list, isi_bool_dict, isi_int_bool, isi_int_int, isi_int_str, isi_int_tuple, isi_int_list, isi_int_dict, isi_str_bool, isi_str_int, isi_str_str, isi_str_tuple, isi_str_list, isi_str_dict, isi_tuple_bool, isi_tuple_int, isi_tuple_str, isi_tuple_tuple, isi_tuple_list, isi_tuple_dict, isi_list_bool, isi_list_int, isi_list_str, isi_list_tuple, isi_list_list, isi_list_dict, isi_dict_bool, isi_dict_int, isi_dict_str, isi_dict_tuple, isi_dict_list, isi_dict_dict, isTy_lst A.h, rn_len_l A.h, rn_append A.h, isTy_lst A2.h, rn_len_l A2.h, rn_append A2.h, ht]
          exact bad rfl
  · rw [List.length_map, List.length_range] at hm
    omega
theorem termerr_spec {S0 S : Sto} {b c n : Nat} {sg : List Int} {v : PV} (hs : SigOk sg) (X : Ext b c S0 S) (hv : Vk b c n S v) : Rn (f_term_error [.tup (sg.map PV.int), v] S) fun r S' => r = dueT sg 40 [([], v)] ∧ Ext b c S0 S' := by
  unfold f_term_error
  rw [rn_runD]
  unfold b_term_error
  show Rs (sRet _ [some (.tup (sg.map PV.int)), some (v)] S) _
  try simp only [rn_var, rn_c, rn_op, rn_un, rn_dE, rn_ch, rn_dAnd, rn_dOr, rn_dNot, rn_dYes, rn_and, rn_or, rn_not, rn_if, rn_aNil, rn_aCons, rn_A, rn_mkT, rn_mkL, rn_oNon, rn_asI, rn_oSm, rn_sl, rn_M, rn_isi, rn_lrev, rn_add_i, rn_add_t, rn_sub_i, rn_mul_i, rn_fdiv_i, rn_mod_i, rn_pow_i, rn_lt_i, rn_le_i, rn_gt_i, rn_ge_i, rn_neg_i, rn_eq_i, rn_ne_i, rn_eq_b, rn_eq_s, rn_is, rn_isnot, rn_sl_t, kN_nx, kN_rt, kN_bk, kN_ct, rs_nil, rs_brk, rs_cnt, rs_ret, rs_retN, rn_int_i, rn_abs_i, rn_asB, rn_iSeq, rn_iRng1, rn_iEnu, rn_iZp, rn_iRng2, rn_iRng3, rn_iRv, rn_dic0, rn_dic1, rn_max2, rn_MT, ex_tup, rn_revS, isTy_str, List.getElem?_cons_zero, List.getElem?_cons_succ, List.set_cons_succ, List.set_cons_zero, List.length_cons, List.length_nil, Nat.reduceAdd, Nat.zero_add, reduceIte, Nat.reduceLeDiff, true_and, List.cons_append, List.nil_append]
  refine (thingerr_spec hs X hv).mono ?_
  rintro r S' ⟨rfl, X'⟩
  exact ⟨dueV_zero _ _ _, X'⟩
theorem ways_nf {b c n : Nat} {S : Sto} {w : List Int} (lb : b < n) (lc : c < n) (hl : w.length ≤ 60) (hw : ∀ i ∈ w, 0 ≤ i ∧ i ≤ 1000000) : Nf b c n S 1 5000 (ways w) := by
  have h : Af b c n S 0 63 (w.map PV.int) := ⟨lb, lc, fun y hy => by
    obtain ⟨i, hi, rfl⟩ := List.mem_map.mp hy
    have := hw i hi
    exact (Nf.int lb lc (by omega) (by omega) (Nat.le_refl _) : Nf b c n S 0 63 (.int i)).nd⟩
  exact Nf.tup (h.rf (k := 4000) (by rw [List.length_map]; have : w.length * (63 + 2) ≤ 60 * 65 := Nat.mul_le_mul_right _ hl; omega)) (by omega)
theorem thing_len {sg : List Int} {x : PV} (hs : SigOk sg) (h : isThing sg x = true) : ∃ s r, x = .tup (s :: r) ∧ r.length ≤ 3 := by
  unfold isThing at h
  split at h
  · rename_i i r
    refine ⟨_, _, rfl, ?_⟩
    split at h
    · rename_i a ha
      have := hs.2.2.1 a (List.mem_of_getElem? ha)
      simp at h
      omega
    · simp at h
  · cases h
theorem dueT_nf {b c n : Nat} {S : Sto} {sg : List Int} (hs : SigOk sg) (lb : b < n) (lc : c < n) : ∀ (k : Nat) (st : List (List Int × PV)), (∀ p ∈ st, p.1.length + k ≤ 60 ∧ ∀ i ∈ p.1, 0 ≤ i ∧ i ≤ 1000000) → Nf b c n S 2 6000 (dueT sg k st)
  | k, [], _ => by unfold dueT; exact Nf.non lb lc (by omega)
  | 0, _ :: _, _ => by unfold dueT; exact Nf.str lb lc (by decide +kernel)
  | k + 1, (w, x) :: st, h => by
    unfold dueT
    obtain ⟨hw1, hw2⟩ := h (w, x) List.mem_cons_self
    simp only at hw1 hw2
    split
    · rename_i hth
      obtain ⟨s, r, rfl, hr⟩ := thing_len hs hth
      refine dueT_nf hs lb lc k _ fun p hp => ?_
      rcases List.mem_append.mp hp with hp | hp
      · unfold innerOf at hp
        obtain ⟨j, hj, rfl⟩ := List.mem_mapIdx.mp hp
        refine ⟨by simp only [List.length_append, List.length_cons, List.length_nil]; omega, fun i hi => ?_⟩
        rcases List.mem_append.mp hi with h1 | h1
        · exact hw2 i h1
        · rw [List.mem_singleton.mp h1]; omega
      · have := h p (List.mem_cons_of_mem _ hp)
        exact ⟨by omega, this.2⟩
    · exact Nf.tup (Rf.cons (Nf.str (d := 1) (m := 100) lb lc (by decide +kernel)) (Rf.cons (ways_nf lb lc (by omega) hw2) (Rf.nil lb lc (m := 0)) (Nat.le_refl _)) (Nat.le_refl _)) (by omega)
theorem sigW_nf {b c n : Nat} {S : Sto} (lb : b < n) (lc : c < n) : ∀ (xs : List PV) (i : Nat) (z : PV), i + xs.length ≤ 1000 → Nf b c n S 2 6000 z → Nf b c n S 2 6000 (sigW i xs z)
  | [], _, _, _, h => h
  | x :: r, i, z, hl, h => by
    unfold sigW
    rw [List.length_cons] at hl
    split
    · exact sigW_nf lb lc r (i + 1) z (by omega) h
    · exact (Nf.tup (Rf.cons (Nf.str (d := 0) (m := 100) lb lc (by decide +kernel)) (Rf.cons (Nf.int lb lc (by omega) (by omega) (Nat.le_refl 63)) (Rf.nil lb lc (m := 0)) (Nat.le_refl _)) (Nat.le_refl _)) (Nat.le_refl _)).up (by omega) (by omega)
theorem sigA_nf {b c n : Nat} {S : Sto} (lb : b < n) (lc : c < n) (x : PV) : Nf b c n S 2 6000 (sigA x) := by
  unfold sigA
  split
  · split
    · exact Nf.str lb lc (by decide +kernel)
    · refine sigW_nf lb lc _ _ _ (by omega) ?_
      split
      · exact Nf.non lb lc (by omega)
      · exact Nf.str lb lc (by decide +kernel)
  · exact Nf.str lb lc (by decide +kernel)
theorem sig_nf {b c n : Nat} {S : Sto} {sg : List Int} (hs : SigOk sg) (lb : b < n) (lc : c < n) : Nf b c n S 1 5000 (.tup (sg.map PV.int)) := ways_nf lb lc (by have := hs.2.1; omega) fun i hi => by have := hs.2.2.1 i hi; omega
def Ent (b c n : Nat) (S : Sto) (x : PV) : Prop := ∃ v d sv, x = .tup [sv, v, d] ∧ Nf b c n S 61 200000 v ∧ ((∃ sg : List Int, sv = .tup (sg.map PV.int) ∧ SigOk sg ∧ d = dueT sg 40 [([], v)]) ∨ (sv = .non ∧ d = sigA v))
structure Ents (b c n : Nat) (S : Sto) (xs : List PV) : Prop where
  all : ∀ x ∈ xs, Ent b c n S x
theorem Ents.mv {b c n : Nat} {S S' : Sto} {xs : List PV} (h : Ents b c n S xs) (X : Ext b c S S') : Ents b c n S' xs := ⟨fun x hx => let ⟨v, d, sv, e, h1, h2⟩ := h.all x hx; ⟨v, d, sv, e, h1.mv X, h2⟩⟩
theorem Ents.wr {b c n q : Nat} {S S' : Sto} {xs : List PV} (h : Ents b c n S xs) (W : Wr b c S q S') (hq : q < n) : Ents b c n S' xs := ⟨fun x hx => let ⟨v, d, sv, e, h1, h2⟩ := h.all x hx; ⟨v, d, sv, e, h1.wr W hq, h2⟩⟩
theorem Ents.snoc {b c n : Nat} {S : Sto} {xs : List PV} {x : PV} (h : Ents b c n S xs) (k : Ent b c n S x) : Ents b c n S (xs ++ [x]) := ⟨fun y hy => by
  rcases List.mem_append.mp hy with z | z
  · exact h.all y z
  · rw [List.mem_singleton.mp z]; exact k⟩
theorem dueT_nf0 {b c n : Nat} {S : Sto} {sg : List Int} {v : PV} (hs : SigOk sg) (lb : b < n) (lc : c < n) : Nf b c n S 2 6000 (dueT sg 40 [([], v)]) := dueT_nf hs lb lc 40 _ fun p hp => by rw [List.mem_singleton.mp hp]; exact ⟨by simp, fun i hi => (nomatch hi)⟩
theorem dueT_dd0 {sg : List Int} {v : PV} : Dd 2 (dueT sg 40 [([], v)]) := dueT_dd sg 40 _ fun p hp => by rw [List.mem_singleton.mp hp]; simp
theorem Ent.nf {b c n : Nat} {S : Sto} {x : PV} (h : Ent b c n S x) : Nf b c n S 62 212000 x := by
  obtain ⟨v, d, sv, rfl, hv, h⟩ := h
  have hd : Nf b c n S 61 6000 d := by
    rcases h with ⟨sg, _, hs, rfl⟩ | ⟨_, rfl⟩
    · exact (dueT_nf0 hs hv.lb hv.lc).up (by omega) (Nat.le_refl _)
    · exact (sigA_nf hv.lb hv.lc v).up (by omega) (Nat.le_refl _)
  have hsv : Nf b c n S 61 5000 sv := by
    rcases h with ⟨sg, rfl, hs, _⟩ | ⟨rfl, _⟩
    · exact (sig_nf hs hv.lb hv.lc).up (by omega) (Nat.le_refl _)
    · exact Nf.non hv.lb hv.lc (by omega)
  exact Nf.tup (Rf.cons hsv (Rf.cons hv (Rf.cons hd (Rf.nil hv.lb hv.lc (m := 0)) (Nat.le_refl _)) (Nat.le_refl _)) (Nat.le_refl _)) (by omega)
theorem vk_of {b c n : Nat} {S : Sto} {v : PV} (h : Nf b c n S 61 200000 v) : Vk b c n S v := ⟨61, 200000, by omega, h⟩
/-- one told thing against its due one -/
theorem check_spec {S0 S : Sto} {b c n : Nat} {sv v d : PV} (X : Ext b c S0 S) (h : Ent b c n S (.tup [sv, v, d])) : (∃ sg : List Int, sv = .tup (sg.map PV.int) ∧ Rn (f_term_error [sv, v] S) fun r S' => r = d ∧ Ext b c S0 S') ∨ (sv = .non ∧ Rn (f_signature_error [v] S) fun r S' => r = d ∧ Ext b c S0 S') := by
  obtain ⟨v', d', sv', e, hv, h⟩ := h
  cases e
  rcases h with ⟨sg, rfl, hs, rfl⟩ | ⟨rfl, rfl⟩
  · exact .inl ⟨sg, rfl, termerr_spec hs X (vk_of hv)⟩
  · refine .inr ⟨rfl, (sigerr_spec (vk_of hv).tyAll).mono ?_⟩
    rintro r S' ⟨rfl, rfl⟩
    exact ⟨rfl, X⟩
theorem due_same {b c n : Nat} {S S2 S0 : Sto} {sv v d : PV} (h : Ent b c n S2 (.tup [sv, v, d])) (X : Ext b c S0 S) : Rn (f__law_is_same 64 [d, d] S) fun r S' => r = .bl true ∧ Ext b c S0 S' := by
  obtain ⟨v', d', sv', e, hv, h⟩ := h
  cases e
  have key : Rn (f__law_is_same 64 [d, d] S) fun r S' => r = .bl true ∧ ∃ T, S' = S ++ T := by
    rcases h with ⟨sg, rfl, hs, rfl⟩ | ⟨rfl, rfl⟩
    · exact same_spec 2 64 (by omega) _ _ dueT_dd0
    · exact same_spec 1 64 (by omega) _ _ (sigA_dd _)
  exact key.mono fun r S' ⟨h1, h2⟩ => ⟨h1, X.trans (ex_of X.bag h2)⟩
theorem law_true (ns : List Int) (h : ns.length ≤ 63) : ∃ S', f_law [.fl ns] [] = some (.bl true, S') := by
  suffices h : Rn (f_law [.fl ns] []) fun r _ => r = .bl true by
    obtain ⟨r, S', h1, rfl⟩ := h
    exact ⟨S', h1⟩
  unfold f_law
  rw [rn_runD]
  unfold b_law
  show Rs (sCons _ _ [some (.fl ns), none, none, none, none, none, none, none, none, none, none, none] []) _
  rw [rs_cons, rs_set]
  try simp only [rn_var, rn_c, rn_op, rn_un, rn_dE, rn_ch, rn_dAnd, rn_dOr, rn_dNot, rn_dYes, rn_and, rn_or, rn_not, rn_if, rn_aNil, rn_aCons, rn_A, rn_mkT, rn_mkL, rn_oNon, rn_asI, rn_oSm, rn_sl, rn_M, rn_isi, rn_lrev, rn_add_i, rn_add_t, rn_sub_i, rn_mul_i, rn_fdiv_i, rn_mod_i, rn_pow_i, rn_lt_i, rn_le_i, rn_gt_i, rn_ge_i, rn_neg_i, rn_eq_i, rn_ne_i, rn_eq_b, rn_eq_s, rn_is, rn_isnot, rn_sl_t, kN_nx, kN_rt, kN_bk, kN_ct, rs_nil, rs_brk, rs_cnt, rs_ret, rs_retN, rn_int_i, rn_abs_i, rn_asB, rn_iSeq, rn_iRng1, rn_iEnu, rn_iZp, rn_iRng2, rn_iRng3, rn_iRv, rn_dic0, rn_dic1, rn_max2, rn_MT, ex_tup, rn_revS, isTy_str, List.getElem?_cons_zero, List.getElem?_cons_succ, List.set_cons_succ, List.set_cons_zero, List.length_cons, List.length_nil, Nat.reduceAdd, Nat.zero_add, reduceIte, Nat.reduceLeDiff, true_and, List.cons_append, List.nil_append]
  refine (bag_spec h).mono ?_
  rintro r S1 ⟨b, c, rfl, hB⟩
  have X := Ext.refl hB
  have hbc := bag_lt hB
  obtain ⟨S0, hS0⟩ : ∃ S0, S0 = S1 := ⟨S1, rfl⟩
  have X : Ext b c S0 S1 := by rw [hS0]; exact X
  have hb0 : b < S0.length ∧ c < S0.length := by rw [hS0]; exact hbc
  clear hS0 hB
  rw [rs_cons, rs_set]
  try simp only [rn_var, rn_c, rn_op, rn_un, rn_dE, rn_ch, rn_dAnd, rn_dOr, rn_dNot, rn_dYes, rn_and, rn_or, rn_not, rn_if, rn_aNil, rn_aCons, rn_A, rn_mkT, rn_mkL, rn_oNon, rn_asI, rn_oSm, rn_sl, rn_M, rn_isi, rn_lrev, rn_add_i, rn_add_t, rn_sub_i, rn_mul_i, rn_fdiv_i, rn_mod_i, rn_pow_i, rn_lt_i, rn_le_i, rn_gt_i, rn_ge_i, rn_neg_i, rn_eq_i, rn_ne_i, rn_eq_b, rn_eq_s, rn_is, rn_isnot, rn_sl_t, kN_nx, kN_rt, kN_bk, kN_ct, rs_nil, rs_brk, rs_cnt, rs_ret, rs_retN, rn_int_i, rn_abs_i, rn_asB, rn_iSeq, rn_iRng1, rn_iEnu, rn_iZp, rn_iRng2, rn_iRng3, rn_iRv, rn_dic0, rn_dic1, rn_max2, rn_MT, ex_tup, rn_revS, isTy_str, List.getElem?_cons_zero, List.getElem?_cons_succ, List.set_cons_succ, List.set_cons_zero, List.length_cons, List.length_nil, Nat.reduceAdd, Nat.zero_add, reduceIte, Nat.reduceLeDiff, true_and, List.cons_append, List.nil_append]
  generalize hS_1 : S1 ++ [_] = S_1
  have A := At.new' X hS_1
  have Y_1 := Ext.new' X hS_1
  have q_lo := X.len
  replace X := X.mv Y_1
  clear hS_1
  generalize hq_q : List.length S1 = q at A q_lo  ⊢
  have lb : b < q + 1 := by omega
  have lc : c < q + 1 := by omega
  rw [rs_cons]
  refine for_rn ((List.range 2).map fun j : Nat => PV.int (0 + j)) (fun i e S3 => ∃ (x3 x4 x5 x6 x7 x8 x9 x10 x11 : Option PV) (xs : List PV), e = [some (.fl ns), some (.loc b), some (.loc q), x3, x4, x5, x6, x7, x8, x9, x10, x11] ∧ At b c S0.length S3 q (.lst xs) ∧ xs.length ≤ 24 * i ∧ Ents b c (q + 1) S3 xs ∧ Ext b c S0 S3) ?_ (fun i x e S3 hx ⟨x3, x4, x5, x6, x7, x8, x9, x10, x11, xs, he, A, hxl, hE, X⟩ => ?_) (fun e S3 ⟨x3, x4, x5, x6, x7, x8, x9, x10, x11, xs, he, A, hxl, hE, X⟩ => ?_)
  · try simp only [rn_var, rn_c, rn_op, rn_un, rn_dE, rn_ch, rn_dAnd, rn_dOr, rn_dNot, rn_dYes, rn_and, rn_or, rn_not, rn_if, rn_aNil, rn_aCons, rn_A, rn_mkT, rn_mkL, rn_oNon, rn_asI, rn_oSm, rn_sl, rn_M, rn_isi, rn_lrev, rn_add_i, rn_add_t, rn_sub_i, rn_mul_i, rn_fdiv_i, rn_mod_i, rn_pow_i, rn_lt_i, rn_le_i, rn_gt_i, rn_ge_i, rn_neg_i, rn_eq_i, rn_ne_i, rn_eq_b, rn_eq_s, rn_is, rn_isnot, rn_sl_t, kN_nx, kN_rt, kN_bk, kN_ct, rs_nil, rs_cons, rs_brk, rs_cnt, rs_ex, rs_ret, rs_retN, rs_if, rs_set, rs_par, rs_par3, rs_asg, rs_sub, rn_int_i, rn_abs_i, rn_asB, rn_iSeq, rn_iRng1, rn_iEnu, rn_iZp, rn_iRng2, rn_iRng3, rn_iRv, rn_dic0, rn_dic1, rn_max2, rn_MT, ex_tup, rn_revS, isTy_str, List.getElem?_cons_zero, List.getElem?_cons_succ, List.set_cons_succ, List.set_cons_zero, List.length_cons, List.length_nil, Nat.reduceAdd, Nat.zero_add, reduceIte, Nat.reduceLeDiff, true_and, List.cons_append, List.nil_append, isTy_lst A.h, rn_len_l A.h, rn_append A.h]
    exact ⟨_, rfl, by omega, ⟨none, none, none, none, none, none, none, none, none, [], rfl, A, by simp, ⟨fun _ h => nomatch h⟩, X⟩, fun i e S _ => wR_at i⟩
  · skip
    subst he
    have hi := lt_of_get hx
    simp only [List.length_map, List.length_range] at hi
    refine ⟨[(3, x)], rfl, ?_⟩
    try simp only [setP, wipeP, List.foldl_cons, List.foldl_nil, List.set_cons_succ, List.set_cons_zero]
    rw [rs_cons, rs_set]
    try simp only [rn_var, rn_c, rn_op, rn_un, rn_dE, rn_ch, rn_dAnd, rn_dOr, rn_dNot, rn_dYes, rn_and, rn_or, rn_not, rn_if, rn_aNil, rn_aCons, rn_A, rn_mkT, rn_mkL, rn_oNon, rn_asI, rn_oSm, rn_sl, rn_M, rn_isi, rn_lrev, rn_add_i, rn_add_t, rn_sub_i, rn_mul_i, rn_fdiv_i, rn_mod_i, rn_pow_i, rn_lt_i, rn_le_i, rn_gt_i, rn_ge_i, rn_neg_i, rn_eq_i, rn_ne_i, rn_eq_b, rn_eq_s, rn_is, rn_isnot, rn_sl_t, kN_nx, kN_rt, kN_bk, kN_ct, rs_nil, rs_brk, rs_cnt, rs_ret, rs_retN, rn_int_i, rn_abs_i, rn_asB, rn_iSeq, rn_iRng1, rn_iEnu, rn_iZp, rn_iRng2, rn_iRng3, rn_iRv, rn_dic0, rn_dic1, rn_max2, rn_MT, ex_tup, rn_revS, isTy_str, List.getElem?_cons_zero, List.getElem?_cons_succ, List.set_cons_succ, List.set_cons_zero, List.length_cons, List.length_nil, Nat.reduceAdd, Nat.zero_add, reduceIte, Nat.reduceLeDiff, true_and, List.cons_append, List.nil_append, isTy_lst A.h, rn_len_l A.h, rn_append A.h]
    refine (sig_spec X.bag).mono ?_
    rintro r S_2 ⟨sg, rfl, hs, Y_2⟩
    replace A := A.mv Y_2
    replace hE := hE.mv Y_2
    replace X := X.mv Y_2
    rw [rs_cons]
    have l6 := hs.2.1
    refine for_pre (W := fun w S5 => ∃ (qv : Nat) (vals : List PV), w = wL qv ∧ q < qv ∧ At b c 0 S5 qv (.lst vals) ∧ vals.length ≤ 12 ∧ Af b c (q + 1) S5 61 200000 vals ∧ At b c S0.length S5 q (.lst xs) ∧ Ents b c (q + 1) S5 xs ∧ Ext b c S0 S5) ?_ (fun w S5 hd ⟨qv, vals, hw, hqv, V, hvl, hvs, A, hE, X⟩ => ?_)
    · try simp only [rn_var, rn_c, rn_op, rn_un, rn_dE, rn_ch, rn_dAnd, rn_dOr, rn_dNot, rn_dYes, rn_and, rn_or, rn_not, rn_if, rn_aNil, rn_aCons, rn_A, rn_mkT, rn_mkL, rn_oNon, rn_asI, rn_oSm, rn_sl, rn_M, rn_isi, rn_lrev, rn_add_i, rn_add_t, rn_sub_i, rn_mul_i, rn_fdiv_i, rn_mod_i, rn_pow_i, rn_lt_i, rn_le_i, rn_gt_i, rn_ge_i, rn_neg_i, rn_eq_i, rn_ne_i, rn_eq_b, rn_eq_s, rn_is, rn_isnot, rn_sl_t, kN_nx, kN_rt, kN_bk, kN_ct, rs_nil, rs_cons, rs_brk, rs_cnt, rs_ex, rs_ret, rs_retN, rs_if, rs_set, rs_par, rs_par3, rs_asg, rs_sub, rn_int_i, rn_abs_i, rn_asB, rn_iSeq, rn_iRng1, rn_iEnu, rn_iZp, rn_iRng2, rn_iRng3, rn_iRv, rn_dic0, rn_dic1, rn_max2, rn_MT, ex_tup, rn_revS, isTy_str, List.getElem?_cons_zero, List.getElem?_cons_succ, List.set_cons_succ, List.set_cons_zero, List.length_cons, List.length_nil, Nat.reduceAdd, Nat.zero_add, reduceIte, Nat.reduceLeDiff, true_and, List.cons_append, List.nil_append, isTy_lst A.h, rn_len_l A.h, rn_append A.h]
      have ltq := A.lt
      refine (values_spec hs (Ext.refl X.bag) (Nat.succ_le_of_lt A.lt) lb lc).mono ?_
      rintro r S_3 ⟨qv, vals, rfl, V, hvl, hvs, Y_3⟩
      replace A := A.mv Y_3
      replace hE := hE.mv Y_3
      replace X := X.mv Y_3
      exact ⟨_, wk_loc V.h, qv, vals, rfl, by have := V.lo; omega, V.low (Nat.zero_le _), hvl, hvs, A, hE, X⟩
    subst hw
    refine for_rule vals (fun i e S6 => ∃ (x5 x6 x7 x8 x9 x10 x11 : Option PV) (ys : List PV), e = [some (.fl ns), some (.loc b), some (.loc q), some x, some (.tup (sg.map PV.int)), x5, x6, x7, x8, x9, x10, x11] ∧ At b c 0 S6 qv (.lst vals) ∧ Af b c (q + 1) S6 61 200000 vals ∧ At b c S0.length S6 q (.lst ys) ∧ ys.length = xs.length + i ∧ Ents b c (q + 1) S6 ys ∧ Ext b c S0 S6) hd ⟨x5, x6, x7, x8, x9, x10, x11, xs, rfl, V, hvs, A, rfl, hE, X⟩ (fun i e S _ ⟨_, _, _, _, _, _, _, _, _, V, _⟩ => wL_at V.h i) (fun i v e S6 hx ⟨x5, x6, x7, x8, x9, x10, x11, ys, he, V, hvs, A, hyl, hE, X⟩ => ?_) (fun e S6 ⟨x5, x6, x7, x8, x9, x10, x11, ys, he, V, hvs, A, hyl, hE, X⟩ => ?_)
    · skip
      subst he
      have hv := hvs.get (List.mem_of_getElem? hx)
      have hil := lt_of_get hx
      refine ⟨[(5, v)], rfl, ?_⟩
      try simp only [setP, wipeP, List.foldl_cons, List.foldl_nil, List.set_cons_succ, List.set_cons_zero]
      try simp only [rn_var, rn_c, rn_op, rn_un, rn_dE, rn_ch, rn_dAnd, rn_dOr, rn_dNot, rn_dYes, rn_and, rn_or, rn_not, rn_if, rn_aNil, rn_aCons, rn_A, rn_mkT, rn_mkL, rn_oNon, rn_asI, rn_oSm, rn_sl, rn_M, rn_isi, rn_lrev, rn_add_i, rn_add_t, rn_sub_i, rn_mul_i, rn_fdiv_i, rn_mod_i, rn_pow_i, rn_lt_i, rn_le_i, rn_gt_i, rn_ge_i, rn_neg_i, rn_eq_i, rn_ne_i, rn_eq_b, rn_eq_s, rn_is, rn_isnot, rn_sl_t, kN_nx, kN_rt, kN_bk, kN_ct, rs_nil, rs_cons, rs_brk, rs_cnt, rs_ex, rs_ret, rs_retN, rs_if, rs_set, rs_par, rs_par3, rs_asg, rs_sub, rn_int_i, rn_abs_i, rn_asB, rn_iSeq, rn_iRng1, rn_iEnu, rn_iZp, rn_iRng2, rn_iRng3, rn_iRv, rn_dic0, rn_dic1, rn_max2, rn_MT, ex_tup, rn_revS, isTy_str, List.getElem?_cons_zero, List.getElem?_cons_succ, List.set_cons_succ, List.set_cons_zero, List.length_cons, List.length_nil, Nat.reduceAdd, Nat.zero_add, reduceIte, Nat.reduceLeDiff, true_and, List.cons_append, List.nil_append, isTy_lst A.h, rn_len_l A.h, rn_append A.h, isTy_lst V.h, rn_len_l V.h, rn_append V.h]
      refine (duet_spec hs (Ext.refl X.bag) (vk_of hv)).mono ?_
      rintro r S_4 ⟨rfl, Y_4⟩
      replace A := A.mv Y_4
      replace V := V.mv Y_4
      replace hvs := hvs.mv Y_4
      replace hE := hE.mv Y_4
      replace hv := hv.mv Y_4
      replace X := X.mv Y_4
      try simp only [rn_var, rn_c, rn_op, rn_un, rn_dE, rn_ch, rn_dAnd, rn_dOr, rn_dNot, rn_dYes, rn_and, rn_or, rn_not, rn_if, rn_aNil, rn_aCons, rn_A, rn_mkT, rn_mkL, rn_oNon, rn_asI, rn_oSm, rn_sl, rn_M, rn_isi, rn_lrev, rn_add_i, rn_add_t, rn_sub_i, rn_mul_i, rn_fdiv_i, rn_mod_i, rn_pow_i, rn_lt_i, rn_le_i, rn_gt_i, rn_ge_i, rn_neg_i, rn_eq_i, rn_ne_i, rn_eq_b, rn_eq_s, rn_is, rn_isnot, rn_sl_t, kN_nx, kN_rt, kN_bk, kN_ct, rs_nil, rs_cons, rs_brk, rs_cnt, rs_ex, rs_ret, rs_retN, rs_if, rs_set, rs_par, rs_par3, rs_asg, rs_sub, rn_int_i, rn_abs_i, rn_asB, rn_iSeq, rn_iRng1, rn_iEnu, rn_iZp, rn_iRng2, rn_iRng3, rn_iRv, rn_dic0, rn_dic1, rn_max2, rn_MT, ex_tup, rn_revS, isTy_str, List.getElem?_cons_zero, List.getElem?_cons_succ, List.set_cons_succ, List.set_cons_zero, List.length_cons, List.length_nil, Nat.reduceAdd, Nat.zero_add, reduceIte, Nat.reduceLeDiff, true_and, List.cons_append, List.nil_append, isTy_lst A.h, rn_len_l A.h, rn_append A.h, isTy_lst V.h, rn_len_l V.h, rn_append V.h]
      refine ⟨by omega, ?_⟩
      generalize hS_5 : List.set S_4 q _ = S_5
      have W_5 := At.wrs' A hS_5
      have A' := At.put' A hS_5
      replace V := V.wr W_5 (by first | assumption | exact Ne.symm (by assumption) | omega)
      replace hvs := hvs.wr W_5 (by first | assumption | omega)
      replace hE := hE.wr W_5 (by first | assumption | omega)
      replace hv := hv.wr W_5 (by first | assumption | omega)
      replace X := X.wr W_5 A.lo
      clear hS_5 A
      have A := A'
      clear A'
      exact ⟨_, _, _, _, _, _, _, ys ++ [_], rfl, V, hvs, A, by rw [List.length_append, hyl]; rfl, hE.snoc ⟨v, _, _, rfl, hv, .inl ⟨sg, rfl, hs, rfl⟩⟩, X⟩
    · skip
      subst he
      simp only [kN_nx]
      rw [rs_cons, rs_set]
      try simp only [rn_var, rn_c, rn_op, rn_un, rn_dE, rn_ch, rn_dAnd, rn_dOr, rn_dNot, rn_dYes, rn_and, rn_or, rn_not, rn_if, rn_aNil, rn_aCons, rn_A, rn_mkT, rn_mkL, rn_oNon, rn_asI, rn_oSm, rn_sl, rn_M, rn_isi, rn_lrev, rn_add_i, rn_add_t, rn_sub_i, rn_mul_i, rn_fdiv_i, rn_mod_i, rn_pow_i, rn_lt_i, rn_le_i, rn_gt_i, rn_ge_i, rn_neg_i, rn_eq_i, rn_ne_i, rn_eq_b, rn_eq_s, rn_is, rn_isnot, rn_sl_t, kN_nx, kN_rt, kN_bk, kN_ct, rs_nil, rs_brk, rs_cnt, rs_ret, rs_retN, rn_int_i, rn_abs_i, rn_asB, rn_iSeq, rn_iRng1, rn_iEnu, rn_iZp, rn_iRng2, rn_iRng3, rn_iRv, rn_dic0, rn_dic1, rn_max2, rn_MT, ex_tup, rn_revS, isTy_str, List.getElem?_cons_zero, List.getElem?_cons_succ, List.set_cons_succ, List.set_cons_zero, List.length_cons, List.length_nil, Nat.reduceAdd, Nat.zero_add, reduceIte, Nat.reduceLeDiff, true_and, List.cons_append, List.nil_append, isTy_lst A.h, rn_len_l A.h, rn_append A.h]
      refine lc_map (sg.map PV.int) (fun _ y => (∃ z, y = .bl z) ∨ ∃ a : Int, y = .int a ∧ 0 ≤ a ∧ a ≤ 3) (fun S7 => S7 = S6) ?_ (by simp; omega) (fun x hx S7 h7 => ?_) (fun zs S7 hA h7 => ?_)
      · try simp only [rn_var, rn_c, rn_op, rn_un, rn_dE, rn_ch, rn_dAnd, rn_dOr, rn_dNot, rn_dYes, rn_and, rn_or, rn_not, rn_if, rn_aNil, rn_aCons, rn_A, rn_mkT, rn_mkL, rn_oNon, rn_asI, rn_oSm, rn_sl, rn_M, rn_isi, rn_lrev, rn_add_i, rn_add_t, rn_sub_i, rn_mul_i, rn_fdiv_i, rn_mod_i, rn_pow_i, rn_lt_i, rn_le_i, rn_gt_i, rn_ge_i, rn_neg_i, rn_eq_i, rn_ne_i, rn_eq_b, rn_eq_s, rn_is, rn_isnot, rn_sl_t, kN_nx, kN_rt, kN_bk, kN_ct, rs_nil, rs_cons, rs_brk, rs_cnt, rs_ex, rs_ret, rs_retN, rs_if, rs_set, rs_par, rs_par3, rs_asg, rs_sub, rn_int_i, rn_abs_i, rn_asB, rn_iSeq, rn_iRng1, rn_iEnu, rn_iZp, rn_iRng2, rn_iRng3, rn_iRv, rn_dic0, rn_dic1, rn_max2, rn_MT, ex_tup, rn_revS, isTy_str, List.getElem?_cons_zero, List.getElem?_cons_succ, List.set_cons_succ, List.set_cons_zero, List.length_cons, List.length_nil, Nat.reduceAdd, Nat.zero_add, reduceIte, Nat.reduceLeDiff, true_and, List.cons_append, List.nil_append, isTy_lst A.h, rn_len_l A.h, rn_append A.h]
        exact ⟨_, rfl, fun i S _ => rfl⟩
      · subst h7
        obtain ⟨a, ha, rfl⟩ := List.mem_map.mp hx
        have ha3 := hs.2.2.1 a ha
        refine ⟨[(10, .int a)], rfl, rfl, ?_⟩
        try simp only [setP, wipeP, List.foldl_cons, List.foldl_nil, List.set_cons_succ, List.set_cons_zero]
        try simp only [rn_var, rn_c, rn_op, rn_un, rn_dE, rn_ch, rn_dAnd, rn_dOr, rn_dNot, rn_dYes, rn_and, rn_or, rn_not, rn_if, rn_aNil, rn_aCons, rn_A, rn_mkT, rn_mkL, rn_oNon, rn_asI, rn_oSm, rn_sl, rn_M, rn_isi, rn_lrev, rn_add_i, rn_add_t, rn_sub_i, rn_mul_i, rn_fdiv_i, rn_mod_i, rn_pow_i, rn_lt_i, rn_le_i, rn_gt_i, rn_ge_i, rn_neg_i, rn_eq_i, rn_ne_i, rn_eq_b, rn_eq_s, rn_is, rn_isnot, rn_sl_t, kN_nx, kN_rt, kN_bk, kN_ct, rs_nil, rs_cons, rs_brk, rs_cnt, rs_ex, rs_ret, rs_retN, rs_if, rs_set, rs_par, rs_par3, rs_asg, rs_sub, rn_int_i, rn_abs_i, rn_asB, rn_iSeq, rn_iRng1, rn_iEnu, rn_iZp, rn_iRng2, rn_iRng3, rn_iRv, rn_dic0, rn_dic1, rn_max2, rn_MT, ex_tup, rn_revS, isTy_str, List.getElem?_cons_zero, List.getElem?_cons_succ, List.set_cons_succ, List.set_cons_zero, List.length_cons, List.length_nil, Nat.reduceAdd, Nat.zero_add, reduceIte, Nat.reduceLeDiff, true_and, List.cons_append, List.nil_append, isTy_lst A.h, rn_len_l A.h, rn_append A.h]
        exact ⟨fun _ => ⟨.inl ⟨_, rfl⟩, trivial⟩, fun _ => ⟨.inr ⟨a, rfl, ha3⟩, trivial⟩⟩
      subst h7
      have hzl : zs.length ≤ 6 := by have := hA.len; simp at this; omega
      have hzm : ∀ y ∈ zs, (∃ z, y = .bl z) ∨ ∃ a : Int, y = .int a ∧ 0 ≤ a ∧ a ≤ 3 := fun y hy => (hA.mem hy).elim fun x h => h.2
      generalize hS_6 : S7 ++ [_] = S_6
      have A1 := At.new' X hS_6
      have Y_6 := Ext.new' X hS_6
      have q1_lo := X.len
      have q_ne_q1 := A.lt
      replace A := A.mv Y_6
      replace hE := hE.mv Y_6
      replace X := X.mv Y_6
      clear hS_6
      generalize hq_q1 : List.length S7 = q1 at A1 q1_lo q_ne_q1 ⊢
      rw [rn_tuple (seq_at A1.h)]
      have hoth : ∀ {S : Sto}, Nf b c (q + 1) S 61 200000 (.tup zs) := fun {S} => by
        have h : Af b c (q + 1) S 0 63 zs := ⟨lb, lc, fun y hy => by
          rcases hzm y hy with ⟨z, rfl⟩ | ⟨a, rfl, h1, h2⟩
          · exact (Nf.bl lb lc (by omega) : Nf b c (q + 1) S 0 63 _).nd
          · exact (Nf.int lb lc (by omega) (by omega) (Nat.le_refl _) : Nf b c (q + 1) S 0 63 (.int a)).nd⟩
        exact (Nf.tup (h.rf (k := 4000) (by have : zs.length * (63 + 2) ≤ 6 * 65 := Nat.mul_le_mul_right _ hzl; omega)) (Nat.le_refl _)).up (by omega) (by omega)
      have hsgn : ∀ {S : Sto}, Nf b c (q + 1) S 61 200000 (.tup (sg.map PV.int)) := fun {S} => (sig_nf hs lb lc).up (by omega) (by omega)
      refine for_pre (W := fun w S5 => ∃ (qv : Nat) (vals : List PV), w = wL qv ∧ q < qv ∧ At b c 0 S5 qv (.lst vals) ∧ vals.length ≤ 12 ∧ Af b c (q + 1) S5 61 200000 vals ∧ At b c S0.length S5 q (.lst ys) ∧ Ents b c (q + 1) S5 ys ∧ Ext b c S0 S5) ?_ (fun w S5 hd ⟨qv, vals, hw, hqv, V, hvl, hvs, A, hE, X⟩ => ?_)
      · try simp only [rn_var, rn_c, rn_op, rn_un, rn_dE, rn_ch, rn_dAnd, rn_dOr, rn_dNot, rn_dYes, rn_and, rn_or, rn_not, rn_if, rn_aNil, rn_aCons, rn_A, rn_mkT, rn_mkL, rn_oNon, rn_asI, rn_oSm, rn_sl, rn_M, rn_isi, rn_lrev, rn_add_i, rn_add_t, rn_sub_i, rn_mul_i, rn_fdiv_i, rn_mod_i, rn_pow_i, rn_lt_i, rn_le_i, rn_gt_i, rn_ge_i, rn_neg_i, rn_eq_i, rn_ne_i, rn_eq_b, rn_eq_s, rn_is, rn_isnot, rn_sl_t, kN_nx, kN_rt, kN_bk, kN_ct, rs_nil, rs_cons, rs_brk, rs_cnt, rs_ex, rs_ret, rs_retN, rs_if, rs_set, rs_par, rs_par3, rs_asg, rs_sub, rn_int_i, rn_abs_i, rn_asB, rn_iSeq, rn_iRng1, rn_iEnu, rn_iZp, rn_iRng2, rn_iRng3, rn_iRv, rn_dic0, rn_dic1, rn_max2, rn_MT, ex_tup, rn_revS, isTy_str, List.getElem?_cons_zero, List.getElem?_cons_succ, List.set_cons_succ, List.set_cons_zero, List.length_cons, List.length_nil, Nat.reduceAdd, Nat.zero_add, reduceIte, Nat.reduceLeDiff, true_and, List.cons_append, List.nil_append, isTy_lst A.h, rn_len_l A.h, rn_append A.h, isTy_lst A1.h, rn_len_l A1.h, rn_append A1.h]
        generalize hS_7 : S_6 ++ [_] = S_7
        have A2 := At.new' X hS_7
        have Y_7 := Ext.new' X hS_7
        have q2_lo := X.len
        have q_ne_q2 := A.lt
        have q1_ne_q2 := A1.lt
        replace A := A.mv Y_7
        replace A1 := A1.mv Y_7
        replace hE := hE.mv Y_7
        replace X := X.mv Y_7
        clear hS_7
        generalize hq_q2 : List.length S_6 = q2 at A2 q2_lo q_ne_q2 q1_ne_q2 ⊢
        refine lc_rule ((List.range 10).map fun j : Nat => PV.int (0 + j)) (fun i acc S8 => acc.length = i ∧ Af b c (q + 1) S8 61 200000 acc ∧ At b c 0 S8 q2 (.lst [.tup (sg.map PV.int), .tup zs]) ∧ At b c S0.length S8 q (.lst ys) ∧ Ents b c (q + 1) S8 ys ∧ Ext b c S0 S8) (w := wR 0 10) (S1 := S_7) rfl ⟨rfl, Af.nil lb lc, A2.low (Nat.zero_le _), A, hE, X⟩ (fun i acc S _ _ => wR_at i) (fun i x acc S8 hx ⟨hal, hac, A2, A, hE, X⟩ => ?_) (fun acc S8 ⟨hal, hac, A2, A, hE, X⟩ => ?_)
        · skip
          refine ⟨[(11, x)], rfl, rfl, ?_⟩
          try simp only [setP, wipeP, List.foldl_cons, List.foldl_nil, List.set_cons_succ, List.set_cons_zero]
          try simp only [rn_var, rn_c, rn_op, rn_un, rn_dE, rn_ch, rn_dAnd, rn_dOr, rn_dNot, rn_dYes, rn_and, rn_or, rn_not, rn_if, rn_aNil, rn_aCons, rn_A, rn_mkT, rn_mkL, rn_oNon, rn_asI, rn_oSm, rn_sl, rn_M, rn_isi, rn_lrev, rn_add_i, rn_add_t, rn_sub_i, rn_mul_i, rn_fdiv_i, rn_mod_i, rn_pow_i, rn_lt_i, rn_le_i, rn_gt_i, rn_ge_i, rn_neg_i, rn_eq_i, rn_ne_i, rn_eq_b, rn_eq_s, rn_is, rn_isnot, rn_sl_t, kN_nx, kN_rt, kN_bk, kN_ct, rs_nil, rs_cons, rs_brk, rs_cnt, rs_ex, rs_ret, rs_retN, rs_if, rs_set, rs_par, rs_par3, rs_asg, rs_sub, rn_int_i, rn_abs_i, rn_asB, rn_iSeq, rn_iRng1, rn_iEnu, rn_iZp, rn_iRng2, rn_iRng3, rn_iRv, rn_dic0, rn_dic1, rn_max2, rn_MT, ex_tup, rn_revS, isTy_str, List.getElem?_cons_zero, List.getElem?_cons_succ, List.set_cons_succ, List.set_cons_zero, List.length_cons, List.length_nil, Nat.reduceAdd, Nat.zero_add, reduceIte, Nat.reduceLeDiff, true_and, List.cons_append, List.nil_append, isTy_lst A.h, rn_len_l A.h, rn_append A.h, isTy_lst A2.h, rn_len_l A2.h, rn_append A2.h]
          refine ⟨fun _ => ?_, fun h => (nomatch h)⟩
          refine (sigvalue_spec (Ext.refl X.bag) (Nat.succ_le_of_lt A.lt) lb lc).mono ?_
          rintro r S_8 ⟨hr, Y_8⟩
          replace A := A.mv Y_8
          replace A2 := A2.mv Y_8
          replace hE := hE.mv Y_8
          replace hac := hac.mv Y_8
          replace X := X.mv Y_8
          exact ⟨by rw [List.length_append, hal]; rfl, hac.snoc hr, A2, A, hE, X⟩
        · skip
          rw [List.length_map, List.length_range] at hal
          refine ⟨by omega, ?_⟩
          have lt2 := A2.lt
          generalize hS_9 : S8 ++ [_] = S_9
          have A3 := At.new' X hS_9
          have Y_9 := Ext.new' X hS_9
          have q3_lo := X.len
          have q_ne_q3 := A.lt
          have q2_ne_q3 := A2.lt
          replace A := A.mv Y_9
          replace A2 := A2.mv Y_9
          replace hE := hE.mv Y_9
          replace hac := hac.mv Y_9
          replace X := X.mv Y_9
          clear hS_9
          generalize hq_q3 : List.length S8 = q3 at A3 q3_lo q_ne_q3 q2_ne_q3 ⊢
          rw [rn_add_l A2.h A3.h]
          refine ⟨by simp; omega, ?_⟩
          generalize hS_10 : S_9 ++ [_] = S_10
          have A4 := At.new' X hS_10
          have Y_10 := Ext.new' X hS_10
          have q4_lo := X.len
          have q_ne_q4 := A.lt
          have q2_ne_q4 := A2.lt
          have q3_ne_q4 := A3.lt
          replace A := A.mv Y_10
          replace A2 := A2.mv Y_10
          replace A3 := A3.mv Y_10
          replace hE := hE.mv Y_10
          replace hac := hac.mv Y_10
          replace X := X.mv Y_10
          clear hS_10
          generalize hq_q4 : List.length S_9 = q4 at A4 q4_lo q_ne_q4 q2_ne_q4 q3_ne_q4 ⊢
          exact ⟨_, wk_loc A4.h, q4, _, rfl, by omega, A4.low (Nat.zero_le _), by simp; omega, Af.append (Af.cons hsgn (Af.cons hoth (Af.nil lb lc))) hac, A, hE, X⟩
      subst hw
      refine for_rule vals (fun i e S6 => ∃ (x5 x6 x7 x8 x9 x10 x11 : Option PV) (zs : List PV), e = [some (.fl ns), some (.loc b), some (.loc q), some x, some (.tup (sg.map PV.int)), x5, x6, x7, x8, x9, x10, x11] ∧ At b c 0 S6 qv (.lst vals) ∧ Af b c (q + 1) S6 61 200000 vals ∧ At b c S0.length S6 q (.lst zs) ∧ zs.length = ys.length + i ∧ Ents b c (q + 1) S6 zs ∧ Ext b c S0 S6) hd ⟨_, _, _, _, _, _, _, ys, rfl, V, hvs, A, rfl, hE, X⟩ (fun i e S _ ⟨_, _, _, _, _, _, _, _, _, V, _⟩ => wL_at V.h i) (fun i v e S6 hx ⟨x5, x6, x7, x8, x9, x10, x11, ys, he, V, hvs, A, hyl, hE, X⟩ => ?_) (fun e S6 ⟨x5, x6, x7, x8, x9, x10, x11, zs, he, V, hvs, A, hzl, hE, X⟩ => ?_)
      · skip
        subst he
        have hv := hvs.get (List.mem_of_getElem? hx)
        have hil := lt_of_get hx
        refine ⟨[(5, v)], rfl, ?_⟩
        try simp only [setP, wipeP, List.foldl_cons, List.foldl_nil, List.set_cons_succ, List.set_cons_zero]
        try simp only [rn_var, rn_c, rn_op, rn_un, rn_dE, rn_ch, rn_dAnd, rn_dOr, rn_dNot, rn_dYes, rn_and, rn_or, rn_not, rn_if, rn_aNil, rn_aCons, rn_A, rn_mkT, rn_mkL, rn_oNon, rn_asI, rn_oSm, rn_sl, rn_M, rn_isi, rn_lrev, rn_add_i, rn_add_t, rn_sub_i, rn_mul_i, rn_fdiv_i, rn_mod_i, rn_pow_i, rn_lt_i, rn_le_i, rn_gt_i, rn_ge_i, rn_neg_i, rn_eq_i, rn_ne_i, rn_eq_b, rn_eq_s, rn_is, rn_isnot, rn_sl_t, kN_nx, kN_rt, kN_bk, kN_ct, rs_nil, rs_cons, rs_brk, rs_cnt, rs_ex, rs_ret, rs_retN, rs_if, rs_set, rs_par, rs_par3, rs_asg, rs_sub, rn_int_i, rn_abs_i, rn_asB, rn_iSeq, rn_iRng1, rn_iEnu, rn_iZp, rn_iRng2, rn_iRng3, rn_iRv, rn_dic0, rn_dic1, rn_max2, rn_MT, ex_tup, rn_revS, isTy_str, List.getElem?_cons_zero, List.getElem?_cons_succ, List.set_cons_succ, List.set_cons_zero, List.length_cons, List.length_nil, Nat.reduceAdd, Nat.zero_add, reduceIte, Nat.reduceLeDiff, true_and, List.cons_append, List.nil_append, isTy_lst A.h, rn_len_l A.h, rn_append A.h, isTy_lst V.h, rn_len_l V.h, rn_append V.h]
        refine (duesig_spec (vk_of hv).tyAll).mono ?_
        rintro r S7 ⟨rfl, h7⟩
        rw [h7]
        try simp only [rn_var, rn_c, rn_op, rn_un, rn_dE, rn_ch, rn_dAnd, rn_dOr, rn_dNot, rn_dYes, rn_and, rn_or, rn_not, rn_if, rn_aNil, rn_aCons, rn_A, rn_mkT, rn_mkL, rn_oNon, rn_asI, rn_oSm, rn_sl, rn_M, rn_isi, rn_lrev, rn_add_i, rn_add_t, rn_sub_i, rn_mul_i, rn_fdiv_i, rn_mod_i, rn_pow_i, rn_lt_i, rn_le_i, rn_gt_i, rn_ge_i, rn_neg_i, rn_eq_i, rn_ne_i, rn_eq_b, rn_eq_s, rn_is, rn_isnot, rn_sl_t, kN_nx, kN_rt, kN_bk, kN_ct, rs_nil, rs_cons, rs_brk, rs_cnt, rs_ex, rs_ret, rs_retN, rs_if, rs_set, rs_par, rs_par3, rs_asg, rs_sub, rn_int_i, rn_abs_i, rn_asB, rn_iSeq, rn_iRng1, rn_iEnu, rn_iZp, rn_iRng2, rn_iRng3, rn_iRv, rn_dic0, rn_dic1, rn_max2, rn_MT, ex_tup, rn_revS, isTy_str, List.getElem?_cons_zero, List.getElem?_cons_succ, List.set_cons_succ, List.set_cons_zero, List.length_cons, List.length_nil, Nat.reduceAdd, Nat.zero_add, reduceIte, Nat.reduceLeDiff, true_and, List.cons_append, List.nil_append, isTy_lst A.h, rn_len_l A.h, rn_append A.h, isTy_lst V.h, rn_len_l V.h, rn_append V.h]
        refine ⟨by omega, ?_⟩
        generalize hS_11 : List.set S6 q _ = S_11
        have W_11 := At.wrs' A hS_11
        have A' := At.put' A hS_11
        replace V := V.wr W_11 (by first | assumption | exact Ne.symm (by assumption) | omega)
        replace hvs := hvs.wr W_11 (by first | assumption | omega)
        replace hE := hE.wr W_11 (by first | assumption | omega)
        replace hv := hv.wr W_11 (by first | assumption | omega)
        replace X := X.wr W_11 A.lo
        clear hS_11 A
        have A := A'
        clear A'
        exact ⟨_, _, _, _, _, _, _, ys ++ [_], rfl, V, hvs, A, by rw [List.length_append, hyl]; simp; omega, hE.snoc ⟨v, _, _, rfl, hv, .inr ⟨rfl, rfl⟩⟩, X⟩
      · subst he
        exact ⟨_, _, _, _, _, _, _, _, _, zs, rfl, A, by omega, hE, X⟩
  · skip
    subst he
    rw [List.length_map, List.length_range] at hxl
    simp only [kN_nx]
    rw [rs_cons, rs_set]
    have hb1 : b < q := by have := A.lo; omega
    have hc1 : c < q := by have := A.lo; omega
    have hA2 : Af b c q S3 62 212000 xs := ⟨hb1, hc1, fun y hy => ((Ent.nf (hE.all y hy)).low (Nat.le_succ q) hb1 hc1).nd⟩
    have hN := Nf.lst (hA2.rf (k := 11000000) (by have : xs.length * (212000 + 2) ≤ 48 * 212002 := Nat.mul_le_mul_right _ (by omega); omega)) (Nat.le_refl q) A.h (Nat.le_refl _)
    obtain ⟨t, ht⟩ := reprG_ok hN.nd (by omega) (by omega)
    try simp only [rn_var, rn_c, rn_op, rn_un, rn_dE, rn_ch, rn_dAnd, rn_dOr, rn_dNot, rn_dYes, rn_and, rn_or, rn_not, rn_if, rn_aNil, rn_aCons, rn_A, rn_mkT, rn_mkL, rn_oNon, rn_asI, rn_oSm, rn_sl, rn_M, rn_isi, rn_lrev, rn_add_i, rn_add_t, rn_sub_i, rn_mul_i, rn_fdiv_i, rn_mod_i, rn_pow_i, rn_lt_i, rn_le_i, rn_gt_i, rn_ge_i, rn_neg_i, rn_eq_i, rn_ne_i, rn_eq_b, rn_eq_s, rn_is, rn_isnot, rn_sl_t, kN_nx, kN_rt, kN_bk, kN_ct, rs_nil, rs_brk, rs_cnt, rs_ret, rs_retN, rn_int_i, rn_abs_i, rn_asB, rn_iSeq, rn_iRng1, rn_iEnu, rn_iZp, rn_iRng2, rn_iRng3, rn_iRv, rn_dic0, rn_dic1, rn_max2, rn_MT, ex_tup, rn_revS, isTy_str, List.getElem?_cons_zero, List.getElem?_cons_succ, List.set_cons_succ, List.set_cons_zero, List.length_cons, List.length_nil, Nat.reduceAdd, Nat.zero_add, reduceIte, Nat.reduceLeDiff, true_and, List.cons_append, List.nil_append, isTy_lst A.h, rn_len_l A.h, rn_append A.h, ht S3 ExP.refl]
    have X3 := Ext.refl X.bag
    have step : ∀ (S4 : Sto) (x sv v d : PV) {Q : PV → Sto → Prop}, Ext b c S3 S4 → x ∈ xs → x = .tup [sv, v, d] → Ent b c (q + 1) S4 (.tup [sv, v, d]) := fun S4 x sv v d Q X4 hx e => e ▸ (hE.mv X4).all x hx
    rw [rs_cons]
    refine for_rn xs (fun i e S4 => ∃ (x3 x4 x5 x6 x8 x9 x10 x11 : Option PV), e = [some (.fl ns), some (.loc b), some (.loc q), x3, x4, x5, x6, some (.str t), x8, x9, x10, x11] ∧ Ext b c S3 S4) ?_ (fun i x e S4 hx ⟨x3, x4, x5, x6, x8, x9, x10, x11, he, X4⟩ => ?_) (fun e S4 ⟨x3, x4, x5, x6, x8, x9, x10, x11, he, X4⟩ => ?_)
    · try simp only [rn_var, rn_c, rn_op, rn_un, rn_dE, rn_ch, rn_dAnd, rn_dOr, rn_dNot, rn_dYes, rn_and, rn_or, rn_not, rn_if, rn_aNil, rn_aCons, rn_A, rn_mkT, rn_mkL, rn_oNon, rn_asI, rn_oSm, rn_sl, rn_M, rn_isi, rn_lrev, rn_add_i, rn_add_t, rn_sub_i, rn_mul_i, rn_fdiv_i, rn_mod_i, rn_pow_i, rn_lt_i, rn_le_i, rn_gt_i, rn_ge_i, rn_neg_i, rn_eq_i, rn_ne_i, rn_eq_b, rn_eq_s, rn_is, rn_isnot, rn_sl_t, kN_nx, kN_rt, kN_bk, kN_ct, rs_nil, rs_cons, rs_brk, rs_cnt, rs_ex, rs_ret, rs_retN, rs_if, rs_set, rs_par, rs_par3, rs_asg, rs_sub, rn_int_i, rn_abs_i, rn_asB, rn_iSeq, rn_iRng1, rn_iEnu, rn_iZp, rn_iRng2, rn_iRng3, rn_iRv, rn_dic0, rn_dic1, rn_max2, rn_MT, ex_tup, rn_revS, isTy_str, List.getElem?_cons_zero, List.getElem?_cons_succ, List.set_cons_succ, List.set_cons_zero, List.length_cons, List.length_nil, Nat.reduceAdd, Nat.zero_add, reduceIte, Nat.reduceLeDiff, true_and, List.cons_append, List.nil_append, isTy_lst A.h, rn_len_l A.h, rn_append A.h]
      exact ⟨_, wk_loc A.h, ⟨_, _, _, _, _, _, _, _, rfl, X3⟩, fun i e S ⟨_, _, _, _, _, _, _, _, _, X4⟩ => wL_at (A.mv X4).h i⟩
    · subst he
      obtain ⟨v, d, sv, rfl, _⟩ := hE.all x (List.mem_of_getElem? hx)
      have hEn := (hE.mv X4).all _ (List.mem_of_getElem? hx)
      refine ⟨[(4, sv), (5, v), (8, d)], rfl, ?_⟩
      try simp only [setP, wipeP, List.foldl_cons, List.foldl_nil, List.set_cons_succ, List.set_cons_zero]
      rw [rs_if]
      simp only [rn_var, rn_c, rn_op, rn_un, rn_dE, rn_ch, rn_dAnd, rn_dOr, rn_dNot, rn_dYes, rn_and, rn_or, rn_not, rn_if, rn_aNil, rn_aCons, rn_A, rn_mkT, rn_mkL, rn_oNon, rn_asI, rn_oSm, rn_sl, rn_M, rn_isi, rn_lrev, rn_add_i, rn_add_t, rn_sub_i, rn_mul_i, rn_fdiv_i, rn_mod_i, rn_pow_i, rn_lt_i, rn_le_i, rn_gt_i, rn_ge_i, rn_neg_i, rn_eq_i, rn_ne_i, rn_eq_b, rn_eq_s, rn_is, rn_isnot, rn_sl_t, kN_nx, kN_rt, kN_bk, kN_ct, rs_nil, rs_brk, rs_cnt, rs_ret, rs_retN, rn_int_i, rn_abs_i, rn_asB, rn_iSeq, rn_iRng1, rn_iEnu, rn_iZp, rn_iRng2, rn_iRng3, rn_iRv, rn_dic0, rn_dic1, rn_max2, rn_MT, ex_tup, rn_revS, isTy_str, List.getElem?_cons_zero, List.getElem?_cons_succ, List.set_cons_succ, List.set_cons_zero, List.length_cons, List.length_nil, Nat.reduceAdd, Nat.zero_add, reduceIte, Nat.reduceLeDiff, true_and, List.cons_append, List.nil_append]
      rcases check_spec X4 hEn with ⟨sg, rfl, hc⟩ | ⟨rfl, hc⟩
      · simp only [isN]
        refine ⟨fun h => (nomatch h), fun _ => ?_⟩
        refine hc.mono ?_
        rintro r S5 ⟨rfl, X5⟩
        refine (due_same hEn X5).mono ?_
        rintro r S6 ⟨rfl, X6⟩
        try simp only [rn_var, rn_c, rn_op, rn_un, rn_dE, rn_ch, rn_dAnd, rn_dOr, rn_dNot, rn_dYes, rn_and, rn_or, rn_not, rn_if, rn_aNil, rn_aCons, rn_A, rn_mkT, rn_mkL, rn_oNon, rn_asI, rn_oSm, rn_sl, rn_M, rn_isi, rn_lrev, rn_add_i, rn_add_t, rn_sub_i, rn_mul_i, rn_fdiv_i, rn_mod_i, rn_pow_i, rn_lt_i, rn_le_i, rn_gt_i, rn_ge_i, rn_neg_i, rn_eq_i, rn_ne_i, rn_eq_b, rn_eq_s, rn_is, rn_isnot, rn_sl_t, kN_nx, kN_rt, kN_bk, kN_ct, rs_nil, rs_cons, rs_brk, rs_cnt, rs_ex, rs_ret, rs_retN, rs_if, rs_set, rs_par, rs_par3, rs_asg, rs_sub, rn_int_i, rn_abs_i, rn_asB, rn_iSeq, rn_iRng1, rn_iEnu, rn_iZp, rn_iRng2, rn_iRng3, rn_iRv, rn_dic0, rn_dic1, rn_max2, rn_MT, ex_tup, rn_revS, isTy_str, List.getElem?_cons_zero, List.getElem?_cons_succ, List.set_cons_succ, List.set_cons_zero, List.length_cons, List.length_nil, Nat.reduceAdd, Nat.zero_add, reduceIte, Nat.reduceLeDiff, true_and, List.cons_append, List.nil_append, forall_const, true_implies, false_implies, reduceCtorEq, Bool.true_eq_false, Bool.false_eq_true, decide_true, beq_self_eq_true, Bool.not_true, Bool.not_false, and_true, ty_non, ty_bl, ty_int, ty_str, ty_tup, ty_fl, Option.some.injEq, exists_eq_left', isi_NoneType_bool, isi_NoneType_int, isi_NoneType_str, isi_NoneType_tuple, isi_NoneType_list, isi_NoneType_dict, isi_bool_bool, isi_bool_int, isi_bool_str, isi_bool_tuple, isi_bool_list, isi_bool_dict, isi_int_bool, isi_int_int, isi_int_str, isi_int_tuple, isi_int_list, isi_int_dict, isi_str_bool, isi_str_int, isi_str_str, isi_str_tuple, isi_str_list, isi_str_dict, isi_tuple_bool, isi_tuple_int, isi_tuple_str, isi_tuple_tuple, isi_tuple_list, isi_tuple_dict, isi_list_bool, isi_list_int, isi_list_str, isi_list_tuple, isi_list_list, isi_list_dict, isi_dict_bool, isi_dict_int, isi_dict_str, isi_dict_tuple, isi_dict_list, isi_dict_dict, isTy_lst A.h, rn_len_l A.h, rn_append A.h]
        exact ⟨_, _, _, _, _, _, _, _, rfl, X6⟩
      · simp only [isN]
        refine ⟨fun _ => ?_, fun h => (nomatch h)⟩
        refine hc.mono ?_
        rintro r S5 ⟨rfl, X5⟩
        refine (due_same hEn X5).mono ?_
        rintro r S6 ⟨rfl, X6⟩
        try simp only [rn_var, rn_c, rn_op, rn_un, rn_dE, rn_ch, rn_dAnd, rn_dOr, rn_dNot, rn_dYes, rn_and, rn_or, rn_not, rn_if, rn_aNil, rn_aCons, rn_A, rn_mkT, rn_mkL, rn_oNon, rn_asI, rn_oSm, rn_sl, rn_M, rn_isi, rn_lrev, rn_add_i, rn_add_t, rn_sub_i, rn_mul_i, rn_fdiv_i, rn_mod_i, rn_pow_i, rn_lt_i, rn_le_i, rn_gt_i, rn_ge_i, rn_neg_i, rn_eq_i, rn_ne_i, rn_eq_b, rn_eq_s, rn_is, rn_isnot, rn_sl_t, kN_nx, kN_rt, kN_bk, kN_ct, rs_nil, rs_cons, rs_brk, rs_cnt, rs_ex, rs_ret, rs_retN, rs_if, rs_set, rs_par, rs_par3, rs_asg, rs_sub, rn_int_i, rn_abs_i, rn_asB, rn_iSeq, rn_iRng1, rn_iEnu, rn_iZp, rn_iRng2, rn_iRng3, rn_iRv, rn_dic0, rn_dic1, rn_max2, rn_MT, ex_tup, rn_revS, isTy_str, List.getElem?_cons_zero, List.getElem?_cons_succ, List.set_cons_succ, List.set_cons_zero, List.length_cons, List.length_nil, Nat.reduceAdd, Nat.zero_add, reduceIte, Nat.reduceLeDiff, true_and, List.cons_append, List.nil_append, forall_const, true_implies, false_implies, reduceCtorEq, Bool.true_eq_false, Bool.false_eq_true, decide_true, beq_self_eq_true, Bool.not_true, Bool.not_false, and_true, ty_non, ty_bl, ty_int, ty_str, ty_tup, ty_fl, Option.some.injEq, exists_eq_left', isi_NoneType_bool, isi_NoneType_int, isi_NoneType_str, isi_NoneType_tuple, isi_NoneType_list, isi_NoneType_dict, isi_bool_bool, isi_bool_int, isi_bool_str, isi_bool_tuple, isi_bool_list, isi_bool_dict, isi_int_bool, isi_int_int, isi_int_str, isi_int_tuple, isi_int_list, isi_int_dict, isi_str_bool, isi_str_int, isi_str_str, isi_str_tuple, isi_str_list, isi_str_dict, isi_tuple_bool, isi_tuple_int, isi_tuple_str, isi_tuple_tuple, isi_tuple_list, isi_tuple_dict, isi_list_bool, isi_list_int, isi_list_str, isi_list_tuple, isi_list_list, isi_list_dict, isi_dict_bool, isi_dict_int, isi_dict_str, isi_dict_tuple, isi_dict_list, isi_dict_dict, isTy_lst A.h, rn_len_l A.h, rn_append A.h]
        exact ⟨_, _, _, _, _, _, _, _, rfl, X6⟩
    · subst he
      simp only [kN_nx]
      rw [rs_cons]
      refine for_rn xs.reverse (fun i e S4 => ∃ (x3 x4 x5 x6 x8 x9 x10 x11 : Option PV), e = [some (.fl ns), some (.loc b), some (.loc q), x3, x4, x5, x6, some (.str t), x8, x9, x10, x11] ∧ Ext b c S3 S4) ?_ (fun i x e S4 hx ⟨x3, x4, x5, x6, x8, x9, x10, x11, he, X4⟩ => ?_) (fun e S4 ⟨x3, x4, x5, x6, x8, x9, x10, x11, he, X4⟩ => ?_)
      · try simp only [rn_var, rn_c, rn_op, rn_un, rn_dE, rn_ch, rn_dAnd, rn_dOr, rn_dNot, rn_dYes, rn_and, rn_or, rn_not, rn_if, rn_aNil, rn_aCons, rn_A, rn_mkT, rn_mkL, rn_oNon, rn_asI, rn_oSm, rn_sl, rn_M, rn_isi, rn_lrev, rn_add_i, rn_add_t, rn_sub_i, rn_mul_i, rn_fdiv_i, rn_mod_i, rn_pow_i, rn_lt_i, rn_le_i, rn_gt_i, rn_ge_i, rn_neg_i, rn_eq_i, rn_ne_i, rn_eq_b, rn_eq_s, rn_is, rn_isnot, rn_sl_t, kN_nx, kN_rt, kN_bk, kN_ct, rs_nil, rs_cons, rs_brk, rs_cnt, rs_ex, rs_ret, rs_retN, rs_if, rs_set, rs_par, rs_par3, rs_asg, rs_sub, rn_int_i, rn_abs_i, rn_asB, rn_iSeq, rn_iRng1, rn_iEnu, rn_iZp, rn_iRng2, rn_iRng3, rn_iRv, rn_dic0, rn_dic1, rn_max2, rn_MT, ex_tup, rn_revS, isTy_str, List.getElem?_cons_zero, List.getElem?_cons_succ, List.set_cons_succ, List.set_cons_zero, List.length_cons, List.length_nil, Nat.reduceAdd, Nat.zero_add, reduceIte, Nat.reduceLeDiff, true_and, List.cons_append, List.nil_append, isTy_lst A.h, rn_len_l A.h, rn_append A.h]
        exact ⟨_, rv_loc (A.mv X4).h, ⟨_, _, _, _, _, _, _, _, rfl, X4⟩, fun i e S ⟨_, _, _, _, _, _, _, _, _, X4⟩ => wRv_at (A.mv X4).h i⟩
      · subst he
        have hxm := List.mem_reverse.mp (List.mem_of_getElem? hx)
        obtain ⟨v, d, sv, rfl, _⟩ := hE.all x hxm
        have hEn := (hE.mv X4).all _ hxm
        refine ⟨[(4, sv), (5, v), (8, d)], rfl, ?_⟩
        try simp only [setP, wipeP, List.foldl_cons, List.foldl_nil, List.set_cons_succ, List.set_cons_zero]
        rw [rs_cons, rs_if]
        simp only [rn_var, rn_c, rn_op, rn_un, rn_dE, rn_ch, rn_dAnd, rn_dOr, rn_dNot, rn_dYes, rn_and, rn_or, rn_not, rn_if, rn_aNil, rn_aCons, rn_A, rn_mkT, rn_mkL, rn_oNon, rn_asI, rn_oSm, rn_sl, rn_M, rn_isi, rn_lrev, rn_add_i, rn_add_t, rn_sub_i, rn_mul_i, rn_fdiv_i, rn_mod_i, rn_pow_i, rn_lt_i, rn_le_i, rn_gt_i, rn_ge_i, rn_neg_i, rn_eq_i, rn_ne_i, rn_eq_b, rn_eq_s, rn_is, rn_isnot, rn_sl_t, kN_nx, kN_rt, kN_bk, kN_ct, rs_nil, rs_brk, rs_cnt, rs_ret, rs_retN, rn_int_i, rn_abs_i, rn_asB, rn_iSeq, rn_iRng1, rn_iEnu, rn_iZp, rn_iRng2, rn_iRng3, rn_iRv, rn_dic0, rn_dic1, rn_max2, rn_MT, ex_tup, rn_revS, isTy_str, List.getElem?_cons_zero, List.getElem?_cons_succ, List.set_cons_succ, List.set_cons_zero, List.length_cons, List.length_nil, Nat.reduceAdd, Nat.zero_add, reduceIte, Nat.reduceLeDiff, true_and, List.cons_append, List.nil_append]
        rcases check_spec X4 hEn with ⟨sg, rfl, hc⟩ | ⟨rfl, hc⟩
        · simp only [isN]
          refine ⟨fun h => (nomatch h), fun _ => ?_⟩
          rw [rs_set]
          simp only [rn_var, rn_c, rn_op, rn_un, rn_dE, rn_ch, rn_dAnd, rn_dOr, rn_dNot, rn_dYes, rn_and, rn_or, rn_not, rn_if, rn_aNil, rn_aCons, rn_A, rn_mkT, rn_mkL, rn_oNon, rn_asI, rn_oSm, rn_sl, rn_M, rn_isi, rn_lrev, rn_add_i, rn_add_t, rn_sub_i, rn_mul_i, rn_fdiv_i, rn_mod_i, rn_pow_i, rn_lt_i, rn_le_i, rn_gt_i, rn_ge_i, rn_neg_i, rn_eq_i, rn_ne_i, rn_eq_b, rn_eq_s, rn_is, rn_isnot, rn_sl_t, kN_nx, kN_rt, kN_bk, kN_ct, rs_nil, rs_brk, rs_cnt, rs_ret, rs_retN, rn_int_i, rn_abs_i, rn_asB, rn_iSeq, rn_iRng1, rn_iEnu, rn_iZp, rn_iRng2, rn_iRng3, rn_iRv, rn_dic0, rn_dic1, rn_max2, rn_MT, ex_tup, rn_revS, isTy_str, List.getElem?_cons_zero, List.getElem?_cons_succ, List.set_cons_succ, List.set_cons_zero, List.length_cons, List.length_nil, Nat.reduceAdd, Nat.zero_add, reduceIte, Nat.reduceLeDiff, true_and, List.cons_append, List.nil_append, pick]
          refine hc.mono ?_
          rintro r S5 ⟨rfl, X5⟩
          rw [rs_if]
          try simp only [rn_var, rn_c, rn_op, rn_un, rn_dE, rn_ch, rn_dAnd, rn_dOr, rn_dNot, rn_dYes, rn_and, rn_or, rn_not, rn_if, rn_aNil, rn_aCons, rn_A, rn_mkT, rn_mkL, rn_oNon, rn_asI, rn_oSm, rn_sl, rn_M, rn_isi, rn_lrev, rn_add_i, rn_add_t, rn_sub_i, rn_mul_i, rn_fdiv_i, rn_mod_i, rn_pow_i, rn_lt_i, rn_le_i, rn_gt_i, rn_ge_i, rn_neg_i, rn_eq_i, rn_ne_i, rn_eq_b, rn_eq_s, rn_is, rn_isnot, rn_sl_t, kN_nx, kN_rt, kN_bk, kN_ct, rs_nil, rs_brk, rs_cnt, rs_ret, rs_retN, rn_int_i, rn_abs_i, rn_asB, rn_iSeq, rn_iRng1, rn_iEnu, rn_iZp, rn_iRng2, rn_iRng3, rn_iRv, rn_dic0, rn_dic1, rn_max2, rn_MT, ex_tup, rn_revS, isTy_str, List.getElem?_cons_zero, List.getElem?_cons_succ, List.set_cons_succ, List.set_cons_zero, List.length_cons, List.length_nil, Nat.reduceAdd, Nat.zero_add, reduceIte, Nat.reduceLeDiff, true_and, List.cons_append, List.nil_append, isTy_lst A.h, rn_len_l A.h, rn_append A.h]
          refine (due_same hEn X5).mono ?_
          rintro r S6 ⟨rfl, X6⟩
          try simp only [rn_var, rn_c, rn_op, rn_un, rn_dE, rn_ch, rn_dAnd, rn_dOr, rn_dNot, rn_dYes, rn_and, rn_or, rn_not, rn_if, rn_aNil, rn_aCons, rn_A, rn_mkT, rn_mkL, rn_oNon, rn_asI, rn_oSm, rn_sl, rn_M, rn_isi, rn_lrev, rn_add_i, rn_add_t, rn_sub_i, rn_mul_i, rn_fdiv_i, rn_mod_i, rn_pow_i, rn_lt_i, rn_le_i, rn_gt_i, rn_ge_i, rn_neg_i, rn_eq_i, rn_ne_i, rn_eq_b, rn_eq_s, rn_is, rn_isnot, rn_sl_t, kN_nx, kN_rt, kN_bk, kN_ct, rs_nil, rs_cons, rs_brk, rs_cnt, rs_ex, rs_ret, rs_retN, rs_if, rs_set, rs_par, rs_par3, rs_asg, rs_sub, rn_int_i, rn_abs_i, rn_asB, rn_iSeq, rn_iRng1, rn_iEnu, rn_iZp, rn_iRng2, rn_iRng3, rn_iRv, rn_dic0, rn_dic1, rn_max2, rn_MT, ex_tup, rn_revS, isTy_str, List.getElem?_cons_zero, List.getElem?_cons_succ, List.set_cons_succ, List.set_cons_zero, List.length_cons, List.length_nil, Nat.reduceAdd, Nat.zero_add, reduceIte, Nat.reduceLeDiff, true_and, List.cons_append, List.nil_append, forall_const, true_implies, false_implies, reduceCtorEq, Bool.true_eq_false, Bool.false_eq_true, decide_true, beq_self_eq_true, Bool.not_true, Bool.not_false, and_true, ty_non, ty_bl, ty_int, ty_str, ty_tup, ty_fl, Option.some.injEq, exists_eq_left', isi_NoneType_bool, isi_NoneType_int, isi_NoneType_str, isi_NoneType_tuple, isi_NoneType_list, isi_NoneType_dict, isi_bool_bool, isi_bool_int, isi_bool_str, isi_bool_tuple, isi_bool_list, isi_bool_dict, isi_int_bool, isi_int_int, isi_int_str, isi_int_tuple, isi_int_list, isi_int_dict, isi_str_bool, isi_str_int, isi_str_str, isi_str_tuple, isi_str_list, isi_str_dict, isi_tuple_bool, isi_tuple_int, isi_tuple_str, isi_tuple_tuple, isi_tuple_list, isi_tuple_dict, isi_list_bool, isi_list_int, isi_list_str, isi_list_tuple, isi_list_list, isi_list_dict, isi_dict_bool, isi_dict_int, isi_dict_str, isi_dict_tuple, isi_dict_list, isi_dict_dict, isTy_lst A.h, rn_len_l A.h, rn_append A.h]
          exact ⟨_, _, _, _, _, _, _, _, rfl, X6⟩
        · simp only [isN]
          refine ⟨fun _ => ?_, fun h => (nomatch h)⟩
          rw [rs_set]
          simp only [rn_var, rn_c, rn_op, rn_un, rn_dE, rn_ch, rn_dAnd, rn_dOr, rn_dNot, rn_dYes, rn_and, rn_or, rn_not, rn_if, rn_aNil, rn_aCons, rn_A, rn_mkT, rn_mkL, rn_oNon, rn_asI, rn_oSm, rn_sl, rn_M, rn_isi, rn_lrev, rn_add_i, rn_add_t, rn_sub_i, rn_mul_i, rn_fdiv_i, rn_mod_i, rn_pow_i, rn_lt_i, rn_le_i, rn_gt_i, rn_ge_i, rn_neg_i, rn_eq_i, rn_ne_i, rn_eq_b, rn_eq_s, rn_is, rn_isnot, rn_sl_t, kN_nx, kN_rt, kN_bk, kN_ct, rs_nil, rs_brk, rs_cnt, rs_ret, rs_retN, rn_int_i, rn_abs_i, rn_asB, rn_iSeq, rn_iRng1, rn_iEnu, rn_iZp, rn_iRng2, rn_iRng3, rn_iRv, rn_dic0, rn_dic1, rn_max2, rn_MT, ex_tup, rn_revS, isTy_str, List.getElem?_cons_zero, List.getElem?_cons_succ, List.set_cons_succ, List.set_cons_zero, List.length_cons, List.length_nil, Nat.reduceAdd, Nat.zero_add, reduceIte, Nat.reduceLeDiff, true_and, List.cons_append, List.nil_append, pick]
          refine hc.mono ?_
          rintro r S5 ⟨rfl, X5⟩
          rw [rs_if]
          try simp only [rn_var, rn_c, rn_op, rn_un, rn_dE, rn_ch, rn_dAnd, rn_dOr, rn_dNot, rn_dYes, rn_and, rn_or, rn_not, rn_if, rn_aNil, rn_aCons, rn_A, rn_mkT, rn_mkL, rn_oNon, rn_asI, rn_oSm, rn_sl, rn_M, rn_isi, rn_lrev, rn_add_i, rn_add_t, rn_sub_i, rn_mul_i, rn_fdiv_i, rn_mod_i, rn_pow_i, rn_lt_i, rn_le_i, rn_gt_i, rn_ge_i, rn_neg_i, rn_eq_i, rn_ne_i, rn_eq_b, rn_eq_s, rn_is, rn_isnot, rn_sl_t, kN_nx, kN_rt, kN_bk, kN_ct, rs_nil, rs_brk, rs_cnt, rs_ret, rs_retN, rn_int_i, rn_abs_i, rn_asB, rn_iSeq, rn_iRng1, rn_iEnu, rn_iZp, rn_iRng2, rn_iRng3, rn_iRv, rn_dic0, rn_dic1, rn_max2, rn_MT, ex_tup, rn_revS, isTy_str, List.getElem?_cons_zero, List.getElem?_cons_succ, List.set_cons_succ, List.set_cons_zero, List.length_cons, List.length_nil, Nat.reduceAdd, Nat.zero_add, reduceIte, Nat.reduceLeDiff, true_and, List.cons_append, List.nil_append, isTy_lst A.h, rn_len_l A.h, rn_append A.h]
          refine (due_same hEn X5).mono ?_
          rintro r S6 ⟨rfl, X6⟩
          try simp only [rn_var, rn_c, rn_op, rn_un, rn_dE, rn_ch, rn_dAnd, rn_dOr, rn_dNot, rn_dYes, rn_and, rn_or, rn_not, rn_if, rn_aNil, rn_aCons, rn_A, rn_mkT, rn_mkL, rn_oNon, rn_asI, rn_oSm, rn_sl, rn_M, rn_isi, rn_lrev, rn_add_i, rn_add_t, rn_sub_i, rn_mul_i, rn_fdiv_i, rn_mod_i, rn_pow_i, rn_lt_i, rn_le_i, rn_gt_i, rn_ge_i, rn_neg_i, rn_eq_i, rn_ne_i, rn_eq_b, rn_eq_s, rn_is, rn_isnot, rn_sl_t, kN_nx, kN_rt, kN_bk, kN_ct, rs_nil, rs_cons, rs_brk, rs_cnt, rs_ex, rs_ret, rs_retN, rs_if, rs_set, rs_par, rs_par3, rs_asg, rs_sub, rn_int_i, rn_abs_i, rn_asB, rn_iSeq, rn_iRng1, rn_iEnu, rn_iZp, rn_iRng2, rn_iRng3, rn_iRv, rn_dic0, rn_dic1, rn_max2, rn_MT, ex_tup, rn_revS, isTy_str, List.getElem?_cons_zero, List.getElem?_cons_succ, List.set_cons_succ, List.set_cons_zero, List.length_cons, List.length_nil, Nat.reduceAdd, Nat.zero_add, reduceIte, Nat.reduceLeDiff, true_and, List.cons_append, List.nil_append, forall_const, true_implies, false_implies, reduceCtorEq, Bool.true_eq_false, Bool.false_eq_true, decide_true, beq_self_eq_true, Bool.not_true, Bool.not_false, and_true, ty_non, ty_bl, ty_int, ty_str, ty_tup, ty_fl, Option.some.injEq, exists_eq_left', isi_NoneType_bool, isi_NoneType_int, isi_NoneType_str, isi_NoneType_tuple, isi_NoneType_list, isi_NoneType_dict, isi_bool_bool, isi_bool_int, isi_bool_str, isi_bool_tuple, isi_bool_list, isi_bool_dict, isi_int_bool, isi_int_int, isi_int_str, isi_int_tuple, isi_int_list, isi_int_dict, isi_str_bool, isi_str_int, isi_str_str, isi_str_tuple, isi_str_list, isi_str_dict, isi_tuple_bool, isi_tuple_int, isi_tuple_str, isi_tuple_tuple, isi_tuple_list, isi_tuple_dict, isi_list_bool, isi_list_int, isi_list_str, isi_list_tuple, isi_list_list, isi_list_dict, isi_dict_bool, isi_dict_int, isi_dict_str, isi_dict_tuple, isi_dict_list, isi_dict_dict, isTy_lst A.h, rn_len_l A.h, rn_append A.h]
          exact ⟨_, _, _, _, _, _, _, _, rfl, X6⟩
      · subst he
        simp only [kN_nx]
        try simp only [rn_var, rn_c, rn_op, rn_un, rn_dE, rn_ch, rn_dAnd, rn_dOr, rn_dNot, rn_dYes, rn_and, rn_or, rn_not, rn_if, rn_aNil, rn_aCons, rn_A, rn_mkT, rn_mkL, rn_oNon, rn_asI, rn_oSm, rn_sl, rn_M, rn_isi, rn_lrev, rn_add_i, rn_add_t, rn_sub_i, rn_mul_i, rn_fdiv_i, rn_mod_i, rn_pow_i, rn_lt_i, rn_le_i, rn_gt_i, rn_ge_i, rn_neg_i, rn_eq_i, rn_ne_i, rn_eq_b, rn_eq_s, rn_is, rn_isnot, rn_sl_t, kN_nx, kN_rt, kN_bk, kN_ct, rs_nil, rs_cons, rs_brk, rs_cnt, rs_ex, rs_ret, rs_retN, rs_if, rs_set, rs_par, rs_par3, rs_asg, rs_sub, rn_int_i, rn_abs_i, rn_asB, rn_iSeq, rn_iRng1, rn_iEnu, rn_iZp, rn_iRng2, rn_iRng3, rn_iRv, rn_dic0, rn_dic1, rn_max2, rn_MT, ex_tup, rn_revS, isTy_str, List.getElem?_cons_zero, List.getElem?_cons_succ, List.set_cons_succ, List.set_cons_zero, List.length_cons, List.length_nil, Nat.reduceAdd, Nat.zero_add, reduceIte, Nat.reduceLeDiff, true_and, List.cons_append, List.nil_append, isTy_lst A.h, rn_len_l A.h, rn_append A.h, ht S4 (X4.toP hb1 hc1)]
        try simp
end Lw
open PySem PySem.W PySem.Calls PyProof.Rows
theorem PySem.Challenge.cw_fencedterms_k01_terms_and_signatures_jud_holds : PySem.Challenge.rw_fencedterms_k01_terms_and_signatures_jud.Holds := by
  w_on; o_law
  refine HandSHeadRun.head_any (r := OpenLaw.row PySem.Challenge.rw_fencedterms_k01_terms_and_signatures_jud) (q := view (OpenLaw.row PySem.Challenge.rw_fencedterms_k01_terms_and_signatures_jud).prog [28]) (H := Lw.hk) (ob := Lw.ob) (M := 2000) (loose := Lw.loose) (d := HandSHeadRun.topDef (OpenLaw.row PySem.Challenge.rw_fencedterms_k01_terms_and_signatures_jud).prog 28) (kwd := []) Lw.ob_eq
    (by kernel_rfl) (fun s => by kernel_rfl) Lw.run (by kernel_rfl) (by kernel_rfl) (by kernel_rfl) (by rfl) (by first | assumption | decide +kernel) (by decide +kernel) ⟨rfl, rfl, rfl, rfl, rfl, by decide +kernel⟩ ?hw ?hc
  case hw => w_witness2
  case hc =>
    refine EV.walk_G (l := PySem.Challenge.rw_fencedterms_k01_terms_and_signatures_jud) (n := 63) (k := 65) (x := "script") (g := Lw.f_law) rfl (by decide) (by kernel_rfl) ⟨rfl, by decide, by decide⟩ ?F (fun _ _ Y => Y.2) Lw.law_true
    intro w mg fa h Y G hmg0
    obtain ⟨⟨K, KX, c⟩, _⟩ := Y
    have hmg : mg ("law" : PySem.Str) = some (.ref fa) := by
      have e : (HandSHeadRun.topDef (OpenLaw.row PySem.Challenge.rw_fencedterms_k01_terms_and_signatures_jud).prog 28).name = ("law" : PySem.Str) := by kernel_rfl
      rw [← e]
      exact hmg0
    obtain ⟨fas, fds, E⟩ := Lw.facts KX G c
    cases hmg.symm.trans E.m_law
    exact ⟨K, fds 22, KX, E.ba_law, fun base hB => Lw.g_law E hB⟩
