import PyProof.Rows.All
import Wide.All
import OpenK.AllK
import Wide.FinOn
import KE.KStateDown
import HandS.ForMost
import HandS.Exc
import HandS.ExcOwn
import HandS.WordsExc
import HandS.TryOnly
import HandS.IsInst
import HandS.Gcd
import HandS.Wide
import HandS.WideBits
import HandS.TupAny
import HandS.Style
import PyProof.ReprRoads
import HandS.Defaults
import HandS.Head0
import HandS.Head1
import HandS.Head2
import HandS.HeadEnd
import HandS.HeadHook1
import HandS.HeadHook2
import HandS.EndBits
import KE.HD3
import PySem.Challenge.RW_bringnear_k02_kinds_and_gaps_of_anything
set_option Elab.async false
set_option linter.all false
set_option maxRecDepth 100000
set_option maxHeartbeats 4000000
/-! Bn: a small language of data over the hand layer. Part 1: data, cells, how they lie in the abstract heap. -/
namespace Bn
open PySem L2

/-- data that do not change -/
inductive D where
  | non | bl (b : Bool) | int (i : Int) | str (s : Str)
  | tup (l : List D) | lst (l : List D) | scr (l : List Int) | dct (l : List (Key × D)) | obj (c : Str) (l : List (Str × D))
/-- a value: data, or one of the cells that may change -/
inductive A where
  | d (x : D) | c (n : Nat)
inductive Cell where
  | lst (l : List A) | ins (c : Str) (l : List (Str × A)) | dead
inductive R (α : Type) where
  | ok (a : α) (S : List Cell) | ex (c : Str) (x : Option (Str × D)) (S : List Cell) | no
def R.bind {α β : Type} (r : R α) (k : α → List Cell → R β) : R β := match r with
  | .ok a S => k a S
  | .ex c x S => .ex c x S
  | .no => .no
theorem R.bind_ok {α β : Type} (a : α) (S : List Cell) (k : α → List Cell → R β) : (R.ok a S).bind k = k a S := rfl

/-! ### a list part of the written heap -/
def IsL (K : PySem.W.Frag) (M : Addr → Prop) (H : Hp) (a : Addr) (xs : List V) : Prop := (Rd H a (.lst xs) ∧ ¬ M a) ∨ SqL K (fun _ => none) a xs
def IsT (K : PySem.W.Frag) (M : Addr → Prop) (H : Hp) (a : Addr) (xs : List V) : Prop := (Rd H a (.tup xs) ∧ ¬ M a) ∨ SqT K (fun _ => none) a xs
theorem rd_none {a : Addr} {u : HO} (h : Rd (fun _ => none) a u) : False := by
  rcases h with h | ⟨o, h⟩
  · cases h
  · cases h
theorem IsL.sq {K : PySem.W.Frag} {M : Addr → Prop} {H : Hp} {a : Addr} {xs : List V} (h : IsL K M H a xs) : SqL K H a xs := by
  rcases h with ⟨h, _⟩ | h | h
  · exact .inl h
  · exact (rd_none h).elim
  · exact .inr h
theorem IsT.sq {K : PySem.W.Frag} {M : Addr → Prop} {H : Hp} {a : Addr} {xs : List V} (h : IsT K M H a xs) : SqT K H a xs := by
  rcases h with ⟨h, _⟩ | h | h
  · exact .inl h
  · exact (rd_none h).elim
  · exact .inr h

mutual
/-- v lies in H as the data d, and nothing of it is one of the things M that may change -/
inductive Rep (K : PySem.W.Frag) (mg : Str → Option Value) (M : Addr → Prop) (H : Hp) : V → D → Prop
  | non : Rep K mg M H .non .non
  | bl (b : Bool) : Rep K mg M H (.bl b) (.bl b)
  | int (i : Int) : Rep K mg M H (.int i) (.int i)
  | str (s : Str) : Rep K mg M H (.str s) (.str s)
  | tup {a : Addr} {xs : List V} {ds : List D} : IsT K M H a xs → Reps K mg M H xs ds → Rep K mg M H (.ref a) (.tup ds)
  | lst {a : Addr} {xs : List V} {ds : List D} : H a = some (.lst xs) → ¬ M a → Reps K mg M H xs ds → Rep K mg M H (.ref a) (.lst ds)
  | scr {a : Addr} {l : List Int} : IsL K M H a (l.map V.int) → Rep K mg M H (.ref a) (.scr l)
  | dct {a : Addr} {kvs : List (Key × V)} {ds : List (Key × D)} : H a = some (.dK kvs) → ¬ M a → kvs.map (·.1) = ds.map (·.1) →
      Reps K mg M H (kvs.map (·.2)) (ds.map (·.2)) → Rep K mg M H (.ref a) (.dct ds)
  | obj {a C dx : Addr} {c : Str} {fs : List (Str × V)} {ds : List (Str × D)} : mg c = some (.ref C) → H a = some (.ins C dx fs) → ¬ M a → fs.map (·.1) = ds.map (·.1) →
      Reps K mg M H (fs.map (·.2)) (ds.map (·.2)) → Rep K mg M H (.ref a) (.obj c ds)
inductive Reps (K : PySem.W.Frag) (mg : Str → Option Value) (M : Addr → Prop) (H : Hp) : List V → List D → Prop
  | nil : Reps K mg M H [] []
  | cons {v : V} {vs : List V} {d : D} {ds : List D} : Rep K mg M H v d → Reps K mg M H vs ds → Reps K mg M H (v :: vs) (d :: ds)
end

/-- what may be read of the heap (outside of M) is still there, outside of M' -/
structure Keep (M : Addr → Prop) (H : Hp) (M' : Addr → Prop) (H' : Hp) : Prop where
  at_ : ∀ a o, H a = some o → ¬ M a → H' a = some o ∧ ¬ M' a
theorem Keep.refl {M : Addr → Prop} {H : Hp} : Keep M H M H := ⟨fun _ _ h n => ⟨h, n⟩⟩
theorem Keep.rd {M M' : Addr → Prop} {H H' : Hp} (k : Keep M H M' H') {a : Addr} {u : HO} (h : Rd H a u) (n : ¬ M a) : Rd H' a u ∧ ¬ M' a := by
  rcases h with h | ⟨o, h⟩
  · exact ⟨.inl (k.at_ a _ h n).1, (k.at_ a _ h n).2⟩
  · exact ⟨.inr ⟨o, (k.at_ a _ h n).1⟩, (k.at_ a _ h n).2⟩
section
variable {K : PySem.W.Frag} {mg : Str → Option Value} {M M' : Addr → Prop} {H H' : Hp}
theorem IsL.keep (k : Keep M H M' H') {a : Addr} {xs : List V} (h : IsL K M H a xs) : IsL K M' H' a xs := by
  rcases h with ⟨h, n⟩ | h
  · exact .inl (k.rd h n)
  · exact .inr h
theorem IsT.keep (k : Keep M H M' H') {a : Addr} {xs : List V} (h : IsT K M H a xs) : IsT K M' H' a xs := by
  rcases h with ⟨h, n⟩ | h
  · exact .inl (k.rd h n)
  · exact .inr h
mutual
theorem Rep.keep (k : Keep M H M' H') : ∀ {v : V} {d : D}, Rep K mg M H v d → Rep K mg M' H' v d
  | _, _, .non => .non
  | _, _, .bl b => .bl b
  | _, _, .int b => .int b
  | _, _, .str b => .str b
  | _, _, .tup h r => .tup (h.keep k) (Reps.keep k r)
  | _, _, .lst h n r => .lst (k.at_ _ _ h n).1 (k.at_ _ _ h n).2 (Reps.keep k r)
  | _, _, .scr h => .scr (h.keep k)
  | _, _, .dct h n e r => .dct (k.at_ _ _ h n).1 (k.at_ _ _ h n).2 e (Reps.keep k r)
  | _, _, .obj g h n e r => .obj g (k.at_ _ _ h n).1 (k.at_ _ _ h n).2 e (Reps.keep k r)
theorem Reps.keep (k : Keep M H M' H') : ∀ {v : List V} {d : List D}, Reps K mg M H v d → Reps K mg M' H' v d
  | _, _, .nil => .nil
  | _, _, .cons h r => .cons (Rep.keep k h) (Reps.keep k r)
end
theorem Reps.length : ∀ {v : List V} {d : List D}, Reps K mg M H v d → v.length = d.length
  | _, _, .nil => rfl
  | _, _, .cons _ r => by rw [List.length_cons, List.length_cons, Reps.length r]
theorem Reps.get : ∀ {v : List V} {d : List D} {i : Nat} {x : D}, Reps K mg M H v d → d[i]? = some x → ∃ y, v[i]? = some y ∧ Rep K mg M H y x
  | _, _, _, _, .nil, e => by simp at e
  | _, _, 0, _, .cons r _, e => by simp at e; subst e; exact ⟨_, rfl, r⟩
  | _, _, i + 1, x, .cons _ t, e => by
    obtain ⟨u, h1, h2⟩ := Reps.get (i := i) (x := x) t (by simpa using e)
    exact ⟨u, by simpa using h1, h2⟩
theorem Reps.append : ∀ {v v' : List V} {d d' : List D}, Reps K mg M H v d → Reps K mg M H v' d' → Reps K mg M H (v ++ v') (d ++ d')
  | _, _, _, _, .nil, s => s
  | _, _, _, _, .cons r t, s => .cons r (Reps.append t s)
theorem Reps.take : ∀ {v : List V} {d : List D} (n : Nat), Reps K mg M H v d → Reps K mg M H (v.take n) (d.take n)
  | _, _, 0, _ => .nil
  | _, _, _ + 1, .nil => .nil
  | _, _, n + 1, .cons r t => .cons r (Reps.take n t)
theorem Reps.drop : ∀ {v : List V} {d : List D} (n : Nat), Reps K mg M H v d → Reps K mg M H (v.drop n) (d.drop n)
  | _, _, 0, r => r
  | _, _, _ + 1, .nil => .nil
  | _, _, n + 1, .cons _ t => Reps.drop n t
theorem Reps.bools : ∀ {v : List V} {bs : List Bool}, Reps K mg M H v (bs.map D.bl) → v = bs.map V.bl
  | _, [], .nil => rfl
  | _, b :: bs, .cons (.bl _) t => by rw [Reps.bools (bs := bs) t]; rfl
theorem Reps.ints : ∀ {v : List V} {bs : List Int}, Reps K mg M H v (bs.map D.int) → v = bs.map V.int
  | _, [], .nil => rfl
  | _, b :: bs, .cons (.int _) t => by rw [Reps.ints (bs := bs) t]; rfl
theorem Reps.of_ints : ∀ (bs : List Int), Reps K mg M H (bs.map V.int) (bs.map D.int)
  | [] => .nil
  | b :: bs => .cons (.int b) (Reps.of_ints bs)
end

/-! ### cells -/
def live (ρ : List Addr) (S : List Cell) (b : Addr) : Prop := ∃ (k : Nat) (c : Cell), S[k]? = some c ∧ c ≠ .dead ∧ ρ[k]? = some b
/-- what may change: the callers' Z, the own live cells -/
def Mu (Z : Addr → Prop) (ρ : List Addr) (S : List Cell) (b : Addr) : Prop := Z b ∨ live ρ S b
def RepA (K : PySem.W.Frag) (mg : Str → Option Value) (M : Addr → Prop) (ρ : List Addr) (H : Hp) (v : V) : A → Prop
  | .d x => Rep K mg M H v x
  | .c n => ∃ a, ρ[n]? = some a ∧ v = .ref a
abbrev RepAs (K : PySem.W.Frag) (mg : Str → Option Value) (M : Addr → Prop) (ρ : List Addr) (H : Hp) : List V → List A → Prop := Paired (RepA K mg M ρ H)
def RepF (K : PySem.W.Frag) (mg : Str → Option Value) (M : Addr → Prop) (ρ : List Addr) (H : Hp) : List (Str × V) → List (Str × A) → Prop :=
  Paired fun p q => p.1 = q.1 ∧ RepA K mg M ρ H p.2 q.2
def RepC (K : PySem.W.Frag) (mg : Str → Option Value) (M : Addr → Prop) (ρ : List Addr) (H : Hp) (a : Addr) : Cell → Prop
  | .lst xs => ∃ vs, H a = some (.lst vs) ∧ RepAs K mg M ρ H vs xs
  | .ins c l => ∃ C dx fs, mg c = some (.ref C) ∧ H a = some (.ins C dx fs) ∧ RepF K mg M ρ H fs l
  | .dead => True
/-- the cells lie in the heap -/
structure OkS (K : PySem.W.Frag) (mg : Str → Option Value) (Z : Addr → Prop) (ρ : List Addr) (S : List Cell) (H : Hp) : Prop where
  len : ρ.length = S.length
  nd : ρ.Nodup
  cells : ∀ (k : Nat) (c : Cell) (a : Addr), S[k]? = some c → ρ[k]? = some a → RepC K mg (Mu Z ρ S) ρ H a c
  trk : ∀ b, Z b ∨ b ∈ ρ → H b ≠ none
  dis : ∀ b ∈ ρ, ¬ Z b
def Slots (K : PySem.W.Frag) (mg : Str → Option Value) (M : Addr → Prop) (ρ : List Addr) (H : Hp) (σ : L2.St) (env : List (Option A)) : Prop :=
  σ.length = env.length ∧ ∀ (i : Nat) (x : A), env[i]? = some (some x) → ∃ v, σ[i]? = some (some v) ∧ RepA K mg M ρ H v x
/-- from one state to a later one -/
structure Ext (Z : Addr → Prop) (ρ : List Addr) (S : List Cell) (H : Hp) (ρ' : List Addr) (S' : List Cell) (H' : Hp) : Prop where
  keep : ∀ b o, H b = some o → ¬ live ρ S b → H' b = some o
  pre2 : ∃ more, ρ' = ρ ++ more ∧ ∀ b ∈ more, H b = none
  new : ∀ b, live ρ' S' b → live ρ S b ∨ H b = none
  trk : ∀ b, H' b = none → H b = none
section
variable {K : PySem.W.Frag} {mg : Str → Option Value} {Z : Addr → Prop} {ρ ρ1 ρ2 : List Addr} {S S1 S2 : List Cell} {H H1 H2 : Hp}
theorem Ext.pre (e : Ext Z ρ S H ρ1 S1 H1) : ∃ more, ρ1 = ρ ++ more := let ⟨m, h, _⟩ := e.pre2; ⟨m, h⟩
theorem Ext.refl : Ext Z ρ S H ρ S H := ⟨fun _ _ h _ => h, ⟨[], by simp, fun _ h => nomatch h⟩, fun _ h => .inl h, fun _ h => h⟩
theorem Ext.trans (a : Ext Z ρ S H ρ1 S1 H1) (b : Ext Z ρ1 S1 H1 ρ2 S2 H2) : Ext Z ρ S H ρ2 S2 H2 where
  keep := fun c o h n => b.keep c o (a.keep c o h n) fun l => by
    rcases a.new c l with l | l
    · exact n l
    · rw [l] at h; cases h
  pre2 := by
    obtain ⟨m, e, n⟩ := a.pre2
    obtain ⟨m', e', n'⟩ := b.pre2
    exact ⟨m ++ m', by rw [e', e, List.append_assoc], fun c hc => (List.mem_append.mp hc).elim (n c) fun z => a.trk c (n' c z)⟩
  new := fun c h => by
    rcases b.new c h with l | l
    · exact a.new c l
    · exact .inr (a.trk c l)
  trk := fun c h => a.trk c (b.trk c h)
theorem Ext.toKeep (a : Ext Z ρ S H ρ1 S1 H1) : Keep (Mu Z ρ S) H (Mu Z ρ1 S1) H1 := ⟨fun b o h n => ⟨a.keep b o h fun l => n (.inr l), fun m => by
  rcases m with m | m
  · exact n (.inl m)
  · rcases a.new b m with l | l
    · exact n (.inr l)
    · rw [l] at h; cases h⟩⟩
theorem RepA.keep {M M' : Addr → Prop} (k : Keep M H M' H1) (p : ∃ more, ρ1 = ρ ++ more) {v : V} : ∀ {x : A}, RepA K mg M ρ H v x → RepA K mg M' ρ1 H1 v x
  | .d _, h => Rep.keep k h
  | .c n, h => by
    obtain ⟨a, e, r⟩ := h
    obtain ⟨m, e2⟩ := p
    refine ⟨a, ?_, r⟩
    rw [e2]
    exact (List.getElem?_append_left (List.getElem?_eq_some_iff.mp e).1).trans e
theorem RepA.ext (a : Ext Z ρ S H ρ1 S1 H1) {v : V} {x : A} (h : RepA K mg (Mu Z ρ S) ρ H v x) : RepA K mg (Mu Z ρ1 S1) ρ1 H1 v x := h.keep a.toKeep a.pre
theorem RepAs.keep {M M' : Addr → Prop} (k : Keep M H M' H1) (p : ∃ more, ρ1 = ρ ++ more) {v : List V} {x : List A} (h : RepAs K mg M ρ H v x) : RepAs K mg M' ρ1 H1 v x :=
  Paired.mapP h fun _ _ r => r.keep k p
theorem RepAs.ext (a : Ext Z ρ S H ρ1 S1 H1) {v : List V} {x : List A} (h : RepAs K mg (Mu Z ρ S) ρ H v x) : RepAs K mg (Mu Z ρ1 S1) ρ1 H1 v x := RepAs.keep a.toKeep a.pre h
theorem Slots.ext (a : Ext Z ρ S H ρ1 S1 H1) {σ : L2.St} {env : List (Option A)} (h : Slots K mg (Mu Z ρ S) ρ H σ env) : Slots K mg (Mu Z ρ1 S1) ρ1 H1 σ env :=
  ⟨h.1, fun i x e => let ⟨v, e2, r⟩ := h.2 i x e; ⟨v, e2, r.ext a⟩⟩
theorem Slots.set {M : Addr → Prop} {σ : L2.St} {env : List (Option A)} (h : Slots K mg M ρ H σ env) {i : Nat} {v : V} {x : A} (r : RepA K mg M ρ H v x) : Slots K mg M ρ H (σ.set i (some v)) (env.set i (some x)) := by
  refine ⟨by rw [List.length_set, List.length_set, h.1], fun j y e => ?_⟩
  by_cases hj : i = j
  · subst hj
    have hl : i < env.length := by
      have := (List.getElem?_eq_some_iff.mp e).1
      rwa [List.length_set] at this
    rw [List.getElem?_set_self hl] at e
    cases e
    exact ⟨v, List.getElem?_set_self (by rw [h.1]; exact hl), r⟩
  · rw [List.getElem?_set_ne hj] at e
    obtain ⟨v', e2, r2⟩ := h.2 j y e
    exact ⟨v', by rw [List.getElem?_set_ne hj]; exact e2, r2⟩
/-- something new, not a cell, is laid -/
theorem Ext.laid {p : Addr} {o : HO} (h : H p = none) : Ext Z ρ S H ρ S (upd H p o) where
  keep := fun b u e _ => by rw [upd_ne (ne_of_none e h)]; exact e
  pre2 := ⟨[], by simp, fun _ h => nomatch h⟩
  new := fun _ l => .inl l
  trk := fun b e => by
    by_cases hb : b = p
    · subst hb; exact h
    · rw [upd_ne hb] at e; exact e
theorem RepC.keep {M M' : Addr → Prop} (k : Keep M H M' H1) (p : ∃ more, ρ1 = ρ ++ more) {a : Addr} (ha : H1 a = H a) : ∀ {c : Cell}, RepC K mg M ρ H a c → RepC K mg M' ρ1 H1 a c
  | .lst _, h => by
    obtain ⟨vs, e, r⟩ := h
    exact ⟨vs, ha.trans e, RepAs.keep k p r⟩
  | .ins _ _, h => by
    obtain ⟨C, dx, fs, g, e, r⟩ := h
    exact ⟨C, dx, fs, g, ha.trans e, Paired.mapP r fun _ _ q => ⟨q.1, q.2.keep k p⟩⟩
  | .dead, _ => trivial
theorem OkS.laid {p : Addr} {o : HO} (ok : OkS K mg Z ρ S H) (h : H p = none) : OkS K mg Z ρ S (upd H p o) where
  len := ok.len
  nd := ok.nd
  cells := fun k c a e1 e2 => by
    have hne : H a ≠ none := ok.trk a (.inr (List.mem_of_getElem? e2))
    have hap : a ≠ p := fun z => hne (z ▸ h)
    exact (ok.cells k c a e1 e2).keep (Ext.laid (S := S) h).toKeep ⟨[], by simp⟩ (upd_ne hap)
  trk := fun b m e => ok.trk b m ((Ext.laid (Z := Z) (ρ := ρ) (S := S) h).trk b e)
  dis := ok.dis
/-- a fresh address is nothing that may change -/
theorem OkS.fresh (ok : OkS K mg Z ρ S H) {p : Addr} (h : H p = none) : ¬ Mu Z ρ S p := fun m => by
  rcases m with m | ⟨k, c, _, _, e⟩
  · exact ok.trk p (.inl m) h
  · exact ok.trk p (.inr (List.mem_of_getElem? e)) h
end
end Bn
/-! Bn, part 2: the language and what it means. -/
namespace Bn
open PySem L2

def LIM : Nat := 100000
theorem lim_line {n : Nat} (h : n ≤ LIM) : n ≤ sizeLine := Nat.le_trans h (by decide)
theorem lim_lt {n : Nat} (h : n < LIM) : n < sizeLine := Nat.lt_of_lt_of_le h (by decide)

/-! ### data as the library's data -/
mutual
def D.py : D → PyData
  | .non => .none | .bl b => .bool b | .int i => .int i | .str s => .str s
  | .tup l => .tuple (pyAll l) | .lst l => .list (pyAll l)
  | .dct l => .dict (pyKv l)
  | .scr _ => .none
  | .obj _ _ => .none
def pyAll : List D → List PyData
  | [] => []
  | x :: r => x.py :: pyAll r
def pyKv : List (Key × D) → List (PyData × PyData)
  | [] => []
  | (.inl i, x) :: r => (.int i, x.py) :: pyKv r
  | (.inr s, x) :: r => (.str s, x.py) :: pyKv r
end
mutual
/-- no instance, no dict within -/
def D.flat : D → Bool
  | .non | .bl _ | .int _ | .str _ => true
  | .tup l | .lst l => flatAll l
  | .dct _ => false
  | .scr _ => false
  | .obj _ _ => false
def flatAll : List D → Bool
  | [] => true
  | x :: r => x.flat && flatAll r
end
def A.toD : A → Option D
  | .d x => some x
  | .c _ => none
def toDs : List A → Option (List D)
  | [] => some []
  | .d x :: r => (toDs r).map (x :: ·)
  | .c _ :: _ => none

/-! ### functions of a def -/
structure Fn where
  nm : Str
  ps : List Str
  mir : List A → List Cell → R A
structure Tab where
  fs : List Fn := []
  cs : List (Str × D) := []
  bs : List Str := []
  ms : List (Str × String) := []

/-- what a list or a tuple holds -/
def items (S : List Cell) : A → Option (List A)
  | .d (.tup l) => some (l.map .d)
  | .d (.lst l) => some (l.map .d)
  | .d (.scr l) => some (l.map fun i => .d (.int i))
  | .c n => match S[n]? with
    | some (.lst l) => some l
    | _ => none
  | _ => none
/-- a list (not a tuple) as data -/
def listD (S : List Cell) : A → Option (List D)
  | .d (.lst l) => some l
  | .c n => match S[n]? with
    | some (.lst l) => toDs l
    | _ => none
  | _ => none
/-- data, with a list cell read as a list -/
def dataD (S : List Cell) : A → Option D
  | .d x => some x
  | .c n => (listD S (.c n)).map .lst

/-! ### operators -/
def mulOk (i j : Int) : Bool := decide ((Builtin.Int.intBits i : Int) + (Builtin.Int.intBits j : Int) ≤ 134217728)
def divOk (i j : Int) : Bool := decide (j ≠ 0) && !(Builtin.divisionGoesByPylong i j)
def powOk (i j : Int) : Bool := decide (0 ≤ j ∧ j ≤ 1000000 ∧ i.natAbs < 2 ^ 64)
def binI (o : Operator) (i j : Int) : Option Int := match o with
  | .Add => some (i + j)
  | .Sub => some (i - j)
  | .Mult => if mulOk i j = true then some (i * j) else none
  | .FloorDiv => if divOk i j = true then some (i.fdiv j) else none
  | .Mod => if j = 0 then none else some (i.fmod j)
  | .Pow => if powOk i j = true then some (i ^ j.toNat) else none
  | _ => none
def okD (o : Option D) (S : List Cell) : R A := match o with
  | some x => .ok (.d x) S
  | none => .no
def repD (l : List D) : Nat → List D
  | 0 => []
  | n + 1 => l ++ repD l n
/-- lists read as data: +, * -/
def binL (o : Operator) (S : List Cell) (a b : A) : R A := match o, listD S a, listD S b with
  | .Add, some l, some m => if l.length + m.length ≤ LIM then .ok (.d (.lst (l ++ m))) S else .no
  | _, _, _ => .no
def binD (o : Operator) (a b : A) (S : List Cell) : R A := match o, a, b with
  | o, .d (.int i), .d (.int j) => okD ((binI o i j).map .int) S
  | .Add, .d (.tup l), .d (.tup m) => if l.length + m.length ≤ LIM then .ok (.d (.tup (l ++ m))) S else .no
  | .Add, .d (.str x), .d (.str y) => if x.length + y.length ≤ LIM then .ok (.d (.str (x ++ y))) S else .no
  | .Mult, .d (.lst l), .d (.int i) => if l.length * i.toNat ≤ LIM ∧ -(2 ^ 62) ≤ i ∧ i < 2 ^ 62 then .ok (.d (.lst (repD l i.toNat))) S else .no
  | o, a, b => binL o S a b
def eqOk (x : D) : Bool := x.flat && SeqAt.shaped x.py
def cmpI (o : CmpOp) (i j : Int) : Option Bool := match o with
  | .Lt => some (decide (i < j))
  | .LtE => some (decide (i ≤ j))
  | .Gt => some (decide (j < i))
  | .GtE => some (decide (j ≤ i))
  | _ => none
def isNon : A → Bool
  | .d .non => true
  | _ => false
def cmpE (o : CmpOp) (S : List Cell) (a b : A) : R A := match dataD S a, dataD S b with
  | some x, some y => if (eqOk x && eqOk y) = true then .ok (.d (.bl (if o = .Eq then PyData.eqv x.py y.py else !PyData.eqv x.py y.py))) S else .no
  | _, _ => .no
def cmpO (o : CmpOp) (a b : A) (S : List Cell) : R A := match a, b with
  | .d (.int i), .d (.int j) => okD ((cmpI o i j).map .bl) S
  | _, _ => .no
def cmpD (o : CmpOp) (a b : A) (S : List Cell) : R A := match o with
  | .Eq => cmpE .Eq S a b
  | .NotEq => cmpE .NotEq S a b
  | .Is => if isNon b = true then .ok (.d (.bl (isNon a))) S else .no
  | .IsNot => if isNon b = true then .ok (.d (.bl (!isNon a))) S else .no
  | o => cmpO o a b S
def negD (a : A) (S : List Cell) : R A := match a with
  | .d (.int i) => .ok (.d (.int (-i))) S
  | _ => .no
def ixD (a i : A) (S : List Cell) : R A := match items S a, i with
  | some l, .d (.int k) => match atI l k with
    | some x => .ok x S
    | none => .no
  | _, _ => .no
def cutL {α : Type} (xs : List α) (lo hi : Option Int) : List α := (xs.drop (HT.sIx xs.length 0 lo)).take (HT.sIx xs.length xs.length hi - HT.sIx xs.length 0 lo)
def slD (a : A) (lo hi : Option Int) (S : List Cell) : R A := match a with
  | .d (.tup l) => .ok (.d (.tup (cutL l lo hi))) S
  | .d (.scr l) => .ok (.d (.lst (cutL (l.map .int) lo hi))) S
  | a => match listD S a with
    | some l => .ok (.d (.lst (cutL l lo hi))) S
    | none => .no

/-! ### built-ins -/
inductive Bi where
  | len | abs | max2 | min2 | int1 | all | any | tuple | list | divmod | gcd | repr | isi (t : String)
  deriving DecidableEq
def Bi.name : Bi → String
  | .len => "len" | .abs => "abs" | .max2 => "max" | .min2 => "min" | .int1 => "int" | .all => "all" | .any => "any" | .tuple => "tuple" | .list => "list" | .divmod => "divmod" | .gcd => "gcd" | .repr => "repr" | .isi _ => "isinstance"
/-- a value's built-in type -/
def D.tyN : D → String
  | .non => "NoneType" | .bl _ => "bool" | .int _ => "int" | .str _ => "str" | .tup _ => "tuple" | .lst _ => "list" | .scr _ => "list" | .dct _ => "dict" | .obj _ _ => "object"
def isD (t : String) (x : D) : Option Bool := match x with
  | .obj _ _ => none
  | x => kitB x.tyN t
def boolsOf : List D → Option (List Bool)
  | [] => some []
  | .bl b :: r => (boolsOf r).map (b :: ·)
  | _ :: _ => none
def showOk (x : D) : Bool := x.flat && x.py.showable && decide (x.py.depth ≤ 64) && decide (x.py.shown.length ≤ sizeLine)
def one (f : A → List Cell → R A) (as : List A) (S : List Cell) : R A := match as with
  | [a] => f a S
  | _ => .no
def two (f : A → A → List Cell → R A) (as : List A) (S : List Cell) : R A := match as with
  | [a, b] => f a b S
  | _ => .no
def lenD (a : A) (S : List Cell) : R A := match items S a with
  | some l => .ok (.d (.int l.length)) S
  | none => .no
def absD (a : A) (S : List Cell) : R A := match a with
  | .d (.int i) => .ok (.d (.int (if i < 0 then -i else i))) S
  | _ => .no
def maxD (a b : A) (S : List Cell) : R A := match a, b with
  | .d (.int i), .d (.int j) => .ok (.d (.int (if j > i then j else i))) S
  | _, _ => .no
def minD (a b : A) (S : List Cell) : R A := match a, b with
  | .d (.int i), .d (.int j) => .ok (.d (.int (if j < i then j else i))) S
  | _, _ => .no
def intD (a : A) (S : List Cell) : R A := match a with
  | .d (.int i) => .ok (.d (.int i)) S
  | _ => .no
def allD (a : A) (S : List Cell) : R A := match (listD S a).bind boolsOf with
  | some bs => .ok (.d (.bl (bs.all id))) S
  | none => .no
def anyD (a : A) (S : List Cell) : R A := match (listD S a).bind boolsOf with
  | some bs => .ok (.d (.bl (bs.any id))) S
  | none => .no
def tupleD (a : A) (S : List Cell) : R A := match a with
  | .d (.tup l) => .ok (.d (.tup l)) S
  | a => match listD S a with
    | some l => .ok (.d (.tup l)) S
    | none => .no
def listOfD (a : A) (S : List Cell) : R A := match a with
  | .d (.tup l) => .ok (.d (.lst l)) S
  | a => match listD S a with
    | some l => .ok (.d (.lst l)) S
    | none => .no
def divmodD (a b : A) (S : List Cell) : R A := match a, b with
  | .d (.int i), .d (.int j) => if (decide (0 < j) && divOk i j) = true then .ok (.d (.tup [.int (i / j), .int (i % j)])) S else .no
  | _, _ => .no
def gcdD (a b : A) (S : List Cell) : R A := match a, b with
  | .d (.int i), .d (.int j) => .ok (.d (.int (Nat.gcd i.natAbs j.natAbs : Nat))) S
  | _, _ => .no
def reprD (a : A) (S : List Cell) : R A := match dataD S a with
  | some x => if showOk x = true then .ok (.d (.str x.py.shown)) S else .no
  | none => .no
def isiD (t : String) (a : A) (S : List Cell) : R A := match dataD S a with
  | some x => match isD t x with
    | some b => .ok (.d (.bl b)) S
    | none => .no
  | none => .no
def biD (b : Bi) : List A → List Cell → R A := match b with
  | .len => one lenD | .abs => one absD | .max2 => two maxD | .min2 => two minD | .int1 => one intD | .all => one allD | .any => one anyD
  | .tuple => one tupleD | .list => one listOfD | .divmod => two divmodD | .gcd => two gcdD | .repr => one reprD | .isi t => one (isiD t)

/-! ### calls: the callee sees the cells that it is given, by its own numbers -/
def cellsA : List A → List Nat
  | [] => []
  | .c n :: r => n :: cellsA r
  | .d _ :: r => cellsA r
def cellsC : Cell → List Nat
  | .lst l => cellsA l
  | .ins _ l => cellsA (l.map (·.2))
  | .dead => []
def dedup : List Nat → List Nat
  | [] => []
  | n :: r => if n ∈ r then dedup r else n :: dedup r
def reach (S : List Cell) : Nat → List Nat → List Nat
  | 0, l => l
  | k + 1, l => let m := l.flatMap fun n => match S[n]? with
      | some c => cellsC c
      | none => []
    if m.all (· ∈ l) = true then l else reach S k (dedup (l ++ m))
def ixOf (n : Nat) : List Nat → Option Nat
  | [] => none
  | m :: r => if m = n then some 0 else (ixOf n r).map (· + 1)
def renA (f : Nat → Option Nat) : A → Option A
  | .d x => some (.d x)
  | .c n => (f n).map .c
def renAs (f : Nat → Option Nat) : List A → Option (List A)
  | [] => some []
  | a :: r => match renA f a, renAs f r with
    | some b, some s => some (b :: s)
    | _, _ => none
def renF (f : Nat → Option Nat) : List (Str × A) → Option (List (Str × A))
  | [] => some []
  | (x, a) :: r => match renA f a, renF f r with
    | some b, some s => some ((x, b) :: s)
    | _, _ => none
def renC (f : Nat → Option Nat) : Cell → Option Cell
  | .lst l => (renAs f l).map .lst
  | .ins c l => (renF f l).map (.ins c)
  | .dead => some .dead
def renS (f : Nat → Option Nat) : List Cell → Option (List Cell)
  | [] => some []
  | c :: r => match renC f c, renS f r with
    | some b, some s => some (b :: s)
    | _, _ => none
def pickS (S : List Cell) : List Nat → Option (List Cell)
  | [] => some []
  | n :: r => match S[n]?, pickS S r with
    | some c, some s => some (c :: s)
    | _, _ => none
def putS (S : List Cell) : List Nat → List Cell → List Cell
  | n :: r, c :: s => putS (S.set n c) r s
  | _, _ => S
/-- from the callee's numbers to the caller's: the given cells, then the new ones -/
def backN (locs : List Nat) (n : Nat) (i : Nat) : Option Nat := match locs[i]? with
  | some k => some k
  | none => some (n + (i - locs.length))
def callD (mir : List A → List Cell → R A) (as : List A) (S : List Cell) : R A :=
  let locs := reach S 4 (dedup (cellsA as))
  match renAs (fun n => ixOf n locs) as, (pickS S locs).bind (renS fun n => ixOf n locs) with
  | some as', some S' => match mir as' S' with
    | .ok (.d x) T => match renS (fun i => locs[i]?) (T.take locs.length) with
      | some T' => if T'.length = locs.length then .ok (.d x) (putS S locs T') else .no
      | none => .no
    | .ok (.c k) T => match renA (backN locs S.length) (.c k), renS (backN locs S.length) T with
      | some a, some T' => if locs.length ≤ T'.length then .ok a (putS S locs (T'.take locs.length) ++ T'.drop locs.length) else .no
      | _, _ => .no
    | .ex c x T => match renS (fun i => locs[i]?) (T.take locs.length) with
      | some T' => if T'.length = locs.length then .ex c x (putS S locs T') else .no
      | none => .no
    | .no => .no
  | _, _ => .no
/-- the arguments in the parameters' order: us by position, then by name -/
def argsK {α : Type} (ps ks : List Str) (us ws : List α) : List α := us ++ (ps.drop us.length).filterMap fun p => (ks.zip ws).lookup p

/-! ### terms -/
inductive Tn where
  | nm (i : Nat) | tp (l : List Tn)
mutual
def Tn.ixs : Tn → List Nat
  | .nm i => [i]
  | .tp l => ixsL l
def ixsL : List Tn → List Nat
  | [] => []
  | t :: r => t.ixs ++ ixsL r
end
mutual
inductive E where
  | var (i : Nat) | k (x : D) | con (j : Nat)
  | bin (o : Operator) (a b : E) | neg (a : E) | cmp (o : CmpOp) (a b : E) | chain (o o' : CmpOp) (a b c : E)
  | bop (isAnd : Bool) (es : Es) | not_ (a : E) | ite (c a b : E)
  | tup (es : Es) | lst (es : Es) | lstc (es : Es) | dct0
  | ix (a i : E) | sl (a : E) (lo hi : Oe)
  | call (f : Nat) (es : Es) | callk (f : Nat) (es : Es) (ks : List Str) (ws : Es) | bi (b : Bi) (es : Es)
  | comp (isCell : Bool) (elt : E) (t : Tn) (own : List (Str × Nat)) (it : It) (cond : Oe)
inductive Es where
  | nil | cons (e : E) (es : Es)
inductive Oe where
  | no | so (e : E)
inductive It where
  | seq (isT : Bool) (e : E) | rng (a : E) | rng2 (a b : E) | enu (a : E) | zip (a b : E)
end
def Es.len : Es → Nat
  | .nil => 0
  | .cons _ r => r.len + 1

abbrev Env := List (Option A)
mutual
/-- the store to a name or a nest of names -/
def bindT : Tn → A → Env → Option Env
  | .nm i, a, env => some (env.set i (some a))
  | .tp l, .d (.tup ds), env => bindTs l (ds.map .d) env
  | .tp _, _, _ => none
def bindTs : List Tn → List A → Env → Option Env
  | [], [], env => some env
  | t :: r, a :: s, env => (bindT t a env).bind (bindTs r s)
  | _, _, _ => none
end
def wipeE (env : Env) : List Nat → Env
  | [] => env
  | v :: vs => (wipeE env vs).set v none
def rngL (lo : Int) : Nat → List A
  | 0 => []
  | n + 1 => .d (.int lo) :: rngL (lo + 1) n
def enuL : Int → List A → Option (List A)
  | _, [] => some []
  | i, .d x :: r => (enuL (i + 1) r).map (.d (.tup [.int i, x]) :: ·)
  | _, .c _ :: _ => none
def zipL : List A → List A → Option (List A)
  | .d x :: r, .d y :: s => (zipL r s).map (.d (.tup [x, y]) :: ·)
  | [], [] => some []
  | _, _ => none
def inRng (i : Int) : Bool := decide (-(2 ^ 62) ≤ i ∧ i < 2 ^ 62)
/-- a walk through data that stand still -/
def seqL (_ : Bool) (S : List Cell) (a : A) : Option (List A) := match a with
  | .d (.tup l) => some (l.map .d)
  | .d (.lst l) => some (l.map .d)
  | .d (.scr l) => some (l.map fun i => .d (.int i))
  | _ => none
def optR {α : Type} (o : Option α) (S : List Cell) : R α := match o with
  | some x => .ok x S
  | none => .no
def noEx {α : Type} : R α → R α
  | .ex _ _ _ => .no
  | r => r
/-- the loop of a comprehension -/
def compL (bd : A → Option Env) (test : Env → List Cell → R A) (elt : Env → List Cell → R A) : List A → List A → List Cell → R (List A)
  | [], acc, S => .ok acc S
  | x :: r, acc, S => match bd x with
    | none => .no
    | some env => match test env S with
      | .ok (.d (.bl true)) S1 => match elt env S1 with
        | .ok y S2 => if acc.length < LIM then compL bd test elt r (acc ++ [y]) S2 else .no
        | _ => .no
      | .ok (.d (.bl false)) S1 => compL bd test elt r acc S1
      | _ => .no
def tupK (as : List A) (S : List Cell) : R A := match toDs as with
  | some ds => if ds.length ≤ LIM then .ok (.d (.tup ds)) S else .no
  | none => .no
def lstK (as : List A) (S : List Cell) : R A := match toDs as with
  | some ds => if ds.length ≤ LIM then .ok (.d (.lst ds)) S else .no
  | none => .no
def lstcK (as : List A) (S : List Cell) : R A := if as.length ≤ LIM then .ok (.c S.length) (S ++ [.lst as]) else .no
def notK (x : A) (S : List Cell) : R A := match x with
  | .d (.bl b) => .ok (.d (.bl (!b))) S
  | _ => .no
def ifK {α : Type} (x : A) (k1 k2 : R α) : R α := match x with
  | .d (.bl true) => k1
  | .d (.bl false) => k2
  | _ => .no
def bopK (isAnd : Bool) (x : A) (S : List Cell) (k : R A) : R A := match x with
  | .d (.bl b) => if b = isAnd then k else .ok (.d (.bl b)) S
  | _ => .no
def intK (x : A) (S : List Cell) : R (Option Int) := match x with
  | .d (.int i) => .ok (some i) S
  | _ => .no
def callK (T : Tab) (f : Nat) (as : List A) (S : List Cell) : R A := match T.fs[f]? with
  | some fn => if as.length = fn.ps.length then callD fn.mir as S else .no
  | none => .no
def callkK (T : Tab) (f n : Nat) (ks : List Str) (as bs : List A) (S : List Cell) : R A := match T.fs[f]? with
  | some fn => if as.length = n ∧ bs.length = ks.length ∧ (argsK fn.ps ks as bs).length = fn.ps.length then callD fn.mir (argsK fn.ps ks as bs) S else .no
  | none => .no
def compK (isCell : Bool) (as : List A) (S : List Cell) : R A := if isCell = true then .ok (.c S.length) (S ++ [.lst as]) else match toDs as with
  | some ds => .ok (.d (.lst ds)) S
  | none => .no
def rngK (x : A) (S : List Cell) : R (List A) := match x with
  | .d (.int j) => if inRng j = true then .ok (rngL 0 j.toNat) S else .no
  | _ => .no
def rng2K (x y : A) (S : List Cell) : R (List A) := match x, y with
  | .d (.int i), .d (.int j) => if (inRng i && inRng j) = true then .ok (rngL i (j - i).toNat) S else .no
  | _, _ => .no
def seqK (isT : Bool) (x : A) (S : List Cell) : R (List A) := optR (seqL isT S x) S
mutual
def den (T : Tab) : E → Env → List Cell → R A
  | .var i, env, S => match env[i]? with
    | some (some a) => .ok a S
    | _ => .no
  | .k x, _, S => .ok (.d x) S
  | .con j, _, S => match T.cs[j]? with
    | some p => .ok (.d p.2) S
    | none => .no
  | .bin o a b, env, S => (den T a env S).bind fun x S1 => (den T b env S1).bind fun y S2 => binD o x y S2
  | .neg a, env, S => (den T a env S).bind fun x S1 => negD x S1
  | .cmp o a b, env, S => (den T a env S).bind fun x S1 => (den T b env S1).bind fun y S2 => cmpD o x y S2
  | .chain o o' a b c, env, S => (den T a env S).bind fun x S1 => (den T b env S1).bind fun y S2 => (cmpD o x y S2).bind fun k S3 => ifK k ((den T c env S3).bind fun z S4 => cmpD o' y z S4) (.ok (.d (.bl false)) S3)
  | .bop isAnd es, env, S => denB T isAnd es env S
  | .not_ a, env, S => (den T a env S).bind fun x S1 => notK x S1
  | .ite c a b, env, S => (den T c env S).bind fun x S1 => ifK x (den T a env S1) (den T b env S1)
  | .tup es, env, S => (denEs T es env S).bind fun as S1 => tupK as S1
  | .lst es, env, S => (denEs T es env S).bind fun as S1 => lstK as S1
  | .lstc es, env, S => (denEs T es env S).bind fun as S1 => lstcK as S1
  | .dct0, _, S => .ok (.d (.dct [])) S
  | .ix a i, env, S => (den T a env S).bind fun x S1 => (den T i env S1).bind fun y S2 => ixD x y S2
  | .sl a lo hi, env, S => (den T a env S).bind fun x S1 => (denO T lo env S1).bind fun l S2 => (denO T hi env S2).bind fun h S3 => slD x l h S3
  | .call f es, env, S => (denEs T es env S).bind fun as S1 => callK T f as S1
  | .callk f es ks ws, env, S => (denEs T es env S).bind fun as S1 => (denEs T ws env S1).bind fun bs S2 => callkK T f es.len ks as bs S2
  | .bi b es, env, S => (denEs T es env S).bind fun as S1 => biD b as S1
  | .comp isCell elt t own it cond, env, S => (denI T it env S).bind fun xs S1 =>
    (compL (fun x => bindT t x (wipeE env (own.map (·.2)))) (fun e S => denT T cond e S) (fun e S => den T elt e S) xs [] S1).bind fun as S2 => compK isCell as S2
def denB (T : Tab) (isAnd : Bool) : Es → Env → List Cell → R A
  | .nil, _, S => .no
  | .cons e .nil, env, S => den T e env S
  | .cons e (.cons e2 r), env, S => (den T e env S).bind fun x S1 => bopK isAnd x S1 (denB T isAnd (.cons e2 r) env S1)
def denEs (T : Tab) : Es → Env → List Cell → R (List A)
  | .nil, _, S => .ok [] S
  | .cons e r, env, S => (den T e env S).bind fun x S1 => (denEs T r env S1).bind fun xs S2 => .ok (x :: xs) S2
def denO (T : Tab) : Oe → Env → List Cell → R (Option Int)
  | .no, _, S => .ok none S
  | .so e, env, S => (den T e env S).bind fun x S1 => intK x S1
def denT (T : Tab) : Oe → Env → List Cell → R A
  | .no, _, S => .ok (.d (.bl true)) S
  | .so e, env, S => den T e env S
def denI (T : Tab) : It → Env → List Cell → R (List A)
  | .seq isT e, env, S => (den T e env S).bind fun x S1 => seqK isT x S1
  | .rng a, env, S => (den T a env S).bind fun x S1 => rngK x S1
  | .rng2 a b, env, S => (den T a env S).bind fun x S1 => (den T b env S1).bind fun y S2 => rng2K x y S2
  | .enu a, env, S => (den T a env S).bind fun x S1 => optR ((seqL false S1 x).bind (enuL 0)) S1
  | .zip a b, env, S => (den T a env S).bind fun x S1 => (den T b env S1).bind fun y S2 => optR ((seqL false S2 x).bind fun l => (seqL false S2 y).bind (zipL l)) S2
end

/-! ### statements -/
inductive Tg where
  | nm (i : Nat) | ix (o i : E) | tp (l : List Tg)
inductive Fl where
  | nx (env : Env) (S : List Cell) | rt (a : A) (S : List Cell) | bk (env : Env) (S : List Cell) | ct (env : Env) (S : List Cell)
  | ex (c : Str) (x : Option (Str × D)) (S : List Cell) | no
mutual
inductive S where
  | set (i : Nat) (e : E) | setc (i : Nat) (e : E) | par (i j : Nat) (a b : E) | asg (t : Tg) (e : E)
  | expr (e : E) | ret (e : E) | retN | app (i : Nat) (e : E)
  | ite (c : E) (a b : Ss) | forr (t : Tn) (it : It) (b : Ss) | while (c : E) (b : Ss)
  | brk | cont | pass | never | frz (i : Nat)
inductive Ss where
  | nil | cons (s : S) (r : Ss)
end
def ifF (x : A) (k1 k2 : Fl) : Fl := match x with
  | .d (.bl true) => k1
  | .d (.bl false) => k2
  | _ => .no
def R.fl {α : Type} (r : R α) (k : α → List Cell → Fl) : Fl := match r with
  | .ok a S => k a S
  | .ex c x S => .ex c x S
  | .no => .no
mutual
def asgT (T : Tab) : Tg → A → Env → List Cell → R Env
  | .nm i, a, env, S => .ok (env.set i (some a)) S
  | .ix o i, a, env, S => (den T o env S).bind fun x S1 => (den T i env S1).bind fun y S2 => match x, y with
    | .c n, .d (.int k) => match S2[n]? with
      | some (.lst l) => match ixN l.length k with
        | some j => .ok env (S2.set n (.lst (l.set j a)))
        | none => .no
      | _ => .no
    | _, _ => .no
  | .tp l, .d (.tup ds), env, S => if ds.length = l.length then asgTs T l (ds.map .d) env S else .no
  | .tp _, _, _, _ => .no
def asgTs (T : Tab) : List Tg → List A → Env → List Cell → R Env
  | [], [], env, S => .ok env S
  | t :: r, a :: s, env, S => (asgT T t a env S).bind fun env S => asgTs T r s env S
  | _, _, _, _ => .no
end
def forL (bd : A → Env → Option Env) (body : Env → List Cell → Fl) : List A → Env → List Cell → Fl
  | [], env, S => .nx env S
  | x :: r, env, S => match bd x env with
    | none => .no
    | some env1 => match body env1 S with
      | .nx e S => forL bd body r e S
      | .ct e S => forL bd body r e S
      | .bk e S => .nx e S
      | f => f
def whN (c : Env → List Cell → R A) (body : Env → List Cell → Fl) : Nat → Env → List Cell → Fl
  | 0, _, _ => .no
  | n + 1, env, S => (c env S).fl fun k S1 => ifF k (match body env S1 with
      | .nx e S => whN c body n e S
      | .ct e S => whN c body n e S
      | .bk e S => .nx e S
      | f => f) (.nx env S1)
open Classical in
noncomputable def whR (c : Env → List Cell → R A) (body : Env → List Cell → Fl) (env : Env) (S : List Cell) : Fl :=
  if h : ∃ n, whN c body n env S ≠ .no then whN c body (choose h) env S else .no
mutual
noncomputable def run (T : Tab) : S → Env → List Cell → Fl
  | .set i e, env, S => (den T e env S).fl fun a S1 => .nx (env.set i (some a)) S1
  | .setc i e, env, S => (den T e env S).fl fun a S1 => .nx (env.set i (some a)) S1
  | .par i j a b, env, S => (den T a env S).fl fun x S1 => (den T b env S1).fl fun y S2 => .nx ((env.set i (some x)).set j (some y)) S2
  | .asg t e, env, S => (den T e env S).fl fun a S1 => (asgT T t a env S1).fl fun env S2 => .nx env S2
  | .expr e, env, S => (den T e env S).fl fun _ S1 => .nx env S1
  | .ret e, env, S => (den T e env S).fl fun a S1 => .rt a S1
  | .retN, _, S => .rt (.d .non) S
  | .app i e, env, S => match env[i]? with
    | some (some (.c n)) => match S[n]? with
      | some (.lst _) => (den T e env S).fl fun a S1 => match S1[n]? with
        | some (.lst l) => if l.length < LIM then .nx env (S1.set n (.lst (l ++ [a]))) else .no
        | _ => .no
      | _ => .no
    | _ => .no
  | .ite c a b, env, S => (den T c env S).fl fun k S1 => ifF k (runs T a env S1) (runs T b env S1)
  | .forr t it b, env, S => (denI T it env S).fl fun xs S1 => forL (bindT t) (fun e S => runs T b e S) xs env S1
  | .while c b, env, S => whR (fun e S => den T c e S) (fun e S => runs T b e S) env S
  | .brk, env, S => .bk env S
  | .cont, env, S => .ct env S
  | .pass, env, S => .nx env S
  | .never, _, _ => .no
  | .frz i, env, S => match env[i]? with
    | some (some (.c n)) => match listD S (.c n) with
      | some ds => .nx (env.set i (some (.d (.lst ds)))) (S.set n .dead)
      | none => .no
    | _ => .no
noncomputable def runs (T : Tab) : Ss → Env → List Cell → Fl
  | .nil, env, S => .nx env S
  | .cons s r, env, S => match run T s env S with
    | .nx e S1 => runs T r e S1
    | f => f
end
/-- a def: its parameters' values, the other slots empty -/
def start0 (n : Nat) (as : List A) : Env := as.map some ++ List.replicate (n - as.length) none
noncomputable def defR (T : Tab) (n : Nat) (body : Ss) (as : List A) (S : List Cell) : R A := match runs T body (start0 n as) S with
  | .nx _ S => .ok (.d .non) S
  | .rt a S => .ok a S
  | .ex c x S => .ex c x S
  | _ => .no

theorem whN_more {c : Env → List Cell → R A} {body : Env → List Cell → Fl} : ∀ (n m : Nat) (env : Env) (S : List Cell), n ≤ m → whN c body n env S ≠ .no → whN c body m env S = whN c body n env S
  | 0, _, _, _, _, h => absurd rfl h
  | n + 1, 0, _, _, hm, _ => absurd hm (by omega)
  | n + 1, m + 1, env, S, hm, h => by
    unfold whN at h ⊢
    cases hc : c env S with
    | no => rfl
    | ex _ _ _ => rfl
    | ok k S1 =>
      rw [hc] at h
      simp only [R.fl, ifF] at h ⊢
      split at h
      · split at h
        · exact whN_more n m _ _ (by omega) h
        · exact whN_more n m _ _ (by omega) h
        · rfl
        · rfl
      · rfl
      · exact absurd rfl h
theorem whR_of {c : Env → List Cell → R A} {body : Env → List Cell → Fl} {n : Nat} {env : Env} {S : List Cell} {r : Fl} (h : whN c body n env S = r) (hr : r ≠ .no) : whR c body env S = r := by
  have hx : ∃ n, whN c body n env S ≠ .no := ⟨n, by rw [h]; exact hr⟩
  unfold whR
  rw [dif_pos hx]
  have hc := Classical.choose_spec hx
  rcases Nat.le_total (Classical.choose hx) n with l | l
  · rw [← whN_more _ _ _ _ l hc, h]
  · rw [whN_more _ _ _ _ l (by rw [h]; exact hr), h]
end Bn
/-! Bn, part 3: what a term's meaning asks of a piece of syntax; how the pieces are put together. -/
namespace Bn
open PySem L2

/-- an exception of the class c, with its one attribute -/
def ExcOf (K : PySem.W.Frag) (mg : Str → Option Value) (M : Addr → Prop) (H : Hp) (c : Str) (x : Option (Str × D)) (cls : Value) (dx : Option Addr) : Prop :=
  ∃ C, mg c = some (.ref C) ∧ cls = .ref C ∧ match x with
    | none => dx = none
    | some p => ∃ a v, dx = some a ∧ H a = some (.xd [(p.1, v)]) ∧ ¬ M a ∧ Rep K mg M H v p.2
abbrev Rel (α β : Type) := (Addr → Prop) → List Addr → List Cell → Hp → β → α → Prop
def relA (K : PySem.W.Frag) (mg : Str → Option Value) : Rel A V := fun Z ρ S H v a => RepA K mg (Mu Z ρ S) ρ H v a
def relAs (K : PySem.W.Frag) (mg : Str → Option Value) : Rel (List A) (List V) := fun Z ρ S H v a => RepAs K mg (Mu Z ρ S) ρ H v a
def relO : Rel (Option Int) (Option Int) := fun _ _ _ _ v a => v = a
def relB : Rel Bool Bool := fun _ _ _ _ b a => b = a
/-- a value that is a truth value -/
def boolD (a : A) (S : List Cell) : R Bool := match a with
  | .d (.bl b) => .ok b S
  | _ => .no
section
variable {K : PySem.W.Frag} {mg : Str → Option Value} {Z : Addr → Prop} {ρ ρ1 ρ2 : List Addr} {S S1 S2 : List Cell} {H H1 H2 : Hp} {E0 : XK} {α β γ δ : Type}
/-- what a result asks of what follows -/
def RPost (K : PySem.W.Frag) (mg : Str → Option Value) (Z : Addr → Prop) (E0 : XK) (rel : Rel α β) (ρ : List Addr) (S : List Cell) (H : Hp) (r : R α) (Q : β → Hp → Prop) : Prop := match r with
  | .ok a S' => ∀ v ρ' H', Ext Z ρ S H ρ' S' H' → OkS K mg Z ρ' S' H' → rel Z ρ' S' H' v a → Q v H'
  | .ex c x S' => ∀ cls dx ρ' H', Ext Z ρ S H ρ' S' H' → OkS K mg Z ρ' S' H' → ExcOf K mg (Mu Z ρ' S') H' c x cls dx → E0 cls dx H'
  | .no => False
theorem RPost.later {rel : Rel α β} {r : R α} {Q : β → Hp → Prop} (e : Ext Z ρ S H ρ1 S1 H1) (h : RPost K mg Z E0 rel ρ S H r Q) : RPost K mg Z E0 rel ρ1 S1 H1 r Q := by
  cases r with
  | ok a S' => exact fun v ρ' H' e' o r' => h v ρ' H' (e.trans e') o r'
  | ex c x S' => exact fun cls dx ρ' H' e' o r' => h cls dx ρ' H' (e.trans e') o r'
  | no => exact h
theorem RPost.bind {rel : Rel α β} {rel2 : Rel γ δ} {r : R α} {k : α → List Cell → R γ} {Q : β → Hp → Prop} {Q2 : δ → Hp → Prop} (h : RPost K mg Z E0 rel2 ρ S H (r.bind k) Q2)
    (hq : ∀ a S1 v ρ1 H1, Ext Z ρ S H ρ1 S1 H1 → OkS K mg Z ρ1 S1 H1 → rel Z ρ1 S1 H1 v a → RPost K mg Z E0 rel2 ρ1 S1 H1 (k a S1) Q2 → Q v H1) : RPost K mg Z E0 rel ρ S H r Q := by
  cases r with
  | ok a S' => exact fun v ρ' H' e o r' => hq a S' v ρ' H' e o r' (RPost.later e h)
  | ex c x S' => exact h
  | no => exact h
theorem RPost.mono {rel : Rel α β} {r : R α} {Q Q' : β → Hp → Prop} (h : RPost K mg Z E0 rel ρ S H r Q) (hq : ∀ v H, Q v H → Q' v H) : RPost K mg Z E0 rel ρ S H r Q' := by
  cases r with
  | ok a S' => exact fun v ρ' H' e o r' => hq _ _ (h v ρ' H' e o r')
  | ex c x S' => exact h
  | no => exact h
theorem RPost.here {rel : Rel α β} {a : α} {v : β} {Q : β → Hp → Prop} (h : RPost K mg Z E0 rel ρ S H (.ok a S) Q) (ok : OkS K mg Z ρ S H) (r : rel Z ρ S H v a) : Q v H := h v ρ H Ext.refl ok r
/-- the meaning of a term as a reading -/
def sem (K : PySem.W.Frag) (mg : Str → Option Value) (E0 : XK) (rel : Rel α β) (f : Env → List Cell → R α) : L2.St → Hp → (β → Hp → Prop) → Prop := fun σ H Q =>
  ∃ (Z : Addr → Prop) (ρ : List Addr) (S : List Cell) (env : Env), OkS K mg Z ρ S H ∧ Slots K mg (Mu Z ρ S) ρ H σ env ∧ RPost K mg Z E0 rel ρ S H (f env S) Q
theorem sem.bind {rel : Rel α β} {rel2 : Rel γ δ} {f : Env → List Cell → R α} {k : Env → α → List Cell → R γ} {σ : L2.St} {Q : β → Hp → Prop} {Q2 : δ → Hp → Prop}
    (h : sem K mg E0 rel2 (fun env S => (f env S).bind (k env)) σ H Q2)
    (hq : ∀ Z ρ1 S1 H1 env a v, OkS K mg Z ρ1 S1 H1 → Slots K mg (Mu Z ρ1 S1) ρ1 H1 σ env → rel Z ρ1 S1 H1 v a → RPost K mg Z E0 rel2 ρ1 S1 H1 (k env a S1) Q2 → Q v H1) :
    sem K mg E0 rel f σ H Q := by
  obtain ⟨Z, ρ, S, env, ok, sl, h⟩ := h
  exact ⟨Z, ρ, S, env, ok, sl, h.bind fun a S1 v ρ1 H1 e o r h2 => hq Z ρ1 S1 H1 env a v o (sl.ext e) r h2⟩
end
/-- the readings -/
abbrev semE (T : Tab) (K : PySem.W.Frag) (mg : Str → Option Value) (E0 : XK) (m : E) : TE := sem K mg E0 (relA K mg) (den T m)
abbrev semT (T : Tab) (K : PySem.W.Frag) (mg : Str → Option Value) (E0 : XK) (m : E) : TT := sem K mg E0 relB fun env S => (den T m env S).bind boolD
abbrev semEs (T : Tab) (K : PySem.W.Frag) (mg : Str → Option Value) (E0 : XK) (m : Es) : TA := sem K mg E0 (relAs K mg) (denEs T m)
abbrev semO (T : Tab) (K : PySem.W.Frag) (mg : Str → Option Value) (E0 : XK) (m : Oe) : TO := sem K mg E0 relO (denO T m)
theorem _root_.L2.PE.bnw {X : Cx} {e : Expr} {t t' : TE} (h : PE X e t) (i : ∀ σ H Q, t' σ H Q → t σ H Q) : PE X e t' := ⟨fun pins s σ H Q I hq => h.run pins s σ H Q I (i σ H Q hq)⟩
theorem _root_.L2.PT.bnw {X : Cx} {e : Expr} {t t' : TT} (h : PT X e t) (i : ∀ σ H Q, t' σ H Q → t σ H Q) : PT X e t' := ⟨fun pins s σ H Q I hq => h.run pins s σ H Q I (i σ H Q hq)⟩
theorem _root_.L2.PW.bnw {X : Cx} {e : Expr} {t t' : TT} (h : PW X e t) (i : ∀ σ H Q, t' σ H Q → t σ H Q) : PW X e t' := ⟨fun wh pins s σ H Q I hq => h.run wh pins s σ H Q I (i σ H Q hq)⟩
theorem _root_.L2.PA.bnw {X : Cx} {e : List Expr} {t t' : TA} (h : PA X e t) (i : ∀ σ H Q, t' σ H Q → t σ H Q) : PA X e t' := ⟨fun pos pins s σ H Q I hq => h.run pos pins s σ H Q I (i σ H Q hq)⟩
theorem _root_.L2.PS.bnw {X : Cx} {e : Stmt} {t t' : TS} (h : PS X e t) (i : ∀ D σ H, t' D σ H → t D σ H) : PS X e t' := ⟨fun pins s σ H D I hq => h.run pins s σ H D I (i D σ H hq)⟩
theorem _root_.L2.PSs.bnw {X : Cx} {e : List Stmt} {t t' : TS} (h : PSs X e t) (i : ∀ D σ H, t' D σ H → t D σ H) : PSs X e t' := ⟨fun pins s σ H D I hq => h.run pins s σ H D I (i D σ H hq)⟩
theorem _root_.L2.PK.bnw {X : Cx} {e : List Keyword} {t t' : TA} (h : PK X e t) (i : ∀ σ H Q, t' σ H Q → t σ H Q) : PK X e t' := ⟨fun pos pins s σ H Q I hq => h.run pos pins s σ H Q I (i σ H Q hq)⟩
theorem _root_.L2.PO.bnw {X : Cx} {e : Option Expr} {t t' : TO} (h : PO X e t) (i : ∀ σ H Q, t' σ H Q → t σ H Q) : PO X e t' := ⟨fun pins s σ H Q I hq => h.run pins s σ H Q I (i σ H Q hq)⟩

section
variable {K : PySem.W.Frag} {mg : Str → Option Value} {Z : Addr → Prop} {ρ : List Addr} {S : List Cell} {H : Hp} {E0 : XK} {Q : VK} {x y : V} {a b : A} {d : D}
/-- a value that stands already -/
theorem post_d (h : RPost K mg Z E0 (relA K mg) ρ S H (.ok (.d d) S) Q) (ok : OkS K mg Z ρ S H) (r : Rep K mg (Mu Z ρ S) H x d) : Q x H := h.here ok r
/-- a new object -/
theorem post_new {p : Addr} {o : HO} (h : RPost K mg Z E0 (relA K mg) ρ S H (.ok (.d d) S) Q) (ok : OkS K mg Z ρ S H) (hp : H p = none) (r : Rep K mg (Mu Z ρ S) (upd H p o) (.ref p) d) : Q (.ref p) (upd H p o) :=
  h _ ρ _ (Ext.laid hp) (ok.laid hp) r
theorem keep_laid {p : Addr} {o : HO} (hp : H p = none) : Keep (Mu Z ρ S) H (Mu Z ρ S) (upd H p o) := (Ext.laid (Z := Z) (ρ := ρ) (S := S) hp).toKeep
/-- a new tuple, a new list of data -/
theorem rep_tup {p : Addr} {vs : List V} {ds : List D} (ok : OkS K mg Z ρ S H) (hp : H p = none) (r : Reps K mg (Mu Z ρ S) H vs ds) : Rep K mg (Mu Z ρ S) (upd H p (.tup vs)) (.ref p) (.tup ds) :=
  .tup (.inl ⟨.inl upd_same, ok.fresh hp⟩) (r.keep (keep_laid hp))
theorem rep_lst {p : Addr} {vs : List V} {ds : List D} (ok : OkS K mg Z ρ S H) (hp : H p = none) (r : Reps K mg (Mu Z ρ S) H vs ds) : Rep K mg (Mu Z ρ S) (upd H p (.lst vs)) (.ref p) (.lst ds) :=
  .lst upd_same (ok.fresh hp) (r.keep (keep_laid hp))
theorem RepAs.data : ∀ {vs : List V} {as : List A} {ds : List D} {M : Addr → Prop}, RepAs K mg M ρ H vs as → toDs as = some ds → Reps K mg M H vs ds
  | _, [], ds, _, .nil, e => by
    have e' : [] = ds := Option.some.inj e
    subst e'
    exact .nil
  | _, .d x :: r, ds, _, .cons h t, e => by
    have e2 : (toDs r).map (x :: ·) = some ds := e
    obtain ⟨l, e3, e4⟩ := Option.map_eq_some_iff.mp e2
    subst e4
    exact .cons h (RepAs.data t e3)
  | _, .c n :: r, ds, _, .cons h t, e => by cases (show (none : Option (List D)) = some ds from e)
theorem RepAs.of_data : ∀ {vs : List V} {ds : List D} {M : Addr → Prop}, Reps K mg M H vs ds → RepAs K mg M ρ H vs (ds.map A.d)
  | _, _, _, .nil => .nil
  | _, _, _, .cons h t => .cons h (RepAs.of_data t)
theorem RepAs.get : ∀ {vs : List V} {as : List A} {M : Addr → Prop} {i : Nat} {z : A}, RepAs K mg M ρ H vs as → as[i]? = some z → ∃ v, vs[i]? = some v ∧ RepA K mg M ρ H v z
  | _, _, _, _, _, .nil, e => by simp at e
  | _, _, _, 0, _, .cons r _, e => by simp at e; subst e; exact ⟨_, rfl, r⟩
  | _, _, _, i + 1, z, .cons _ t, e => by
    obtain ⟨u, h1, h2⟩ := RepAs.get (i := i) (z := z) t (by simpa using e)
    exact ⟨u, by simpa using h1, h2⟩
theorem RepAs.length {vs : List V} {as : List A} {M : Addr → Prop} (h : RepAs K mg M ρ H vs as) : vs.length = as.length := Paired.length h
theorem RepAs.append {vs vs' : List V} {as as' : List A} {M : Addr → Prop} (h : RepAs K mg M ρ H vs as) (h' : RepAs K mg M ρ H vs' as') : RepAs K mg M ρ H (vs ++ vs') (as ++ as') := by
  induction h with
  | nil => exact h'
  | cons r _ ih => exact .cons r ih
/-- the list or tuple that a value is -/
theorem items_of {l : List A} (ok : OkS K mg Z ρ S H) (r : RepA K mg (Mu Z ρ S) ρ H x a) (h : items S a = some l) :
    ∃ p vs, x = .ref p ∧ (SqL K H p vs ∨ SqT K H p vs) ∧ RepAs K mg (Mu Z ρ S) ρ H vs l := by
  cases a with
  | c n =>
    obtain ⟨p, e, rfl⟩ := r
    simp only [items] at h
    split at h
    · rename_i l' e2
      cases h
      obtain ⟨vs, e3, r3⟩ := ok.cells n _ p e2 e
      exact ⟨p, vs, rfl, .inl (SqL.of e3), r3⟩
    · cases h
  | d w =>
    cases r with
    | tup h1 h2 => cases h; exact ⟨_, _, rfl, .inr h1.sq, .of_data h2⟩
    | lst h1 h3 h2 => cases h; exact ⟨_, _, rfl, .inl (SqL.of h1), .of_data h2⟩
    | @scr p l' h1 =>
      cases h
      refine ⟨_, _, rfl, .inl h1.sq, ?_⟩
      have q := RepAs.of_data (ρ := ρ) (Reps.of_ints (K := K) (mg := mg) (M := Mu Z ρ S) (H := H) l')
      rw [List.map_map] at q
      exact q
    | _ => simp [items] at h
theorem listD_of {l : List D} (ok : OkS K mg Z ρ S H) (r : RepA K mg (Mu Z ρ S) ρ H x a) (h : listD S a = some l) :
    ∃ p vs, x = .ref p ∧ H p = some (.lst vs) ∧ Reps K mg (Mu Z ρ S) H vs l := by
  cases a with
  | c n =>
    obtain ⟨p, e, rfl⟩ := r
    simp only [listD] at h
    split at h
    · rename_i l' e2
      obtain ⟨vs, e3, r3⟩ := ok.cells n _ p e2 e
      exact ⟨p, vs, rfl, e3, RepAs.data r3 h⟩
    · cases h
  | d w =>
    cases r with
    | lst h1 h3 h2 => cases h; exact ⟨_, _, rfl, h1, h2⟩
    | _ => simp [listD] at h
theorem listD_cell {n : Nat} {l : List D} (ok : OkS K mg Z ρ S H) (r : RepA K mg (Mu Z ρ S) ρ H x (.c n)) (h : listD S (.c n) = some l) :
    ∃ p vs, x = .ref p ∧ H p = some (.lst vs) ∧ Reps K mg (Mu Z ρ S) H vs l := by
  obtain ⟨p, e, rfl⟩ := r
  simp only [listD] at h
  split at h
  · rename_i l' e2
    obtain ⟨vs, e3, r3⟩ := ok.cells n _ p e2 e
    exact ⟨p, vs, rfl, e3, RepAs.data r3 h⟩
  · cases h

/-! ### data as Dp -/
mutual
theorem Rep.dp {M : Addr → Prop} : ∀ {v : V} {d : D}, Rep K mg M H v d → d.flat = true → Dp K H v d.py
  | _, _, .non, _ => .non
  | _, _, .bl b, _ => .bl b
  | _, _, .int b, _ => .int b
  | _, _, .str b, _ => .str b
  | _, _, .tup h r, f => .tup h.sq (Reps.dp r f)
  | _, _, .lst h _ r, f => .lst (SqL.of h) (Reps.dp r f)
  | _, _, .scr _, f => nomatch f
  | _, _, .dct _ _ _ _, f => nomatch f
  | _, _, .obj _ _ _ _ _, f => nomatch f
theorem Reps.dp {M : Addr → Prop} : ∀ {v : List V} {d : List D}, Reps K mg M H v d → flatAll d = true → DpAll K H v (pyAll d)
  | _, _, .nil, _ => .nil
  | _, _, .cons h r, f => by
    have f' := Bool.and_eq_true_iff.mp f
    exact .cons (Rep.dp h f'.1) (Reps.dp r f'.2)
end
theorem dataD_dp {w : D} (ok : OkS K mg Z ρ S H) (r : RepA K mg (Mu Z ρ S) ρ H x a) (h : dataD S a = some w) (f : w.flat = true) : Dp K H x w.py := by
  cases a with
  | d u =>
    cases h
    exact Rep.dp r f
  | c n =>
    simp only [dataD] at h
    obtain ⟨l, e1, e2⟩ := Option.map_eq_some_iff.mp h
    subst e2
    obtain ⟨p, vs, rfl, h1, h2⟩ := listD_of ok r e1
    exact .lst (SqL.of h1) (h2.dp f)
end
end Bn
/-! Bn, part 4: the operations by values. -/
namespace Bn
open PySem PySem.Spec PyProof.Rows L2

section
variable {X : Cx} {E0 : XK}
def rBin (K : PySem.W.Frag) (mg : Str → Option Value) (E0 : XK) (f : A → A → List Cell → R A) : R2 := fun x y H Q =>
  ∃ (Z : Addr → Prop) (ρ : List Addr) (S : List Cell) (a b : A), OkS K mg Z ρ S H ∧ RepA K mg (Mu Z ρ S) ρ H x a ∧ RepA K mg (Mu Z ρ S) ρ H y b ∧ RPost K mg Z E0 (relA K mg) ρ S H (f a b S) Q
def rOne (K : PySem.W.Frag) (mg : Str → Option Value) (E0 : XK) (f : A → List Cell → R A) : V → Hp → VK → Prop := fun x H Q =>
  ∃ (Z : Addr → Prop) (ρ : List Addr) (S : List Cell) (a : A), OkS K mg Z ρ S H ∧ RepA K mg (Mu Z ρ S) ρ H x a ∧ RPost K mg Z E0 (relA K mg) ρ S H (f a S) Q
def rArgs (K : PySem.W.Frag) (mg : Str → Option Value) (E0 : XK) (f : List A → List Cell → R A) : List V → Hp → VK → Prop := fun xs H Q =>
  ∃ (Z : Addr → Prop) (ρ : List Addr) (S : List Cell) (as : List A), OkS K mg Z ρ S H ∧ RepAs K mg (Mu Z ρ S) ρ H xs as ∧ RPost K mg Z E0 (relA K mg) ρ S H (f as S) Q

theorem op_fdivG : OpR X (binaryOp .FloorDiv) (rI (fun i j => divOk i j = true) fun i j => .int (i.fdiv j)) := opI fun i j _ _ _ _ _ hc q => by
  have h := Bool.and_eq_true_iff.mp hc
  exact floordiv_int (of_decide_eq_true h.1) q (.inl (by simpa using h.2))
theorem mulOk_ok {i j : Int} (h : mulOk i j = true) : CMulX i j := (show _ ≤ _ from of_decide_eq_true h)

theorem op_int (o : Operator) : OpR X (binaryOp o) (fun x y H Q => ∃ i j k, x = .int i ∧ y = .int j ∧ binI o i j = some k ∧ Q (.int k) H) := by
  intro pins s σ H x y v u Q I rx ry h
  obtain ⟨i, j, k, rfl, rfl, hk, q⟩ := h
  cases o with
  | Add => cases hk; exact op_add pins s σ H _ _ v u Q I rx ry ⟨i, j, rfl, rfl, q⟩
  | Sub => cases hk; exact op_sub pins s σ H _ _ v u Q I rx ry ⟨i, j, rfl, rfl, q⟩
  | Mult =>
    simp only [binI] at hk
    split at hk
    · rename_i hm
      cases hk
      exact op_mulX pins s σ H _ _ v u Q I rx ry ⟨i, j, rfl, rfl, mulOk_ok hm, q⟩
    · cases hk
  | FloorDiv =>
    simp only [binI] at hk
    split at hk
    · rename_i hm
      cases hk
      exact op_fdivG pins s σ H _ _ v u Q I rx ry ⟨i, j, rfl, rfl, hm, q⟩
    · cases hk
  | Mod =>
    simp only [binI] at hk
    split at hk
    · cases hk
    · rename_i hm
      cases hk
      exact op_modN pins s σ H _ _ v u Q I rx ry ⟨i, j, rfl, rfl, hm, q⟩
  | Pow =>
    simp only [binI] at hk
    split at hk
    · rename_i hm
      cases hk
      exact op_pow pins s σ H _ _ v u Q I rx ry ⟨i, j, rfl, rfl, (show _ ∧ _ from of_decide_eq_true hm), q⟩
    · cases hk
  | _ => cases hk

section
variable {K : PySem.W.Frag} {mg : Str → Option Value} {Z : Addr → Prop} {ρ : List Addr} {S : List Cell} {H : Hp} {Q : VK} {x y : V} {a b : A} {d : D}
theorem okD_some {o : Option D} (h : RPost K mg Z E0 (relA K mg) ρ S H (okD o S) Q) : ∃ d, o = some d ∧ RPost K mg Z E0 (relA K mg) ρ S H (.ok (.d d) S) Q := by
  cases o with
  | none => exact h.elim
  | some d => exact ⟨d, rfl, h⟩
theorem Reps.rep {M : Addr → Prop} {vs : List V} {l : List D} (r : Reps K mg M H vs l) : ∀ n : Nat, Reps K mg M H (List.flatten (List.replicate n vs)) (repD l n)
  | 0 => .nil
  | n + 1 => by
    rw [List.replicate_succ, List.flatten_cons]
    exact r.append (Reps.rep r n)
end

theorem op_listAdd : OpR X (binaryOp .Add) (rBin X.K X.mg E0 fun a b S => binL .Add S a b) := by
  intro pins s σ H x y v u Q I rx ry h
  obtain ⟨Z, ρ, S, a, b, ok, ra, rb, h⟩ := h
  simp only [binL] at h
  split at h
  · rename_i l m e1 e2
    split at h
    · rename_i hl
      obtain ⟨p, vs, rfl, h1, h2⟩ := listD_of ok ra e1
      obtain ⟨p', vs', rfl, h1', h2'⟩ := listD_of ok rb e2
      refine op_cat pins s σ H _ _ v u Q I rx ry ⟨p, p', vs, vs', rfl, rfl, h1, h1', ?_, fun t ht => ?_⟩
      · rw [h2.length, h2'.length]
        exact lim_line hl
      · exact post_new h ok ht (rep_lst ok ht (h2.append h2'))
    · exact h.elim
  · exact h.elim
theorem op_bin (o : Operator) : OpR X (binaryOp o) (rBin X.K X.mg E0 (binD o)) := by
  intro pins s σ H x y v u Q I rx ry h
  obtain ⟨Z, ρ, S, a, b, ok, ra, rb, h⟩ := h
  unfold binD at h
  split at h
  · rename_i i j
    cases ra
    cases rb
    obtain ⟨d, e, h⟩ := okD_some h
    obtain ⟨k, e1, e2⟩ := Option.map_eq_some_iff.mp e
    subst e2
    exact op_int _ pins s σ H _ _ v u Q I rx ry ⟨i, j, k, rfl, rfl, e1, post_d h ok (.int k)⟩
  · rename_i l m
    split at h
    · rename_i hl
      cases ra with
      | tup h1 h2 =>
        cases rb with
        | tup h1' h2' =>
          refine op_catA pins s σ H _ _ v u Q I rx ry ⟨_, _, _, _, rfl, rfl, h1.sq, h1'.sq, by rw [h2.length, h2'.length]; exact lim_line hl, fun e => ?_, fun _ e => ?_, fun _ _ p hp => ?_⟩
          · subst e
            cases h2
            exact post_d h ok (.tup h1' h2')
          · subst e
            cases h2'
            refine post_d h ok ?_
            rw [List.append_nil]
            exact .tup h1 h2
          · exact post_new h ok hp (rep_tup ok hp (h2.append h2'))
    · exact h.elim
  · rename_i i j
    cases ra
    cases rb
    split at h
    · rename_i hl
      exact op_add_str pins s σ H _ _ v u Q I rx ry ⟨i, j, rfl, rfl, lim_line hl, post_d h ok (.str _)⟩
    · exact h.elim
  · rename_i l i
    cases rb
    split at h
    · rename_i hl
      cases ra with
      | lst h1 h3 h2 =>
        have hz : (-(2 ^ 63) : Int) ≤ i ∧ i < 2 ^ 63 := ⟨by omega, by omega⟩
        refine op_rep pins s σ H _ _ v u Q I rx ry ?_
        exact ⟨_, i, _, rfl, rfl, h1, hz.1, hz.2, by rw [h2.length]; exact lim_line hl.1, fun p hp => post_new h ok hp (rep_lst ok hp (h2.rep i.toNat))⟩
    · exact h.elim
  · by_cases ho : o = .Add
    · subst ho
      exact op_listAdd pins s σ H x y v u Q I rx ry ⟨Z, ρ, S, a, b, ok, ra, rb, h⟩
    · have e : binL o S a b = .no := by
        unfold binL
        split
        · exact absurd rfl ho
        · rfl
      rw [e] at h
      exact h.elim

theorem isNon_iff {K : PySem.W.Frag} {mg : Str → Option Value} {M : Addr → Prop} {ρ : List Addr} {H : Hp} {x : V} {a : A} (r : RepA K mg M ρ H x a) : decide (x = .non) = isNon a := by
  cases a with
  | c n =>
    obtain ⟨p, _, rfl⟩ := r
    rfl
  | d w => cases r <;> rfl
theorem op_cmpI (o : CmpOp) : OpR X (compareOp o) (fun x y H Q => ∃ i j k, x = .int i ∧ y = .int j ∧ cmpI o i j = some k ∧ Q (.bl k) H) := by
  intro pins s σ H x y v u Q I rx ry h
  obtain ⟨i, j, k, rfl, rfl, hk, q⟩ := h
  cases o with
  | Lt => cases hk; exact op_lt pins s σ H _ _ v u Q I rx ry ⟨i, j, rfl, rfl, q⟩
  | LtE => cases hk; exact op_le pins s σ H _ _ v u Q I rx ry ⟨i, j, rfl, rfl, q⟩
  | Gt => cases hk; exact op_gt pins s σ H _ _ v u Q I rx ry ⟨i, j, rfl, rfl, q⟩
  | GtE => cases hk; exact op_ge pins s σ H _ _ v u Q I rx ry ⟨i, j, rfl, rfl, q⟩
  | _ => cases hk
theorem op_cmp (hu : X.A.units + 64 < cLine) (o : CmpOp) : OpR X (compareOp o) (rBin X.K X.mg E0 (cmpD o)) := by
  intro pins s σ H x y v u Q I rx ry h
  obtain ⟨Z, ρ, S, a, b, ok, ra, rb, h⟩ := h
  have eqs : ∀ o : CmpOp, (o = .Eq ∨ o = .NotEq) → RPost X.K X.mg Z E0 (relA X.K X.mg) ρ S H (cmpE o S a b) Q → wpAny (model X.prog X.w) X.A (compareOp o v u) (EP X pins σ Q) X.xe s := fun o ho h => by
    unfold cmpE at h
    split at h
    · rename_i p q e1 e2
      split at h
      · rename_i hk
        have hk2 := Bool.and_eq_true_iff.mp hk
        have k1 := Bool.and_eq_true_iff.mp hk2.1
        have k2 := Bool.and_eq_true_iff.mp hk2.2
        rcases ho with rfl | rfl
        · exact op_eqD hu pins s σ H x y v u Q I rx ry ⟨p.py, q.py, dataD_dp ok ra e1 k1.1, dataD_dp ok rb e2 k2.1, k1.2, k2.2, post_d h ok (.bl _)⟩
        · exact op_neD hu pins s σ H x y v u Q I rx ry ⟨p.py, q.py, dataD_dp ok ra e1 k1.1, dataD_dp ok rb e2 k2.1, k1.2, k2.2, post_d h ok (.bl _)⟩
      · exact h.elim
    · exact h.elim
  have ords : ∀ o : CmpOp, RPost X.K X.mg Z E0 (relA X.K X.mg) ρ S H (cmpO o a b S) Q → wpAny (model X.prog X.w) X.A (compareOp o v u) (EP X pins σ Q) X.xe s := fun o h => by
    unfold cmpO at h
    split at h
    · cases ra
      cases rb
      obtain ⟨d, e, h⟩ := okD_some h
      obtain ⟨k, e1, e2⟩ := Option.map_eq_some_iff.mp e
      subst e2
      exact op_cmpI _ pins s σ H _ _ v u Q I rx ry ⟨_, _, k, rfl, rfl, e1, post_d h ok (.bl k)⟩
    · exact h.elim
  have nons : isNon b = true → y = .non := fun e => by
    have := isNon_iff rb
    rw [e] at this
    exact of_decide_eq_true this
  cases o with
  | Eq => exact eqs .Eq (.inl rfl) h
  | NotEq => exact eqs .NotEq (.inr rfl) h
  | Lt => exact ords .Lt h
  | LtE => exact ords .LtE h
  | Gt => exact ords .Gt h
  | GtE => exact ords .GtE h
  | Is =>
    have h : RPost X.K X.mg Z E0 (relA X.K X.mg) ρ S H (if isNon b = true then .ok (.d (.bl (isNon a))) S else .no) Q := h
    split at h
    · rename_i e
      exact op_isN pins s σ H x y v u Q I rx ry ⟨nons e, by rw [isNon_iff ra]; exact post_d h ok (.bl _)⟩
    · exact h.elim
  | IsNot =>
    have h : RPost X.K X.mg Z E0 (relA X.K X.mg) ρ S H (if isNon b = true then .ok (.d (.bl (!isNon a))) S else .no) Q := h
    split at h
    · rename_i e
      exact op_notN pins s σ H x y v u Q I rx ry ⟨nons e, by rw [isNon_iff ra]; exact post_d h ok (.bl _)⟩
    · exact h.elim
  | In => exact (ords .In h)
  | NotIn => exact (ords .NotIn h)
theorem un_negD : UnR X (unaryOp .USub) (rOne X.K X.mg E0 negD) := by
  intro pins s σ H x v Q I rx h
  obtain ⟨Z, ρ, S, a, ok, ra, h⟩ := h
  unfold negD at h
  split at h
  · rename_i i
    cases ra
    exact un_neg pins s σ H _ v Q I rx ⟨i, rfl, post_d h ok (.int _)⟩
  · exact h.elim
theorem atI_rep {K : PySem.W.Frag} {mg : Str → Option Value} {M : Addr → Prop} {ρ : List Addr} {H : Hp} {vs : List V} {l : List A} {k : Int} {z : A} (r : RepAs K mg M ρ H vs l) (h : atI l k = some z) :
    ∃ v, atI vs k = some v ∧ RepA K mg M ρ H v z := by
  unfold atI at h ⊢
  rw [r.length]
  obtain ⟨j, e1, e2⟩ := Option.bind_eq_some_iff.mp h
  rw [e1]
  exact r.get e2
theorem ix_any : IxR X (rBin X.K X.mg E0 ixD) := by
  intro value slice pins s σ H x y v u Q I rx ry h hs
  obtain ⟨Z, ρ, S, a, b, ok, ra, rb, h⟩ := h
  unfold ixD at h
  split at h
  · rename_i l k e1
    cases rb
    obtain ⟨p, vs, rfl, hp, hr⟩ := items_of ok ra e1
    split at h
    · rename_i z e2
      obtain ⟨w, e3, r3⟩ := atI_rep hr e2
      have q : Q w H := h.here ok r3
      rcases hp with hp | hp
      · exact ix_list value slice pins s σ H _ _ v u Q I rx ry ⟨p, vs, k, w, rfl, rfl, hp, e3, q⟩ hs
      · exact ix_tup value slice pins s σ H _ _ v u Q I rx ry ⟨p, vs, k, w, rfl, rfl, hp, e3, q⟩ hs
    · exact h.elim
  · exact h.elim
def rSl (K : PySem.W.Frag) (mg : Str → Option Value) (E0 : XK) : V → Option Int → Option Int → Hp → VK → Prop := fun x lo hi H Q =>
  ∃ (Z : Addr → Prop) (ρ : List Addr) (S : List Cell) (a : A), OkS K mg Z ρ S H ∧ RepA K mg (Mu Z ρ S) ρ H x a ∧ RPost K mg Z E0 (relA K mg) ρ S H (slD a lo hi S) Q
theorem cutL_rep {K : PySem.W.Frag} {mg : Str → Option Value} {M : Addr → Prop} {H : Hp} {vs : List V} {l : List D} (r : Reps K mg M H vs l) (lo hi : Option Int) : Reps K mg M H (cutV vs lo hi) (cutL l lo hi) := by
  unfold cutV cutL
  rw [r.length]
  exact (r.drop _).take _
theorem sl_any : SlR X (rSl X.K X.mg E0) := by
  intro pins s σ H x v vl vu lo hi sl Q I rx hs pl pu h
  obtain ⟨Z, ρ, S, a, ok, ra, h⟩ := h
  have lists : ∀ (l : List D) (vs : List V) (p : Addr), x = .ref p → SqL X.K H p vs → Reps X.K X.mg (Mu Z ρ S) H vs l → RPost X.K X.mg Z E0 (relA X.K X.mg) ρ S H (.ok (.d (.lst (cutL l lo hi))) S) Q →
      ∃ T id, typeLookup (.type T) "__getitem__" = pure (some (.builtin id)) ∧ s.TypeIs v T ∧ wpAny (model X.prog X.w) X.A (getItem v (.ref sl)) (EP X pins σ Q) X.xe s := fun l vs p ex hp hr h => by
    subst ex
    exact sl_list pins s σ H _ v vl vu lo hi sl Q I rx hs pl pu ⟨p, vs, rfl, hp, fun t ht => post_new h ok ht (rep_lst ok ht (cutL_rep hr lo hi))⟩
  unfold slD at h
  split at h
  · rename_i l
    cases ra with
    | tup h1 h2 =>
      refine sl_tupA pins s σ H _ v vl vu lo hi sl Q I rx hs pl pu ⟨_, _, rfl, h1.sq, fun hw => ?_, fun _ t ht => post_new h ok ht (rep_tup ok ht (cutL_rep h2 lo hi))⟩
      refine post_d h ok ?_
      have e : cutL l lo hi = l := by
        unfold cutL
        rw [← h2.length, hw.1, hw.2]
        simp [h2.length]
      rw [e]
      exact .tup h1 h2
  · rename_i l
    cases ra with
    | scr h1 => exact lists (l.map .int) _ _ rfl h1.sq (Reps.of_ints l) h
  · split at h
    · rename_i l e
      obtain ⟨p, vs, rfl, h1, h2⟩ := listD_of ok ra e
      exact lists l vs p rfl (SqL.of h1) h2 h
    · exact h.elim

/-! ### built-ins -/
theorem ty_of {K : PySem.W.Frag} {mg : Str → Option Value} {M : Addr → Prop} {H : Hp} {v : V} {d : D} (r : Rep K mg M H v d) (hd : ∀ c l, d ≠ .obj c l) : TyX K H v (.type d.tyN) := by
  cases r with
  | non => exact .base .non
  | bl b => exact .base (.bl b)
  | int i => exact .base (.int i)
  | str s => exact .base (.str s)
  | tup h _ =>
    rcases h with ⟨h | ⟨o, h⟩, _⟩ | h | ⟨o, its, n, h1, h2, _⟩
    · exact .base (.tup h)
    · exact .fTuple h
    · exact (rd_none h).elim
    · exact .kTuple h1 h2
  | lst h _ _ => exact .base (.lst h)
  | scr h =>
    rcases h with ⟨h | ⟨o, h⟩, _⟩ | h | ⟨o, its, n, h1, h2, _⟩
    · exact .base (.lst h)
    · exact .base (.frz h)
    · exact (rd_none h).elim
    · exact .kList h1 h2
  | dct h _ _ _ => exact .base (.dK h)
  | obj _ _ _ _ _ => exact absurd rfl (hd _ _)
theorem boolsOf_eq : ∀ {l : List D} {bs : List Bool}, boolsOf l = some bs → l = bs.map .bl
  | [], bs, h => by
    have h' : [] = bs := Option.some.inj h
    subst h'
    rfl
  | .bl b :: r, bs, h => by
    obtain ⟨t, e1, e2⟩ := Option.map_eq_some_iff.mp (show (boolsOf r).map (b :: ·) = some bs from h)
    subst e2
    rw [boolsOf_eq e1]
    rfl
  | .non :: _, _, h => nomatch h
  | .int _ :: _, _, h => nomatch h
  | .str _ :: _, _, h => nomatch h
  | .tup _ :: _, _, h => nomatch h
  | .lst _ :: _, _, h => nomatch h
  | .scr _ :: _, _, h => nomatch h
  | .dct _ :: _, _, h => nomatch h
  | .obj _ _ :: _, _, h => nomatch h
theorem RepAs.two {K : PySem.W.Frag} {mg : Str → Option Value} {M : Addr → Prop} {ρ : List Addr} {H : Hp} {xs : List V} {a b : A} (r : RepAs K mg M ρ H xs [a, b]) : ∃ x y, xs = [x, y] ∧ RepA K mg M ρ H x a ∧ RepA K mg M ρ H y b := by
  cases r with
  | cons h1 t =>
    cases t with
    | cons h2 t => cases t; exact ⟨_, _, rfl, h1, h2⟩
theorem RepAs.one {K : PySem.W.Frag} {mg : Str → Option Value} {M : Addr → Prop} {ρ : List Addr} {H : Hp} {xs : List V} {a : A} (r : RepAs K mg M ρ H xs [a]) : ∃ x, xs = [x] ∧ RepA K mg M ρ H x a := by
  cases r with
  | cons h1 t => cases t; exact ⟨_, rfl, h1⟩
theorem cr_one {g : Value} {f : A → List Cell → R A} (h : ∀ (pins : List (Addr × Obj)) (s : Shared) (σ : L2.St) (H : Hp) (x : V) (us : List Value) (Q : VK), Inv X pins σ H s → Vals [x] us → rOne X.K X.mg E0 f x H Q →
    wpAny (model X.prog X.w) X.A (call g us) (EP X pins σ Q) X.xe s) : CallR X g (rArgs X.K X.mg E0 (one f)) := by
  intro pins s σ H xs us Q I r h2
  obtain ⟨Z, ρ, S, as, ok, ra, h2⟩ := h2
  unfold one at h2
  split at h2
  · obtain ⟨x, rfl, r1⟩ := ra.one
    exact h pins s σ H x us Q I r ⟨Z, ρ, S, _, ok, r1, h2⟩
  · exact h2.elim
theorem cr_two {g : Value} {f : A → A → List Cell → R A} (h : ∀ (pins : List (Addr × Obj)) (s : Shared) (σ : L2.St) (H : Hp) (x y : V) (us : List Value) (Q : VK), Inv X pins σ H s → Vals [x, y] us → rBin X.K X.mg E0 f x y H Q →
    wpAny (model X.prog X.w) X.A (call g us) (EP X pins σ Q) X.xe s) : CallR X g (rArgs X.K X.mg E0 (two f)) := by
  intro pins s σ H xs us Q I r h2
  obtain ⟨Z, ρ, S, as, ok, ra, h2⟩ := h2
  unfold two at h2
  split at h2
  · obtain ⟨x, y, rfl, r1, r2⟩ := ra.two
    exact h pins s σ H x y us Q I r ⟨Z, ρ, S, _, _, ok, r1, r2, h2⟩
  · exact h2.elim
theorem cr_len : CallR X (.builtin "len") (rArgs X.K X.mg E0 (one lenD)) := cr_one fun pins s σ H x us Q I r ⟨Z, ρ, S, a, ok, r1, h⟩ => by
  unfold lenD at h
  split at h
  · rename_i l e
    obtain ⟨p, vs, rfl, hp, hr⟩ := items_of ok r1 e
    exact call_len_seq pins s σ H _ us Q I r ⟨p, vs, rfl, hp, by rw [hr.length]; exact post_d h ok (.int _)⟩
  · exact h.elim
theorem cr_abs : CallR X (.builtin "abs") (rArgs X.K X.mg E0 (one absD)) := cr_one fun pins s σ H x us Q I r ⟨Z, ρ, S, a, ok, r1, h⟩ => by
  unfold absD at h
  split at h
  · cases r1
    exact call_abs pins s σ H _ us Q I r ⟨_, rfl, post_d h ok (.int _)⟩
  · exact h.elim
theorem cr_max (hc : X.calm = true) : CallR X (.builtin "max") (rArgs X.K X.mg E0 (two maxD)) := cr_two fun pins s σ H x y us Q I r ⟨Z, ρ, S, a, b, ok, r1, r2, h⟩ => by
  unfold maxD at h
  split at h
  · cases r1
    cases r2
    exact call_max2 hc pins s σ H _ us Q I r ⟨_, _, rfl, post_d h ok (.int _)⟩
  · exact h.elim
theorem cr_min (hc : X.calm = true) : CallR X (.builtin "min") (rArgs X.K X.mg E0 (two minD)) := cr_two fun pins s σ H x y us Q I r ⟨Z, ρ, S, a, b, ok, r1, r2, h⟩ => by
  unfold minD at h
  split at h
  · cases r1
    cases r2
    exact call_min2 hc pins s σ H _ us Q I r ⟨_, _, rfl, post_d h ok (.int _)⟩
  · exact h.elim
theorem cr_int : CallR X (.type "int") (rArgs X.K X.mg E0 (one intD)) := cr_one fun pins s σ H x us Q I r ⟨Z, ρ, S, a, ok, r1, h⟩ => by
  unfold intD at h
  split at h
  · cases r1
    exact call_int1 pins s σ H _ us Q I r (.inl ⟨_, rfl, post_d h ok (.int _)⟩)
  · exact h.elim
theorem cr_allD (hc : X.calm = true) : CallR X (.builtin "all") (rArgs X.K X.mg E0 (one allD)) := cr_one fun pins s σ H x us Q I r ⟨Z, ρ, S, a, ok, r1, h⟩ => by
  unfold allD at h
  split at h
  · rename_i bs e
    obtain ⟨l, e1, e2⟩ := Option.bind_eq_some_iff.mp e
    obtain ⟨p, vs, rfl, hp, hr⟩ := listD_of ok r1 e1
    rw [boolsOf_eq e2] at hr
    exact cr_all hc pins s σ H _ us Q I r ⟨p, bs, rfl, by rw [← hr.bools]; exact SqL.of hp, post_d h ok (.bl _)⟩
  · exact h.elim
theorem cr_anyD (hc : X.calm = true) : CallR X (.builtin "any") (rArgs X.K X.mg E0 (one anyD)) := cr_one fun pins s σ H x us Q I r ⟨Z, ρ, S, a, ok, r1, h⟩ => by
  unfold anyD at h
  split at h
  · rename_i bs e
    obtain ⟨l, e1, e2⟩ := Option.bind_eq_some_iff.mp e
    obtain ⟨p, vs, rfl, hp, hr⟩ := listD_of ok r1 e1
    rw [boolsOf_eq e2] at hr
    exact cr_any hc pins s σ H _ us Q I r ⟨p, bs, rfl, by rw [← hr.bools]; exact SqL.of hp, post_d h ok (.bl _)⟩
  · exact h.elim
theorem cr_tuple : CallR X (.type "tuple") (rArgs X.K X.mg E0 (one tupleD)) := cr_one fun pins s σ H x us Q I r ⟨Z, ρ, S, a, ok, r1, h⟩ => by
  unfold tupleD at h
  split at h
  · cases r1 with
    | tup h1 h2 => exact call_tuple_of pins s σ H _ us Q I r ⟨_, _, rfl, .inr ⟨h1.sq, post_d h ok (.tup h1 h2)⟩⟩
  · split at h
    · rename_i l e
      obtain ⟨p, vs, rfl, hp, hr⟩ := listD_of ok r1 e
      exact call_tuple_of pins s σ H _ us Q I r ⟨p, vs, rfl, .inl ⟨SqL.of hp, fun t ht => post_new h ok ht (rep_tup ok ht hr)⟩⟩
    · exact h.elim
theorem cr_list : CallR X (.type "list") (rArgs X.K X.mg E0 (one listOfD)) := cr_one fun pins s σ H x us Q I r ⟨Z, ρ, S, a, ok, r1, h⟩ => by
  unfold listOfD at h
  split at h
  · cases r1 with
    | tup h1 h2 => exact call_list_of pins s σ H _ us Q I r ⟨_, _, rfl, .inr h1.sq, fun t ht => post_new h ok ht (rep_lst ok ht h2)⟩
  · split at h
    · rename_i l e
      obtain ⟨p, vs, rfl, hp, hr⟩ := listD_of ok r1 e
      exact call_list_of pins s σ H _ us Q I r ⟨p, vs, rfl, .inl (SqL.of hp), fun t ht => post_new h ok ht (rep_lst ok ht hr)⟩
    · exact h.elim
theorem cr_divmod : CallR X (.builtin "divmod") (rArgs X.K X.mg E0 (two divmodD)) := cr_two fun pins s σ H x y us Q I r ⟨Z, ρ, S, a, b, ok, r1, r2, h⟩ => by
  unfold divmodD at h
  split at h
  · rename_i i j
    split at h
    · rename_i hc
      have h2 := Bool.and_eq_true_iff.mp hc
      have h3 := Bool.and_eq_true_iff.mp h2.2
      cases r1
      cases r2
      refine call_divmodW pins s σ H _ us Q I r ⟨i, j, rfl, ⟨of_decide_eq_true h2.1, by simpa using h3.2⟩, fun p hp => post_new h ok hp ?_⟩
      exact rep_tup (vs := [.int (i / j), .int (i % j)]) ok hp (.cons (.int _) (.cons (.int _) .nil))
    · exact h.elim
  · exact h.elim
theorem cr_gcdD : CallR X (.builtin "math.gcd") (rArgs X.K X.mg E0 (two gcdD)) := cr_two fun pins s σ H x y us Q I r ⟨Z, ρ, S, a, b, ok, r1, r2, h⟩ => by
  unfold gcdD at h
  split at h
  · cases r1
    cases r2
    exact cr_gcd pins s σ H _ us Q I r ⟨_, _, rfl, post_d h ok (.int _)⟩
  · exact h.elim
theorem flat_noDict : (∀ d : D, d.flat = true → d.py.hasDict = false) ∧ ∀ l : List D, flatAll l = true → PyData.hasDictAll (pyAll l) = false := by
  refine ⟨fun d => ?_, fun l => ?_⟩
  · exact D.rec (motive_1 := fun d => d.flat = true → d.py.hasDict = false) (motive_2 := fun l => flatAll l = true → PyData.hasDictAll (pyAll l) = false) (motive_3 := fun _ => True) (motive_4 := fun _ => True) (motive_5 := fun _ => True) (motive_6 := fun _ => True)
      (fun _ => rfl) (fun _ _ => rfl) (fun _ _ => rfl) (fun _ _ => rfl) (fun l ih h => by simp only [D.flat] at h; simp only [D.py, PyData.hasDict]; exact ih h) (fun l ih h => by simp only [D.flat] at h; simp only [D.py, PyData.hasDict]; exact ih h)
      (fun _ h => by simp [D.flat] at h) (fun _ _ h => by simp [D.flat] at h) (fun _ _ _ h => by simp [D.flat] at h) (fun _ => rfl)
      (fun x r i1 i2 h => by
        simp only [flatAll, Bool.and_eq_true] at h
        simp only [pyAll, PyData.hasDictAll, i1 h.1, i2 h.2, Bool.or_self]) trivial (fun _ _ _ _ => trivial) trivial (fun _ _ _ _ => trivial) (fun _ _ _ => trivial) (fun _ _ _ => trivial) d
  · exact D.rec_1 (motive_1 := fun d => d.flat = true → d.py.hasDict = false) (motive_2 := fun l => flatAll l = true → PyData.hasDictAll (pyAll l) = false) (motive_3 := fun _ => True) (motive_4 := fun _ => True) (motive_5 := fun _ => True) (motive_6 := fun _ => True)
      (fun _ => rfl) (fun _ _ => rfl) (fun _ _ => rfl) (fun _ _ => rfl) (fun l ih h => by simp only [D.flat] at h; simp only [D.py, PyData.hasDict]; exact ih h) (fun l ih h => by simp only [D.flat] at h; simp only [D.py, PyData.hasDict]; exact ih h)
      (fun _ h => by simp [D.flat] at h) (fun _ _ h => by simp [D.flat] at h) (fun _ _ _ h => by simp [D.flat] at h) (fun _ => rfl)
      (fun x r i1 i2 h => by
        simp only [flatAll, Bool.and_eq_true] at h
        simp only [pyAll, PyData.hasDictAll, i1 h.1, i2 h.2, Bool.or_self]) trivial (fun _ _ _ _ => trivial) trivial (fun _ _ _ _ => trivial) (fun _ _ _ => trivial) (fun _ _ _ => trivial) l
theorem repr_data {prog : Program} {w : World} {A : Around} {E : Value → Shared → Prop} {s : Shared} {u : Value} {d : PyData} {as : List Addr} {Q : Value → Shared → Prop} (r : Reads s.heap u d as) (hs : d.showable = true) (hd : d.hasDict = false)
    (hg : A.guards = some []) (hu : A.units + (d.depth + 1) < cLine) (hsz : d.shown.length ≤ sizeLine)
    (hQ : ∀ h' t tk, (∀ b o, s.heap.get? b = some o → h'.get? b = some o) → Q (.str d.shown t) { s with heap := h', toks := tk }) : wpAny (model prog w) A (call (.builtin "repr") [u]) Q E s := by
  have refs : ∀ a, u = .ref a → wpAny (model prog w) A (call (.builtin "repr") [u]) Q E s := fun a e => by
    subst e
    exact repr_of_reads' r hs (PyData.noDict_hsm hd) hg hu (fun _ _ e => e) hQ hsz
  cases r with
  | none => exact P.repr_of_none (hQ _ _ _ fun _ _ e => e)
  | bool b => exact P.repr_of_bool (by
      have q := hQ s.heap s.toks (s.toks + 1) fun _ _ e => e
      simp only [PyData.shown] at q
      exact q)
  | int i t =>
    have hi : i.natAbs.log2 < 1920 := by
      simp only [PyData.showable] at hs
      exact of_decide_eq_true hs
    exact P.repr_of_int hi (by
      have q := hQ s.heap s.toks (s.toks + 1) fun _ _ e => e
      simp only [PyData.shown] at q
      exact q)
  | str x t =>
    have hz : (PyData.shown (.str x)).length = (reprText x).length := by simp only [PyData.shown]
    have q := hQ s.heap s.toks (s.toks + 1) fun _ _ e => e
    simp only [PyData.shown] at q
    exact P.repr_of_str q (by rw [← hz]; exact hsz)
  | list _ _ _ _ => exact refs _ rfl
  | tuple _ _ _ _ => exact refs _ rfl
  | dict _ _ _ _ _ => exact refs _ rfl
theorem cr_repr (hu : X.A.units + 128 < cLine) (hg : X.A.guards = some []) : CallR X (.builtin "repr") (rArgs X.K X.mg E0 (one reprD)) := cr_one fun pins s σ H x us Q I r ⟨Z, ρ, S, a, ok, r1, h⟩ => by
  unfold reprD at h
  split at h
  · rename_i w e
    split at h
    · rename_i hk
      unfold showOk at hk
      simp only [Bool.and_eq_true, decide_eq_true_eq] at hk
      obtain ⟨⟨⟨f1, f2⟩, f3⟩, f4⟩ := hk
      obtain ⟨u, rfl, ru⟩ := vals1 r
      obtain ⟨as, hr⟩ := Dp.reads I _ _ _ (dataD_dp ok r1 e f1) ru
      exact repr_data hr f2 (flat_noDict.1 _ f1) hg (by omega) f4 fun h' t tk hk => ⟨.str _, H, I.kept hk, ⟨t, rfl⟩, post_d h ok (.str _)⟩
    · exact h.elim
  · exact h.elim
theorem dataD_ty {K : PySem.W.Frag} {mg : Str → Option Value} {Z : Addr → Prop} {ρ : List Addr} {S : List Cell} {H : Hp} {x : V} {a : A} {w : D} (ok : OkS K mg Z ρ S H) (r : RepA K mg (Mu Z ρ S) ρ H x a) (h : dataD S a = some w) (hd : ∀ c l, w ≠ .obj c l) : TyX K H x (.type w.tyN) := by
  cases a with
  | d u =>
    cases h
    exact ty_of r hd
  | c n =>
    simp only [dataD] at h
    obtain ⟨l, e1, e2⟩ := Option.map_eq_some_iff.mp h
    subst e2
    obtain ⟨p, vs, rfl, h1, h2⟩ := listD_of ok r e1
    exact .base (.lst h1)
/-- isinstance(x, T), T a built-in class by its name -/
def rIsiT1 (K : PySem.W.Frag) (mg : Str → Option Value) (E0 : XK) (t : String) : List V → Hp → VK → Prop := fun xs H Q => ∃ x, xs = [x, .ty t] ∧ rOne K mg E0 (isiD t) x H Q
theorem cr_isi (t : String) : CallR X (.builtin "isinstance") (rIsiT1 X.K X.mg E0 t) := by
  intro pins s σ H xs us Q I r h
  obtain ⟨x, rfl, Z, ρ, S, a, ok, r1, h⟩ := h
  unfold isiD at h
  split at h
  · rename_i w e
    split at h
    · rename_i b e2
      have hn : ∀ c l, w ≠ .obj c l := fun c l z => by
        subst z
        cases e2
      have e3 : kitB w.tyN t = some b := by
        cases w with
        | obj c l => cases e2
        | _ => exact e2
      exact call_isi pins s σ H _ us Q I r ⟨x, .ty t, .type w.tyN, .type t, b, rfl, .ty t, dataD_ty ok r1 e hn, kit_ty e3, post_d h ok (.bl b)⟩
    · exact h.elim
  · exact h.elim
end
end Bn
/-! Bn, part 5: what the callee sees, what comes back. -/
namespace Bn
open PySem PySem.Spec PyProof.Rows L2

theorem mem_dedup : ∀ {l : List Nat} {n : Nat}, n ∈ dedup l ↔ n ∈ l
  | [], n => Iff.rfl
  | m :: r, n => by
    unfold dedup
    split
    · rename_i h
      rw [mem_dedup (l := r), List.mem_cons]
      exact ⟨.inr, fun q => q.elim (fun e => e ▸ h) id⟩
    · rw [List.mem_cons, List.mem_cons, mem_dedup (l := r)]
theorem nodup_dedup : ∀ l : List Nat, (dedup l).Nodup
  | [] => .nil
  | m :: r => by
    unfold dedup
    split
    · exact nodup_dedup r
    · rename_i h
      exact List.nodup_cons.mpr ⟨fun q => h (mem_dedup.mp q), nodup_dedup r⟩
theorem nodup_reach (S : List Cell) : ∀ (k : Nat) (l : List Nat), l.Nodup → (reach S k l).Nodup
  | 0, _, h => h
  | k + 1, l, h => by
    unfold reach
    simp only
    split
    · exact h
    · exact nodup_reach S k _ (nodup_dedup _)
theorem ixOf_get : ∀ {l : List Nat} {n m : Nat}, ixOf n l = some m → l[m]? = some n
  | [], _, _, h => nomatch h
  | x :: r, n, m, h => by
    unfold ixOf at h
    split at h
    · rename_i e
      cases h
      rw [e]
      rfl
    · obtain ⟨j, e1, e2⟩ := Option.map_eq_some_iff.mp h
      subst e2
      simpa using ixOf_get e1
theorem pickS_get {S : List Cell} : ∀ {l : List Nat} {T : List Cell}, pickS S l = some T → T.length = l.length ∧ ∀ (i n : Nat), l[i]? = some n → S[n]? = T[i]? ∧ n < S.length
  | [], T, h => by
    cases h
    exact ⟨rfl, fun i n e => by simp at e⟩
  | n :: r, T, h => by
    unfold pickS at h
    split at h
    · rename_i c s e1 e2
      cases h
      obtain ⟨h1, h2⟩ := pickS_get e2
      refine ⟨by rw [List.length_cons, List.length_cons, h1], fun i m e => ?_⟩
      cases i with
      | zero =>
        have e' : n = m := by simpa using e
        subst e'
        exact ⟨e1, (List.getElem?_eq_some_iff.mp e1).1⟩
      | succ i => simpa using h2 i m (by simpa using e)
    · cases h
theorem renS_get {f : Nat → Option Nat} : ∀ {l T : List Cell}, renS f l = some T → T.length = l.length ∧ ∀ (i : Nat) (c : Cell), T[i]? = some c → ∃ c0, l[i]? = some c0 ∧ renC f c0 = some c
  | [], T, h => by
    cases h
    exact ⟨rfl, fun i c e => by simp at e⟩
  | n :: r, T, h => by
    unfold renS at h
    split at h
    · rename_i c s e1 e2
      cases h
      obtain ⟨h1, h2⟩ := renS_get e2
      refine ⟨by rw [List.length_cons, List.length_cons, h1], fun i m e => ?_⟩
      cases i with
      | zero =>
        have e' : c = m := by simpa using e
        subst e'
        exact ⟨n, rfl, e1⟩
      | succ i => simpa using h2 i m (by simpa using e)
    · cases h
theorem renC_dead {f : Nat → Option Nat} {c c' : Cell} (h : renC f c = some c') : c = .dead ↔ c' = .dead := by
  cases c with
  | lst l =>
    obtain ⟨m, _, e⟩ := Option.map_eq_some_iff.mp h
    subst e
    exact ⟨(fun z => nomatch z), (fun z => nomatch z)⟩
  | ins c l =>
    obtain ⟨m, _, e⟩ := Option.map_eq_some_iff.mp h
    subst e
    exact ⟨(fun z => nomatch z), (fun z => nomatch z)⟩
  | dead =>
    cases h
    exact Iff.rfl
theorem putS_length : ∀ {locs : List Nat} {T S : List Cell}, (putS S locs T).length = S.length
  | [], T, _ => by cases T <;> simp [putS]
  | _ :: _, [], _ => by simp [putS]
  | n :: r, c :: s, S => by
    unfold putS
    rw [putS_length (locs := r) (T := s), List.length_set]
theorem putS_get : ∀ {locs : List Nat} {T S : List Cell} {k : Nat} {c : Cell}, T.length = locs.length → (putS S locs T)[k]? = some c → (k ∉ locs ∧ S[k]? = some c) ∨ ∃ i : Nat, locs[i]? = some k ∧ T[i]? = some c
  | [], T, S, _, _, _, h => by
    have e : putS S [] T = S := by cases T <;> simp [putS]
    rw [e] at h
    exact .inl ⟨by simp, h⟩
  | _ :: _, [], _, _, _, hl, _ => absurd hl (by simp)
  | n :: r, x :: s, S, k, c, hl, h => by
    unfold putS at h
    rcases putS_get (locs := r) (T := s) (by simpa using hl) h with ⟨h1, h2⟩ | ⟨i, h1, h2⟩
    · by_cases hk : n = k
      · subst hk
        right
        have hn : n < S.length := by
          have := (List.getElem?_eq_some_iff.mp h2).1
          rwa [List.length_set] at this
        rw [List.getElem?_set_self hn] at h2
        exact ⟨0, rfl, by simpa using h2⟩
      · rw [List.getElem?_set_ne hk] at h2
        exact .inl ⟨fun q => (List.mem_cons.mp q).elim (fun e => hk e.symm) h1, h2⟩
    · exact .inr ⟨i + 1, by simpa using h1, by simpa using h2⟩

section
variable {K : PySem.W.Frag} {mg : Str → Option Value} {M : Addr → Prop} {ρ ρ' : List Addr} {H : Hp} {f : Nat → Option Nat}
theorem RepA.ren (hf : ∀ (n m : Nat) (b : Addr), f n = some m → ρ[n]? = some b → ρ'[m]? = some b) {v : V} : ∀ {a a' : A}, RepA K mg M ρ H v a → renA f a = some a' → RepA K mg M ρ' H v a'
  | .d x, a', h, e => by
    cases e
    exact h
  | .c n, a', h, e => by
    obtain ⟨m, e1, e2⟩ := Option.map_eq_some_iff.mp (show (f n).map A.c = some a' from e)
    subst e2
    obtain ⟨b, h1, h2⟩ := h
    exact ⟨b, hf n m b e1 h1, h2⟩
theorem RepAs.ren (hf : ∀ (n m : Nat) (b : Addr), f n = some m → ρ[n]? = some b → ρ'[m]? = some b) : ∀ {v : List V} {a a' : List A}, RepAs K mg M ρ H v a → renAs f a = some a' → RepAs K mg M ρ' H v a'
  | _, [], a', .nil, e => by
    cases e
    exact .nil
  | _, x :: r, a', .cons h t, e => by
    unfold renAs at e
    split at e
    · rename_i b s e1 e2
      cases e
      exact .cons (h.ren hf e1) (RepAs.ren hf t e2)
    · cases e
theorem RepF.ren (hf : ∀ (n m : Nat) (b : Addr), f n = some m → ρ[n]? = some b → ρ'[m]? = some b) : ∀ {v : List (Str × V)} {a a' : List (Str × A)}, RepF K mg M ρ H v a → renF f a = some a' → RepF K mg M ρ' H v a'
  | _, [], a', .nil, e => by
    cases e
    exact .nil
  | _, (x, y) :: r, a', .cons h t, e => by
    unfold renF at e
    split at e
    · rename_i b s e1 e2
      cases e
      exact .cons ⟨h.1, h.2.ren hf e1⟩ (RepF.ren hf t e2)
    · cases e
theorem RepC.ren (hf : ∀ (n m : Nat) (b : Addr), f n = some m → ρ[n]? = some b → ρ'[m]? = some b) {a : Addr} : ∀ {c c' : Cell}, RepC K mg M ρ H a c → renC f c = some c' → RepC K mg M ρ' H a c'
  | .lst l, c', h, e => by
    obtain ⟨m, e1, e2⟩ := Option.map_eq_some_iff.mp (show (renAs f l).map Cell.lst = some c' from e)
    subst e2
    obtain ⟨vs, h1, h2⟩ := h
    exact ⟨vs, h1, h2.ren hf e1⟩
  | .ins c l, c', h, e => by
    obtain ⟨m, e1, e2⟩ := Option.map_eq_some_iff.mp (show (renF f l).map (Cell.ins c) = some c' from e)
    subst e2
    obtain ⟨C, dx, fs, h1, h2, h3⟩ := h
    exact ⟨C, dx, fs, h1, h2, RepF.ren hf h3 e1⟩
  | .dead, c', h, e => by
    cases e
    trivial
/-- with less that may change -/
theorem Keep.same {M M' : Addr → Prop} (h : ∀ b, M' b → M b) : Keep M H M' H := ⟨fun b o e n => ⟨e, fun m => n (h b m)⟩⟩
end

section
variable {K : PySem.W.Frag} {mg : Str → Option Value} {Z : Addr → Prop} {ρ : List Addr} {S : List Cell} {H : Hp}
/-- the callee's addresses -/
def locA (ρ : List Addr) (locs : List Nat) : List Addr := locs.map fun n => ρ.getD n 0
theorem locA_get {locs : List Nat} {i : Nat} {b : Addr} (h : (locA ρ locs)[i]? = some b) (hl : ∀ n ∈ locs, n < ρ.length) : ∃ n, locs[i]? = some n ∧ ρ[n]? = some b := by
  unfold locA at h
  rw [List.getElem?_map] at h
  obtain ⟨n, e1, e2⟩ := Option.map_eq_some_iff.mp h
  refine ⟨n, e1, ?_⟩
  have hn := hl n (List.mem_of_getElem? e1)
  rw [List.getD_eq_getElem?_getD, List.getElem?_eq_getElem hn] at e2
  rw [List.getElem?_eq_getElem hn]
  exact congrArg some e2
theorem locA_of {locs : List Nat} {i n : Nat} {b : Addr} (h : locs[i]? = some n) (hb : ρ[n]? = some b) : (locA ρ locs)[i]? = some b := by
  unfold locA
  rw [List.getElem?_map, h]
  simp [hb]
/-- what the callee may not touch -/
def locZ (Z : Addr → Prop) (ρ : List Addr) (S : List Cell) (locs : List Nat) (b : Addr) : Prop := Mu Z ρ S b ∧ b ∉ locA ρ locs

structure LocS (ρ : List Addr) (S : List Cell) (locs : List Nat) (S0 : List Cell) : Prop where
  lt : ∀ n ∈ locs, n < ρ.length
  nd : locs.Nodup
  len : S0.length = locs.length
  cell : ∀ (i : Nat) (c : Cell), S0[i]? = some c → ∃ n c0, locs[i]? = some n ∧ S[n]? = some c0 ∧ renC (fun n => ixOf n locs) c0 = some c
theorem LocS.mk' {locs : List Nat} {S0 : List Cell} (ok : OkS K mg Z ρ S H) (nd : locs.Nodup) (h : (pickS S locs).bind (renS fun n => ixOf n locs) = some S0) : LocS ρ S locs S0 := by
  obtain ⟨T, e1, e2⟩ := Option.bind_eq_some_iff.mp h
  obtain ⟨h1, h2⟩ := pickS_get e1
  obtain ⟨h3, h4⟩ := renS_get e2
  refine ⟨fun n hn => ?_, nd, by rw [h3, h1], fun i c e => ?_⟩
  · obtain ⟨i, hi⟩ := List.mem_iff_getElem?.mp hn
    rw [ok.len]
    exact (h2 i n hi).2
  · obtain ⟨c0, e3, e4⟩ := h4 i c e
    have hi : i < locs.length := by
      rw [← h1]
      exact (List.getElem?_eq_some_iff.mp e3).1
    exact ⟨locs[i], c0, List.getElem?_eq_getElem hi, (h2 i _ (List.getElem?_eq_getElem hi)).1.trans e3, e4⟩
theorem LocS.live {locs : List Nat} {S0 : List Cell} (L : LocS ρ S locs S0) {b : Addr} (h : live (locA ρ locs) S0 b) : live ρ S b := by
  obtain ⟨k, c, h1, h2, h3⟩ := h
  obtain ⟨n, c0, e1, e2, e3⟩ := L.cell k c h1
  obtain ⟨m, e4, e5⟩ := locA_get h3 L.lt
  rw [e1] at e4
  cases e4
  exact ⟨n, c0, e2, fun z => h2 ((renC_dead e3).mp z), e5⟩
theorem LocS.sub {locs : List Nat} {S0 : List Cell} (L : LocS ρ S locs S0) {b : Addr} (h : Mu (locZ Z ρ S locs) (locA ρ locs) S0 b) : Mu Z ρ S b := by
  rcases h with h | h
  · exact h.1
  · exact .inr (L.live h)
theorem locA_sub {locs : List Nat} (hl : ∀ n ∈ locs, n < ρ.length) {b : Addr} (h : b ∈ locA ρ locs) : b ∈ ρ := by
  obtain ⟨i, hi⟩ := List.mem_iff_getElem?.mp h
  obtain ⟨n, _, e⟩ := locA_get hi hl
  exact List.mem_of_getElem? e
theorem nd_inj {ρ : List Addr} (h : ρ.Nodup) {i j : Nat} {b : Addr} (h1 : ρ[i]? = some b) (h2 : ρ[j]? = some b) : i = j := by
  obtain ⟨a1, e1⟩ := List.getElem?_eq_some_iff.mp h1
  obtain ⟨a2, e2⟩ := List.getElem?_eq_some_iff.mp h2
  exact (List.getElem_inj h).mp (e1.trans e2.symm)
theorem LocS.ok {locs : List Nat} {S0 : List Cell} (L : LocS ρ S locs S0) (ok : OkS K mg Z ρ S H) : OkS K mg (locZ Z ρ S locs) (locA ρ locs) S0 H where
  len := by
    unfold locA
    rw [List.length_map, L.len]
  nd := by
    unfold locA
    refine List.Pairwise.map _ (fun a b hab => hab) (List.pairwise_iff_getElem.mpr fun i j hi hj hij z => ?_)
    have h1 := L.lt _ (List.getElem_mem hi)
    have h2 := L.lt _ (List.getElem_mem hj)
    simp only [List.getD_eq_getElem?_getD, List.getElem?_eq_getElem h1, List.getElem?_eq_getElem h2, Option.getD_some] at z
    have z2 := (List.getElem_inj ok.nd).mp z
    have z3 := (List.getElem_inj L.nd).mp z2
    omega
  cells := fun k c a e1 e2 => by
    obtain ⟨n, c0, h1, h2, h3⟩ := L.cell k c e1
    obtain ⟨m, h4, h5⟩ := locA_get e2 L.lt
    rw [h1] at h4
    cases h4
    have q := (ok.cells n c0 a h2 h5).keep (K := K) (mg := mg) (ρ1 := ρ) (Keep.same (H := H) (M' := Mu (locZ Z ρ S locs) (locA ρ locs) S0) fun b hb => L.sub hb) ⟨[], by simp⟩ rfl
    exact q.ren (fun n m b hf hb => locA_of (ixOf_get hf) hb) h3
  trk := fun b h => by
    rcases h with h | h
    · rcases h.1 with m | ⟨_, _, _, _, e⟩
      · exact ok.trk b (.inl m)
      · exact ok.trk b (.inr (List.mem_of_getElem? e))
    · exact ok.trk b (.inr (locA_sub L.lt h))
  dis := fun b hb z => z.2 hb

/-- what came back, put into the caller's cells -/
structure Back (H : Hp) (ρ : List Addr) (S : List Cell) (locs : List Nat) (ρl : List Addr) (T : List Cell) (ρ' : List Addr) (S' : List Cell) : Prop where
  len : ρ'.length = S'.length
  pre : ∃ more, ρ' = ρ ++ more ∧ ∀ b ∈ more, H b = none
  addr : ∀ b ∈ ρ', b ∈ ρ ∨ (b ∈ ρl ∧ b ∉ locA ρ locs)
  nd : ρ'.Nodup
  /-- a cell of the caller's is an old one that was not given, or one that the callee had -/
  cell : ∀ (k : Nat) (c : Cell), S'[k]? = some c → (k ∉ locs ∧ S[k]? = some c) ∨ ∃ (i : Nat) (c0 : Cell) (f : Nat → Option Nat), T[i]? = some c0 ∧ renC f c0 = some c ∧ (∀ b, ρ'[k]? = some b → ρl[i]? = some b) ∧ ∀ (n m : Nat) (b : Addr), f n = some m → ρl[n]? = some b → ρ'[m]? = some b
theorem Back.live {locs : List Nat} {S0 : List Cell} {ρl : List Addr} {T : List Cell} {ρ' : List Addr} {S' : List Cell} {H' : Hp} (B : Back H ρ S locs ρl T ρ' S') {b : Addr} (hp : ∃ more, ρ' = ρ ++ more) (ok : OkS K mg Z ρ S H) (h : live ρ' S' b) : (live ρ S b ∧ b ∉ locA ρ locs ∨ (∀ n ∈ locs, n < ρ.length) → live ρ S b ∧ b ∉ locA ρ locs ∨ live ρl T b) := by
  intro hq
  obtain ⟨k, c, h1, h2, h3⟩ := h
  rcases B.cell k c h1 with ⟨n1, e⟩ | ⟨i, c0, f, e1, e2, e3, _⟩
  · obtain ⟨more, hm⟩ := hp
    have hk : k < ρ.length := by
      rw [ok.len]
      exact (List.getElem?_eq_some_iff.mp e).1
    rw [hm, List.getElem?_append_left hk] at h3
    rcases hq with q | q
    · exact .inl q
    · refine .inl ⟨⟨k, c, e, h2, h3⟩, fun z => ?_⟩
      obtain ⟨i, hi⟩ := List.mem_iff_getElem?.mp z
      obtain ⟨n, e1, e2⟩ := locA_get hi q
      have := nd_inj ok.nd h3 e2
      subst this
      exact n1 (List.mem_of_getElem? e1)
  · exact .inr ⟨i, c0, e1, fun z => h2 ((renC_dead e2).mp z), e3 b h3⟩
theorem Back.all {locs : List Nat} {S0 : List Cell} {ρl : List Addr} {T : List Cell} {ρ' : List Addr} {S' : List Cell} {H' : Hp} (L : LocS ρ S locs S0) (ok : OkS K mg Z ρ S H) (B : Back H ρ S locs ρl T ρ' S')
    (e : Ext (locZ Z ρ S locs) (locA ρ locs) S0 H ρl T H') (ok' : OkS K mg (locZ Z ρ S locs) ρl T H') :
    Ext Z ρ S H ρ' S' H' ∧ OkS K mg Z ρ' S' H' ∧ Keep (Mu (locZ Z ρ S locs) ρl T) H' (Mu Z ρ' S') H' := by
  have lv : ∀ b, Bn.live ρ' S' b → Bn.live ρ S b ∧ b ∉ locA ρ locs ∨ Bn.live ρl T b := fun b h => B.live (S0 := S0) (H' := H') (let ⟨m, q, _⟩ := B.pre; ⟨m, q⟩) ok h (.inr L.lt)
  have hz : ∀ b, Z b → b ∉ locA ρ locs := fun b z m => ok.dis b (locA_sub L.lt m) z
  have sub : ∀ b, Mu Z ρ' S' b → Mu (locZ Z ρ S locs) ρl T b := fun b h => by
    rcases h with h | h
    · exact .inl ⟨.inl h, hz b h⟩
    · rcases lv b h with ⟨h1, h2⟩ | h
      · exact .inl ⟨.inr h1, h2⟩
      · exact .inr h
  have ex : Ext Z ρ S H ρ' S' H' := by
    refine ⟨fun b o hb hn => e.keep b o hb fun l => hn (L.live l), B.pre, fun b h => ?_, e.trk⟩
    rcases lv b h with ⟨h1, _⟩ | h
    · exact .inl h1
    · rcases e.new b h with h | h
      · exact .inl (L.live h)
      · exact .inr h
  refine ⟨ex, ⟨B.len, B.nd, fun k c a e1 e2 => ?_, fun b h z => ?_, fun b h z => ?_⟩, Keep.same sub⟩
  · rcases B.cell k c e1 with ⟨n1, q⟩ | ⟨i, c0, f, q1, q2, q3, q4⟩
    · have hk : k < ρ.length := by
        rw [ok.len]
        exact (List.getElem?_eq_some_iff.mp q).1
      have e2' := e2
      obtain ⟨more, hm, _⟩ := B.pre
      rw [hm, List.getElem?_append_left hk] at e2
      by_cases hd : c = .dead
      · subst hd
        trivial
      have nl : ¬ Bn.live (locA ρ locs) S0 a := fun ⟨j, cj, _, _, hj⟩ => by
        obtain ⟨n, z1, z2⟩ := locA_get hj L.lt
        have := nd_inj ok.nd e2 z2
        subst this
        exact n1 (List.mem_of_getElem? z1)
      have hne : H a ≠ none := ok.trk a (.inr (List.mem_of_getElem? e2))
      have ha : H' a = H a := by
        cases ho : H a with
        | none => exact absurd ho hne
        | some o => exact e.keep a o ho nl
      exact (ok.cells k c a q e2).keep ex.toKeep ex.pre ha
    · have q := (ok'.cells i c0 a q1 (q3 a e2)).keep (ρ1 := ρl) (Keep.same (H := H') sub) ⟨[], by simp⟩ rfl
      exact q.ren q4 q2
  · rcases h with h | h
    · exact ok.trk b (.inl h) (e.trk b z)
    · rcases B.addr b h with h | ⟨h, _⟩
      · exact ok.trk b (.inr h) (e.trk b z)
      · exact ok'.trk b (.inr h) z
  · rcases B.addr b h with h | ⟨h, _⟩
    · exact ok.dis b h z
    · exact ok'.dis b h ⟨.inl z, hz b z⟩

/-- what comes back: m new cells kept -/
theorem Back.mk' {locs : List Nat} {S0 : List Cell} {ρl : List Addr} {T T' : List Cell} {f : Nat → Option Nat} {m : Nat} {H' : Hp} (L : LocS ρ S locs S0) (ok : OkS K mg Z ρ S H)
    (e : Ext (locZ Z ρ S locs) (locA ρ locs) S0 H ρl T H') (ok' : OkS K mg (locZ Z ρ S locs) ρl T H') (h : renS f (T.take (locs.length + m)) = some T') (hl : locs.length ≤ T'.length)
    (hf : ∀ i k, f i = some k → (i < locs.length ∧ locs[i]? = some k) ∨ (locs.length ≤ i ∧ (i < T.length → i < locs.length + m) ∧ k = S.length + (i - locs.length))) :
    Back H ρ S locs ρl T (ρ ++ (ρl.drop locs.length).take m) (putS S locs (T'.take locs.length) ++ T'.drop locs.length) ∧
      ∀ (n k : Nat) (b : Addr), f n = some k → ρl[n]? = some b → (ρ ++ (ρl.drop locs.length).take m)[k]? = some b := by
  obtain ⟨h1, h2⟩ := renS_get h
  have hT : ρl.length = T.length := ok'.len
  obtain ⟨more, hm, hnew⟩ := e.pre2
  have hA : (locA ρ locs).length = locs.length := by
    unfold locA
    rw [List.length_map]
  have hd : ρl.drop locs.length = more := by
    rw [hm, ← hA]
    exact List.drop_left
  rw [hd]
  have hml : more.length = T.length - locs.length := by
    have : ρl.length = locs.length + more.length := by rw [hm, List.length_append, hA]
    omega
  have hTl : T'.length = min (locs.length + m) T.length := by rw [h1, List.length_take]
  have hk : (T'.take locs.length).length = locs.length := by
    rw [List.length_take]
    omega
  have more_at : ∀ (j : Nat) (b : Addr), (more.take m)[j]? = some b → ρl[locs.length + j]? = some b := fun j b hj => by
    have hj2 : j < m := by
      have := (List.getElem?_eq_some_iff.mp hj).1
      rw [List.length_take] at this
      omega
    rw [List.getElem?_take_of_lt hj2] at hj
    rw [hm, List.getElem?_append_right (by omega), hA]
    simpa using hj
  have inn : ∀ b, b ∈ more → b ∉ locA ρ locs := fun b hb z => by
    have nd := ok'.nd
    rw [hm] at nd
    exact (List.nodup_append.mp nd).2.2 _ z _ hb rfl
  have hfr : ∀ (n k : Nat) (b : Addr), f n = some k → ρl[n]? = some b → (ρ ++ more.take m)[k]? = some b := fun n k b hn hb => by
    rcases hf n k hn with ⟨q1, q2⟩ | ⟨q1, q2, q3⟩
    · rw [hm, List.getElem?_append_left (by omega)] at hb
      obtain ⟨n', e1, e2⟩ := locA_get hb L.lt
      rw [q2] at e1
      cases e1
      rw [List.getElem?_append_left (L.lt _ (List.mem_of_getElem? q2))]
      exact e2
    · have hnT : n < T.length := by
        rw [← hT]
        exact (List.getElem?_eq_some_iff.mp hb).1
      have q2 := q2 hnT
      rw [hm, List.getElem?_append_right (by omega), hA] at hb
      rw [q3, ← ok.len, List.getElem?_append_right (by omega)]
      rw [show ρ.length + (n - locs.length) - ρ.length = n - locs.length by omega, List.getElem?_take_of_lt (by omega)]
      exact hb
  refine ⟨⟨?_, ⟨_, rfl, fun b hb => hnew b (List.mem_of_mem_take hb)⟩, fun b hb => ?_, ?_, fun k c hc => ?_⟩, hfr⟩
  · rw [List.length_append, List.length_append, putS_length, ok.len, List.length_take, List.length_drop, hTl, hml]
    omega
  · rcases List.mem_append.mp hb with hb | hb
    · exact .inl hb
    · have hb2 := List.mem_of_mem_take hb
      exact .inr ⟨by rw [hm]; exact List.mem_append_right _ hb2, inn b hb2⟩
  · refine List.nodup_append.mpr ⟨ok.nd, ?_, fun a ha b hb z => ?_⟩
    · have nd := ok'.nd
      rw [hm] at nd
      exact (List.take_sublist _ _).nodup (List.nodup_append.mp nd).2.1
    · subst z
      exact ok.trk a (.inr ha) (hnew a (List.mem_of_mem_take hb))
  · by_cases hks : k < S.length
    · rw [List.getElem?_append_left (by rw [putS_length]; exact hks)] at hc
      rcases putS_get hk hc with q | ⟨i, q1, q2⟩
      · exact .inl q
      · have hi : i < locs.length := (List.getElem?_eq_some_iff.mp q1).1
        rw [List.getElem?_take_of_lt hi] at q2
        obtain ⟨c0, z1, z2⟩ := h2 i c q2
        rw [List.getElem?_take_of_lt (by omega)] at z1
        refine .inr ⟨i, c0, f, z1, z2, fun b hb => ?_, hfr⟩
        rw [List.getElem?_append_left (by rw [ok.len]; exact hks)] at hb
        rw [hm, List.getElem?_append_left (by omega)]
        exact locA_of q1 hb
    · rw [List.getElem?_append_right (by rw [putS_length]; omega), putS_length, List.getElem?_drop] at hc
      obtain ⟨c0, z1, z2⟩ := h2 _ c hc
      have hlt : locs.length + (k - S.length) < locs.length + m := by
        have := (List.getElem?_eq_some_iff.mp hc).1
        omega
      rw [List.getElem?_take_of_lt hlt] at z1
      refine .inr ⟨_, c0, f, z1, z2, fun b hb => ?_, hfr⟩
      rw [List.getElem?_append_right (by rw [ok.len]; omega), ok.len] at hb
      exact more_at _ b hb

/-! ### a def's promise -/
/-- called with such values, it ends as mir says -/
def spM (K : PySem.W.Frag) (mg : Str → Option Value) (np : Nat) (mir : List A → List Cell → R A) : Sp := fun vs H Q E => vs.length = np ∧
  ∃ (Z : Addr → Prop) (ρ : List Addr) (S : List Cell) (as : List A), OkS K mg Z ρ S H ∧ RepAs K mg (Mu Z ρ S) ρ H vs as ∧ RPost K mg Z E (relA K mg) ρ S H (mir as S) Q
theorem LocS.none {S0 : List Cell} (h : (pickS S []).bind (renS fun n => ixOf n []) = some S0) : S0 = [] := by
  cases h
  rfl
theorem ExcOf.keep {M M' : Addr → Prop} {c : Str} {x : Option (Str × D)} {cls : Value} {dx : Option Addr} (k : Keep M H M' H) (h : ExcOf K mg M H c x cls dx) : ExcOf K mg M' H c x cls dx := by
  obtain ⟨C, e1, e2, h⟩ := h
  refine ⟨C, e1, e2, ?_⟩
  cases x with
  | none => exact h
  | some p =>
    obtain ⟨a, v, q1, q2, q3, q4⟩ := h
    exact ⟨a, v, q1, q2, (k.at_ a _ q2 q3).2, q4.keep k⟩
theorem spM_of {E0 : XK} {np : Nat} {mir : List A → List Cell → R A} {vs : List V} {as : List A} {Q : VK} (ok : OkS K mg Z ρ S H) (ra : RepAs K mg (Mu Z ρ S) ρ H vs as) (hn : as.length = np)
    (h : RPost K mg Z E0 (relA K mg) ρ S H (callD mir as S) Q) : spM K mg np mir vs H Q E0 := by
  unfold callD at h
  simp only at h
  generalize hlocs : reach S 4 (dedup (cellsA as)) = locs at h
  have nd : locs.Nodup := by
    rw [← hlocs]
    exact nodup_reach _ _ _ (nodup_dedup _)
  split at h
  · rename_i as' S0 e1 e2
    have L : LocS ρ S locs S0 := LocS.mk' ok nd e2
    have okl := L.ok ok
    have hsub : ∀ b, Mu (locZ Z ρ S locs) (locA ρ locs) S0 b → Mu Z ρ S b := fun b hb => L.sub hb
    have ral : RepAs K mg (Mu (locZ Z ρ S locs) (locA ρ locs) S0) (locA ρ locs) H vs as' :=
      RepAs.ren (fun n m b hf hb => locA_of (ixOf_get hf) hb) (RepAs.keep (ρ1 := ρ) (Keep.same (H := H) hsub) ⟨[], by simp⟩ ra) e1
    refine ⟨by rw [← hn]; exact ra.length, locZ Z ρ S locs, locA ρ locs, S0, as', okl, ral, ?_⟩
    -- only the given cells come back
    have back0 : ∀ {ρl T T' H'}, Ext (locZ Z ρ S locs) (locA ρ locs) S0 H ρl T H' → OkS K mg (locZ Z ρ S locs) ρl T H' → renS (fun i => locs[i]?) (T.take locs.length) = some T' → T'.length = locs.length →
        Ext Z ρ S H ρ (putS S locs T') H' ∧ OkS K mg Z ρ (putS S locs T') H' ∧ Keep (Mu (locZ Z ρ S locs) ρl T) H' (Mu Z ρ (putS S locs T')) H' := fun {ρl T T' H'} e o hr hl => by
      have B := (Back.mk' (m := 0) L ok e o (by simpa using hr) (by omega) (fun i k hi => .inl ⟨(List.getElem?_eq_some_iff.mp hi).1, hi⟩)).1
      simp only [List.take_zero, List.append_nil] at B
      rw [List.take_of_length_le (by omega), List.drop_of_length_le (by omega), List.append_nil] at B
      exact Back.all L ok B e o
    cases hmir : mir as' S0 with
    | no =>
      rw [hmir] at h
      exact h
    | ex c x T =>
      rw [hmir] at h
      simp only at h
      split at h
      · rename_i T' e3
        split at h
        · rename_i e4
          intro cls dx ρl H' e o r
          obtain ⟨b1, b2, b3⟩ := back0 e o e3 e4
          exact h cls dx ρ H' b1 b2 (r.keep b3)
        · exact h.elim
      · exact h.elim
    | ok a T =>
      rw [hmir] at h
      cases a with
      | d x =>
        simp only at h
        split at h
        · rename_i T' e3
          split at h
          · rename_i e4
            intro v ρl H' e o r
            obtain ⟨b1, b2, b3⟩ := back0 e o e3 e4
            exact h v ρ H' b1 b2 (Rep.keep b3 r)
          · exact h.elim
        · exact h.elim
      | c k =>
        simp only at h
        split at h
        · rename_i a T' e3 e4
          split at h
          · rename_i e5
            intro v ρl H' e o r
            have hbk : ∀ i k, backN locs S.length i = some k → (i < locs.length ∧ locs[i]? = some k) ∨ (locs.length ≤ i ∧ k = S.length + (i - locs.length)) := fun i k hi => by
              unfold backN at hi
              split at hi
              · rename_i k' hk'
                cases hi
                exact .inl ⟨(List.getElem?_eq_some_iff.mp hk').1, hk'⟩
              · rename_i hk'
                cases hi
                exact .inr ⟨List.getElem?_eq_none_iff.mp hk', rfl⟩
            have hTl : ρl.length = T.length := o.len
            have hTT : T'.length = T.length := (renS_get e4).1
            obtain ⟨B, hfr⟩ := Back.mk' (m := T.length - locs.length) (f := backN locs S.length) (T' := T') L ok e o (by rw [List.take_of_length_le (by omega)]; exact e4) e5 fun i k hi => by
              unfold backN at hi
              split at hi
              · rename_i k' hk'
                cases hi
                exact .inl ⟨(List.getElem?_eq_some_iff.mp hk').1, hk'⟩
              · rename_i hk'
                cases hi
                exact .inr ⟨List.getElem?_eq_none_iff.mp hk', fun _ => by omega, rfl⟩
            obtain ⟨b1, b2, b3⟩ := Back.all L ok B e o
            have r2 : RepA K mg _ ρl H' v (.c k) := r
            exact h v _ H' b1 b2 ((RepA.keep (ρ1 := ρl) b3 ⟨[], by simp⟩ r2).ren hfr e3)
          · exact h.elim
        · exact h.elim
  · exact h.elim
end
end Bn
/-! Bn, part 6: which syntax a term stands for. -/
namespace Bn
open PySem PySem.Spec PyProof.Rows L2

/-! ### defs as they stand behind the top -/
/-- a def keeps its promise wherever no repr is being made -/
structure FnG (P : Program) (w : World) (K : PySem.W.Frag) (mg : Str → Option Value) (base : Heap) (j : Nat) (f : Addr) (fd : FuncData) (ps : List Str) (sp : Sp) : Prop where
  run : ∀ (A : Around) (outer : List PySem.Env) (s : Shared) (H : Hp) (args : Args) (us : List Value) (vs : List V) (Q : VK) (E : XK), A.guards = some [] → Room j A → Env0 P w K mg base A outer s H →
    BindsTo s fd args (ps.zip us) → Vals vs us → sp vs H Q E → codeAny (model P w) A (.call (.ref f) args) (CR (L2.CX P w) outer P w H s Q E) s
/-- a function of the table as it stands; ks: the calls by keywords that are let -/
structure FnIn (P : Program) (w : World) (K : PySem.W.Frag) (mg : Str → Option Value) (base : Heap) (j : Nat) (fn : Fn) (ks : List (Nat × List Str)) : Prop where
  ex : ∃ (fa : Addr) (fd : FuncData), mg fn.nm = some (.ref fa) ∧ PySem.W.keepIn K (.ref fa) = true ∧ FnG P w K mg base j fa fd fn.ps (spM K mg fn.ps.length fn.mir) ∧
    ∀ p ∈ ((fn.ps.length, []) :: ks : List (Nat × List Str)), ∀ (s : Shared) (us ws : List Value), us.length = p.1 → ws.length = p.2.length → K.In s.heap → BindsTo s fd ⟨us, p.2.zip ws⟩ (fn.ps.zip (argsK fn.ps p.2 us ws))
/-- what a def's body may lean on -/
structure Good (T : Tab) (kw : List (List (Nat × List Str))) (j : Nat) (E0 : XK) (X : Cx) : Prop where
  calm : X.calm = true
  nd : X.N.Nodup
  room : Room j X.A
  gd : X.A.guards = some []
  pass : Passes (L2.CX X.prog X.w) X E0
  bs : ∀ x ∈ T.bs, X.mg x = none
  ms : ∀ p ∈ T.ms, X.mg p.1 = some (.builtin p.2)
  cs : ∀ p ∈ T.cs, ∃ u v, X.mg p.1 = some u ∧ RelV v u ∧ ∀ M H, Rep X.K X.mg M H v p.2
  fs : ∀ (i : Nat) (fn : Fn), T.fs[i]? = some fn → FnIn X.prog X.w X.K X.mg X.base j fn (kw.getD i [])

section
variable {X : Cx} {T : Tab} {kw : List (List (Nat × List Str))} {j : Nat} {E0 : XK}
theorem Good.units (g : Good T kw j E0 X) : X.A.units + 64 < cLine := g.room.units
theorem Good.units2 (g : Good T kw j E0 X) : X.A.units + 128 < cLine := by have := g.room.un; omega
theorem passF {X : Cx} : Passes (L2.CX X.prog X.w) X (fun _ _ _ => False) := fun _ _ _ _ _ _ _ h => by
  obtain ⟨_, _, _, _, _, _, _, _, _, _, _, _, z⟩ := h
  exact z.elim
theorem Good.blk (g : Good T kw j E0 X) (s : Shared) (H : Hp) (scope : Scope) (cenv : PySem.Env) (fp : List Addr) : Good T kw j (fun _ _ _ => False) (X.blk s H scope cenv fp) where
  calm := g.calm
  nd := g.nd
  room := g.room
  gd := g.gd
  pass := passF
  bs := g.bs
  ms := g.ms
  cs := g.cs
  fs := g.fs
/-- a call of a function of the table -/
theorem run_in {fn : Fn} {p : Nat × List Str} {fa : Addr} {fd : FuncData} {pins : List (Addr × Obj)} {σ : L2.St} {H : Hp} {s : Shared} {Q : VK} {us ws : List Value} {vs zs : List V} (g : Good T kw j E0 X)
    (F : FnG X.prog X.w X.K X.mg X.base j fa fd fn.ps (spM X.K X.mg fn.ps.length fn.mir)) (hb : BindsTo s fd ⟨us, p.2.zip ws⟩ (fn.ps.zip (argsK fn.ps p.2 us ws))) (I : Inv X pins σ H s) (r : Vals (argsK fn.ps p.2 vs zs) (argsK fn.ps p.2 us ws))
    (h : spM X.K X.mg fn.ps.length fn.mir (argsK fn.ps p.2 vs zs) H Q E0) : wpAny (model X.prog X.w) X.A (call (.ref fa) us (p.2.zip ws)) (EP X pins σ Q) X.xe s := by
  refine wpAny_call (codeAny_mono (F.run X.A X.stack s H ⟨us, p.2.zip ws⟩ (argsK fn.ps p.2 us ws) (argsK fn.ps p.2 vs zs) Q E0 g.gd g.room I.env0 hb r h) fun res s' hq => ?_)
  cases res with
  | error e => exact g.pass pins σ H s e s' I hq
  | ok fl =>
    cases fl with
    | ret u => exact I.after hq
    | next => exact False.elim hq
    | brk => exact False.elim hq
    | cont => exact False.elim hq
theorem Vals.lookup {x : Str} : ∀ {ks : List Str} {vs : List V} {us : List Value}, Vals vs us → (∀ v, (ks.zip vs).lookup x = some v → ∃ u, (ks.zip us).lookup x = some u ∧ RelV v u) ∧ ((ks.zip vs).lookup x = none → (ks.zip us).lookup x = none)
  | [], _, _, _ => ⟨fun v h => by simp at h, fun _ => by simp⟩
  | k :: ks, _, _, .nil => ⟨fun v h => by simp at h, fun _ => by simp⟩
  | k :: ks, _, _, .cons (b := u) r t => by
    have ih := Vals.lookup (x := x) (ks := ks) t
    by_cases e : x == k
    · refine ⟨fun v h => ?_, fun h => ?_⟩
      · rw [List.zip_cons_cons, List.lookup_cons, e] at h
        rw [List.zip_cons_cons, List.lookup_cons, e]
        cases h
        exact ⟨u, rfl, r⟩
      · rw [List.zip_cons_cons, List.lookup_cons, e] at h
        cases h
    · have e' : (x == k) = false := by simpa using e
      refine ⟨fun v h => ?_, fun h => ?_⟩
      · rw [List.zip_cons_cons, List.lookup_cons, e'] at h
        rw [List.zip_cons_cons, List.lookup_cons, e']
        exact ih.1 v h
      · rw [List.zip_cons_cons, List.lookup_cons, e'] at h
        rw [List.zip_cons_cons, List.lookup_cons, e']
        exact ih.2 h
theorem Vals.argsK (ps ks : List Str) {vs zs : List V} {us ws : List Value} (r : Vals vs us) (r2 : Vals zs ws) : Vals (Bn.argsK ps ks vs zs) (Bn.argsK ps ks us ws) := by
  unfold Bn.argsK
  refine r.append ?_
  rw [r.length]
  generalize ps.drop us.length = l
  induction l with
  | nil => exact .nil
  | cons p l ih =>
    have q := Vals.lookup (x := p) (ks := ks) r2
    rw [List.filterMap_cons, List.filterMap_cons]
    cases e : (ks.zip zs).lookup p with
    | none =>
      rw [q.2 e]
      exact ih
    | some v =>
      obtain ⟨u, e1, r3⟩ := q.1 v e
      rw [e1]
      exact .cons r3 ih
end

/-! ### which syntax -/
def visB (sc : Scope) (x : Str) : Bool := match sc.names.lookup x with
  | some .local => true
  | some .cell => true
  | some .free => true
  | _ => false
def locB (sc : Scope) (x : Str) : Bool := match sc.names.lookup x with
  | some .local => true
  | some .cell => true
  | _ => false
def glB (sc : Scope) (x : Str) : Bool := match sc.names.lookup x with
  | some .globalImplicit => true
  | _ => false
def dbgB (x : Str) : Bool := !(x == ("__debug__" : Str)) && !(x == ("__classdict__" : Str))
theorem visB_ok {sc : Scope} {x : Str} (h : visB sc x = true) : Vis sc x := by
  unfold visB at h
  split at h
  · exact .inl (by assumption)
  · exact .inr (.inl (by assumption))
  · exact .inr (.inr (by assumption))
  · cases h
theorem locB_ok {sc : Scope} {x : Str} (h : locB sc x = true) : Loc sc x := by
  unfold locB at h
  split at h
  · exact .inl (by assumption)
  · exact .inr (by assumption)
  · cases h
theorem glB_ok {X : Cx} {x : Str} (h : glB X.env.scope x = true) : Gl X x := by
  unfold glB at h
  split at h
  · assumption
  · cases h
theorem dbgB_ok {x : Str} (h : dbgB x = true) : (x == ("__debug__" : Str)) = false ∧ (x == ("__classdict__" : Str)) = false := by
  unfold dbgB at h
  simp only [Bool.and_eq_true, Bool.not_eq_true'] at h
  exact h
/-- the surroundings of a piece of syntax -/
structure Ctx where
  N : List Str
  sc : Scope
  fn : Str → Bool
def Ctx.blk (c : Ctx) (scope : Scope) : Ctx := ⟨c.N, relS scope c.sc, fun x => scope.names.lookup x == some .cell⟩
structure Fits (c : Ctx) (X : Cx) : Prop where
  N : X.N = c.N
  sc : X.env.scope = c.sc
  fn : X.fn = c.fn
theorem Fits.blk {c : Ctx} {X : Cx} (f : Fits c X) (s : Shared) (H : Hp) (scope : Scope) (C : Addr) (cl : List (Str × Addr)) (fp : List Addr) : Fits (c.blk scope) (X.blk s H scope (compEnvC scope cl C X.env) fp) := by
  refine ⟨f.N, ?_, rfl⟩
  show relabel scope X.env = relS scope c.sc
  rw [← f.sc]
  rfl
def constB : D → Const → Bool
  | .non, .none => true
  | .bl a, .bool b => a == b
  | .int a, .int b => a == b
  | .str a, .str b => a == b
  | _, _ => false
/-- no star, no slice, no set, no call of super -/
def plainX : Expr → Bool
  | .Starred .. => false
  | .Slice .. => false
  | .Set .. => false
  | _ => true
def noComp : Expr → Bool
  | .ListComp .. => false
  | .SetComp .. => false
  | .DictComp .. => false
  | _ => true
def nameIs (x : Str) : Expr → Bool
  | .Name y _ => x == y
  | _ => false
def chkTn (c : Ctx) : Tn → Expr → Bool
  | .nm i, .Name x _ => c.N[i]? == some x && locB c.sc x && (c.fn x || (match c.sc.names.lookup x with | some .local => true | _ => false))
  | .tp l, .Tuple xs _ _ => chkTns c l xs
  | _, _ => false
where chkTns (c : Ctx) : List Tn → List Expr → Bool
  | [], [] => true
  | t :: r, x :: s => plainX x && chkTn c t x && chkTns c r s
  | _, _ => false

/-- the built-ins by their names -/
def biB (T : Tab) (c : Ctx) (b : Bi) (x : Str) : Bool := match b with
  | .gcd => x == ("gcd" : Str) && T.ms.any (fun p => p.1 == x && p.2 == "math.gcd")
  | .isi _ => false
  | b => x == (Str.ofString b.name) && T.bs.contains x
def kwNames : List Keyword → Option (List Str)
  | [] => some []
  | ⟨some x, _, _⟩ :: r => (kwNames r).map (x :: ·)
  | ⟨none, _, _⟩ :: _ => none
def kwB (ks : List Str) (l : List Keyword) : Bool := match kwNames l with
  | some m => m == ks
  | none => false
mutual
def chkE (T : Tab) (kw : List (List (Nat × List Str))) (c : Ctx) : E → Expr → Bool
  | .var i, .Name x _ => c.N[i]? == some x && visB c.sc x && dbgB x
  | .k d, .Constant k _ _ => constB d k
  | .con j, .Name x _ => (match T.cs[j]? with
    | some p => p.1 == x
    | none => false) && glB c.sc x && dbgB x
  | .bin o a b, .BinOp x o' y _ => decide (o = o') && chkE T kw c a x && chkE T kw c b y
  | .neg a, .UnaryOp .USub x _ => chkE T kw c a x
  | .cmp o a b, .Compare x [o'] [y] _ => decide (o = o') && plainX y && chkE T kw c a x && chkE T kw c b y
  | .chain o p a b d, .Compare x [o', p'] [y, z] _ => decide (o = o') && decide (p = p') && plainX y && plainX z && chkE T kw c a x && chkE T kw c b y && chkE T kw c d z
  | .bop isAnd es, .BoolOp op xs _ => (match op with
    | .And => isAnd
    | .Or => !isAnd) && chkEs T kw c es xs
  | .not_ a, .UnaryOp .Not x _ => chkE T kw c a x
  | .ite d a b, .IfExp d' a' b' _ => chkE T kw c d d' && chkE T kw c a a' && chkE T kw c b b'
  | .tup es, .Tuple xs _ _ => chkEs T kw c es xs
  | .lst es, .List xs _ => chkEs T kw c es xs
  | .lstc es, .List xs _ => chkEs T kw c es xs
  | .dct0, .Dict [] [] _ => true
  | .ix a i, .Subscript x y _ => plainX y && chkE T kw c a x && chkE T kw c i y
  | .sl a lo hi, .Subscript x (.Slice l u none _) _ => chkE T kw c a x && chkO T kw c lo l && chkO T kw c hi u
  | .call f es, .Call (.Name x _) xs [] _ => (match T.fs[f]? with
    | some fn => fn.nm == x
    | none => false) && glB c.sc x && dbgB x && chkEs T kw c es xs
  | .callk f es ks ws, .Call (.Name x _) xs kws _ => (match T.fs[f]? with
    | some fn => fn.nm == x
    | none => false) && glB c.sc x && dbgB x && chkEs T kw c es xs && kwB ks kws && chkEs T kw c ws (kws.map (·.value)) && (kw.getD f []).contains (es.len, ks)
  | .bi (.isi t) (.cons e .nil), .Call (.Name x _) [y, .Name z _] [] _ => x == ("isinstance" : Str) && !(z == ("__name__" : Str)) && (match bootBuiltins z with
    | some (.type t') => t' == t
    | _ => false) && T.bs.contains x && T.bs.contains z && glB c.sc x && glB c.sc z && dbgB x && dbgB z && plainX y && chkE T kw c e y
  | .bi b es, .Call (.Name x _) xs [] _ => biB T c b x && glB c.sc x && dbgB x && chkEs T kw c es xs
  | .comp _ elt t own it cond, .ListComp elt' [⟨tg, iter, ifs, 0⟩] scope _ => blkC c.N c.sc scope own && t.ixs.all (fun i => decide (i ∈ own.map (·.2))) && plainX iter && plainX tg && chkI T kw c it iter && chkTn (c.blk scope) t tg && chkCond T kw (c.blk scope) cond ifs && chkE T kw (c.blk scope) elt elt'
  | _, _ => false
def chkEs (T : Tab) (kw : List (List (Nat × List Str))) (c : Ctx) : Es → List Expr → Bool
  | .nil, [] => true
  | .cons e r, x :: xs => plainX x && chkE T kw c e x && chkEs T kw c r xs
  | _, _ => false
def chkO (T : Tab) (kw : List (List (Nat × List Str))) (c : Ctx) : Oe → Option Expr → Bool
  | .no, none => true
  | .so e, some x => chkE T kw c e x
  | _, _ => false
def chkCond (T : Tab) (kw : List (List (Nat × List Str))) (c : Ctx) : Oe → List Expr → Bool
  | .no, [] => true
  | .so e, [x] => chkE T kw c e x
  | _, _ => false
def chkI (T : Tab) (kw : List (List (Nat × List Str))) (c : Ctx) : It → Expr → Bool
  | .seq _ e, x => chkE T kw c e x
  | .rng a, .Call (.Name x _) [y] [] _ => x == ("range" : Str) && T.bs.contains x && glB c.sc x && plainX y && chkE T kw c a y
  | .rng2 a b, .Call (.Name x _) [y, z] [] _ => x == ("range" : Str) && T.bs.contains x && glB c.sc x && plainX y && plainX z && chkE T kw c a y && chkE T kw c b z
  | _, _ => false
end

/-! ### small facts of syntax -/
theorem star_cons {e : Expr} {es : List Expr} {env : PySem.Env} (h : plainX e = true) : starEach (e :: es) env = (false, eval e env) :: starEach es env := by
  cases e <;> first | rfl | (exact nomatch h)
theorem star_none : ∀ {es : List Expr} {env : PySem.Env} {pos : Pos}, es.all plainX = true → (backTo pos (starEach es env)).any (·.1) = false
  | [], _, _, _ => rfl
  | e :: es, env, pos, h => by
    simp only [List.all_cons, Bool.and_eq_true] at h
    rw [star_cons h.1]
    show (false || (backTo pos (starEach es env)).any (·.1)) = false
    rw [star_none h.2]
    rfl
theorem chkEs_plain {T : Tab} {kw : List (List (Nat × List Str))} {c : Ctx} : ∀ {es : Es} {xs : List Expr}, chkEs T kw c es xs = true → xs.all plainX = true ∧ xs.length = es.len
  | .nil, [], _ => ⟨rfl, rfl⟩
  | .nil, _ :: _, h => by simp [chkEs] at h
  | .cons _ _, [], h => by simp [chkEs] at h
  | .cons e r, x :: xs, h => by
    simp only [chkEs, Bool.and_eq_true] at h
    have ih := chkEs_plain h.2
    refine ⟨?_, ?_⟩
    · rw [List.all_cons, h.1.1, ih.1]
      rfl
    · rw [List.length_cons, ih.2]
      rfl
theorem asg_cons {e : Expr} {es : List Expr} {env : PySem.Env} (h : plainX e = true) : (assignEach (e :: es) env).map (·.2) = assign e env :: (assignEach es env).map (·.2) := by
  cases e <;> first | rfl | (exact nomatch h)
theorem asg_len : ∀ {es : List Expr} {env : PySem.Env}, (assignEach es env).length = es.length
  | [], _ => rfl
  | e :: es, env => by
    have ih := @asg_len es env
    cases e <;> (show (assignEach es env).length + 1 = es.length + 1) <;> rw [ih]
theorem asg_star : ∀ {es : List Expr} {env : PySem.Env}, es.all plainX = true → (assignEach es env).findIdx? (·.1) = none
  | [], _, _ => rfl
  | e :: es, env, h => by
    simp only [List.all_cons, Bool.and_eq_true] at h
    have ih := @asg_star es env h.2
    have e1 : ∃ t, assignEach (e :: es) env = (false, t) :: assignEach es env := by
      cases e <;> first | exact ⟨_, rfl⟩ | (exact nomatch h.1)
    obtain ⟨t, e1⟩ := e1
    rw [e1, List.findIdx?_cons, ih]
    rfl
theorem swaps_none {e : Expr} {t : Option Expr} {l : Nat} {env : PySem.Env} (h : noComp e = true) : swapsWith e t l env = pure false := by
  cases e <;> first | rfl | (exact nomatch h)
theorem folded_none {e : Expr} {env : PySem.Env} (h : plainX e = true) : ∀ x, foldedSetIterable e env x = pure x := by
  intro x
  cases e <;> first | rfl | (exact nomatch h)
theorem marks_none {o : CmpOp} {e : Expr} (h : plainX e = true) : behindInMarks o e = false := by
  cases e <;> first | rfl | (exact nomatch h)
theorem plain_ix {e : Expr} (h : plainX e = true) : PlainIx e := by
  intro o i
  cases e <;> first | rfl | (exact nomatch h)
end Bn
/-! Bn, part 7: a term's meaning is what its syntax does: expressions. -/
namespace Bn
open PySem PySem.Spec PyProof.Rows L2

/-! ### walks -/
structure Walks (K : PySem.W.Frag) (mg : Str → Option Value) (M : Addr → Prop) (ρ : List Addr) (H : Hp) (J : L2.It) (l : List A) : Prop where
  go : ∀ M' H' i, Keep M H M' H' → i < l.length → J.go i H'
  yld : ∀ M' ρ' H' i x H'', Keep M H M' H' → (∃ more, ρ' = ρ ++ more) → i < l.length → J.yld i H' x H'' → ∃ a, l[i]? = some a ∧
    ((H'' = H' ∧ RepA K mg M' ρ' H' x a) ∨ ∃ T o, H' T = none ∧ H'' = upd H' T o ∧ (¬ M' T → RepA K mg M' ρ' H'' x a))
  stop : ∀ M' H', Keep M H M' H' → J.stop l.length H'
def relW (K : PySem.W.Frag) (mg : Str → Option Value) : Rel (List A) L2.It := fun Z ρ S H J l => Walks K mg (Mu Z ρ S) ρ H J l
section
variable {K : PySem.W.Frag} {mg : Str → Option Value} {M : Addr → Prop} {ρ : List Addr} {H : Hp}
theorem Walks.list {p : Addr} {vs : List V} {l : List D} (h : H p = some (.lst vs)) (n : ¬ M p) (r : Reps K mg M H vs l) : Walks K mg M ρ H (Itl K p) (l.map .d) := by
  refine ⟨fun M' H' i e hi => ?_, fun M' ρ' H' i x H'' e _ hi y => ?_, fun M' H' e => ?_⟩
  · rw [List.length_map, ← r.length] at hi
    exact ⟨vs, vs[i], SqL.of (e.at_ p _ h n).1, List.getElem?_eq_getElem hi⟩
  · obtain ⟨rfl, hx⟩ := y
    rw [List.length_map] at hi
    obtain ⟨v, e1, e2⟩ := (r.keep e).get (List.getElem?_eq_getElem hi)
    have e3 := hx vs (SqL.of (e.at_ p _ h n).1)
    rw [e1] at e3
    cases e3
    exact ⟨.d l[i], by rw [List.getElem?_map, List.getElem?_eq_getElem hi]; rfl, .inl ⟨rfl, e2⟩⟩
  · exact ⟨vs, SqL.of (e.at_ p _ h n).1, by rw [List.length_map, r.length]; exact Nat.le_refl _⟩
theorem Walks.scr {p : Addr} {l : List Int} (h : IsL K M H p (l.map V.int)) : Walks K mg M ρ H (Itl K p) (l.map fun i => A.d (.int i)) := by
  refine ⟨fun M' H' i e hi => ?_, fun M' ρ' H' i x H'' e _ hi y => ?_, fun M' H' e => ?_⟩
  · rw [List.length_map] at hi
    exact ⟨_, .int l[i], (h.keep e).sq, by rw [List.getElem?_map, List.getElem?_eq_getElem hi]; rfl⟩
  · obtain ⟨rfl, hx⟩ := y
    rw [List.length_map] at hi
    have e3 := hx _ (h.keep e).sq
    rw [List.getElem?_map, List.getElem?_eq_getElem hi] at e3
    cases e3
    exact ⟨.d (.int l[i]), by rw [List.getElem?_map, List.getElem?_eq_getElem hi]; rfl, .inl ⟨rfl, Rep.int _⟩⟩
  · exact ⟨_, (h.keep e).sq, by rw [List.length_map, List.length_map]; exact Nat.le_refl _⟩
theorem Walks.tup {p : Addr} {vs : List V} {l : List D} (h : IsT K M H p vs) (r : Reps K mg M H vs l) : Walks K mg M ρ H (Itt K p) (l.map .d) := by
  refine ⟨fun M' H' i e hi => ?_, fun M' ρ' H' i x H'' e _ hi y => ?_, fun M' H' e => ?_⟩
  · rw [List.length_map, ← r.length] at hi
    exact ⟨vs, vs[i], (h.keep e).sq, List.getElem?_eq_getElem hi⟩
  · obtain ⟨rfl, hx⟩ := y
    rw [List.length_map] at hi
    obtain ⟨v, e1, e2⟩ := (r.keep e).get (List.getElem?_eq_getElem hi)
    have e3 := hx vs (h.keep e).sq
    rw [e1] at e3
    cases e3
    exact ⟨.d l[i], by rw [List.getElem?_map, List.getElem?_eq_getElem hi]; rfl, .inl ⟨rfl, e2⟩⟩
  · exact ⟨vs, (h.keep e).sq, by rw [List.length_map, r.length]; exact Nat.le_refl _⟩
theorem rngL_length : ∀ (n : Nat) (lo : Int), (rngL lo n).length = n
  | 0, _ => rfl
  | n + 1, lo => by
    show (rngL (lo + 1) n).length + 1 = n + 1
    rw [rngL_length n]
theorem rngL_get : ∀ (n : Nat) (lo : Int) (i : Nat), i < n → (rngL lo n)[i]? = some (.d (.int (lo + i)))
  | 0, _, _, h => absurd h (by omega)
  | n + 1, lo, 0, _ => by
    show some (A.d (.int lo)) = _
    simp
  | n + 1, lo, i + 1, h => by
    show (rngL (lo + 1) n)[i]? = _
    rw [rngL_get n (lo + 1) i (by omega)]
    congr 3
    omega
theorem Walks.rng (lo : Int) (n : Nat) : Walks K mg M ρ H (Itr lo n) (rngL lo n) := by
  refine ⟨fun M' H' i e hi => ?_, fun M' ρ' H' i x H'' e _ hi y => ?_, fun M' H' e => ?_⟩
  · rw [rngL_length] at hi
    exact hi
  · obtain ⟨rfl, rfl⟩ := y
    rw [rngL_length] at hi
    exact ⟨_, rngL_get n lo i hi, .inl ⟨rfl, Rep.int _⟩⟩
  · show n ≤ _
    rw [rngL_length]
    exact Nat.le_refl _
end
theorem _root_.L2.PI.bnw {X : Cx} {tg e : Expr} {t t' : TI} (h : PI X tg e t) (i : ∀ σ H R, t' σ H R → t σ H R) : PI X tg e t' := ⟨fun pins s σ H R I hq => h.run pins s σ H R I (i σ H R hq)⟩
abbrev semI (T : Tab) (K : PySem.W.Frag) (mg : Str → Option Value) (E0 : XK) (m : It) : TI := sem K mg E0 (relW K mg) (denI T m)

/-! ### names -/
theorem chkTns_len {c : Ctx} : ∀ {l : List Tn} {xs : List Expr}, chkTn.chkTns c l xs = true → xs.all plainX = true ∧ xs.length = l.length
  | [], [], _ => ⟨rfl, rfl⟩
  | [], _ :: _, h => by simp [chkTn.chkTns] at h
  | _ :: _, [], h => by simp [chkTn.chkTns] at h
  | t :: r, x :: xs, h => by
    simp only [chkTn.chkTns, Bool.and_eq_true] at h
    have ih := chkTns_len h.2
    refine ⟨?_, ?_⟩
    · rw [List.all_cons, h.1.1, ih.1]
      rfl
    · rw [List.length_cons, List.length_cons, ih.2]
theorem bindTs_len : ∀ {l : List Tn} {a : List A} {env env' : Env}, bindTs l a env = some env' → a.length = l.length
  | [], [], _, _, _ => rfl
  | [], _ :: _, _, _, h => by simp [bindTs] at h
  | _ :: _, [], _, _, h => by simp [bindTs] at h
  | t :: r, x :: xs, env, env', h => by
    simp only [bindTs] at h
    obtain ⟨env1, e1, e2⟩ := Option.bind_eq_some_iff.mp h
    rw [List.length_cons, List.length_cons, bindTs_len e2]
theorem wipe_get {σ : L2.St} {i : Nat} : ∀ {vs : List Nat}, (L2.wipe σ vs)[i]? = if i ∈ vs then (σ[i]?).map (fun _ => none) else σ[i]?
  | [] => by simp [L2.wipe]
  | v :: vs => by
    have ih := @wipe_get σ i vs
    unfold L2.wipe
    by_cases hv : v = i
    · subst hv
      rw [List.getElem?_set, if_pos rfl, L2.wipe_length, if_pos List.mem_cons_self]
      cases h : σ[v]? with
      | none =>
        rw [if_neg]
        · rfl
        · intro q
          rw [List.getElem?_eq_getElem q] at h
          cases h
      | some x =>
        rw [if_pos (List.getElem?_eq_some_iff.mp h).1]
        rfl
    · rw [List.getElem?_set_ne hv, ih]
      by_cases hm : i ∈ vs
      · rw [if_pos hm, if_pos (List.mem_cons_of_mem _ hm)]
      · rw [if_neg hm, if_neg fun q => (List.mem_cons.mp q).elim (fun e => hv e.symm) hm]
theorem wipe_wipe (σ : L2.St) (vs : List Nat) : L2.wipe (L2.wipe σ vs) vs = L2.wipe σ vs := by
  refine List.ext_getElem? fun i => ?_
  rw [wipe_get, wipe_get]
  by_cases h : i ∈ vs
  · simp only [if_pos h]
    cases σ[i]? <;> rfl
  · simp only [if_neg h]
theorem wipe_set (σ : L2.St) {vs : List Nat} {j : Nat} {x : Option V} (hj : j ∈ vs) : L2.wipe (σ.set j x) vs = L2.wipe σ vs := by
  refine List.ext_getElem? fun i => ?_
  rw [wipe_get, wipe_get]
  by_cases h : i ∈ vs
  · simp only [if_pos h]
    rw [List.getElem?_set]
    by_cases e : j = i
    · subst e
      rw [if_pos rfl]
      split
      · rename_i hl
        rw [List.getElem?_eq_getElem hl]
        rfl
      · rename_i hl
        rw [List.getElem?_eq_none (by omega)]
    · rw [if_neg e]
  · simp only [if_neg h]
    rw [List.getElem?_set_ne fun e => h (by rw [← e]; exact hj)]
/-- a target's reading, by its term -/
def TnR (K : PySem.W.Frag) (mg : Str → Option Value) (t : Tn) (g : TG) : Prop := ∀ (M : Addr → Prop) (ρ : List Addr) (H : Hp) (σ : L2.St) (env env' : Env) (a : A) (v : V) (Q : L2.St → Hp → Prop),
  Slots K mg M ρ H σ env → RepA K mg M ρ H v a → bindT t a env = some env' →
  (∀ σ', Slots K mg M ρ H σ' env' → (∀ vs : List Nat, (∀ i ∈ t.ixs, i ∈ vs) → L2.wipe σ' vs = L2.wipe σ vs) → Q σ' H) → g v σ H Q
def TnsR (K : PySem.W.Frag) (mg : Str → Option Value) (t : List Tn) (g : TGs) : Prop := ∀ (M : Addr → Prop) (ρ : List Addr) (H : Hp) (σ : L2.St) (env env' : Env) (a : List A) (v : List V) (Q : L2.St → Hp → Prop),
  Slots K mg M ρ H σ env → RepAs K mg M ρ H v a → bindTs t a env = some env' →
  (∀ σ', Slots K mg M ρ H σ' env' → (∀ vs : List Nat, (∀ i ∈ ixsL t, i ∈ vs) → L2.wipe σ' vs = L2.wipe σ vs) → Q σ' H) → g v σ H Q
mutual
def gTn (K : PySem.W.Frag) : Tn → TG
  | .nm i => gName i
  | .tp l => gTup K l.length (gTns K l)
def gTns (K : PySem.W.Frag) : List Tn → TGs
  | [] => gNil
  | t :: r => gCons (gTn K t) (gTns K r)
end
mutual
theorem tn_r (K : PySem.W.Frag) (mg : Str → Option Value) : ∀ t : Tn, TnR K mg t (gTn K t)
  | .nm i => fun M ρ H σ env env' a v Q sl r hb q => by
    simp only [bindT, Option.some.injEq] at hb
    subst hb
    exact q _ (sl.set r) fun vs hv => wipe_set σ (hv i (by simp [Tn.ixs]))
  | .tp l => fun M ρ H σ env env' a v Q sl r hb q => by
    cases a with
    | c n => simp [bindT] at hb
    | d w =>
      cases r with
      | tup h1 h2 =>
        simp only [bindT] at hb
        have e := bindTs_len hb
        rw [List.length_map] at e
        exact ⟨_, _, rfl, h1.sq, by rw [h2.length, e], tns_r K mg l M ρ H σ env env' _ _ Q sl (RepAs.of_data h2) hb fun σ' s' w => q σ' s' fun vs hv => w vs (by simpa only [Tn.ixs] using hv)⟩
      | _ => simp [bindT] at hb
theorem tns_r (K : PySem.W.Frag) (mg : Str → Option Value) : ∀ t : List Tn, TnsR K mg t (gTns K t)
  | [] => fun M ρ H σ env env' a v Q sl r hb q => by
    cases a with
    | cons _ _ => simp [bindTs] at hb
    | nil =>
      cases r
      simp only [bindTs, Option.some.injEq] at hb
      subst hb
      exact ⟨rfl, q _ sl fun _ _ => rfl⟩
  | t :: r => fun M ρ H σ env env' a v Q sl rr hb q => by
    cases a with
    | nil => simp [bindTs] at hb
    | cons a as =>
      cases rr with
      | cons r1 r2 =>
        simp only [bindTs] at hb
        obtain ⟨env1, e1, e2⟩ := Option.bind_eq_some_iff.mp hb
        refine ⟨_, _, rfl, tn_r K mg t M ρ H σ env env1 a _ _ sl r1 e1 fun σ1 s1 w1 => tns_r K mg r M ρ H σ1 env1 env' as _ Q s1 r2 e2 fun σ2 s2 w2 => q σ2 s2 fun vs hv => ?_⟩
        have hv' : ∀ i ∈ t.ixs ++ ixsL r, i ∈ vs := by simpa only [ixsL] using hv
        rw [w2 vs fun i hi => hv' i (List.mem_append_right _ hi), w1 vs fun i hi => hv' i (List.mem_append_left _ hi)]
end
mutual
theorem tn_pg {c : Ctx} {X : Cx} (f : Fits c X) (hc : X.calm = true) (hN : X.N.Nodup) : ∀ (t : Tn) (x : Expr), chkTn c t x = true → PG X x (gTn X.K t)
  | .nm i, x, h => by
    cases x with
    | Name y pos =>
      simp only [chkTn, Bool.and_eq_true, beq_iff_eq, Bool.or_eq_true] at h
      obtain ⟨⟨h1, h2⟩, h3⟩ := h
      refine pg_name hN (by rw [f.N]; exact h1) (by rw [f.sc]; exact locB_ok h2) ?_
      rcases h3 with h3 | h3
      · exact .inl (by rw [f.fn]; exact h3)
      · refine .inr ?_
        rw [f.sc]
        split at h3
        · assumption
        · cases h3
    | _ => simp [chkTn] at h
  | .tp l, x, h => by
    cases x with
    | Tuple xs k pos =>
      have h : chkTn.chkTns c l xs = true := by simpa only [chkTn] using h
      obtain ⟨hp, hl⟩ := chkTns_len h
      exact pg_tup hc (tns_pg f hc hN l xs h) (asg_len.trans hl) (asg_star hp)
    | _ => simp [chkTn] at h
theorem tns_pg {c : Ctx} {X : Cx} (f : Fits c X) (hc : X.calm = true) (hN : X.N.Nodup) : ∀ (t : List Tn) (x : List Expr), chkTn.chkTns c t x = true → PGs X x (gTns X.K t)
  | [], x, h => by
    cases x with
    | cons _ _ => simp [chkTn.chkTns] at h
    | nil => exact pgs_nil
  | t :: r, x, h => by
    cases x with
    | nil => simp [chkTn.chkTns] at h
    | cons x xs =>
      simp only [chkTn.chkTns, Bool.and_eq_true] at h
      exact pgs_cons (tn_pg f hc hN t x h.1.2) (tns_pg f hc hN r xs h.2) (asg_cons h.1.1)
end
/-- the own names forgotten -/
theorem Slots.wipe {K : PySem.W.Frag} {mg : Str → Option Value} {M : Addr → Prop} {ρ : List Addr} {H : Hp} {σ : L2.St} {env : Env} (h : Slots K mg M ρ H σ env) : ∀ vs : List Nat, Slots K mg M ρ H (L2.wipe σ vs) (wipeE env vs)
  | [] => h
  | v :: vs => by
    have ih := Slots.wipe h vs
    unfold L2.wipe wipeE
    refine ⟨by rw [List.length_set, List.length_set, ih.1], fun i x e => ?_⟩
    by_cases hi : v = i
    · subst hi
      by_cases hl : v < (wipeE env vs).length
      · rw [List.getElem?_set_self hl] at e
        cases e
      · rw [List.getElem?_eq_none (by rw [List.length_set]; omega)] at e
        cases e
    · rw [List.getElem?_set_ne hi] at e
      obtain ⟨w, e1, r⟩ := ih.2 i x e
      exact ⟨w, by rw [List.getElem?_set_ne hi]; exact e1, r⟩
end Bn
/-! Bn, part 8: the pieces of an expression. -/
namespace Bn
open PySem PySem.Spec PyProof.Rows L2

section
variable {K : PySem.W.Frag} {mg : Str → Option Value} {Z : Addr → Prop} {ρ : List Addr} {S : List Cell} {H : Hp} {E0 : XK} {σ : L2.St}
/-- a new cell -/
theorem new_cell {p : Addr} {vs : List V} {as : List A} (ok : OkS K mg Z ρ S H) (hp : H p = none) (r : RepAs K mg (Mu Z ρ S) ρ H vs as) :
    Ext Z ρ S H (ρ ++ [p]) (S ++ [.lst as]) (upd H p (.lst vs)) ∧ OkS K mg Z (ρ ++ [p]) (S ++ [.lst as]) (upd H p (.lst vs)) := by
  have np : p ∉ ρ := fun z => ok.trk p (.inr z) hp
  have lv : ∀ b, live (ρ ++ [p]) (S ++ [.lst as]) b → live ρ S b ∨ b = p := fun b ⟨k, c, h1, h2, h3⟩ => by
    by_cases hk : k < S.length
    · rw [List.getElem?_append_left hk] at h1
      rw [List.getElem?_append_left (by rw [ok.len]; exact hk)] at h3
      exact .inl ⟨k, c, h1, h2, h3⟩
    · rw [List.getElem?_append_right (by rw [ok.len]; omega)] at h3
      have hm := List.mem_of_getElem? h3
      exact .inr (List.mem_singleton.mp hm)
  have ex : Ext Z ρ S H (ρ ++ [p]) (S ++ [.lst as]) (upd H p (.lst vs)) := by
    refine ⟨fun b u e _ => by rw [upd_ne (ne_of_none e hp)]; exact e, ⟨[p], rfl, fun b hb => by rw [List.mem_singleton.mp hb]; exact hp⟩, fun b h => ?_, fun b e => ?_⟩
    · rcases lv b h with h | h
      · exact .inl h
      · exact .inr (h ▸ hp)
    · by_cases hb : b = p
      · subst hb; exact hp
      · rw [upd_ne hb] at e; exact e
  refine ⟨ex, ⟨by rw [List.length_append, List.length_append, ok.len] <;> rfl, ?_, fun k c a e1 e2 => ?_, fun b h z => ?_, fun b h z => ?_⟩⟩
  · refine List.nodup_append.mpr ⟨ok.nd, by simp, fun a ha b hb z => ?_⟩
    rw [List.mem_singleton.mp hb] at z
    exact np (z ▸ ha)
  · by_cases hk : k < S.length
    · rw [List.getElem?_append_left hk] at e1
      rw [List.getElem?_append_left (by rw [ok.len]; exact hk)] at e2
      have hap : a ≠ p := fun z => np (z ▸ List.mem_of_getElem? e2)
      exact (ok.cells k c a e1 e2).keep ex.toKeep ex.pre (upd_ne hap)
    · rw [List.getElem?_append_right (by omega)] at e1
      rw [List.getElem?_append_right (by rw [ok.len]; omega)] at e2
      have hm := List.mem_singleton.mp (List.mem_of_getElem? e2)
      have hc := List.mem_singleton.mp (List.mem_of_getElem? e1)
      subst hm hc
      exact ⟨vs, upd_same, RepAs.ext ex r⟩
  · by_cases hb : b = p
    · subst hb
      rw [upd_same] at z
      cases z
    · rw [upd_ne hb] at z
      refine ok.trk b ?_ z
      rcases h with h | h
      · exact .inl h
      · rcases List.mem_append.mp h with h | h
        · exact .inr h
        · exact absurd (List.mem_singleton.mp h) hb
  · rcases List.mem_append.mp h with h | h
    · exact ok.dis b h z
    · rw [List.mem_singleton.mp h] at z
      exact ok.trk p (.inl z) hp

theorem sem_bin {f g : Env → List Cell → R A} {k : A → A → List Cell → R A} {Q : VK} (h : sem K mg E0 (relA K mg) (fun env S => (f env S).bind fun x S1 => (g env S1).bind fun y S2 => k x y S2) σ H Q) :
    tOp (rBin K mg E0 k) (sem K mg E0 (relA K mg) f) (sem K mg E0 (relA K mg) g) σ H Q :=
  sem.bind h fun Z ρ1 S1 H1 env a v ok sl r h2 => ⟨Z, ρ1, S1, env, ok, sl, h2.bind fun b S2 w ρ2 H2 e ok2 r2 h3 => ⟨Z, ρ2, S2, a, b, ok2, RepA.ext e r, r2, h3⟩⟩
theorem sem_un {f : Env → List Cell → R A} {k : A → List Cell → R A} {Q : VK} (h : sem K mg E0 (relA K mg) (fun env S => (f env S).bind fun x S1 => k x S1) σ H Q) :
    tUn (rOne K mg E0 k) (sem K mg E0 (relA K mg) f) σ H Q :=
  sem.bind h fun Z ρ1 S1 H1 env a v ok sl r h2 => ⟨Z, ρ1, S1, a, ok, r, h2⟩
theorem sem_args {f : Env → List Cell → R (List A)} {k : List A → List Cell → R A} {Q : VK} (h : sem K mg E0 (relA K mg) (fun env S => (f env S).bind fun x S1 => k x S1) σ H Q) :
    tCB (rArgs K mg E0 k) (sem K mg E0 (relAs K mg) f) σ H Q :=
  sem.bind h fun Z ρ1 S1 H1 env a v ok sl r h2 => ⟨Z, ρ1, S1, a, ok, r, h2⟩
/-- as a truth value -/
theorem sem_bool {f : Env → List Cell → R A} {Q : Bool → Hp → Prop} (h : sem K mg E0 relB (fun env S => (f env S).bind boolD) σ H Q) : sem K mg E0 (relA K mg) f σ H fun x H1 => ∃ c, x = .bl c ∧ Q c H1 :=
  sem.bind h fun Z ρ1 S1 H1 env a v ok sl r h2 => by
    unfold boolD at h2
    split at h2
    · cases r
      exact ⟨_, rfl, h2.here ok rfl⟩
    · exact h2.elim
/-- a test, then one of two ways -/
theorem sem_ite {f : Env → List Cell → R A} {α β : Type} {rel : Rel α β} {k1 k2 : Env → List Cell → R α} {Q : β → Hp → Prop}
    (w : sem K mg E0 rel (fun env S => (f env S).bind fun x S1 => ifK x (k1 env S1) (k2 env S1)) σ H Q) :
    sem K mg E0 relB (fun env S => (f env S).bind boolD) σ H fun c H1 => if c = true then sem K mg E0 rel k1 σ H1 Q else sem K mg E0 rel k2 σ H1 Q := by
  obtain ⟨Z, ρ, S, env, ok, sl, w⟩ := w
  refine ⟨Z, ρ, S, env, ok, sl, ?_⟩
  simp only at w ⊢
  cases e : f env S with
  | no =>
    rw [e] at w
    exact w
  | ex c x S1 =>
    rw [e] at w
    exact w
  | ok a S1 =>
    rw [e] at w
    rw [R.bind_ok] at w ⊢
    have go : ∀ (b : Bool), a = .d (.bl b) → RPost K mg Z E0 relB ρ S H (boolD a S1) fun c H1 => if c = true then sem K mg E0 rel k1 σ H1 Q else sem K mg E0 rel k2 σ H1 Q := fun b ea => by
      subst ea
      intro v ρ' H' e' o' r'
      have r' : v = b := r'
      subst r'
      cases v with
      | true =>
        rw [if_pos rfl]
        exact ⟨Z, ρ', S1, env, o', sl.ext e', RPost.later e' w⟩
      | false =>
        rw [if_neg Bool.false_ne_true]
        exact ⟨Z, ρ', S1, env, o', sl.ext e', RPost.later e' w⟩
    cases a with
    | c n => exact w.elim
    | d x =>
      cases x with
      | bl b => exact go b rfl
      | _ => exact w.elim
end

section
variable {X : Cx} {T : Tab} {kw : List (List (Nat × List Str))} {j : Nat} {E0 : XK} {c : Ctx}
theorem never_E {e : Expr} {f : Env → List Cell → R A} (h : ∀ env S, f env S = .no) : PE X e (sem X.K X.mg E0 (relA X.K X.mg) f) := ⟨fun pins s σ H Q I ⟨Z, ρ, S, env, ok, sl, q⟩ => by
  rw [h] at q
  exact q.elim⟩
theorem e_var {i : Nat} {x : Str} {pos : Pos} (f : Fits c X) (h : chkE T kw c (.var i) (.Name x pos) = true) : PE X (.Name x pos) (semE T X.K X.mg E0 (.var i)) := by
  simp only [chkE, Bool.and_eq_true, beq_iff_eq] at h
  have hd := dbgB_ok h.2
  refine (pe_var (i := i) (by rw [f.N]; exact h.1.1) (by rw [f.sc]; exact visB_ok h.1.2) hd.1 hd.2).bnw fun σ H Q ⟨Z, ρ, S, env, ok, sl, q⟩ => ?_
  simp only [den] at q
  split at q
  · rename_i a e
    obtain ⟨v, e1, r⟩ := sl.2 i a e
    exact ⟨v, e1, q.here ok r⟩
  · exact q.elim
theorem e_k {d : D} {k : Const} {kk : Nat} {pos : Pos} (h : constB d k = true) : PE X (.Constant k kk pos) (semE T X.K X.mg E0 (.k d)) := by
  cases d <;> cases k <;> first | (simp [constB] at h; done) | skip
  · exact pe_non.bnw fun σ H Q ⟨Z, ρ, S, env, ok, sl, q⟩ => post_d q ok .non
  · rename_i a b
    have e : a = b := by simpa [constB] using h
    subst e
    exact pe_bl.bnw fun σ H Q ⟨Z, ρ, S, env, ok, sl, q⟩ => post_d q ok (.bl _)
  · rename_i a b
    have e : a = b := by simpa [constB] using h
    subst e
    exact pe_int.bnw fun σ H Q ⟨Z, ρ, S, env, ok, sl, q⟩ => post_d q ok (.int _)
  · rename_i a b
    have e : a = b := by simpa [constB] using h
    subst e
    exact pe_str.bnw fun σ H Q ⟨Z, ρ, S, env, ok, sl, q⟩ => post_d q ok (.str _)
theorem e_con {i : Nat} {x : Str} {pos : Pos} (f : Fits c X) (g : Good T kw j E0 X) (h : chkE T kw c (.con i) (.Name x pos) = true) : PE X (.Name x pos) (semE T X.K X.mg E0 (.con i)) := by
  simp only [chkE, Bool.and_eq_true] at h
  have hd := dbgB_ok h.2
  have h1 := h.1.1
  split at h1
  · rename_i p e
    have e2 : p.1 = x := by simpa using h1
    obtain ⟨u, v, e3, r, rep⟩ := g.cs p (List.mem_of_getElem? e)
    rw [e2] at e3
    refine (pe_glob (glB_ok (by rw [f.sc]; exact h.1.2)) e3 r hd.1).bnw fun σ H Q ⟨Z, ρ, S, env, ok, sl, q⟩ => ?_
    simp only [den, e] at q
    exact post_d q ok (rep _ _)
  · cases h1
theorem e_tup {es : Es} {xs : List Expr} {kk : Nat} {pos : Pos} (h : PA X xs (semEs T X.K X.mg E0 es)) : PE X (.Tuple xs kk pos) (semE T X.K X.mg E0 (.tup es)) := by
  refine (pe_tup h).bnw fun σ H Q q => ?_
  refine sem.bind (rel2 := relA X.K X.mg) (k := fun _ as S1 => tupK as S1) q fun Z ρ1 S1 H1 env a v ok sl r h2 => ?_
  unfold tupK at h2
  split at h2
  · rename_i ds e
    split at h2
    · rename_i hl
      have rd : Reps X.K X.mg (Mu Z ρ1 S1) H1 v ds := RepAs.data r e
      exact ⟨by rw [rd.length]; exact lim_line hl, fun p hp => post_new h2 ok hp (rep_tup ok hp rd)⟩
    · exact h2.elim
  · exact h2.elim
theorem e_lst {es : Es} {xs : List Expr} {pos : Pos} (h : PA X xs (semEs T X.K X.mg E0 es)) : PE X (.List xs pos) (semE T X.K X.mg E0 (.lst es)) := by
  refine (pe_lst h).bnw fun σ H Q q => ?_
  refine sem.bind (rel2 := relA X.K X.mg) (k := fun _ as S1 => lstK as S1) q fun Z ρ1 S1 H1 env a v ok sl r h2 => ?_
  unfold lstK at h2
  split at h2
  · rename_i ds e
    split at h2
    · rename_i hl
      have rd : Reps X.K X.mg (Mu Z ρ1 S1) H1 v ds := RepAs.data r e
      exact ⟨by rw [rd.length]; exact lim_line hl, fun p hp => post_new h2 ok hp (rep_lst ok hp rd)⟩
    · exact h2.elim
  · exact h2.elim
theorem e_lstc {es : Es} {xs : List Expr} {pos : Pos} (h : PA X xs (semEs T X.K X.mg E0 es)) : PE X (.List xs pos) (semE T X.K X.mg E0 (.lstc es)) := by
  refine (pe_lst h).bnw fun σ H Q q => ?_
  refine sem.bind (rel2 := relA X.K X.mg) (k := fun _ as S1 => lstcK as S1) q fun Z ρ1 S1 H1 env a v ok sl r h2 => ?_
  have r : RepAs X.K X.mg (Mu Z ρ1 S1) ρ1 H1 v a := r
  unfold lstcK at h2
  split at h2
  · rename_i hl
    refine ⟨by rw [r.length]; exact lim_line hl, fun p hp => ?_⟩
    obtain ⟨e, o⟩ := new_cell ok hp r
    refine h2 (.ref p) (ρ1 ++ [p]) _ e o ⟨p, ?_, rfl⟩
    rw [← ok.len, List.getElem?_append_right (Nat.le_refl _), Nat.sub_self]
    rfl
  · exact h2.elim
theorem e_dct0 {pos : Pos} : PE X (.Dict [] [] pos) (semE T X.K X.mg E0 .dct0) := by
  refine pe_dnewK.bnw fun σ H Q ⟨Z, ρ, S, env, ok, sl, q⟩ => fun p hp => ?_
  exact post_new q ok hp (.dct upd_same (ok.fresh hp) rfl .nil)
theorem e_chain {o o' : CmpOp} {a b d : E} {x y z : Expr} {pos : Pos} (g : Good T kw j E0 X) (ha : PE X x (semE T X.K X.mg E0 a)) (hb : PE X y (semE T X.K X.mg E0 b)) (hd : PE X z (semE T X.K X.mg E0 d)) (hy : plainX y = true) (hz : plainX z = true) :
    PE X (.Compare x [o, o'] [y, z] pos) (semE T X.K X.mg E0 (.chain o o' a b d)) := by
  refine (pe_chain (op_cmp (E0 := E0) g.units o) (op_cmp (E0 := E0) g.units o') ha hb hd (marks_none hz)).bnw fun σ H Q q => ?_
  refine sem.bind (rel2 := relA X.K X.mg) (k := fun env x S1 => (den T b env S1).bind fun y S2 => (cmpD o x y S2).bind fun k S3 => ifK k ((den T d env S3).bind fun z S4 => cmpD o' y z S4) (.ok (.d (.bl false)) S3)) q fun Z ρ1 S1 H1 env a v ok sl r h2 => ?_
  refine ⟨Z, ρ1, S1, env, ok, sl, h2.bind fun b S2 w ρ2 H2 e ok2 r2 h3 => ?_⟩
  refine ⟨Z, ρ2, S2, a, b, ok2, RepA.ext e r, r2, h3.bind fun k S3 u ρ3 H3 e3 ok3 r3 h4 => ?_⟩
  unfold ifK at h4
  split at h4
  · cases r3
    refine ⟨true, rfl, ?_⟩
    rw [if_pos rfl]
    refine ⟨Z, ρ3, S3, env, ok3, sl.ext (e.trans e3), h4.bind fun c S4 t ρ4 H4 e4 ok4 r4 h5 => ?_⟩
    exact ⟨Z, ρ4, S4, b, c, ok4, RepA.ext (e3.trans e4) r2, r4, h5⟩
  · cases r3
    refine ⟨false, rfl, ?_⟩
    rw [if_neg Bool.false_ne_true]
    exact post_d h4 ok3 (.bl false)
  · exact h4.elim
theorem e_sl {a : E} {lo hi : Oe} {x : Expr} {l u : Option Expr} {p2 pos : Pos} (ha : PE X x (semE T X.K X.mg E0 a)) (hl : PO X l (semO T X.K X.mg E0 lo)) (hu : PO X u (semO T X.K X.mg E0 hi)) :
    PE X (.Subscript x (.Slice l u none p2) pos) (semE T X.K X.mg E0 (.sl a lo hi)) := by
  refine (pe_slice (sl_any (E0 := E0)) ha hl hu).bnw fun σ H Q q => ?_
  refine sem.bind (rel2 := relA X.K X.mg) (k := fun env x S1 => (denO T lo env S1).bind fun l S2 => (denO T hi env S2).bind fun h S3 => slD x l h S3) q fun Z ρ1 S1 H1 env a v ok sl r h2 => ?_
  refine ⟨Z, ρ1, S1, env, ok, sl, h2.bind fun b S2 w ρ2 H2 e ok2 r2 h3 => ?_⟩
  refine ⟨Z, ρ2, S2, env, ok2, sl.ext e, h3.bind fun b' S3 w' ρ3 H3 e3 ok3 r3 h4 => ?_⟩
  have e1 : w = b := r2
  have e2 : w' = b' := r3
  subst e1 e2
  exact ⟨Z, ρ3, S3, a, ok3, RepA.ext (e.trans e3) r, h4⟩
theorem e_not {a : E} {x : Expr} {pos : Pos} (ha : PE X x (semE T X.K X.mg E0 a)) : PE X (.UnaryOp .Not x pos) (semE T X.K X.mg E0 (.not_ a)) := by
  refine (pe_not ha).bnw fun σ H Q q => ?_
  refine sem.bind (rel2 := relA X.K X.mg) (k := fun _ x S1 => notK x S1) q fun Z ρ1 S1 H1 env a v ok sl r h2 => ?_
  unfold notK at h2
  split at h2
  · cases r
    exact ⟨_, rfl, post_d h2 ok (.bl _)⟩
  · exact h2.elim
theorem e_ite {d a b : E} {x y z : Expr} {pos : Pos} (hd : PT X x (semT T X.K X.mg E0 d)) (ha : PE X y (semE T X.K X.mg E0 a)) (hb : PE X z (semE T X.K X.mg E0 b)) : PE X (.IfExp x y z pos) (semE T X.K X.mg E0 (.ite d a b)) :=
  (pe_ifExp hd ha hb).bnw fun σ H Q q => sem_ite (rel := relA X.K X.mg) (k1 := den T a) (k2 := den T b) q
theorem t_not {a : E} {x : Expr} {pos : Pos} (ha : PT X x (semT T X.K X.mg E0 a)) : PT X (.UnaryOp .Not x pos) (semT T X.K X.mg E0 (.not_ a)) := by
  refine (pt_not ha).bnw fun σ H Q ⟨Z, ρ, S, env, ok, sl, q⟩ => ⟨Z, ρ, S, env, ok, sl, ?_⟩
  have q : RPost X.K X.mg Z E0 relB ρ S H (((den T a env S).bind fun x S1 => notK x S1).bind boolD) Q := q
  show RPost X.K X.mg Z E0 relB ρ S H ((den T a env S).bind boolD) _
  cases e : den T a env S with
  | no =>
    rw [e] at q
    exact q
  | ex c x S1 =>
    rw [e] at q
    exact q
  | ok v S1 =>
    rw [e] at q
    rw [R.bind_ok] at q ⊢
    have go : ∀ b : Bool, v = .d (.bl b) → RPost X.K X.mg Z E0 relB ρ S H (boolD v S1) fun c H1 => Q (!c) H1 := fun b ev => by
      subst ev
      intro w ρ' H' e' o' r'
      have r' : w = b := r'
      subst r'
      exact q (!w) ρ' H' e' o' rfl
    cases v with
    | c n => exact q.elim
    | d x =>
      cases x with
      | bl b => exact go b rfl
      | _ => exact q.elim
/-- a comparison, a call .. as a test -/
theorem t_of {m : E} {e : Expr} (h : PE X e (semE T X.K X.mg E0 m)) (he : ∀ whole, isTrue e X.env whole = (do let v ← whole; standAt e.pos; holding [v] (truthy v))) : PT X e (semT T X.K X.mg E0 m) :=
  (pt_val h he).bnw fun σ H Q q => sem_bool q
theorem boot_gcdN : True := trivial
theorem e_bi {b : Bi} {es : Es} {x : Str} {e : Expr} {xs : List Expr} {p pos : Pos} (f : Fits c X) (g : Good T kw j E0 X) (hb : biB T c b x = true) (hg : glB c.sc x = true) (hd : dbgB x = true) (hp : (e :: xs).all plainX = true) (h : PA X (e :: xs) (semEs T X.K X.mg E0 es)) :
    PE X (.Call (.Name x p) (e :: xs) [] pos) (semE T X.K X.mg E0 (.bi b es)) := by
  have hgl : Gl X x := glB_ok (by rw [f.sc]; exact hg)
  have hd := (dbgB_ok hd).1
  simp only [List.all_cons, Bool.and_eq_true] at hp
  have he := star_cons (es := xs) (env := X.env) hp.1
  have hpl := star_none (env := X.env) (pos := pos) hp.2
  have key : ∀ {r : List A → List Cell → R A}, biD b = r → PE X (.Call (.Name x p) (e :: xs) [] pos) (tCB (rArgs X.K X.mg E0 r) (semEs T X.K X.mg E0 es)) → PE X (.Call (.Name x p) (e :: xs) [] pos) (semE T X.K X.mg E0 (.bi b es)) := fun er hh => by
    refine hh.bnw fun σ H Q q => ?_
    subst er
    exact sem_args q
  cases b with
  | gcd =>
    simp only [biB, Bool.and_eq_true, beq_iff_eq, List.any_eq_true] at hb
    obtain ⟨ex, q, hq, e1, e2⟩ := hb
    have hm := g.ms q hq
    rw [e1, e2] at hm
    exact key rfl (pe_callBfun cr_gcdD hgl hm h hd he hpl)
  | isi t => cases hb
  | len =>
    simp only [biB, Bool.and_eq_true, beq_iff_eq, List.contains_iff_mem] at hb
    obtain ⟨ex, hm⟩ := hb
    subst ex
    exact key rfl (pe_callB cr_len hgl (g.bs _ hm) boot_len h (by decide) hd he hpl)
  | abs =>
    simp only [biB, Bool.and_eq_true, beq_iff_eq, List.contains_iff_mem] at hb
    obtain ⟨ex, hm⟩ := hb
    subst ex
    exact key rfl (pe_callB cr_abs hgl (g.bs _ hm) (by decide +kernel) h (by decide) hd he hpl)
  | max2 =>
    simp only [biB, Bool.and_eq_true, beq_iff_eq, List.contains_iff_mem] at hb
    obtain ⟨ex, hm⟩ := hb
    subst ex
    exact key rfl (pe_callB (cr_max g.calm) hgl (g.bs _ hm) (by decide +kernel) h (by decide) hd he hpl)
  | min2 =>
    simp only [biB, Bool.and_eq_true, beq_iff_eq, List.contains_iff_mem] at hb
    obtain ⟨ex, hm⟩ := hb
    subst ex
    exact key rfl (pe_callB (cr_min g.calm) hgl (g.bs _ hm) (by decide +kernel) h (by decide) hd he hpl)
  | int1 =>
    simp only [biB, Bool.and_eq_true, beq_iff_eq, List.contains_iff_mem] at hb
    obtain ⟨ex, hm⟩ := hb
    subst ex
    exact key rfl (pe_callTy cr_int hgl (g.bs _ hm) (by decide +kernel) h (by decide) hd he hpl)
  | all =>
    simp only [biB, Bool.and_eq_true, beq_iff_eq, List.contains_iff_mem] at hb
    obtain ⟨ex, hm⟩ := hb
    subst ex
    exact key rfl (pe_callB (cr_allD g.calm) hgl (g.bs _ hm) (by decide +kernel) h (by decide) hd he hpl)
  | any =>
    simp only [biB, Bool.and_eq_true, beq_iff_eq, List.contains_iff_mem] at hb
    obtain ⟨ex, hm⟩ := hb
    subst ex
    exact key rfl (pe_callB (cr_anyD g.calm) hgl (g.bs _ hm) (by decide +kernel) h (by decide) hd he hpl)
  | tuple =>
    simp only [biB, Bool.and_eq_true, beq_iff_eq, List.contains_iff_mem] at hb
    obtain ⟨ex, hm⟩ := hb
    subst ex
    exact key rfl (pe_callTy cr_tuple hgl (g.bs _ hm) (by decide +kernel) h (by decide) hd he hpl)
  | list =>
    simp only [biB, Bool.and_eq_true, beq_iff_eq, List.contains_iff_mem] at hb
    obtain ⟨ex, hm⟩ := hb
    subst ex
    exact key rfl (pe_callTy cr_list hgl (g.bs _ hm) (by decide +kernel) h (by decide) hd he hpl)
  | divmod =>
    simp only [biB, Bool.and_eq_true, beq_iff_eq, List.contains_iff_mem] at hb
    obtain ⟨ex, hm⟩ := hb
    subst ex
    exact key rfl (pe_callB cr_divmod hgl (g.bs _ hm) (by decide +kernel) h (by decide) hd he hpl)
  | repr =>
    simp only [biB, Bool.and_eq_true, beq_iff_eq, List.contains_iff_mem] at hb
    obtain ⟨ex, hm⟩ := hb
    subst ex
    exact key rfl (pe_callB (cr_repr g.units2 g.gd) hgl (g.bs _ hm) (by decide +kernel) h (by decide) hd he hpl)
theorem e_isi {t t' : String} {m : E} {x z : Str} {y : Expr} {p p2 pos : Pos} (f : Fits c X) (g : Good T kw j E0 X) (hx : x = "isinstance") (hz : bootBuiltins z = some (.type t)) (hxb : x ∈ T.bs) (hzb : z ∈ T.bs) (hxg : glB c.sc x = true) (hzg : glB c.sc z = true)
    (hxd : dbgB x = true) (hzd : dbgB z = true) (hn : z ≠ "__name__") (hy : plainX y = true) (h : PE X y (semE T X.K X.mg E0 m)) : PE X (.Call (.Name x p) [y, .Name z p2] [] pos) (semE T X.K X.mg E0 (.bi (.isi t) (.cons m .nil))) := by
  subst hx
  have hgl : Gl X "isinstance" := glB_ok (by rw [f.sc]; exact hxg)
  have hgz : Gl X z := glB_ok (by rw [f.sc]; exact hzg)
  have pz : PE X (.Name z p2) (tC (.ty t)) := pe_bltn hgz (g.bs _ hzb) hz rfl hn (dbgB_ok hzd).1
  refine (pe_callB (cr_isi (E0 := E0) t) hgl (g.bs _ hxb) (by decide +kernel) (pa_cons h (pa_cons pz pa_nil) (star_cons hy)) (by decide) (dbgB_ok hxd).1 (star_cons hy) rfl).bnw fun σ H Q q => ?_
  refine sem.bind (rel2 := relA X.K X.mg) (Q2 := Q) (k := fun env x S1 => ((denEs T .nil env S1).bind fun xs S2 => R.ok (x :: xs) S2).bind fun as S1 => biD (.isi t) as S1) ?_ fun Z ρ1 S1 H1 env a v ok sl r h2 => ?_
  · obtain ⟨Z, ρ, S, env, ok, sl, q⟩ := q
    refine ⟨Z, ρ, S, env, ok, sl, ?_⟩
    have q : RPost X.K X.mg Z E0 (relA X.K X.mg) ρ S H (((den T m env S).bind fun x S1 => (denEs T .nil env S1).bind fun xs S2 => R.ok (x :: xs) S2).bind fun as S1 => biD (.isi t) as S1) Q := q
    show RPost X.K X.mg Z E0 (relA X.K X.mg) ρ S H ((den T m env S).bind _) Q
    cases e : den T m env S with
    | ok v S1 =>
      rw [e] at q
      exact q
    | ex c x S1 =>
      rw [e] at q
      exact q
    | no =>
      rw [e] at q
      exact q
  · exact ⟨v, rfl, Z, ρ1, S1, a, ok, r, h2⟩
end
end Bn
/-! Bn, part 9: calls, comprehensions; expressions as a whole. -/
namespace Bn
open PySem PySem.Spec PyProof.Rows L2
section
variable {X : Cx} {T : Tab} {kw : List (List (Nat × List Str))} {j : Nat} {E0 : XK} {c : Ctx}

/-! ### calls -/
theorem e_call {i : Nat} {es : Es} {x : Str} {xs : List Expr} {p pos : Pos} (f : Fits c X) (g : Good T kw j E0 X) {fn : Fn} (hf : T.fs[i]? = some fn) (hx : fn.nm = x) (hg : glB c.sc x = true) (hd : dbgB x = true) (hp : xs.all plainX = true) (hl : xs.length = es.len)
    (h : PA X xs (semEs T X.K X.mg E0 es)) : PE X (.Call (.Name x p) xs [] pos) (semE T X.K X.mg E0 (.call i es)) := by
  obtain ⟨fa, fd, hm, hk, F, hb⟩ := (g.fs i fn hf).ex
  have hgl : Gl X x := glB_ok (by rw [f.sc]; exact hg)
  rw [hx] at hm
  have go : ∀ {pins : List (Addr × Obj)} {σ : L2.St} {H1 : Hp} {s1 : Shared} {Q : VK} {us : List Value} {vs : List V} {Z ρ1 S1} {as : List A}, Inv X pins σ H1 s1 → Vals vs us → OkS X.K X.mg Z ρ1 S1 H1 → RepAs X.K X.mg (Mu Z ρ1 S1) ρ1 H1 vs as →
      RPost X.K X.mg Z E0 (relA X.K X.mg) ρ1 S1 H1 (callK T i as S1) Q → wpAny (model X.prog X.w) X.A (call (.ref fa) us) (EP X pins σ Q) X.xe s1 := fun {pins σ H1 s1 Q us vs Z ρ1 S1 as} I r ok ra q => by
    unfold callK at q
    rw [hf] at q
    simp only at q
    split at q
    · rename_i hn
      have hu : us.length = fn.ps.length := by rw [← r.length, ra.length, hn]
      have e1 : ∀ {α : Type} (l : List α), l.length = fn.ps.length → argsK fn.ps [] l [] = l := fun l hl => by
        unfold argsK
        rw [hl, List.drop_length]
        simp
      have sp := spM_of (np := fn.ps.length) ok ra hn q
      have bb := hb (fn.ps.length, []) (List.mem_cons_self) s1 us [] hu rfl I.kIn
      exact run_in (p := (fn.ps.length, [])) (vs := vs) (zs := []) (ws := []) g F bb I (by rw [e1 vs (by rw [ra.length, hn]), e1 us hu]; exact r) (by rw [e1 vs (by rw [ra.length, hn])]; exact sp)
    · exact q.elim
  refine ⟨fun pins s σ H Q I q => ?_⟩
  refine wpAny_Call_Name_kw (ld_glob I hgl hm ?_ (dbgB_ok hd).1)
  have q : sem X.K X.mg E0 (relAs X.K X.mg) (denEs T es) σ H fun vs H1 => ∃ Z ρ1 S1 as, OkS X.K X.mg Z ρ1 S1 H1 ∧ RepAs X.K X.mg (Mu Z ρ1 S1) ρ1 H1 vs as ∧ RPost X.K X.mg Z E0 (relA X.K X.mg) ρ1 S1 H1 (callK T i as S1) Q :=
    sem.bind (rel2 := relA X.K X.mg) (Q2 := Q) (k := fun _ as S1 => callK T i as S1) q fun Z ρ1 S1 H1 env a v ok sl r h2 => ⟨Z, ρ1, S1, a, ok, r, h2⟩
  cases xs with
  | nil =>
    refine PySem.W.callWith_K0 I.kIn hk ?_
    obtain ⟨Z, ρ, S, env, ok, sl, q⟩ := q
    cases es with
    | nil =>
      have q2 : ∃ Z ρ1 S1 as, OkS X.K X.mg Z ρ1 S1 H ∧ RepAs X.K X.mg (Mu Z ρ1 S1) ρ1 H [] as ∧ RPost X.K X.mg Z E0 (relA X.K X.mg) ρ1 S1 H (callK T i as S1) Q := q.here (a := []) ok .nil
      obtain ⟨Z, ρ1, S1, as, ok1, ra, q2⟩ := q2
      exact go (us := []) (vs := []) I .nil ok1 ra q2
    | cons e r => exact absurd hl (by simp [Es.len])
  | cons e xs =>
    simp only [List.all_cons, Bool.and_eq_true] at hp
    refine PySem.W.callWith_K (h₀ := X.base) I.ok.mod.kin hk (thn (h.run pos pins s σ H _ I q) fun us s1 ⟨vs, H1, I1, r, Z, ρ1, S1, as, ok1, ra, q2⟩ => ⟨I1.kIn, ?_⟩) (star_cons hp.1) (star_none hp.2)
    exact go I1 r ok1 ra q2

theorem kw_all : ∀ {kws : List Keyword} {ks : List Str} {env : PySem.Env} {pos : Pos}, kwNames kws = some ks →
    (backToKw pos (keywordEach kws env)).all (·.1.isSome) = true ∧ (backToKw pos (keywordEach kws env)).filterMap (·.1) = ks ∧ (backToKw pos (keywordEach kws env)).any (·.1.isNone) = false ∧ ks.length = kws.length
  | [], ks, _, _, h => by
    cases h
    exact ⟨rfl, rfl, rfl, rfl⟩
  | ⟨some x, v, p⟩ :: r, ks, env, pos, h => by
    obtain ⟨m, e1, e2⟩ := Option.map_eq_some_iff.mp (show (kwNames r).map (x :: ·) = some ks from h)
    subst e2
    obtain ⟨i1, i2, i3, i4⟩ := kw_all (env := env) (pos := pos) e1
    refine ⟨?_, ?_, ?_, by rw [List.length_cons, List.length_cons, i4]⟩
    · show (true && (backToKw pos (keywordEach r env)).all (·.1.isSome)) = true
      rw [i1]
      rfl
    · show x :: (backToKw pos (keywordEach r env)).filterMap (·.1) = x :: m
      rw [i2]
    · show (false || (backToKw pos (keywordEach r env)).any (·.1.isNone)) = false
      rw [i3]
      rfl
  | ⟨none, v, p⟩ :: r, ks, _, _, h => by cases h
theorem kwB_ok {ks : List Str} {l : List Keyword} (h : kwB ks l = true) : kwNames l = some ks := by
  unfold kwB at h
  split at h
  · rename_i m e
    have e2 : m = ks := by simpa using h
    rw [e, e2]
  · cases h
theorem e_callk {i : Nat} {es ws : Es} {ks : List Str} {x : Str} {xs : List Expr} {kws : List Keyword} {p pos : Pos} (f : Fits c X) (g : Good T kw j E0 X) {fn : Fn} (hf : T.fs[i]? = some fn) (hx : fn.nm = x) (hg : glB c.sc x = true) (hd : dbgB x = true) (hp : xs.all plainX = true) (hl : xs.length = es.len)
    (hk : kwNames kws = some ks) (hin : (es.len, ks) ∈ kw.getD i []) (h : PA X xs (semEs T X.K X.mg E0 es)) (h2 : PK X kws (semEs T X.K X.mg E0 ws)) (hwl : kws.length = ws.len) : PE X (.Call (.Name x p) xs kws pos) (semE T X.K X.mg E0 (.callk i es ks ws)) := by
  obtain ⟨fa, fd, hm, hkp, F, hb⟩ := (g.fs i fn hf).ex
  have hgl : Gl X x := glB_ok (by rw [f.sc]; exact hg)
  rw [hx] at hm
  refine ⟨fun pins s σ H Q I q => ?_⟩
  have go : ∀ {H1 : Hp} {s1 : Shared} {us vs' : List Value} {vs zs : List V} {Z ρ1 S1} {as bs : List A}, Inv X pins σ H1 s1 → Vals vs us → Vals zs vs' → OkS X.K X.mg Z ρ1 S1 H1 → RepAs X.K X.mg (Mu Z ρ1 S1) ρ1 H1 vs as → RepAs X.K X.mg (Mu Z ρ1 S1) ρ1 H1 zs bs →
      RPost X.K X.mg Z E0 (relA X.K X.mg) ρ1 S1 H1 (callkK T i es.len ks as bs S1) Q → wpAny (model X.prog X.w) X.A (call (.ref fa) us (ks.zip vs')) (EP X pins σ Q) X.xe s1 := fun {H1 s1 us vs' vs zs Z ρ1 S1 as bs} I r r' ok ra rb q => by
    unfold callkK at q
    rw [hf] at q
    simp only at q
    split at q
    · rename_i hn
      obtain ⟨n1, n2, n3⟩ := hn
      have rr : RepAs X.K X.mg (Mu Z ρ1 S1) ρ1 H1 (argsK fn.ps ks vs zs) (argsK fn.ps ks as bs) := by
        unfold argsK
        refine ra.append ?_
        rw [ra.length]
        generalize fn.ps.drop as.length = l
        have look : ∀ (x : Str) {ks : List Str} {vs : List V} {us : List A}, RepAs X.K X.mg (Mu Z ρ1 S1) ρ1 H1 vs us → (∀ v, (ks.zip vs).lookup x = some v → ∃ u, (ks.zip us).lookup x = some u ∧ RepA X.K X.mg (Mu Z ρ1 S1) ρ1 H1 v u) ∧ ((ks.zip vs).lookup x = none → (ks.zip us).lookup x = none) := by
          intro x ks vs us h
          induction h generalizing ks with
          | nil => cases ks <;> exact ⟨fun v h => by simp at h, fun _ => by simp⟩
          | @cons v u vs us r t ih =>
            cases ks with
            | nil => exact ⟨fun v h => by simp at h, fun _ => by simp⟩
            | cons k ks =>
              have ih := ih (ks := ks)
              by_cases e : x == k
              · refine ⟨fun v h => ?_, fun h => ?_⟩
                · rw [List.zip_cons_cons, List.lookup_cons, e] at h
                  rw [List.zip_cons_cons, List.lookup_cons, e]
                  cases h
                  exact ⟨u, rfl, r⟩
                · rw [List.zip_cons_cons, List.lookup_cons, e] at h
                  cases h
              · have e' : (x == k) = false := by simpa using e
                refine ⟨fun v h => ?_, fun h => ?_⟩
                · rw [List.zip_cons_cons, List.lookup_cons, e'] at h
                  rw [List.zip_cons_cons, List.lookup_cons, e']
                  exact ih.1 v h
                · rw [List.zip_cons_cons, List.lookup_cons, e'] at h
                  rw [List.zip_cons_cons, List.lookup_cons, e']
                  exact ih.2 h
        induction l with
        | nil => exact .nil
        | cons p l ih =>
          have q := look p (ks := ks) rb
          rw [List.filterMap_cons, List.filterMap_cons]
          cases e : (ks.zip zs).lookup p with
          | none =>
            rw [q.2 e]
            exact ih
          | some v =>
            obtain ⟨u, e1, r3⟩ := q.1 v e
            rw [e1]
            exact .cons r3 ih
      have sp := spM_of (np := fn.ps.length) ok rr n3 q
      have bb := hb (es.len, ks) (List.mem_cons_of_mem _ hin) s1 us vs' (by rw [← r.length, ra.length, n1]) (by rw [← r'.length, rb.length, n2]) I.kIn
      exact run_in (p := (es.len, ks)) g F bb I (Vals.argsK _ _ r r') sp
    · exact q.elim
  refine wpAny_Call_Name_kw (ld_glob I hgl hm ?_ (dbgB_ok hd).1)
  obtain ⟨k1, k2, k3, k4⟩ := kw_all (env := X.env) (pos := pos) hk
  have q : sem X.K X.mg E0 (relAs X.K X.mg) (denEs T es) σ H fun vs H1 => sem X.K X.mg E0 (relAs X.K X.mg) (denEs T ws) σ H1 fun zs H2 =>
      ∃ Z ρ1 S1 as bs, OkS X.K X.mg Z ρ1 S1 H2 ∧ RepAs X.K X.mg (Mu Z ρ1 S1) ρ1 H2 vs as ∧ RepAs X.K X.mg (Mu Z ρ1 S1) ρ1 H2 zs bs ∧ RPost X.K X.mg Z E0 (relA X.K X.mg) ρ1 S1 H2 (callkK T i es.len ks as bs S1) Q :=
    sem.bind (rel2 := relA X.K X.mg) (Q2 := Q) (k := fun env as S1 => (denEs T ws env S1).bind fun bs S2 => callkK T i es.len ks as bs S2) q fun Z ρ1 S1 H1 env a v ok sl r h2 =>
      ⟨Z, ρ1, S1, env, ok, sl, h2.bind fun b S2 w ρ2 H2 e ok2 r2 h3 => ⟨Z, ρ2, S2, a, b, ok2, RepAs.ext e r, r2, h3⟩⟩
  cases xs with
  | nil =>
    cases es with
    | nil =>
      obtain ⟨Z, ρ, S, env, ok, sl, q⟩ := q
      have q := q.here (a := []) ok .nil
      refine PySem.W.callWith_KW0 (h₀ := X.base) I.ok.mod.kin hkp k1 (thn (h2.run pos pins s σ H _ I q) fun us s2 ⟨zs, H2, I2, rz, Z, ρ1, S1, as, bs, ok1, ra, rb, q2⟩ => ⟨I2.kIn, ?_⟩) (by rw [k3]; rfl)
      rw [k2]
      exact go I2 .nil rz ok1 ra rb q2
    | cons e r => exact absurd hl (by simp [Es.len])
  | cons e xs =>
    have hp2 := hp
    simp only [List.all_cons, Bool.and_eq_true] at hp
    refine PySem.W.callWith_KW (h₀ := X.base) I.ok.mod.kin hkp k1 (thn (h.run pos pins s σ H _ I q) fun us s1 ⟨vs, H1, I1, r, q1⟩ => ?_) (by rw [k3, star_none hp2]; rfl) (star_cons hp.1)
    refine thn (h2.run pos pins s1 σ H1 _ I1 q1) fun ws' s2 ⟨zs, H2, I2, rz, Z, ρ1, S1, as, bs, ok1, ra, rb, q2⟩ => ⟨I2.kIn, ?_⟩
    rw [k2]
    exact go I2 r rz ok1 ra rb q2

/-! ### comprehensions -/
/-- Z and one thing more -/
def plusZ (Z : Addr → Prop) (D : Addr) (b : Addr) : Prop := Z b ∨ b = D
theorem comp_read {isCell : Bool} {elt : E} {t : Tn} {own : List (Str × Nat)} {it : It} {cond : Oe} {σ : L2.St} {H : Hp} {Q : VK}
    (hix : ∀ i ∈ t.ixs, i ∈ own.map (·.2)) (q : semE T X.K X.mg E0 (.comp isCell elt t own it cond) σ H Q) :
    tLc (semI T X.K X.mg E0 it) (gTn X.K t) (sem X.K X.mg (fun _ _ _ => False) relB fun env S => (denT T cond env S).bind boolD) (semE T X.K X.mg (fun _ _ _ => False) elt) (own.map (·.2)) σ H Q := by
  refine sem.bind (rel2 := relA X.K X.mg) (Q2 := Q) (k := fun env xs S1 => (compL (fun x => bindT t x (wipeE env (own.map Prod.snd))) (fun e S => denT T cond e S) (fun e S => den T elt e S) xs [] S1).bind fun as S2 => compK isCell as S2) q
    fun Z ρ1 S1 H1 env l J ok sl W h2 => ?_
  intro D hD
  have W : Walks X.K X.mg (Mu Z ρ1 S1) ρ1 H1 J l := W
  generalize hvs : own.map Prod.snd = ows at h2 hix
  let Z' := plusZ Z D
  -- what holds ahead of turn i
  let P : Nat → Hp → Prop := fun i H' => ∃ ρ' S' acc vs, Ext Z ρ1 S1 H1 ρ' S' H' ∧ OkS X.K X.mg Z' ρ' S' H' ∧ H' D = some (.lst vs) ∧ RepAs X.K X.mg (Mu Z' ρ' S') ρ' H' vs acc ∧
    RPost X.K X.mg Z E0 (relA X.K X.mg) ρ1 S1 H1 ((compL (fun x => bindT t x (wipeE env ows)) (fun e S => denT T cond e S) (fun e S => den T elt e S) (l.drop i) acc S').bind fun as S2 => compK isCell as S2) Q
  have zD : ¬ Z D := fun z => ok.trk D (.inl z) hD
  have rD : D ∉ ρ1 := fun z => ok.trk D (.inr z) hD
  have subZ : ∀ {ρ' S'} (b : Addr), Mu Z ρ' S' b → Mu Z' ρ' S' b := fun b h => h.elim (fun z => .inl (.inl z)) .inr
  -- from the plus state to the plain one; from the start to the plus state
  have plain : ∀ {ρ' S' H'}, OkS X.K X.mg Z' ρ' S' H' → OkS X.K X.mg Z ρ' S' H' := fun {ρ' S' H'} o => ⟨o.len, o.nd, fun k c a e1 e2 => (o.cells k c a e1 e2).keep (ρ1 := ρ') (Keep.same (H := H') subZ) ⟨[], by simp⟩ rfl, fun b h => o.trk b (h.elim (fun z => .inl (.inl z)) .inr), fun b hb z => o.dis b hb (.inl z)⟩
  have kp : ∀ {ρ' S' H'}, Ext Z ρ1 S1 H1 ρ' S' H' → Keep (Mu Z ρ1 S1) H1 (Mu Z' ρ' S') H' := fun {ρ' S' H'} e => ⟨fun b o hb hn => ⟨e.keep b o hb fun m => hn (.inr m), fun m => by
    rcases m with (m | m) | m
    · exact hn (.inl m)
    · rw [m, hD] at hb
      cases hb
    · rcases e.new b m with m | m
      · exact hn (.inr m)
      · rw [m] at hb
        cases hb⟩⟩
  refine ⟨fun i m H' => m = l.length - i ∧ i ≤ l.length ∧ P i H', ⟨l.length, by simp, Nat.zero_le _, ρ1, S1, [], [], Ext.laid hD, ?_, upd_same, .nil, h2⟩, ?_⟩
  · have o1 := ok.laid (o := .lst []) hD
    refine ⟨o1.len, o1.nd, fun k c a e1 e2 => ?_, fun b h => ?_, fun b hb z => ?_⟩
    · have hap : a ≠ D := fun z => rD (z ▸ List.mem_of_getElem? e2)
      exact (ok.cells k c a e1 e2).keep (ρ1 := ρ1) (kp (Ext.laid hD)) ⟨[], by simp⟩ (upd_ne hap)
    · rcases h with (h | h) | h
      · exact o1.trk b (.inl h)
      · rw [h, upd_same]
        exact fun z => nomatch z
      · exact o1.trk b (.inr h)
    · rcases z with z | z
      · exact ok.dis b hb z
      · exact rD (z ▸ hb)
  · rintro i m H' ⟨rfl, hi, ρ', S', acc, vs, ex, o, hDl, ra, hr⟩
    have oz := plain o
    by_cases hlt : i < l.length
    · -- one more turn
      refine .inr ⟨W.go _ H' i (kp ex) hlt, P (i + 1), fun H'' p => ⟨l.length - (i + 1), by omega, rfl, by omega, p⟩, fun x H3 y => ?_⟩
      obtain ⟨a, ea, y⟩ := W.yld _ ρ' H' i x H3 (kp ex) ex.pre hlt y
      -- the state behind the item
      have st : Ext Z' ρ' S' H' ρ' S' H3 ∧ OkS X.K X.mg Z' ρ' S' H3 ∧ RepA X.K X.mg (Mu Z' ρ' S') ρ' H3 x a := by
        rcases y with ⟨rfl, y⟩ | ⟨Ta, u, h1, rfl, y⟩
        · exact ⟨Ext.refl, o, y⟩
        · exact ⟨Ext.laid h1, o.laid h1, y (o.fresh h1)⟩
      obtain ⟨e3, o3, rx⟩ := st
      have hdrop : l.drop i = a :: l.drop (i + 1) := by
        rw [List.drop_eq_getElem_cons hlt]
        have := List.getElem?_eq_getElem hlt
        rw [ea] at this
        cases this
        rfl
      have eD : ∀ {ρ4 S4 H4 ρ5 S5 H5}, OkS X.K X.mg Z' ρ4 S4 H4 → Ext Z' ρ4 S4 H4 ρ5 S5 H5 → ∀ {u}, H4 D = some u → H5 D = some u := fun {ρ4 S4 H4 ρ5 S5 H5} o e {u} h => e.keep D u h fun ⟨_, _, _, _, z⟩ => o.dis D (List.mem_of_getElem? z) (.inr rfl)
      have ex3 : Ext Z ρ1 S1 H1 ρ' S' H3 := ex.trans ⟨e3.keep, e3.pre2, e3.new, e3.trk⟩
      rw [hdrop] at hr
      unfold compL at hr
      simp only at hr
      cases hbd : bindT t a (wipeE env ows) with
      | none =>
        rw [hbd] at hr
        exact hr.elim
      | some env1 =>
        rw [hbd] at hr
        simp only at hr
        have sl3 : Slots X.K X.mg (Mu Z' ρ' S') ρ' H3 (L2.wipe σ ows) (wipeE env ows) := Slots.wipe ⟨sl.1, fun i x e => let ⟨v, e2, r⟩ := sl.2 i x e; ⟨v, e2, RepA.keep (kp ex3) ex3.pre r⟩⟩ ows
        refine tn_r X.K X.mg t _ ρ' H3 _ _ env1 a x _ sl3 rx hbd fun σ' s' w' => ⟨(w' ows hix).trans (wipe_wipe σ ows), ?_⟩
        -- the test
        refine ⟨Z', ρ', S', env1, o3, s', ?_⟩
        show RPost X.K X.mg Z' _ relB ρ' S' H3 ((denT T cond env1 S').bind boolD) _
        cases ht : denT T cond env1 S' with
        | no =>
          rw [ht] at hr
          exact hr.elim
        | ex c x S2 =>
          rw [ht] at hr
          exact hr.elim
        | ok k S2 =>
          rw [ht] at hr
          rw [R.bind_ok]
          cases k with
          | c n => exact hr.elim
          | d w =>
            cases w with
            | bl b =>
              intro b' ρ4 H4 e4 o4 rb
              have rb : b' = b := rb
              subst rb
              have ex4 : Ext Z ρ1 S1 H1 ρ4 S2 H4 := ex3.trans ⟨e4.keep, e4.pre2, e4.new, e4.trk⟩
              have hD4 := eD o3 e4 (eD o e3 hDl)
              have ra4 : RepAs X.K X.mg (Mu Z' ρ4 S2) ρ4 H4 vs acc := RepAs.ext (e3.trans e4) ra
              cases b' with
              | false =>
                rw [if_neg Bool.false_ne_true]
                exact ⟨ρ4, S2, acc, vs, ex4, o4, hD4, ra4, hr⟩
              | true =>
                rw [if_pos rfl]
                simp only at hr
                -- the element
                refine ⟨Z', ρ4, S2, env1, o4, s'.ext e4, ?_⟩
                show RPost X.K X.mg Z' _ (relA X.K X.mg) ρ4 S2 H4 (den T elt env1 S2) _
                cases he2 : den T elt env1 S2 with
                | no =>
                  rw [he2] at hr
                  exact hr.elim
                | ex c x S3 =>
                  rw [he2] at hr
                  exact hr.elim
                | ok y2 S3 =>
                  rw [he2] at hr
                  simp only at hr
                  intro v ρ5 H5 e5 o5 rv
                  have hD5 := eD o4 e5 hD4
                  have ra5 : RepAs X.K X.mg (Mu Z' ρ5 S3) ρ5 H5 vs acc := RepAs.ext e5 ra4
                  split at hr
                  · rename_i hlen
                    refine ⟨vs, hD5, by rw [ra5.length]; exact lim_lt hlen, ?_⟩
                    have kD : Keep (Mu Z' ρ5 S3) H5 (Mu Z' ρ5 S3) (upd H5 D (.lst (vs ++ [v]))) := ⟨fun b o hb hn => ⟨by
                      rw [upd_ne fun z => hn (.inl (.inr z))]
                      exact hb, hn⟩⟩
                    have nD5 : D ∉ ρ5 := fun z => o5.dis D z (.inr rfl)
                    refine ⟨ρ5, S3, acc ++ [y2], vs ++ [v], ?_, ?_, upd_same, ?_, hr⟩
                    · have ex5 : Ext Z ρ1 S1 H1 ρ5 S3 H5 := ex4.trans ⟨e5.keep, e5.pre2, e5.new, e5.trk⟩
                      refine ⟨fun b u hb hn => ?_, ex5.pre2, ex5.new, fun b hb => ?_⟩
                      · rw [upd_ne fun z => by rw [z, hD] at hb; cases hb]
                        exact ex5.keep b u hb hn
                      · by_cases z : b = D
                        · rw [z]
                          exact hD
                        · rw [upd_ne z] at hb
                          exact ex5.trk b hb
                    · refine ⟨o5.len, o5.nd, fun k c a e1 e2 => ?_, fun b h => ?_, o5.dis⟩
                      · have hap : a ≠ D := fun z => nD5 (z ▸ List.mem_of_getElem? e2)
                        exact (o5.cells k c a e1 e2).keep (ρ1 := ρ5) kD ⟨[], by simp⟩ (upd_ne hap)
                      · by_cases z : b = D
                        · rw [z, upd_same]
                          exact fun q => nomatch q
                        · rw [upd_ne z]
                          exact o5.trk b h
                    · exact RepAs.keep (ρ1 := ρ5) kD ⟨[], by simp⟩ (ra5.append (.cons rv .nil))
                  · exact hr.elim
            | _ => exact hr.elim
    · have ei : i = l.length := by omega
      subst ei
      refine .inl ⟨W.stop _ H' (kp ex), ?_⟩
      rw [List.drop_length] at hr
      have hr : RPost X.K X.mg Z E0 (relA X.K X.mg) ρ1 S1 H1 (compK isCell acc S') Q := hr
      have nrD : D ∉ ρ' := fun z => o.dis D z (.inr rfl)
      have nD : ¬ Mu Z ρ' S' D := fun m => by
        rcases m with m | ⟨_, _, _, _, e⟩
        · exact zD m
        · exact nrD (List.mem_of_getElem? e)
      have ra2 : RepAs X.K X.mg (Mu Z ρ' S') ρ' H' vs acc := RepAs.keep (ρ1 := ρ') (Keep.same (H := H') subZ) ⟨[], by simp⟩ ra
      unfold compK at hr
      split at hr
      · -- a new cell
        have lv : ∀ b, live (ρ' ++ [D]) (S' ++ [.lst acc]) b → live ρ' S' b ∨ b = D := fun b ⟨k, c, h1, h2, h3⟩ => by
          by_cases hk : k < S'.length
          · rw [List.getElem?_append_left hk] at h1
            rw [List.getElem?_append_left (by rw [o.len]; exact hk)] at h3
            exact .inl ⟨k, c, h1, h2, h3⟩
          · rw [List.getElem?_append_right (by rw [o.len]; omega)] at h3
            exact .inr (List.mem_singleton.mp (List.mem_of_getElem? h3))
        have kC : Keep (Mu Z' ρ' S') H' (Mu Z (ρ' ++ [D]) (S' ++ [.lst acc])) H' := Keep.same fun b m => by
          rcases m with m | m
          · exact .inl (.inl m)
          · rcases lv b m with m | m
            · exact .inr m
            · exact .inl (.inr m)
        obtain ⟨more, hm, hnew⟩ := ex.pre2
        refine hr (.ref D) (ρ' ++ [D]) H' ⟨ex.keep, ⟨more ++ [D], by rw [hm, List.append_assoc], fun b hb => ?_⟩, fun b h => ?_, ex.trk⟩ ⟨by rw [List.length_append, List.length_append, o.len] <;> rfl, ?_, fun k c a e1 e2 => ?_, fun b h => ?_, fun b h z => ?_⟩ ⟨D, ?_, rfl⟩
        · rcases List.mem_append.mp hb with hb | hb
          · exact hnew b hb
          · rw [List.mem_singleton.mp hb]
            exact hD
        · rcases lv b h with h | h
          · exact ex.new b h
          · exact .inr (h ▸ hD)
        · refine List.nodup_append.mpr ⟨o.nd, by simp, fun a ha b hb z => ?_⟩
          rw [List.mem_singleton.mp hb] at z
          exact nrD (z ▸ ha)
        · by_cases hk : k < S'.length
          · rw [List.getElem?_append_left hk] at e1
            rw [List.getElem?_append_left (by rw [o.len]; exact hk)] at e2
            exact (o.cells k c a e1 e2).keep (ρ1 := ρ' ++ [D]) kC ⟨[D], rfl⟩ rfl
          · rw [List.getElem?_append_right (by omega)] at e1
            rw [List.getElem?_append_right (by rw [o.len]; omega)] at e2
            have hm := List.mem_singleton.mp (List.mem_of_getElem? e2)
            have hc := List.mem_singleton.mp (List.mem_of_getElem? e1)
            subst hm hc
            exact ⟨vs, hDl, RepAs.keep kC ⟨[_], rfl⟩ ra⟩
        · rcases h with h | h
          · exact o.trk b (.inl (.inl h))
          · rcases List.mem_append.mp h with h | h
            · exact o.trk b (.inr h)
            · rw [List.mem_singleton.mp h, hDl]
              exact fun q => nomatch q
        · rcases List.mem_append.mp h with h | h
          · exact o.dis b h (.inl z)
          · rw [List.mem_singleton.mp h] at z
            exact zD z
        · rw [← o.len, List.getElem?_append_right (Nat.le_refl _), Nat.sub_self]
          rfl
      · split at hr
        · rename_i ds ed
          exact hr (.ref D) ρ' H' ex oz (.lst hDl nD (RepAs.data ra2 ed))
        · exact hr.elim
theorem e_comp {isCell : Bool} {elt : E} {t : Tn} {own : List (Str × Nat)} {it : It} {cond : Oe} {x tg iter : Expr} {ifs : List Expr} {scope : Scope} {pos : Pos} (f : Fits c X) (g : Good T kw j E0 X) (hb : blkC c.N c.sc scope own = true)
    (hix : ∀ i ∈ t.ixs, i ∈ own.map (·.2)) (hp : plainX iter = true) (ht : chkTn (c.blk scope) t tg = true) (hi : PI X tg iter (semI T X.K X.mg E0 it))
    (hc : ∀ (s : Shared) (H : Hp) (C : Addr) (cl : List (Str × Addr)) (fp : List Addr), PTs (X.blk s H scope (compEnvC scope cl C X.env) fp) ifs (sem X.K X.mg (fun _ _ _ => False) relB fun env S => (denT T cond env S).bind boolD))
    (he : ∀ (s : Shared) (H : Hp) (C : Addr) (cl : List (Str × Addr)) (fp : List Addr), PE (X.blk s H scope (compEnvC scope cl C X.env) fp) x (semE T X.K X.mg (fun _ _ _ => False) elt)) :
    PE X (.ListComp x [⟨tg, iter, ifs, 0⟩] scope pos) (semE T X.K X.mg E0 (.comp isCell elt t own it cond)) :=
  (pe_lc (own := own) (g := gTn X.K t) g.calm g.nd hi (blkOk_by (by rw [f.N, f.sc]; exact hb)) (fun s H C cl fp => tn_pg (f.blk s H scope C cl fp) g.calm g.nd t tg ht) hc he (folded_none hp)).bnw fun σ H Q q => comp_read hix q
end
end Bn
/-! Bn, part 10: every expression that the check lets does what its term means. -/
namespace Bn
open PySem PySem.Spec PyProof.Rows L2
section
variable {X : Cx} {T : Tab} {kw : List (List (Nat × List Str))} {j : Nat} {E0 : XK} {c : Ctx}
theorem pt_ifx {d a b : Expr} {td ta tb : TT} {pos : Pos} (hd : PT X d td) (ha : PT X a ta) (hb : PT X b tb) : PT X (.IfExp d a b pos) (fun σ H Q => td σ H fun k H1 => if k = true then ta σ H1 Q else tb σ H1 Q) := by
  refine ⟨fun pins s σ H Q I h => ?_⟩
  show wpAny _ _ (isTrue d X.env (eval d X.env) >>= fun k => if k = true then isTrue a X.env (eval a X.env) else isTrue b X.env (eval b X.env)) _ _ _
  refine wpAny_bind (thn (hd.run pins s σ H _ I h) fun k s1 ⟨H1, I1, q1⟩ => ?_)
  cases k with
  | true =>
    rw [if_pos rfl] at q1 ⊢
    exact ha.run pins s1 σ H1 Q I1 q1
  | false =>
    rw [if_neg Bool.false_ne_true] at q1 ⊢
    exact hb.run pins s1 σ H1 Q I1 q1
theorem t_ite {d a b : E} {x y z : Expr} {pos : Pos} (hd : PT X x (semT T X.K X.mg E0 d)) (ha : PT X y (semT T X.K X.mg E0 a)) (hb : PT X z (semT T X.K X.mg E0 b)) : PT X (.IfExp x y z pos) (semT T X.K X.mg E0 (.ite d a b)) := by
  refine (pt_ifx hd ha hb).bnw fun σ H Q q => ?_
  refine sem_ite (rel := relB) (k1 := fun env S => (den T a env S).bind boolD) (k2 := fun env S => (den T b env S).bind boolD) ?_
  obtain ⟨Z, ρ, S, env, ok, sl, q⟩ := q
  refine ⟨Z, ρ, S, env, ok, sl, ?_⟩
  have q : RPost X.K X.mg Z E0 relB ρ S H (((den T d env S).bind fun x S1 => ifK x (den T a env S1) (den T b env S1)).bind boolD) Q := q
  show RPost X.K X.mg Z E0 relB ρ S H ((den T d env S).bind fun x S1 => ifK x ((den T a env S1).bind boolD) ((den T b env S1).bind boolD)) Q
  cases e : den T d env S with
  | no =>
    rw [e] at q
    exact q
  | ex c x S1 =>
    rw [e] at q
    exact q
  | ok v S1 =>
    rw [e, R.bind_ok] at q
    rw [R.bind_ok]
    unfold ifK at q ⊢
    split at q
    · exact q
    · exact q
    · exact q
theorem sem.mono {K : PySem.W.Frag} {mg : Str → Option Value} {α β : Type} {rel : Rel α β} {f : Env → List Cell → R α} {σ : L2.St} {H : Hp} {Q Q' : β → Hp → Prop} (h : sem K mg E0 rel f σ H Q) (hq : ∀ v H, Q v H → Q' v H) : sem K mg E0 rel f σ H Q' := by
  obtain ⟨Z, ρ, S, env, ok, sl, q⟩ := h
  exact ⟨Z, ρ, S, env, ok, sl, q.mono hq⟩
theorem chain_read {o o' : CmpOp} {a b d : E} {σ : L2.St} {H : Hp} {Q : VK} (q : semE T X.K X.mg E0 (.chain o o' a b d) σ H Q) : tChain (rBin X.K X.mg E0 (cmpD o)) (rBin X.K X.mg E0 (cmpD o')) (semE T X.K X.mg E0 a) (semE T X.K X.mg E0 b) (semE T X.K X.mg E0 d) σ H Q := by
  refine sem.bind (rel2 := relA X.K X.mg) (k := fun env x S1 => (den T b env S1).bind fun y S2 => (cmpD o x y S2).bind fun k S3 => ifK k ((den T d env S3).bind fun z S4 => cmpD o' y z S4) (.ok (.d (.bl false)) S3)) q fun Z ρ1 S1 H1 env a v ok sl r h2 => ?_
  refine ⟨Z, ρ1, S1, env, ok, sl, h2.bind fun b S2 w ρ2 H2 e ok2 r2 h3 => ?_⟩
  refine ⟨Z, ρ2, S2, a, b, ok2, RepA.ext e r, r2, h3.bind fun k S3 u ρ3 H3 e3 ok3 r3 h4 => ?_⟩
  unfold ifK at h4
  split at h4
  · cases r3
    refine ⟨true, rfl, ?_⟩
    rw [if_pos rfl]
    refine ⟨Z, ρ3, S3, env, ok3, sl.ext (e.trans e3), h4.bind fun c S4 t ρ4 H4 e4 ok4 r4 h5 => ?_⟩
    exact ⟨Z, ρ4, S4, b, c, ok4, RepA.ext (e3.trans e4) r2, r4, h5⟩
  · cases r3
    refine ⟨false, rfl, ?_⟩
    rw [if_neg Bool.false_ne_true]
    exact post_d h4 ok3 (.bl false)
  · exact h4.elim
theorem args_read {e : E} {r : Es} {σ : L2.St} {H : Hp} {Q : List V → Hp → Prop} (q : semEs T X.K X.mg E0 (.cons e r) σ H Q) : tCons (semE T X.K X.mg E0 e) (semEs T X.K X.mg E0 r) σ H Q :=
  sem.bind (rel2 := relAs X.K X.mg) (k := fun env x S1 => (denEs T r env S1).bind fun xs S2 => .ok (x :: xs) S2) q fun Z ρ1 S1 H1 env a v ok sl r h2 =>
    ⟨Z, ρ1, S1, env, ok, sl, h2.bind fun b S2 w ρ2 H2 e ok2 r2 h3 => h3.here (a := _ :: _) ok2 (.cons (RepA.ext e r) r2)⟩
/-- the readings of and, or -/
theorem b_cons {isAnd : Bool} {op : BoolOp} {e e2 : E} {r : Es} {x x2 : Expr} {xs : List Expr} {pos : Pos} (ho : op = if isAnd = true then .And else .Or) (h1 : PE X x (semE T X.K X.mg E0 e)) (h2 : PT X x (semT T X.K X.mg E0 e))
    (h3 : PE X (.BoolOp op (x2 :: xs) pos) (sem X.K X.mg E0 (relA X.K X.mg) (denB T isAnd (.cons e2 r)))) (h4 : PW X (.BoolOp op (x2 :: xs) pos) (sem X.K X.mg E0 relB fun env S => (denB T isAnd (.cons e2 r) env S).bind boolD)) :
    PE X (.BoolOp op (x :: x2 :: xs) pos) (sem X.K X.mg E0 (relA X.K X.mg) (denB T isAnd (.cons e (.cons e2 r)))) ∧
    PW X (.BoolOp op (x :: x2 :: xs) pos) (sem X.K X.mg E0 relB fun env S => (denB T isAnd (.cons e (.cons e2 r)) env S).bind boolD) := by
  -- the tail behind the first value
  have tl : ∀ {σ H Q}, sem X.K X.mg E0 (relA X.K X.mg) (denB T isAnd (.cons e (.cons e2 r))) σ H Q → semE T X.K X.mg E0 e σ H fun x H1 => ∃ k, x = .bl k ∧ if k = isAnd then sem X.K X.mg E0 (relA X.K X.mg) (denB T isAnd (.cons e2 r)) σ H1 Q else Q (.bl k) H1 := fun {σ H Q} q =>
    sem.bind (rel2 := relA X.K X.mg) (Q2 := Q) (k := fun env x S1 => bopK isAnd x S1 (denB T isAnd (.cons e2 r) env S1)) q fun Z ρ1 S1 H1 env a v ok sl r h2 => by
      unfold bopK at h2
      split at h2
      · rename_i k
        cases r
        refine ⟨k, rfl, ?_⟩
        split at h2
        · rename_i hk
          rw [if_pos hk]
          exact ⟨Z, ρ1, S1, env, ok, sl, h2⟩
        · rename_i hk
          rw [if_neg hk]
          exact post_d h2 ok (.bl k)
      · exact h2.elim
  have tl2 : ∀ {σ H} {Q : Bool → Hp → Prop}, sem X.K X.mg E0 relB (fun env S => (denB T isAnd (.cons e (.cons e2 r)) env S).bind boolD) σ H Q → semT T X.K X.mg E0 e σ H fun k H1 => if k = isAnd then sem X.K X.mg E0 relB (fun env S => (denB T isAnd (.cons e2 r) env S).bind boolD) σ H1 Q else Q k H1 := fun {σ H Q} q => by
    obtain ⟨Z, ρ, S, env, ok, sl, q⟩ := q
    refine ⟨Z, ρ, S, env, ok, sl, ?_⟩
    have q : RPost X.K X.mg Z E0 relB ρ S H (((den T e env S).bind fun x S1 => bopK isAnd x S1 (denB T isAnd (.cons e2 r) env S1)).bind boolD) Q := q
    show RPost X.K X.mg Z E0 relB ρ S H ((den T e env S).bind boolD) _
    cases he : den T e env S with
    | no =>
      rw [he] at q
      exact q
    | ex c x S1 =>
      rw [he] at q
      exact q
    | ok a S1 =>
      rw [he, R.bind_ok] at q
      rw [R.bind_ok]
      have go : ∀ b : Bool, a = .d (.bl b) → RPost X.K X.mg Z E0 relB ρ S H (boolD a S1) fun k H1 => if k = isAnd then sem X.K X.mg E0 relB (fun env S => (denB T isAnd (.cons e2 r) env S).bind boolD) σ H1 Q else Q k H1 := fun b ea => by
        subst ea
        intro w ρ' H' e' o' r'
        have r' : w = b := r'
        subst r'
        have q : RPost X.K X.mg Z E0 relB ρ S H ((if w = isAnd then denB T isAnd (.cons e2 r) env S1 else .ok (.d (.bl w)) S1).bind boolD) Q := q
        by_cases hk : w = isAnd
        · rw [if_pos hk] at q ⊢
          exact ⟨Z, ρ', S1, env, o', sl.ext e', RPost.later e' q⟩
        · rw [if_neg hk] at q ⊢
          exact q w ρ' H' e' o' rfl
      cases a with
      | c n => exact q.elim
      | d x =>
        cases x with
        | bl b => exact go b rfl
        | _ => exact q.elim
  cases isAnd with
  | true =>
    subst ho
    refine ⟨(pe_and h1 h3).bnw fun σ H Q q => sem.mono (tl q) fun v H1 ⟨k, e, q⟩ => ⟨k, e, ?_⟩, (pw_and h2 h4).bnw fun σ H Q q => sem.mono (tl2 q) fun k H1 q => ?_⟩
    · cases k with
      | true => exact q
      | false => exact q
    · cases k with
      | true => exact q
      | false => exact q
  | false =>
    subst ho
    refine ⟨(pe_or h1 h3).bnw fun σ H Q q => sem.mono (tl q) fun v H1 ⟨k, e, q⟩ => ⟨k, e, ?_⟩, (pw_or h2 h4).bnw fun σ H Q q => sem.mono (tl2 q) fun k H1 q => ?_⟩
    · cases k with
      | true => exact q
      | false => exact q
    · cases k with
      | true => exact q
      | false => exact q
theorem never_T {e : Expr} {f : Env → List Cell → R A} (h : ∀ env S, f env S = .no) : PW X e (sem X.K X.mg E0 relB fun env S => (f env S).bind boolD) := ⟨fun wh pins s σ H Q I ⟨Z, ρ, S, env, ok, sl, q⟩ => by
  simp only [h] at q
  exact q.elim⟩
theorem boolOp_eq {isAnd : Bool} {op : BoolOp} (h : (match op with
    | .And => isAnd
    | .Or => !isAnd) = true) : op = if isAnd = true then .And else .Or := by
  cases op <;> cases isAnd <;> first | rfl | (exact nomatch h)
end

section
variable {X : Cx} {tg : Expr}
/-- a walk through a list or a tuple -/
def iAny (K : PySem.W.Frag) (tl : TE) : TI := fun σ H R => tl σ H fun x H1 => ∃ a, x = .ref a ∧ (((∃ xs, SqL K H1 a xs) ∧ R (Itl K a) H1) ∨ ((∃ xs, SqT K H1 a xs) ∧ R (Itt K a) H1))
theorem pi_any {l : Expr} {tl : TE} (hl : PE X l tl) : PI X tg l (iAny X.K tl) := by
  refine ⟨fun pins s σ H R I h => thn (hl.run pins s σ H _ I h) fun v s1 ⟨x, H1, I1, r1, q1⟩ => ?_⟩
  obtain ⟨a, rfl, q1⟩ := q1
  cases r1
  have nw : ∀ b ∈ [s1.heap.objs.size], FpOk X pins H1 b := fun b hb => by
    obtain rfl : b = s1.heap.objs.size := by simpa using hb
    exact I1.fpOk (Nat.le_refl _) (I1.hok.fresh (Nat.le_refl _))
  rcases q1 with ⟨⟨xs, hq⟩, q⟩ | ⟨⟨xs, hq⟩, q⟩
  · obtain ⟨its, _, p, _⟩ := I1.list hq
    exact wpAny_pyIter_list p.isList ⟨s1.heap.objs.size, [s1.heap.objs.size], _, _, H1, rfl, I1.kept (t' := s1.toks) fun b o e => Heap.get?_push_of_some _ e, turn_list a _, ⟨_, Heap.get?_push_size _ rfl, rfl, rfl⟩, nw, q⟩
  · obtain ⟨its, _, p, _⟩ := I1.tuple hq
    exact wpAny_pyIter_tuple (show s1.heap.IsTuple a its.toArray from p) ⟨s1.heap.objs.size, [s1.heap.objs.size], _, _, H1, rfl, I1.kept (t' := s1.toks) fun b o e => Heap.get?_push_of_some _ e, turn_tuple a _, ⟨_, Heap.get?_push_size _ rfl, rfl, rfl⟩, nw, q⟩
end
mutual
theorem soundE (T : Tab) (kw : List (List (Nat × List Str))) (j : Nat) : ∀ (m : E) (X : Cx) (c : Ctx) (E0 : XK) (e : Expr), Fits c X → Good T kw j E0 X → chkE T kw c m e = true →
    PE X e (semE T X.K X.mg E0 m) ∧ PT X e (semT T X.K X.mg E0 m)
  | .var i, X, c, E0, e, f, g, h => by
    cases e with
    | Name x pos =>
      have q := e_var (T := T) (E0 := E0) f (kw := kw) h
      exact ⟨q, t_of q fun _ => rfl⟩
    | _ => simp [chkE] at h
  | .k d, X, c, E0, e, f, g, h => by
    cases e with
    | Constant k kk pos =>
      have q : PE X (.Constant k kk pos) (semE T X.K X.mg E0 (.k d)) := e_k (by simpa only [chkE] using h)
      exact ⟨q, t_of q fun _ => rfl⟩
    | _ => simp [chkE] at h
  | .con i, X, c, E0, e, f, g, h => by
    cases e with
    | Name x pos =>
      have q := e_con (E0 := E0) f g h
      exact ⟨q, t_of q fun _ => rfl⟩
    | _ => simp [chkE] at h
  | .bin o a b, X, c, E0, e, f, g, h => by
    cases e with
    | BinOp x o' y pos =>
      simp only [chkE, Bool.and_eq_true, decide_eq_true_eq] at h
      obtain ⟨⟨rfl, h1⟩, h2⟩ := h
      have q : PE X (.BinOp x o y pos) (semE T X.K X.mg E0 (.bin o a b)) := (pe_op (op_bin (E0 := E0) o) (soundE T kw j a X c E0 x f g h1).1 (soundE T kw j b X c E0 y f g h2).1).bnw fun σ H Q q => sem_bin q
      exact ⟨q, t_of q fun _ => rfl⟩
    | _ => simp [chkE] at h
  | .neg a, X, c, E0, e, f, g, h => by
    cases e with
    | UnaryOp o x pos =>
      cases o with
      | USub =>
        have h : chkE T kw c a x = true := by simpa only [chkE] using h
        have q : PE X (.UnaryOp .USub x pos) (semE T X.K X.mg E0 (.neg a)) := (pe_un (un_negD (E0 := E0)) (soundE T kw j a X c E0 x f g h).1).bnw fun σ H Q q => sem_un q
        exact ⟨q, t_of q fun _ => rfl⟩
      | _ => simp [chkE] at h
    | _ => simp [chkE] at h
  | .cmp o a b, X, c, E0, e, f, g, h => by
    cases e with
    | Compare x os ys pos =>
      rcases os with _ | ⟨o', _ | ⟨o2, os⟩⟩ <;> rcases ys with _ | ⟨y, _ | ⟨y2, ys⟩⟩ <;> first | (simp [chkE] at h; done) | skip
      simp only [chkE, Bool.and_eq_true, decide_eq_true_eq] at h
      obtain ⟨⟨⟨rfl, hp⟩, h1⟩, h2⟩ := h
      have qa := (soundE T kw j a X c E0 x f g h1).1
      have qb := (soundE T kw j b X c E0 y f g h2).1
      refine ⟨(pe_cmpR (op_cmp (E0 := E0) g.units o) qa qb (marks_none hp)).bnw fun σ H Q q => sem_bin q, ?_⟩
      exact (pt_cmpR (op_cmp (E0 := E0) g.units o) qa qb (marks_none hp)).bnw fun σ H Q q => sem_bin (k := cmpD o) (sem_bool q)
    | _ => simp [chkE] at h
  | .chain o o' a b d, X, c, E0, e, f, g, h => by
    cases e with
    | Compare x os ys pos =>
      rcases os with _ | ⟨p, _ | ⟨p', _ | ⟨o2, os⟩⟩⟩ <;> rcases ys with _ | ⟨y, _ | ⟨z, _ | ⟨y2, ys⟩⟩⟩ <;> first | (simp [chkE] at h; done) | skip
      simp only [chkE, Bool.and_eq_true, decide_eq_true_eq] at h
      obtain ⟨⟨⟨⟨⟨⟨rfl, rfl⟩, hy⟩, hz⟩, h1⟩, h2⟩, h3⟩ := h
      have qa := (soundE T kw j a X c E0 x f g h1).1
      have qb := (soundE T kw j b X c E0 y f g h2).1
      have qd := (soundE T kw j d X c E0 z f g h3).1
      refine ⟨e_chain g qa qb qd hy hz, ?_⟩
      exact (pt_chain (op_cmp (E0 := E0) g.units o) (op_cmp (E0 := E0) g.units o') qa qb qd (marks_none hz)).bnw fun σ H Q q => chain_read (sem_bool q)
    | _ => simp [chkE] at h
  | .bop isAnd es, X, c, E0, e, f, g, h => by
    cases e with
    | BoolOp op xs pos =>
      simp only [chkE, Bool.and_eq_true] at h
      have q := soundB T kw j isAnd op (boolOp_eq h.1) es X c E0 xs pos f g h.2
      exact ⟨q.1, q.2.pt⟩
    | _ => simp [chkE] at h
  | .not_ a, X, c, E0, e, f, g, h => by
    cases e with
    | UnaryOp o x pos =>
      cases o with
      | Not =>
        have h : chkE T kw c a x = true := by simpa only [chkE] using h
        have q := soundE T kw j a X c E0 x f g h
        exact ⟨e_not q.1, t_not q.2⟩
      | _ => simp [chkE] at h
    | _ => simp [chkE] at h
  | .ite d a b, X, c, E0, e, f, g, h => by
    cases e with
    | IfExp x y z pos =>
      simp only [chkE, Bool.and_eq_true] at h
      have qd := soundE T kw j d X c E0 x f g h.1.1
      have qa := soundE T kw j a X c E0 y f g h.1.2
      have qb := soundE T kw j b X c E0 z f g h.2
      exact ⟨e_ite qd.2 qa.1 qb.1, t_ite qd.2 qa.2 qb.2⟩
    | _ => simp [chkE] at h
  | .tup es, X, c, E0, e, f, g, h => by
    cases e with
    | Tuple xs kk pos =>
      have q : PE X (.Tuple xs kk pos) (semE T X.K X.mg E0 (.tup es)) := e_tup (soundEs T kw j es X c E0 xs f g (by simpa only [chkE] using h))
      exact ⟨q, t_of q fun _ => rfl⟩
    | _ => simp [chkE] at h
  | .lst es, X, c, E0, e, f, g, h => by
    cases e with
    | List xs pos =>
      have q : PE X (.List xs pos) (semE T X.K X.mg E0 (.lst es)) := e_lst (soundEs T kw j es X c E0 xs f g (by simpa only [chkE] using h))
      exact ⟨q, t_of q fun _ => rfl⟩
    | _ => simp [chkE] at h
  | .lstc es, X, c, E0, e, f, g, h => by
    cases e with
    | List xs pos =>
      have q : PE X (.List xs pos) (semE T X.K X.mg E0 (.lstc es)) := e_lstc (soundEs T kw j es X c E0 xs f g (by simpa only [chkE] using h))
      exact ⟨q, t_of q fun _ => rfl⟩
    | _ => simp [chkE] at h
  | .dct0, X, c, E0, e, f, g, h => by
    cases e with
    | Dict ks vs pos =>
      cases ks <;> cases vs <;> first | (simp [chkE] at h; done) | skip
      have q : PE X (.Dict [] [] pos) (semE T X.K X.mg E0 .dct0) := e_dct0
      exact ⟨q, t_of q fun _ => rfl⟩
    | _ => simp [chkE] at h
  | .ix a i, X, c, E0, e, f, g, h => by
    cases e with
    | Subscript x y pos =>
      simp only [chkE, Bool.and_eq_true] at h
      obtain ⟨⟨hp, h1⟩, h2⟩ := h
      have q : PE X (.Subscript x y pos) (semE T X.K X.mg E0 (.ix a i)) := (pe_ix (ix_any (E0 := E0)) (soundE T kw j a X c E0 x f g h1).1 (soundE T kw j i X c E0 y f g h2).1 (plain_ix hp)).bnw fun σ H Q q => sem_bin q
      exact ⟨q, t_of q fun _ => rfl⟩
    | _ => simp [chkE] at h
  | .sl a lo hi, X, c, E0, e, f, g, h => by
    cases e with
    | Subscript x y pos =>
      cases y with
      | Slice l u st p2 =>
        cases st with
        | some _ => simp [chkE] at h
        | none =>
          simp only [chkE, Bool.and_eq_true] at h
          have q : PE X (.Subscript x (.Slice l u none p2) pos) (semE T X.K X.mg E0 (.sl a lo hi)) := e_sl (soundE T kw j a X c E0 x f g h.1.1).1 (soundO T kw j lo X c E0 l f g h.1.2) (soundO T kw j hi X c E0 u f g h.2)
          exact ⟨q, t_of q fun _ => rfl⟩
      | _ => simp [chkE] at h
    | _ => simp [chkE] at h
  | .call i es, X, c, E0, e, f, g, h => by
    cases e with
    | Call fn xs kws pos =>
      cases fn with
      | Name x p =>
        cases kws with
        | cons _ _ => simp [chkE] at h
        | nil =>
          simp only [chkE, Bool.and_eq_true] at h
          obtain ⟨⟨⟨h1, h2⟩, h3⟩, h4⟩ := h
          split at h1
          · rename_i fn e1
            have pl := chkEs_plain h4
            have q : PE X (.Call (.Name x p) xs [] pos) (semE T X.K X.mg E0 (.call i es)) := e_call f g e1 (by simpa using h1) h2 h3 pl.1 pl.2 (soundEs T kw j es X c E0 xs f g h4)
            exact ⟨q, t_of q fun _ => rfl⟩
          · cases h1
      | _ => simp [chkE] at h
    | _ => simp [chkE] at h
  | .callk i es ks ws, X, c, E0, e, f, g, h => by
    cases e with
    | Call fn xs kws pos =>
      cases fn with
      | Name x p =>
        simp only [chkE, Bool.and_eq_true, List.contains_iff_mem] at h
        obtain ⟨⟨⟨⟨⟨⟨h1, h2⟩, h3⟩, h4⟩, h5⟩, h6⟩, h7⟩ := h
        split at h1
        · rename_i fn e1
          have pl := chkEs_plain h4
          have pl2 := chkEs_plain h6
          rw [List.length_map] at pl2
          have q : PE X (.Call (.Name x p) xs kws pos) (semE T X.K X.mg E0 (.callk i es ks ws)) := e_callk f g e1 (by simpa using h1) h2 h3 pl.1 pl.2 (kwB_ok h5) h7 (soundEs T kw j es X c E0 xs f g h4) (soundKs T kw j ws X c E0 kws f g h6) pl2.2
          exact ⟨q, t_of q fun _ => rfl⟩
        · cases h1
      | _ => simp [chkE] at h
    | _ => simp [chkE] at h
  | .bi b es, X, c, E0, e, f, g, h => by
    cases e with
    | Call fn xs kws pos =>
      cases fn with
      | Name x p =>
        cases kws with
        | cons _ _ => cases b <;> simp [chkE] at h
        | nil =>
          have gen : biB T c b x = true → (glB c.sc x && dbgB x && chkEs T kw c es xs) = true → PE X (.Call (.Name x p) xs [] pos) (semE T X.K X.mg E0 (.bi b es)) := fun hb h => by
            simp only [Bool.and_eq_true] at h
            cases xs with
            | nil =>
              refine never_E fun env S => ?_
              have hl := (chkEs_plain h.2).2
              cases es with
              | nil =>
                show (R.ok [] S).bind (fun as S1 => biD b as S1) = .no
                cases b <;> rfl
              | cons _ _ => exact absurd hl (by simp [Es.len])
            | cons y ys => exact e_bi f g hb h.1.1 h.1.2 (chkEs_plain h.2).1 (soundEs T kw j es X c E0 _ f g h.2)
          have fin : PE X (.Call (.Name x p) xs [] pos) (semE T X.K X.mg E0 (.bi b es)) → PE X (.Call (.Name x p) xs [] pos) (semE T X.K X.mg E0 (.bi b es)) ∧ PT X (.Call (.Name x p) xs [] pos) (semT T X.K X.mg E0 (.bi b es)) := fun q => ⟨q, t_of q fun _ => rfl⟩
          refine fin ?_
          cases b with
          | isi t =>
            rcases es with _ | ⟨e1, _ | ⟨e2, r⟩⟩ <;> first | (simp [chkE, biB] at h; done) | skip
            rcases xs with _ | ⟨y, _ | ⟨z, _ | ⟨y2, ys⟩⟩⟩ <;> first | (simp [chkE, biB] at h; done) | skip
            cases z with
            | Name z p2 =>
              simp only [chkE, Bool.and_eq_true, beq_iff_eq, List.contains_iff_mem, Bool.not_eq_true', beq_eq_false_iff_ne] at h
              obtain ⟨⟨⟨⟨⟨⟨⟨⟨⟨⟨h1, h2⟩, h3⟩, h4⟩, h5⟩, h6⟩, h7⟩, h8⟩, h9⟩, h10⟩, h11⟩ := h
              split at h3
              · rename_i t' e3
                have e4 : t' = t := by simpa using h3
                subst e4
                exact e_isi (t := t') (t' := t') f g h1 e3 h4 h5 h6 h7 h8 h9 h2 h10 (soundE T kw j e1 X c E0 y f g h11).1
              · cases h3
            | _ => simp [chkE, biB] at h
          | len =>
            have h' : (biB T c .len x && glB c.sc x && dbgB x && chkEs T kw c es xs) = true := by simpa only [chkE] using h
            simp only [Bool.and_eq_true] at h'
            exact gen h'.1.1.1 (by simp only [Bool.and_eq_true]; exact ⟨⟨h'.1.1.2, h'.1.2⟩, h'.2⟩)
          | abs =>
            have h' : (biB T c .abs x && glB c.sc x && dbgB x && chkEs T kw c es xs) = true := by simpa only [chkE] using h
            simp only [Bool.and_eq_true] at h'
            exact gen h'.1.1.1 (by simp only [Bool.and_eq_true]; exact ⟨⟨h'.1.1.2, h'.1.2⟩, h'.2⟩)
          | max2 =>
            have h' : (biB T c .max2 x && glB c.sc x && dbgB x && chkEs T kw c es xs) = true := by simpa only [chkE] using h
            simp only [Bool.and_eq_true] at h'
            exact gen h'.1.1.1 (by simp only [Bool.and_eq_true]; exact ⟨⟨h'.1.1.2, h'.1.2⟩, h'.2⟩)
          | min2 =>
            have h' : (biB T c .min2 x && glB c.sc x && dbgB x && chkEs T kw c es xs) = true := by simpa only [chkE] using h
            simp only [Bool.and_eq_true] at h'
            exact gen h'.1.1.1 (by simp only [Bool.and_eq_true]; exact ⟨⟨h'.1.1.2, h'.1.2⟩, h'.2⟩)
          | int1 =>
            have h' : (biB T c .int1 x && glB c.sc x && dbgB x && chkEs T kw c es xs) = true := by simpa only [chkE] using h
            simp only [Bool.and_eq_true] at h'
            exact gen h'.1.1.1 (by simp only [Bool.and_eq_true]; exact ⟨⟨h'.1.1.2, h'.1.2⟩, h'.2⟩)
          | all =>
            have h' : (biB T c .all x && glB c.sc x && dbgB x && chkEs T kw c es xs) = true := by simpa only [chkE] using h
            simp only [Bool.and_eq_true] at h'
            exact gen h'.1.1.1 (by simp only [Bool.and_eq_true]; exact ⟨⟨h'.1.1.2, h'.1.2⟩, h'.2⟩)
          | any =>
            have h' : (biB T c .any x && glB c.sc x && dbgB x && chkEs T kw c es xs) = true := by simpa only [chkE] using h
            simp only [Bool.and_eq_true] at h'
            exact gen h'.1.1.1 (by simp only [Bool.and_eq_true]; exact ⟨⟨h'.1.1.2, h'.1.2⟩, h'.2⟩)
          | tuple =>
            have h' : (biB T c .tuple x && glB c.sc x && dbgB x && chkEs T kw c es xs) = true := by simpa only [chkE] using h
            simp only [Bool.and_eq_true] at h'
            exact gen h'.1.1.1 (by simp only [Bool.and_eq_true]; exact ⟨⟨h'.1.1.2, h'.1.2⟩, h'.2⟩)
          | list =>
            have h' : (biB T c .list x && glB c.sc x && dbgB x && chkEs T kw c es xs) = true := by simpa only [chkE] using h
            simp only [Bool.and_eq_true] at h'
            exact gen h'.1.1.1 (by simp only [Bool.and_eq_true]; exact ⟨⟨h'.1.1.2, h'.1.2⟩, h'.2⟩)
          | divmod =>
            have h' : (biB T c .divmod x && glB c.sc x && dbgB x && chkEs T kw c es xs) = true := by simpa only [chkE] using h
            simp only [Bool.and_eq_true] at h'
            exact gen h'.1.1.1 (by simp only [Bool.and_eq_true]; exact ⟨⟨h'.1.1.2, h'.1.2⟩, h'.2⟩)
          | gcd =>
            have h' : (biB T c .gcd x && glB c.sc x && dbgB x && chkEs T kw c es xs) = true := by simpa only [chkE] using h
            simp only [Bool.and_eq_true] at h'
            exact gen h'.1.1.1 (by simp only [Bool.and_eq_true]; exact ⟨⟨h'.1.1.2, h'.1.2⟩, h'.2⟩)
          | repr =>
            have h' : (biB T c .repr x && glB c.sc x && dbgB x && chkEs T kw c es xs) = true := by simpa only [chkE] using h
            simp only [Bool.and_eq_true] at h'
            exact gen h'.1.1.1 (by simp only [Bool.and_eq_true]; exact ⟨⟨h'.1.1.2, h'.1.2⟩, h'.2⟩)
      | _ => cases b <;> simp [chkE] at h
    | _ => cases b <;> simp [chkE] at h
  | .comp isCell elt t own it cond, X, c, E0, e, f, g, h => by
    cases e with
    | ListComp elt' gens scope pos =>
      rcases gens with _ | ⟨⟨tg, iter, ifs, asy⟩, _ | ⟨g2, gs⟩⟩
      · simp [chkE] at h
      · by_cases ha : asy = 0
        · subst ha
          have h : (blkC c.N c.sc scope own && t.ixs.all (fun i => decide (i ∈ own.map (·.2))) && plainX iter && plainX tg && chkI T kw c it iter && chkTn (c.blk scope) t tg && chkCond T kw (c.blk scope) cond ifs && chkE T kw (c.blk scope) elt elt') = true := by
            simpa only [chkE] using h
          simp only [Bool.and_eq_true] at h
          obtain ⟨⟨⟨⟨⟨⟨⟨h1, h2⟩, h3⟩, h4⟩, h5⟩, h6⟩, h7⟩, h8⟩ := h
          have h2' : ∀ i ∈ t.ixs, i ∈ own.map (·.2) := fun i hi => of_decide_eq_true (List.all_eq_true.mp h2 i hi)
          have q : PE X (.ListComp elt' [⟨tg, iter, ifs, 0⟩] scope pos) (semE T X.K X.mg E0 (.comp isCell elt t own it cond)) :=
            e_comp f g h1 h2' h3 h6 (soundI T kw j it X c E0 tg iter f g h5)
              (fun s H C cl fp => soundC T kw j cond _ (c.blk scope) _ ifs (f.blk s H scope C cl fp) (g.blk s H scope _ fp) h7)
              (fun s H C cl fp => (soundE T kw j elt _ (c.blk scope) _ elt' (f.blk s H scope C cl fp) (g.blk s H scope _ fp) h8).1)
          exact ⟨q, t_of q fun _ => rfl⟩
        · exfalso
          unfold chkE at h
          split at h <;> first | (cases h; done) | skip
          all_goals simp_all
      · simp [chkE] at h
    | _ => simp [chkE] at h
theorem soundB (T : Tab) (kw : List (List (Nat × List Str))) (j : Nat) (isAnd : Bool) (op : BoolOp) (ho : op = if isAnd = true then .And else .Or) : ∀ (m : Es) (X : Cx) (c : Ctx) (E0 : XK) (xs : List Expr) (pos : Pos), Fits c X → Good T kw j E0 X → chkEs T kw c m xs = true →
    PE X (.BoolOp op xs pos) (sem X.K X.mg E0 (relA X.K X.mg) (denB T isAnd m)) ∧ PW X (.BoolOp op xs pos) (sem X.K X.mg E0 relB fun env S => (denB T isAnd m env S).bind boolD)
  | .nil, X, c, E0, xs, pos, f, g, h => ⟨never_E fun _ _ => rfl, never_T fun _ _ => rfl⟩
  | .cons e .nil, X, c, E0, xs, pos, f, g, h => by
    rcases xs with _ | ⟨x, _ | ⟨y, ys⟩⟩ <;> first | (simp [chkEs] at h; done) | skip
    simp only [chkEs, Bool.and_eq_true] at h
    have q := soundE T kw j e X c E0 x f g h.1.2
    refine ⟨pe_one q.1, ?_⟩
    subst ho
    cases isAnd with
    | true => exact pw_and1 q.2
    | false => exact pw_or1 q.2
  | .cons e (.cons e2 r), X, c, E0, xs, pos, f, g, h => by
    rcases xs with _ | ⟨x, _ | ⟨y, ys⟩⟩ <;> first | (simp [chkEs] at h; done) | skip
    have h' : (plainX x && chkE T kw c e x && chkEs T kw c (.cons e2 r) (y :: ys)) = true := by simpa only [chkEs] using h
    simp only [Bool.and_eq_true] at h'
    have q := soundE T kw j e X c E0 x f g h'.1.2
    have q2 := soundB T kw j isAnd op ho (.cons e2 r) X c E0 (y :: ys) pos f g h'.2
    exact b_cons ho q.1 q.2 q2.1 q2.2
theorem soundEs (T : Tab) (kw : List (List (Nat × List Str))) (j : Nat) : ∀ (m : Es) (X : Cx) (c : Ctx) (E0 : XK) (xs : List Expr), Fits c X → Good T kw j E0 X → chkEs T kw c m xs = true → PA X xs (semEs T X.K X.mg E0 m)
  | .nil, X, c, E0, xs, f, g, h => by
    cases xs with
    | cons _ _ => simp [chkEs] at h
    | nil => exact pa_nil.bnw fun σ H Q ⟨Z, ρ, S, env, ok, sl, q⟩ => q.here (a := []) ok .nil
  | .cons e r, X, c, E0, xs, f, g, h => by
    cases xs with
    | nil => simp [chkEs] at h
    | cons x xs =>
      simp only [chkEs, Bool.and_eq_true] at h
      exact (pa_cons (soundE T kw j e X c E0 x f g h.1.2).1 (soundEs T kw j r X c E0 xs f g h.2) (star_cons h.1.1)).bnw fun σ H Q q => args_read q
theorem soundKs (T : Tab) (kw : List (List (Nat × List Str))) (j : Nat) : ∀ (m : Es) (X : Cx) (c : Ctx) (E0 : XK) (xs : List Keyword), Fits c X → Good T kw j E0 X → chkEs T kw c m (xs.map (·.value)) = true → PK X xs (semEs T X.K X.mg E0 m)
  | .nil, X, c, E0, xs, f, g, h => by
    cases xs with
    | cons _ _ => simp [chkEs] at h
    | nil => exact pk_nil.bnw fun σ H Q ⟨Z, ρ, S, env, ok, sl, q⟩ => q.here (a := []) ok .nil
  | .cons e r, X, c, E0, xs, f, g, h => by
    cases xs with
    | nil => simp [chkEs] at h
    | cons x xs =>
      obtain ⟨nm, v, kp⟩ := x
      simp only [List.map_cons, chkEs, Bool.and_eq_true] at h
      exact (pk_cons (soundE T kw j e X c E0 v f g h.1.2).1 (soundKs T kw j r X c E0 xs f g h.2)).bnw fun σ H Q q => args_read q
theorem soundO (T : Tab) (kw : List (List (Nat × List Str))) (j : Nat) : ∀ (m : Oe) (X : Cx) (c : Ctx) (E0 : XK) (x : Option Expr), Fits c X → Good T kw j E0 X → chkO T kw c m x = true → PO X x (semO T X.K X.mg E0 m)
  | .no, X, c, E0, x, f, g, h => by
    cases x with
    | some _ => simp [chkO] at h
    | none => exact po_none.bnw fun σ H Q ⟨Z, ρ, S, env, ok, sl, q⟩ => q.here (a := none) ok rfl
  | .so e, X, c, E0, x, f, g, h => by
    cases x with
    | none => simp [chkO] at h
    | some x =>
      refine (po_some (soundE T kw j e X c E0 x f g (by simpa only [chkO] using h)).1).bnw fun σ H Q q => ?_
      refine sem.bind (rel2 := relO) (Q2 := Q) (k := fun _ x S1 => intK x S1) q fun Z ρ1 S1 H1 env a v ok sl r h2 => ?_
      unfold intK at h2
      split at h2
      · rename_i i
        cases r
        exact ⟨i, rfl, h2.here ok rfl⟩
      · exact h2.elim
theorem soundC (T : Tab) (kw : List (List (Nat × List Str))) (j : Nat) : ∀ (m : Oe) (X : Cx) (c : Ctx) (E0 : XK) (xs : List Expr), Fits c X → Good T kw j E0 X → chkCond T kw c m xs = true →
    PTs X xs (sem X.K X.mg E0 relB fun env S => (denT T m env S).bind boolD)
  | .no, X, c, E0, xs, f, g, h => by
    cases xs with
    | cons _ _ => simp [chkCond] at h
    | nil => exact ⟨fun pins s σ H Q I ⟨Z, ρ, S, env, ok, sl, q⟩ => pts_nil.run pins s σ H Q I (q.here (a := true) ok rfl)⟩
  | .so e, X, c, E0, xs, f, g, h => by
    rcases xs with _ | ⟨x, _ | ⟨y, ys⟩⟩ <;> first | (simp [chkCond] at h; done) | skip
    exact pts_one (soundE T kw j e X c E0 x f g (by simpa only [chkCond] using h)).2
theorem soundI (T : Tab) (kw : List (List (Nat × List Str))) (j : Nat) : ∀ (m : It) (X : Cx) (c : Ctx) (E0 : XK) (tg x : Expr), Fits c X → Good T kw j E0 X → chkI T kw c m x = true → PI X tg x (semI T X.K X.mg E0 m)
  | .seq isT e, X, c, E0, tg, x, f, g, h => by
    have q := (soundE T kw j e X c E0 x f g (by simpa only [chkI] using h)).1
    refine (pi_any q).bnw fun σ H R q => ?_
    refine sem.bind (rel2 := relW X.K X.mg) (Q2 := R) (k := fun _ x S1 => seqK isT x S1) q fun Z ρ1 S1 H1 env a v ok sl r h2 => ?_
    unfold seqK seqL at h2
    cases a with
    | c n => exact h2.elim
    | d w =>
      cases r with
      | tup h3 h4 => exact ⟨_, rfl, .inr ⟨⟨_, h3.sq⟩, h2.here ok (Walks.tup h3 h4)⟩⟩
      | lst h3 hn h4 => exact ⟨_, rfl, .inl ⟨⟨_, SqL.of h3⟩, h2.here ok (Walks.list h3 hn h4)⟩⟩
      | scr h3 => exact ⟨_, rfl, .inl ⟨⟨_, h3.sq⟩, h2.here ok (Walks.scr h3)⟩⟩
      | _ => exact h2.elim
  | .rng a, X, c, E0, tg, x, f, g, h => by
    cases x with
    | Call fn xs kws pos =>
      cases fn with
      | Name x p =>
        rcases xs with _ | ⟨y, _ | ⟨z, zs⟩⟩ <;> cases kws <;> first | (simp [chkI] at h; done) | skip
        simp only [chkI, Bool.and_eq_true, beq_iff_eq, List.contains_iff_mem] at h
        obtain ⟨⟨⟨⟨rfl, h2⟩, h3⟩, h4⟩, h5⟩ := h
        refine (pi_range1 (glB_ok (by rw [f.sc]; exact h3)) (g.bs _ h2) (pa_cons (soundE T kw j a X c E0 y f g h5).1 pa_nil (star_cons h4)) (star_cons h4)).bnw fun σ H R q => ?_
        refine sem.bind (rel2 := relW X.K X.mg) (Q2 := R) (k := fun _ x S1 => rngK x S1) q fun Z ρ1 S1 H1 env a v ok sl r h2 => ?_
        unfold rngK at h2
        split at h2
        · rename_i i
          cases r
          split at h2
          · rename_i hr
            have hr : -(2 ^ 62) ≤ i ∧ i < 2 ^ 62 := of_decide_eq_true hr
            exact ⟨i, rfl, hr.1, hr.2, h2.here ok (Walks.rng 0 i.toNat)⟩
          · exact h2.elim
        · exact h2.elim
      | _ => simp [chkI] at h
    | _ => simp [chkI] at h
  | .rng2 a b, X, c, E0, tg, x, f, g, h => by
    cases x with
    | Call fn xs kws pos =>
      cases fn with
      | Name x p =>
        rcases xs with _ | ⟨y, _ | ⟨z, _ | ⟨z2, zs⟩⟩⟩ <;> cases kws <;> first | (simp [chkI] at h; done) | skip
        simp only [chkI, Bool.and_eq_true, beq_iff_eq, List.contains_iff_mem] at h
        obtain ⟨⟨⟨⟨⟨⟨rfl, h2⟩, h3⟩, h4⟩, h5⟩, h6⟩, h7⟩ := h
        refine (pi_range2 (glB_ok (by rw [f.sc]; exact h3)) (g.bs _ h2) (pa_cons (soundE T kw j a X c E0 y f g h6).1 (pa_cons (soundE T kw j b X c E0 z f g h7).1 pa_nil (star_cons h5)) (star_cons h4))
          (by rw [star_cons h4, star_cons h5]; rfl) (star_cons h5)).bnw fun σ H R q => ?_
        refine sem.bind (rel2 := relW X.K X.mg) (Q2 := R) (k := fun env x S1 => (den T b env S1).bind fun y S2 => rng2K x y S2) q fun Z ρ1 S1 H1 env a v ok sl r h2 => ?_
        refine ⟨Z, ρ1, S1, env, ok, sl, h2.bind fun b S2 w ρ2 H2 e ok2 r2 h3 => ?_⟩
        have r := RepA.ext e r
        unfold rng2K at h3
        split at h3
        · cases r
          cases r2
          split at h3
          · rename_i i k hr
            have hr := Bool.and_eq_true_iff.mp hr
            have hr1 : -(2 ^ 62) ≤ i ∧ i < 2 ^ 62 := of_decide_eq_true hr.1
            have hr2 : -(2 ^ 62) ≤ k ∧ k < 2 ^ 62 := of_decide_eq_true hr.2
            exact ⟨i, k, rfl, ⟨hr1.1, hr1.2, hr2.1, hr2.2⟩, h3.here ok2 (Walks.rng i (k - i).toNat)⟩
          · exact h3.elim
        · exact h3.elim
      | _ => simp [chkI] at h
    | _ => simp [chkI] at h
  | .enu a, X, c, E0, tg, x, f, g, h => by simp [chkI] at h
  | .zip a b, X, c, E0, tg, x, f, g, h => by simp [chkI] at h
end
end Bn
/-! Bn, part 11: statements. -/
namespace Bn
open PySem PySem.Spec PyProof.Rows L2

/-! ### which syntax -/
mutual
def chkTg (T : Tab) (kw : List (List (Nat × List Str))) (c : Ctx) : Tg → Expr → Bool
  | .nm i, .Name x _ => c.N[i]? == some x && locB c.sc x && (c.fn x || (match c.sc.names.lookup x with | some .local => true | _ => false))
  | .ix o i, .Subscript x y _ => plainX y && chkE T kw c o x && chkE T kw c i y
  | .tp l, .Tuple xs _ _ => chkTgs T kw c l xs
  | _, _ => false
def chkTgs (T : Tab) (kw : List (List (Nat × List Str))) (c : Ctx) : List Tg → List Expr → Bool
  | [], [] => true
  | t :: r, x :: s => plainX x && chkTg T kw c t x && chkTgs T kw c r s
  | _, _ => false
end
/-- the store does not come in swapped order -/
def noPair : Expr → Expr → Bool
  | .Tuple ts _ _, .Tuple vs _ _ => !(ts.length == 2 || ts.length == 3) || vs.length != ts.length
  | .List _ _, .Tuple _ _ _ => false
  | _, _ => true
def isLoc (c : Ctx) (x : Str) : Bool := match c.sc.names.lookup x with
  | some .local => true
  | _ => false
def nameB (c : Ctx) (i : Nat) (x : Str) : Bool := c.N[i]? == some x && locB c.sc x && (c.fn x || isLoc c x)
def isFun (c : Ctx) : Bool := match c.sc.kind with
  | .function => true
  | _ => false
def asg1 : Stmt → Option (Expr × Expr)
  | .Assign ts v _ => match ts with
    | [tg] => some (tg, v)
    | _ => none
  | _ => none
def nm1 : Expr → Option (Str × Pos)
  | .Name x p => some (x, p)
  | _ => none
def tup2 : Expr → Option (Expr × Expr)
  | .Tuple xs _ _ => match xs with
    | [x, y] => some (x, y)
    | _ => none
  | _ => none
def lc1 : Expr → Option (Expr × Expr × Expr × List Expr × Scope × Pos)
  | .ListComp elt gens scope pos => match gens with
    | [⟨tg, iter, ifs, a⟩] => if a = 0 then some (elt, tg, iter, ifs, scope, pos) else none
    | _ => none
  | _ => none
def exp1 : Stmt → Option Expr
  | .Expr v _ => some v
  | _ => none
def ret1 : Stmt → Option (Option Expr)
  | .Return v _ => some v
  | _ => none
def app1 : Expr → Option (Str × Expr)
  | .Call fn xs kws cpos => match fn, xs, kws with
    | .Attribute o a apos, [v], [] => match nm1 o with
      | some (x, _) => if (a == ("append" : Str) && apos.endLine == cpos.line) = true then some (x, v) else none
      | none => none
    | _, _, _ => none
  | _ => none
def if1 : Stmt → Option (Expr × List Stmt × List Stmt)
  | .If t x y _ => some (t, x, y)
  | _ => none
def for1 : Stmt → Option (Expr × Expr × List Stmt)
  | .For tg iter body els _ => match els with
    | [] => some (tg, iter, body)
    | _ => none
  | _ => none
def wh1 : Stmt → Option (Expr × List Stmt)
  | .While t body els _ => match els with
    | [] => some (t, body)
    | _ => none
  | _ => none
def passB : Stmt → Bool
  | .Pass _ => true
  | .Expr v _ => match v with
    | .Constant k _ _ => match k with
      | .str _ => true
      | _ => false
    | _ => false
  | _ => false
theorem asg1_ok {st : Stmt} {p} (h : asg1 st = some p) : ∃ pos, st = .Assign [p.1] p.2 pos := by
  unfold asg1 at h
  split at h
  · split at h <;> cases h
    exact ⟨_, rfl⟩
  · cases h
theorem nm1_ok {e : Expr} {p} (h : nm1 e = some p) : e = .Name p.1 p.2 := by
  unfold nm1 at h
  split at h <;> cases h
  rfl
theorem tup2_ok {e : Expr} {p} (h : tup2 e = some p) : ∃ k pos, e = .Tuple [p.1, p.2] k pos := by
  unfold tup2 at h
  split at h
  · split at h <;> cases h
    exact ⟨_, _, rfl⟩
  · cases h
theorem lc1_ok {e : Expr} {elt tg iter ifs scope pos} (h : lc1 e = some (elt, tg, iter, ifs, scope, pos)) : e = .ListComp elt [⟨tg, iter, ifs, 0⟩] scope pos := by
  unfold lc1 at h
  split at h
  · split at h
    · split at h
      · rename_i ha
        subst ha
        cases h
        rfl
      · cases h
    · cases h
  · cases h
theorem exp1_ok {st : Stmt} {p} (h : exp1 st = some p) : ∃ pos, st = .Expr p pos := by
  unfold exp1 at h
  split at h <;> cases h
  exact ⟨_, rfl⟩
theorem ret1_ok {st : Stmt} {p} (h : ret1 st = some p) : ∃ pos, st = .Return p pos := by
  unfold ret1 at h
  split at h <;> cases h
  exact ⟨_, rfl⟩
theorem app1_ok {e : Expr} {x v} (h : app1 e = some (x, v)) : ∃ px apos cpos, e = .Call (.Attribute (.Name x px) "append" apos) [v] [] cpos ∧ (apos.endLine == cpos.line) = true := by
  unfold app1 at h
  split at h
  · split at h
    · split at h
      · rename_i hn
        split at h
        · rename_i hc
          rw [Bool.and_eq_true] at hc
          cases h
          have e1 := eq_of_beq hc.1
          subst e1
          rw [nm1_ok hn]
          exact ⟨_, _, _, rfl, hc.2⟩
        · cases h
      · cases h
    · cases h
  · cases h
theorem if1_ok {st : Stmt} {p} (h : if1 st = some p) : ∃ pos, st = .If p.1 p.2.1 p.2.2 pos := by
  unfold if1 at h
  split at h <;> cases h
  exact ⟨_, rfl⟩
theorem for1_ok {st : Stmt} {p} (h : for1 st = some p) : ∃ pos, st = .For p.1 p.2.1 p.2.2 [] pos := by
  unfold for1 at h
  split at h
  · split at h <;> cases h
    exact ⟨_, rfl⟩
  · cases h
theorem wh1_ok {st : Stmt} {p} (h : wh1 st = some p) : ∃ pos, st = .While p.1 p.2 [] pos := by
  unfold wh1 at h
  split at h
  · split at h <;> cases h
    exact ⟨_, rfl⟩
  · cases h
def cSet (T : Tab) (kw : List (List (Nat × List Str))) (c : Ctx) (i : Nat) (e : E) : Option (Expr × Expr) → Bool
  | none => false
  | some (tg, v) => match nm1 tg with
    | none => false
    | some (x, _) => nameB c i x && noComp v && chkE T kw c e v
def cSetc (T : Tab) (kw : List (List (Nat × List Str))) (c : Ctx) (i : Nat) : E → Option (Expr × Expr) → Bool
  | .comp isCell elt t own it cond, some (tg, v) => match nm1 tg, lc1 v with
    | some (x, py), some (elt', tg, iter, ifs, scope, pos) =>
      c.N[i]? == some x && isLoc c x && isFun c && (if (py.line == pos.line && !(scope.names.any fun (n, k) => n == x && (k == .local || k == .cell))) = true then true else !(py.line == pos.line)) &&
      (blkC c.N c.sc scope own && t.ixs.all (fun i => decide (i ∈ own.map (·.2))) && plainX iter && chkI T kw c it iter && chkTn (c.blk scope) t tg && chkCond T kw (c.blk scope) cond ifs && chkE T kw (c.blk scope) elt elt')
    | _, _ => false
  | _, _ => false
def cPar (T : Tab) (kw : List (List (Nat × List Str))) (c : Ctx) (i j : Nat) (a b : E) : Option (Expr × Expr) → Bool
  | none => false
  | some (tg, v) => match tup2 tg, tup2 v with
    | some (t1, t2), some (va, vb) => match nm1 t1, nm1 t2 with
      | some (x, px), some (y, py) => decide (i ≠ j) && c.N[i]? == some x && c.N[j]? == some y && isLoc c x && isLoc c y && isFun c && (py.line == px.line) && !(x == y) &&
        plainX va && plainX vb && !([va, vb].all (foldedForSure 8)) && !([va, vb].all (constantsAlone 8)) && chkE T kw c a va && chkE T kw c b vb
      | _, _ => false
    | _, _ => false
def cAsg (T : Tab) (kw : List (List (Nat × List Str))) (c : Ctx) (t : Tg) (e : E) : Option (Expr × Expr) → Bool
  | none => false
  | some (tg, v) => noComp v && noPair tg v && plainX tg && chkTg T kw c t tg && chkE T kw c e v
def cExp (T : Tab) (kw : List (List (Nat × List Str))) (c : Ctx) (e : E) : Option Expr → Bool
  | none => false
  | some v => noComp v && chkE T kw c e v
def cRet (T : Tab) (kw : List (List (Nat × List Str))) (c : Ctx) (e : E) : Option (Option Expr) → Bool
  | some (some v) => chkE T kw c e v
  | _ => false
def cRetN : Option (Option Expr) → Bool
  | some none => true
  | _ => false
def cApp (T : Tab) (kw : List (List (Nat × List Str))) (c : Ctx) (i : Nat) (e : E) : Option Expr → Bool
  | none => false
  | some v => match app1 v with
    | some (x, w) => c.N[i]? == some x && visB c.sc x && dbgB x && plainX w && chkE T kw c e w
    | none => false
def brkB : Stmt → Bool
  | .Break _ => true
  | _ => false
def contB : Stmt → Bool
  | .Continue _ => true
  | _ => false
mutual
def chkS (T : Tab) (kw : List (List (Nat × List Str))) (c : Ctx) : S → Stmt → Bool
  | .set i e, st => cSet T kw c i e (asg1 st)
  | .setc i e, st => cSetc T kw c i e (asg1 st)
  | .par i j a b, st => cPar T kw c i j a b (asg1 st)
  | .asg t e, st => cAsg T kw c t e (asg1 st)
  | .expr e, st => cExp T kw c e (exp1 st)
  | .ret e, st => cRet T kw c e (ret1 st)
  | .retN, st => cRetN (ret1 st)
  | .app i e, st => cApp T kw c i e (exp1 st)
  | .ite d a b, st => match if1 st with
    | none => false
    | some (t, x, y) => chkE T kw c d t && chkSs T kw c a x && chkSs T kw c b y
  | .forr t it b, st => match for1 st with
    | none => false
    | some (tg, iter, body) => plainX iter && plainX tg && chkI T kw c it iter && chkTn c t tg && chkSs T kw c b body
  | .while d b, st => match wh1 st with
    | none => false
    | some (t, body) => chkE T kw c d t && chkSs T kw c b body
  | .brk, st => brkB st
  | .cont, st => contB st
  | .pass, st => passB st
  | .never, _ => true
  | .frz _, _ => false
def chkSs (T : Tab) (kw : List (List (Nat × List Str))) (c : Ctx) : Ss → List Stmt → Bool
  | .nil, [] => true
  | .cons (.frz _) r, l => chkSs T kw c r l
  | .cons s r, x :: l => chkS T kw c s x && chkSs T kw c r l
  | _, _ => false
end

/-! ### what a flow asks of what follows -/
section
variable {K : PySem.W.Frag} {mg : Str → Option Value} {Z : Addr → Prop} {ρ ρ1 ρ2 : List Addr} {S S1 S2 : List Cell} {H H1 H2 : Hp} {E0 : XK} {α β γ δ : Type}
def FPost (K : PySem.W.Frag) (mg : Str → Option Value) (Z : Addr → Prop) (E0 : XK) (D : Ends) (ρ : List Addr) (S : List Cell) (H : Hp) : Fl → Prop
  | .nx env S' => ∀ σ' ρ' H', Ext Z ρ S H ρ' S' H' → OkS K mg Z ρ' S' H' → Slots K mg (Mu Z ρ' S') ρ' H' σ' env → D.nx σ' H'
  | .bk env S' => ∀ σ' ρ' H', Ext Z ρ S H ρ' S' H' → OkS K mg Z ρ' S' H' → Slots K mg (Mu Z ρ' S') ρ' H' σ' env → D.bk σ' H'
  | .ct env S' => ∀ σ' ρ' H', Ext Z ρ S H ρ' S' H' → OkS K mg Z ρ' S' H' → Slots K mg (Mu Z ρ' S') ρ' H' σ' env → D.ct σ' H'
  | .rt a S' => ∀ v ρ' H', Ext Z ρ S H ρ' S' H' → OkS K mg Z ρ' S' H' → RepA K mg (Mu Z ρ' S') ρ' H' v a → D.rt v H'
  | .ex c x S' => ∀ cls dx ρ' H', Ext Z ρ S H ρ' S' H' → OkS K mg Z ρ' S' H' → ExcOf K mg (Mu Z ρ' S') H' c x cls dx → E0 cls dx H'
  | .no => False
theorem FPost.later {D : Ends} {r : Fl} (e : Ext Z ρ S H ρ1 S1 H1) (h : FPost K mg Z E0 D ρ S H r) : FPost K mg Z E0 D ρ1 S1 H1 r := by
  cases r with
  | nx env S' => exact fun σ' ρ' H' e' o r' => h σ' ρ' H' (e.trans e') o r'
  | bk env S' => exact fun σ' ρ' H' e' o r' => h σ' ρ' H' (e.trans e') o r'
  | ct env S' => exact fun σ' ρ' H' e' o r' => h σ' ρ' H' (e.trans e') o r'
  | rt a S' => exact fun v ρ' H' e' o r' => h v ρ' H' (e.trans e') o r'
  | ex c x S' => exact fun cls dx ρ' H' e' o r' => h cls dx ρ' H' (e.trans e') o r'
  | no => exact h
theorem RPost.fl {rel : Rel α β} {r : R α} {k : α → List Cell → Fl} {Q : β → Hp → Prop} {D : Ends} (h : FPost K mg Z E0 D ρ S H (r.fl k))
    (hq : ∀ a S1 v ρ1 H1, Ext Z ρ S H ρ1 S1 H1 → OkS K mg Z ρ1 S1 H1 → rel Z ρ1 S1 H1 v a → FPost K mg Z E0 D ρ1 S1 H1 (k a S1) → Q v H1) : RPost K mg Z E0 rel ρ S H r Q := by
  cases r with
  | ok a S' => exact fun v ρ' H' e o r' => hq a S' v ρ' H' e o r' (FPost.later e h)
  | ex c x S' => exact h
  | no => exact h
def semF (K : PySem.W.Frag) (mg : Str → Option Value) (E0 : XK) (f : Env → List Cell → Fl) : TS := fun D σ H =>
  ∃ (Z : Addr → Prop) (ρ : List Addr) (S : List Cell) (env : Env), OkS K mg Z ρ S H ∧ Slots K mg (Mu Z ρ S) ρ H σ env ∧ FPost K mg Z E0 D ρ S H (f env S)
theorem semF.fl {rel : Rel α β} {f : Env → List Cell → R α} {k : Env → α → List Cell → Fl} {σ : L2.St} {D : Ends} {Q : β → Hp → Prop}
    (h : semF K mg E0 (fun env S => (f env S).fl (k env)) D σ H)
    (hq : ∀ Z ρ1 S1 H1 env a v, OkS K mg Z ρ1 S1 H1 → Slots K mg (Mu Z ρ1 S1) ρ1 H1 σ env → rel Z ρ1 S1 H1 v a → FPost K mg Z E0 D ρ1 S1 H1 (k env a S1) → Q v H1) :
    sem K mg E0 rel f σ H Q := by
  obtain ⟨Z, ρ, S, env, ok, sl, h⟩ := h
  exact ⟨Z, ρ, S, env, ok, sl, RPost.fl h fun a S1 v ρ1 H1 e o r h2 => hq Z ρ1 S1 H1 env a v o (sl.ext e) r h2⟩
theorem FPost.nx_here {D : Ends} {env : Env} {σ : L2.St} (h : FPost K mg Z E0 D ρ S H (.nx env S)) (ok : OkS K mg Z ρ S H) (sl : Slots K mg (Mu Z ρ S) ρ H σ env) : D.nx σ H := h σ ρ H Ext.refl ok sl
/-- a test, then one of two ways -/
theorem semF_ite {f : Env → List Cell → R A} {k1 k2 : Env → List Cell → Fl} {σ : L2.St} {D : Ends}
    (w : semF K mg E0 (fun env S => (f env S).fl fun x S1 => ifF x (k1 env S1) (k2 env S1)) D σ H) :
    sem K mg E0 relB (fun env S => (f env S).bind boolD) σ H fun c H1 => if c = true then semF K mg E0 k1 D σ H1 else semF K mg E0 k2 D σ H1 := by
  obtain ⟨Z, ρ, S, env, ok, sl, w⟩ := w
  refine ⟨Z, ρ, S, env, ok, sl, ?_⟩
  simp only at w ⊢
  cases e : f env S with
  | no =>
    rw [e] at w
    exact w
  | ex c x S1 =>
    rw [e] at w
    exact w
  | ok a S1 =>
    rw [e] at w
    rw [R.bind_ok]
    have w : FPost K mg Z E0 D ρ S H (ifF a (k1 env S1) (k2 env S1)) := w
    have go : ∀ (b : Bool), a = .d (.bl b) → RPost K mg Z E0 relB ρ S H (boolD a S1) fun c H1 => if c = true then semF K mg E0 k1 D σ H1 else semF K mg E0 k2 D σ H1 := fun b ea => by
      subst ea
      intro v ρ' H' e' o' r'
      have r' : v = b := r'
      subst r'
      cases v with
      | true =>
        rw [if_pos rfl]
        exact ⟨Z, ρ', S1, env, o', sl.ext e', FPost.later e' w⟩
      | false =>
        rw [if_neg Bool.false_ne_true]
        exact ⟨Z, ρ', S1, env, o', sl.ext e', FPost.later e' w⟩
    cases a with
    | c n => exact w.elim
    | d x =>
      cases x with
      | bl b => exact go b rfl
      | _ => exact w.elim
/-- a cell is rewritten -/
theorem set_cell {n : Nat} {l l' : List A} {p : Addr} {vs : List V} (ok : OkS K mg Z ρ S H) (hS : S[n]? = some (.lst l)) (hp : ρ[n]? = some p) (r : RepAs K mg (Mu Z ρ S) ρ H vs l') :
    Ext Z ρ S H ρ (S.set n (.lst l')) (upd H p (.lst vs)) ∧ OkS K mg Z ρ (S.set n (.lst l')) (upd H p (.lst vs)) := by
  have hn : n < S.length := (List.getElem?_eq_some_iff.mp hS).1
  have hlv : live ρ S p := ⟨n, _, hS, by simp, hp⟩
  have lv : ∀ b, live ρ (S.set n (.lst l')) b → live ρ S b := fun b ⟨k, c, h1, h2, h3⟩ => by
    by_cases hk : n = k
    · subst hk
      rw [hp] at h3
      cases h3
      exact hlv
    · rw [List.getElem?_set_ne hk] at h1
      exact ⟨k, c, h1, h2, h3⟩
  have ex : Ext Z ρ S H ρ (S.set n (.lst l')) (upd H p (.lst vs)) := by
    refine ⟨fun b u e hb => by rw [upd_ne fun z => hb (by rw [z]; exact hlv)]; exact e, ⟨[], by simp, fun _ h => nomatch h⟩, fun b h => .inl (lv b h), fun b e => ?_⟩
    by_cases hb : b = p
    · subst hb
      rw [upd_same] at e
      cases e
    · rw [upd_ne hb] at e
      exact e
  refine ⟨ex, ⟨by rw [List.length_set, ok.len], ok.nd, fun k c a e1 e2 => ?_, fun b h => ?_, ok.dis⟩⟩
  · by_cases hk : n = k
    · subst hk
      rw [List.getElem?_set_self hn] at e1
      cases e1
      rw [hp] at e2
      cases e2
      exact ⟨vs, upd_same, RepAs.ext ex r⟩
    · rw [List.getElem?_set_ne hk] at e1
      have hap : a ≠ p := fun z => hk (by
        subst z
        exact nd_inj ok.nd hp e2)
      exact (ok.cells k c a e1 e2).keep ex.toKeep ⟨[], by simp⟩ (upd_ne hap)
  · by_cases hb : b = p
    · rw [hb, upd_same]
      exact fun z => nomatch z
    · rw [upd_ne hb]
      exact ok.trk b h
/-- a list cell becomes data -/
theorem frz_cell {n : Nat} {l : List D} {x : V} (ok : OkS K mg Z ρ S H) (r : RepA K mg (Mu Z ρ S) ρ H x (.c n)) (h : listD S (.c n) = some l) :
    Ext Z ρ S H ρ (S.set n .dead) H ∧ OkS K mg Z ρ (S.set n .dead) H ∧ RepA K mg (Mu Z ρ (S.set n .dead)) ρ H x (.d (.lst l)) := by
  obtain ⟨p, e, rfl⟩ := r
  obtain ⟨p', vs, e', hH, rr⟩ := listD_cell ok ⟨p, e, rfl⟩ h
  cases e'
  have lv : ∀ b, live ρ (S.set n .dead) b → live ρ S b ∧ b ≠ p := fun b ⟨k, c, h1, h2, h3⟩ => by
    by_cases hk : n = k
    · subst hk
      exfalso
      rw [List.getElem?_set] at h1
      rw [if_pos rfl] at h1
      split at h1
      · cases h1
        exact h2 rfl
      · cases h1
    · rw [List.getElem?_set_ne hk] at h1
      refine ⟨⟨k, c, h1, h2, h3⟩, fun z => hk ?_⟩
      subst z
      exact nd_inj ok.nd e h3
  have ex : Ext Z ρ S H ρ (S.set n .dead) H := ⟨fun b u e _ => e, ⟨[], by simp, fun _ h => nomatch h⟩, fun b h => .inl (lv b h).1, fun b e => e⟩
  refine ⟨ex, ⟨by rw [List.length_set, ok.len], ok.nd, fun k c a e1 e2 => ?_, ok.trk, ok.dis⟩, ?_⟩
  · by_cases hk : n = k
    · subst hk
      rw [List.getElem?_set, if_pos rfl] at e1
      split at e1
      · cases e1
        trivial
      · cases e1
    · rw [List.getElem?_set_ne hk] at e1
      exact (ok.cells k c a e1 e2).keep ex.toKeep ⟨[], by simp⟩ rfl
  · refine .lst hH (fun m => ?_) (rr.keep ex.toKeep)
    rcases m with m | m
    · exact ok.dis p (List.mem_of_getElem? e) m
    · exact (lv p m).2 rfl
end
theorem _root_.L2.PG.bnw {X : Cx} {e : Expr} {t t' : TG} (h : PG X e t) (i : ∀ v σ H Q, t' v σ H Q → t v σ H Q) : PG X e t' := ⟨fun pins s σ H v u Q I r hq => h.run pins s σ H v u Q I r (i v σ H Q hq)⟩
theorem _root_.L2.PGs.bnw {X : Cx} {e : List Expr} {t t' : TGs} (h : PGs X e t) (i : ∀ v σ H Q, t' v σ H Q → t v σ H Q) : PGs X e t' := ⟨fun pins s σ H v u Q I r hq => h.run pins s σ H v u Q I r (i v σ H Q hq)⟩

/-! ### targets -/
def relE (K : PySem.W.Frag) (mg : Str → Option Value) : Rel Env L2.St := fun Z ρ S H σ env => Slots K mg (Mu Z ρ S) ρ H σ env
def semG (T : Tab) (K : PySem.W.Frag) (mg : Str → Option Value) (E0 : XK) (t : Tg) : TG := fun v σ H Q =>
  ∃ (Z : Addr → Prop) (ρ : List Addr) (S : List Cell) (env : Env) (a : A), OkS K mg Z ρ S H ∧ Slots K mg (Mu Z ρ S) ρ H σ env ∧ RepA K mg (Mu Z ρ S) ρ H v a ∧ RPost K mg Z E0 (relE K mg) ρ S H (asgT T t a env S) Q
def semGs (T : Tab) (K : PySem.W.Frag) (mg : Str → Option Value) (E0 : XK) (t : List Tg) : TGs := fun v σ H Q =>
  ∃ (Z : Addr → Prop) (ρ : List Addr) (S : List Cell) (env : Env) (a : List A), OkS K mg Z ρ S H ∧ Slots K mg (Mu Z ρ S) ρ H σ env ∧ RepAs K mg (Mu Z ρ S) ρ H v a ∧ RPost K mg Z E0 (relE K mg) ρ S H (asgTs T t a env S) Q
theorem chkTgs_len {T : Tab} {kw} {c : Ctx} : ∀ {l : List Tg} {xs : List Expr}, chkTgs T kw c l xs = true → xs.all plainX = true ∧ xs.length = l.length
  | [], [], _ => ⟨rfl, rfl⟩
  | [], _ :: _, h => by simp [chkTgs] at h
  | _ :: _, [], h => by simp [chkTgs] at h
  | t :: r, x :: xs, h => by
    simp only [chkTgs, Bool.and_eq_true] at h
    have ih := chkTgs_len h.2
    refine ⟨?_, ?_⟩
    · rw [List.all_cons, h.1.1, ih.1]
      rfl
    · rw [List.length_cons, List.length_cons, ih.2]

section
variable {X : Cx} {T : Tab} {kw : List (List (Nat × List Str))} {j : Nat} {E0 : XK} {c : Ctx}
mutual
theorem soundG (T : Tab) (kw : List (List (Nat × List Str))) (j : Nat) {X : Cx} {c : Ctx} {E0 : XK} (f : Fits c X) (g : Good T kw j E0 X) : ∀ (t : Tg) (x : Expr), chkTg T kw c t x = true → PG X x (semG T X.K X.mg E0 t)
  | .nm i, x, h => by
    cases x with
    | Name y pos =>
      simp only [chkTg, Bool.and_eq_true, beq_iff_eq, Bool.or_eq_true] at h
      obtain ⟨⟨h1, h2⟩, h3⟩ := h
      refine (pg_name g.nd (by rw [f.N]; exact h1) (by rw [f.sc]; exact locB_ok h2) ?_).bnw fun v σ H Q ⟨Z, ρ, S, env, a, ok, sl, r, q⟩ => q.here ok (sl.set r)
      rcases h3 with h3 | h3
      · exact .inl (by rw [f.fn]; exact h3)
      · refine .inr ?_
        rw [f.sc]
        split at h3
        · assumption
        · cases h3
    | _ => simp [chkTg] at h
  | .ix o i, x, h => by
    cases x with
    | Subscript a b pos =>
      simp only [chkTg, Bool.and_eq_true] at h
      obtain ⟨⟨hp, h1⟩, h2⟩ := h
      refine (pg_sub (soundE T kw j o X c E0 a f g h1).1 (soundE T kw j i X c E0 b f g h2).1 set_list ?_).bnw fun v σ H Q ⟨Z, ρ, S, env, w, ok, sl, r, q⟩ => ?_
      · intro v
        cases b <;> first | rfl | (exact nomatch hp)
      · simp only [asgT] at q
        refine ⟨Z, ρ, S, env, ok, sl, q.bind fun x S1 vx ρ1 H1 e1 o1 r1 q1 => ?_⟩
        refine ⟨Z, ρ1, S1, env, o1, sl.ext e1, q1.bind fun y S2 vy ρ2 H2 e2 o2 r2 q2 => ?_⟩
        have rw' := RepA.ext (e1.trans e2) r
        have r1 := RepA.ext e2 r1
        split at q2
        · rename_i n k _
          split at q2
          · rename_i l hS
            split at q2
            · rename_i jj hj
              cases r2
              obtain ⟨p, hp, rfl⟩ := r1
              obtain ⟨vs, hH, ra⟩ := o2.cells n _ p hS hp
              refine ⟨p, vs, k, jj, rfl, rfl, hH, by rw [ra.length]; exact hj, ?_⟩
              have ra' : RepAs X.K X.mg (Mu Z ρ2 S2) ρ2 H2 (vs.set jj v) (l.set jj w) := by
                clear hH hS hj q2
                induction ra generalizing jj with
                | nil => exact .nil
                | cons r0 t ih =>
                  cases jj with
                  | zero => exact .cons rw' t
                  | succ m => exact .cons r0 (ih m)
              obtain ⟨ex, o3⟩ := set_cell o2 hS hp ra'
              exact q2 σ ρ2 _ ex o3 (sl.ext (e1.trans (e2.trans ex)))
            · exact q2.elim
          · exact q2.elim
        · exact q2.elim
    | _ => simp [chkTg] at h
  | .tp l, x, h => by
    cases x with
    | Tuple xs k pos =>
      have h : chkTgs T kw c l xs = true := by simpa only [chkTg] using h
      obtain ⟨hp, hl⟩ := chkTgs_len h
      refine (pg_tup g.calm (soundGs T kw j f g l xs h) (asg_len.trans hl) (asg_star hp)).bnw fun v σ H Q ⟨Z, ρ, S, env, w, ok, sl, r, q⟩ => ?_
      cases w with
      | c n =>
        simp only [asgT] at q
        exact q.elim
      | d w =>
        cases r with
        | tup h1 h2 =>
          simp only [asgT] at q
          split at q
          · rename_i hn
            exact ⟨_, _, rfl, h1.sq, by rw [h2.length, hn], Z, ρ, S, env, _, ok, sl, RepAs.of_data h2, q⟩
          · exact q.elim
        | _ =>
          simp only [asgT] at q
          exact q.elim
    | _ => simp [chkTg] at h
theorem soundGs (T : Tab) (kw : List (List (Nat × List Str))) (j : Nat) {X : Cx} {c : Ctx} {E0 : XK} (f : Fits c X) (g : Good T kw j E0 X) : ∀ (t : List Tg) (x : List Expr), chkTgs T kw c t x = true → PGs X x (semGs T X.K X.mg E0 t)
  | [], x, h => by
    cases x with
    | cons _ _ => simp [chkTgs] at h
    | nil =>
      refine pgs_nil.bnw fun v σ H Q ⟨Z, ρ, S, env, w, ok, sl, r, q⟩ => ?_
      cases r with
      | nil =>
        simp only [asgTs] at q
        exact ⟨rfl, q.here ok sl⟩
      | cons _ _ =>
        simp only [asgTs] at q
        exact q.elim
  | t :: r, x, h => by
    cases x with
    | nil => simp [chkTgs] at h
    | cons x xs =>
      simp only [chkTgs, Bool.and_eq_true] at h
      refine (pgs_cons (soundG T kw j f g t x h.1.2) (soundGs T kw j f g r xs h.2) (asg_cons h.1.1)).bnw fun v σ H Q ⟨Z, ρ, S, env, w, ok, sl, rr, q⟩ => ?_
      cases rr with
      | nil =>
        simp only [asgTs] at q
        exact q.elim
      | cons r1 r2 =>
        simp only [asgTs] at q
        exact ⟨_, _, rfl, Z, ρ, S, env, _, ok, sl, r1, q.bind fun env' S1 σ1 ρ1 H1 e1 o1 sl1 q1 => ⟨Z, ρ1, S1, env', _, o1, sl1, RepAs.ext e1 r2, q1⟩⟩
end
end
end Bn
/-! Bn, part 12: every statement that the check lets does what its term means. -/
namespace Bn
open PySem PySem.Spec PyProof.Rows L2

section
variable {X : Cx} {T : Tab} {kw : List (List (Nat × List Str))} {j : Nat} {E0 : XK} {c : Ctx}
theorem isLoc_ok {c : Ctx} {x : Str} (h : isLoc c x = true) : c.sc.names.lookup x = some .local := by
  unfold isLoc at h
  split at h
  · assumption
  · cases h
theorem isFun_ok {c : Ctx} (h : isFun c = true) : c.sc.kind = .function := by
  unfold isFun at h
  split at h
  · assumption
  · cases h
theorem pair_none {tg v : Expr} {env : PySem.Env} (h : noPair tg v = true) : swappedStores [tg] v env = pure none := by
  unfold swappedStores
  cases tg <;> cases v <;> first | rfl | (simp [noPair] at h; done) | skip
  · simp only [noPair] at h
    dsimp only
    rw [if_pos (by rw [h] <;> rfl)]
theorem nexpr_none {v : Expr} {l : Nat} {env : PySem.Env} (h : noComp v = true) : swapsWith v none l env = pure false := swaps_none h
theorem RPost.fork {K : PySem.W.Frag} {mg : Str → Option Value} {Z : Addr → Prop} {ρ : List Addr} {S : List Cell} {H : Hp} {D : Ends} {r : R A} {k1 k2 : List Cell → Fl} (w : FPost K mg Z E0 D ρ S H (r.fl fun x S1 => ifF x (k1 S1) (k2 S1))) :
    RPost K mg Z E0 relB ρ S H (r.bind boolD) fun b H1 => ∃ ρ' S1, Ext Z ρ S H ρ' S1 H1 ∧ OkS K mg Z ρ' S1 H1 ∧ FPost K mg Z E0 D ρ' S1 H1 (if b = true then k1 S1 else k2 S1) := by
  cases r with
  | no => exact w
  | ex c x S1 => exact w
  | ok a S1 =>
    have w : FPost K mg Z E0 D ρ S H (ifF a (k1 S1) (k2 S1)) := w
    show RPost K mg Z E0 relB ρ S H (boolD a S1) _
    cases a with
    | c n => exact w.elim
    | d x =>
      cases x with
      | bl b =>
        intro v ρ' H' e' o' r'
        have r' : v = b := r'
        subst r'
        refine ⟨ρ', S1, e', o', FPost.later e' ?_⟩
        cases v with
        | true => exact w
        | false => exact w
      | _ => exact w.elim
theorem s_set {i : Nat} {e : E} {x : Str} {v : Expr} {px pos : Pos} (f : Fits c X) (g : Good T kw j E0 X) (hn : nameB c i x = true) (hc : ∀ l, swapsWith v (some (.Name x px)) l X.env = pure false) (h : PE X v (semE T X.K X.mg E0 e)) :
    PS X (.Assign [.Name x px] v pos) (semF X.K X.mg E0 (run T (.set i e))) := by
  simp only [nameB, Bool.and_eq_true, beq_iff_eq, Bool.or_eq_true] at hn
  obtain ⟨⟨h1, h2⟩, h3⟩ := hn
  refine (ps_set (i := i) g.nd (by rw [f.N]; exact h1) (by rw [f.sc]; exact locB_ok h2) h (hc _) ?_).bnw fun D σ H q => ?_
  · rcases h3 with h3 | h3
    · exact .inl (by rw [f.fn]; exact h3)
    · exact .inr (by rw [f.sc]; exact isLoc_ok h3)
  · exact semF.fl (rel := relA X.K X.mg) (k := fun env a S1 => .nx (env.set i (some a)) S1) q fun Z ρ1 S1 H1 env a v ok sl r h2 => h2.nx_here ok (sl.set r)
theorem s_app {i : Nat} {e : E} {x : Str} {v : Expr} {p1 apos cpos pos : Pos} (f : Fits c X) (g : Good T kw j E0 X) (hx : PE X (.Name x p1) (semE T X.K X.mg E0 (.var i))) (hl : (apos.endLine == cpos.line) = true) (hp : plainX v = true) (h : PE X v (semE T X.K X.mg E0 e)) :
    PS X (.Expr (.Call (.Attribute (.Name x p1) "append" apos) [v] [] cpos) pos) (semF X.K X.mg E0 (run T (.app i e))) := by
  refine (ps_expr (pe_bm PySem.F.plainAttrs_list PySem.F.slot_list_append PySem.F.type_list_append mt_append hx (pa_cons h pa_nil (star_cons hp)) rfl ?_ hl (star_cons hp) rfl) rfl).bnw fun D σ H q => ?_
  · rw [star_cons hp]
    rfl
  · obtain ⟨Z, ρ, S, env, ok, sl, q⟩ := q
    simp only [run] at q
    split at q
    · rename_i n en
      split at q
      · rename_i l0 e0
        have q0 : RPost X.K X.mg Z E0 (relA X.K X.mg) ρ S H (den T e env S) fun y H1 => ∃ p vs, ρ[n]? = some p ∧ H1 p = some (.lst vs) ∧ vs.length < sizeLine ∧ D.nx σ (upd H1 p (.lst (vs ++ [y]))) := by
          refine RPost.fl q fun a S1 y ρ1 H1 e1 o1 r1 q1 => ?_
          split at q1
          · rename_i l hS
            split at q1
            · rename_i hlen
              obtain ⟨w, ew, p, hp, rfl⟩ := sl.2 i _ en
              have hp1 : ρ1[n]? = some p := by
                obtain ⟨m, em⟩ := e1.pre
                rw [em]
                exact (List.getElem?_append_left (List.getElem?_eq_some_iff.mp hp).1).trans hp
              obtain ⟨vs, hH, ra⟩ := o1.cells n _ p hS hp1
              have ra2 : RepAs X.K X.mg (Mu Z ρ1 S1) ρ1 H1 (vs ++ [y]) (l ++ [a]) := ra.append (.cons r1 .nil)
              obtain ⟨ex, o2⟩ := set_cell o1 hS hp1 ra2
              exact ⟨p, vs, hp, hH, by rw [ra.length]; exact lim_lt hlen, q1 σ ρ1 _ ex o2 (sl.ext (e1.trans ex))⟩
            · exact q1.elim
          · exact q1.elim
        obtain ⟨w, ew, p, hp, rfl⟩ := sl.2 i _ en
        obtain ⟨vs0, hH0, _⟩ := ok.cells n _ p e0 hp
        refine ⟨Z, ρ, S, env, ok, sl, ?_⟩
        simp only [den, en]
        intro v ρ' H' e' o' r'
        have r' : RepA X.K X.mg (Mu Z ρ' S) ρ' H' v (.c n) := r'
        obtain ⟨p', hp', rfl⟩ := r'
        have hp1 : ρ'[n]? = some p := by
          obtain ⟨m, em⟩ := e'.pre
          rw [em]
          exact (List.getElem?_append_left (List.getElem?_eq_some_iff.mp hp).1).trans hp
        rw [hp1] at hp'
        cases hp'
        obtain ⟨vs1, hH1, _⟩ := o'.cells n _ p e0 hp1
        refine ⟨.inl ⟨rfl, vs1, SqL.of hH1⟩, Z, ρ', S, env, o', sl.ext e', RPost.mono (RPost.later e' q0) ?_⟩
        rintro y H2 ⟨p2, vs2, h1, h2, h3, h4⟩
        rw [hp] at h1
        cases h1
        exact ⟨p, vs2, y, rfl, rfl, h2, h3, h4⟩
      · exact q.elim
    · exact q.elim
theorem s_setc {i : Nat} {isCell : Bool} {elt : E} {t : Tn} {own : List (Str × Nat)} {it : It} {cond : Oe} {x : Str} {elt' tg iter : Expr} {ifs : List Expr} {scope : Scope} {py pos spos : Pos} (f : Fits c X) (g : Good T kw j E0 X) (h1 : c.N[i]? = some x) (h2 : isLoc c x = true) (h3 : isFun c = true)
    (h4 : (py.line == pos.line && !(scope.names.any fun (n, k) => n == x && (k == .local || k == .cell))) = true) (hb : blkC c.N c.sc scope own = true)
    (hix : ∀ i ∈ t.ixs, i ∈ own.map (·.2)) (hp : plainX iter = true) (ht : chkTn (c.blk scope) t tg = true) (hi : PI X tg iter (semI T X.K X.mg E0 it))
    (hc : ∀ (s : Shared) (H : Hp) (C : Addr) (cl : List (Str × Addr)) (fp : List Addr), PTs (X.blk s H scope (compEnvC scope cl C X.env) fp) ifs (sem X.K X.mg (fun _ _ _ => False) relB fun env S => (denT T cond env S).bind boolD))
    (he : ∀ (s : Shared) (H : Hp) (C : Addr) (cl : List (Str × Addr)) (fp : List Addr), PE (X.blk s H scope (compEnvC scope cl C X.env) fp) elt' (semE T X.K X.mg (fun _ _ _ => False) elt)) :
    PS X (.Assign [.Name x py] (.ListComp elt' [⟨tg, iter, ifs, 0⟩] scope pos) spos) (semF X.K X.mg E0 (run T (.setc i (.comp isCell elt t own it cond)))) := by
  simp only [Bool.and_eq_true, Bool.not_eq_true'] at h4
  refine (ps_setLc (i := i) (own := own) (g := gTn X.K t) g.calm g.nd (by rw [f.N]; exact h1) (by rw [f.sc]; exact isLoc_ok h2) (sw_true (by rw [f.sc]; exact isFun_ok h3) (by rw [f.sc]; exact isLoc_ok h2) h4.1 h4.2) hi (blkOk_by (by rw [f.N, f.sc]; exact hb))
    (fun s H C cl fp => tn_pg (f.blk s H scope C cl fp) g.calm g.nd t tg ht) hc he (folded_none hp)).bnw fun D σ H q => ?_
  refine comp_read (isCell := isCell) hix ?_
  exact semF.fl (rel := relA X.K X.mg) (k := fun env a S1 => .nx (env.set i (some a)) S1) q fun Z ρ1 S1 H1 env a v ok sl r h2 => h2.nx_here ok (sl.set r)
theorem s_par {i k : Nat} {a b : E} {x y : Str} {va vb : Expr} {px py pt pos : Pos} {kt k2 pt2} (f : Fits c X) (g : Good T kw j E0 X) (hij : i ≠ k) (h1 : c.N[i]? = some x) (h2 : c.N[k]? = some y) (h3 : isLoc c x = true) (h4 : isLoc c y = true) (h5 : isFun c = true) (h6 : (py.line == px.line) = true) (h7 : (x == y) = false)
    (h8 : plainX va = true) (h9 : plainX vb = true) (h10 : ([va, vb].all (foldedForSure 8)) = false) (h11 : ([va, vb].all (constantsAlone 8)) = false) (ha : PE X va (semE T X.K X.mg E0 a)) (hb : PE X vb (semE T X.K X.mg E0 b)) :
    PS X (.Assign [.Tuple [.Name x px, .Name y py] kt pt] (.Tuple [va, vb] k2 pt2) pos) (semF X.K X.mg E0 (run T (.par i k a b))) := by
  have l1 : X.env.scope.names.lookup x = some .local := by rw [f.sc]; exact isLoc_ok h3
  have l2 : X.env.scope.names.lookup y = some .local := by rw [f.sc]; exact isLoc_ok h4
  have hk : X.env.scope.kind = .function := by rw [f.sc]; exact isFun_ok h5
  have hbk : X.env.blockKind = .function := by unfold PySem.Env.blockKind; rw [hk]; rfl
  have k1 : X.env.kindOf x = some .local := l1
  have k2 : X.env.kindOf y = some .local := l2
  refine (ps_par (i := i) (j := k) g.calm g.nd (by rw [f.N]; exact h1) (by rw [f.N]; exact h2) hij l1 l2 (pa_cons ha (pa_cons hb pa_nil (star_cons h9)) (star_cons h8)) ?_ rfl).bnw fun D σ H q => ?_
  · have e1 : (x == x) = true := beq_self_eq_true x
    have h7' : (y == x) = false := by
      rw [Bool.eq_false_iff] at h7 ⊢
      intro z
      exact h7 (by rw [eq_of_beq z]; exact beq_self_eq_true x)
    unfold swappedStores
    simp only [hbk, k1, k2, h10, h11, h6, Expr.pos, List.filterMap_cons, List.filterMap_nil, List.head?_cons, Option.map_some, Option.getD_some, List.length_cons, List.length_nil, beq_self_eq_true, Bool.true_and, Bool.and_true, if_true]
    have ed : ([x, y] : List Str).eraseDups = [x, y] := by
      simp [List.eraseDups_cons, h7']
    rw [ed]
    cases va <;> first | (simp [plainX] at h8; done) | (cases vb <;> first | (simp [plainX] at h9; done) | rfl)
  · have q : semF X.K X.mg E0 (fun env S => (den T a env S).fl fun x S1 => (den T b env S1).fl fun y S2 => .nx ((env.set i (some x)).set k (some y)) S2) D σ H := q
    refine semF.fl (rel := relA X.K X.mg) (k := fun env x S1 => (den T b env S1).fl fun y S2 => .nx ((env.set i (some x)).set k (some y)) S2) q fun Z ρ1 S1 H1 env a v ok sl r h2 => ?_
    refine ⟨Z, ρ1, S1, env, ok, sl, RPost.fl h2 fun b S2 w ρ2 H2 e ok2 r2 h3 => ?_⟩
    exact ⟨v, w, rfl, h3.nx_here ok2 (((sl.ext e).set (RepA.ext e r)).set r2)⟩
theorem s_asg {t : Tg} {e : E} {tg v : Expr} {pos : Pos} (f : Fits c X) (g : Good T kw j E0 X) (h1 : noComp v = true) (h2 : noPair tg v = true) (h3 : plainX tg = true) (hg : PG X tg (semG T X.K X.mg E0 t)) (h : PE X v (semE T X.K X.mg E0 e)) :
    PS X (.Assign [tg] v pos) (semF X.K X.mg E0 (run T (.asg t e))) := by
  refine (ps_asg h hg (swaps_none h1) (pair_none h2) (asg_cons h3)).bnw fun D σ H q => ?_
  refine semF.fl (rel := relA X.K X.mg) (k := fun env a S1 => (asgT T t a env S1).fl fun env S2 => .nx env S2) q fun Z ρ1 S1 H1 env a v ok sl r h2 => ?_
  exact ⟨Z, ρ1, S1, env, a, ok, sl, r, RPost.fl h2 fun env' S2 σ' ρ2 H2 e ok2 r2 h3 => h3.nx_here ok2 r2⟩
theorem s_expr {e : E} {v : Expr} {pos : Pos} (h1 : noComp v = true) (h : PE X v (semE T X.K X.mg E0 e)) : PS X (.Expr v pos) (semF X.K X.mg E0 (run T (.expr e))) :=
  (ps_expr h (swaps_none h1)).bnw fun D σ H q => semF.fl (rel := relA X.K X.mg) (k := fun env _ S1 => .nx env S1) q fun Z ρ1 S1 H1 env a v ok sl r h2 => h2.nx_here ok sl
theorem s_ret {e : E} {v : Expr} {pos : Pos} (h : PE X v (semE T X.K X.mg E0 e)) : PS X (.Return (some v) pos) (semF X.K X.mg E0 (run T (.ret e))) :=
  (ps_ret h).bnw fun D σ H q => semF.fl (rel := relA X.K X.mg) (k := fun _ a S1 => .rt a S1) q fun Z ρ1 S1 H1 env a v ok sl r h2 => h2 v ρ1 H1 Ext.refl ok r
theorem s_ite {d : E} {a b : Ss} {v : Expr} {x y : List Stmt} {pos : Pos} (h : PT X v (semT T X.K X.mg E0 d)) (ha : PSs X x (semF X.K X.mg E0 (runs T a))) (hb : PSs X y (semF X.K X.mg E0 (runs T b))) : PS X (.If v x y pos) (semF X.K X.mg E0 (run T (.ite d a b))) :=
  (ps_if h ha hb).bnw fun D σ H q => semF_ite q
theorem s_for {t : Tn} {it : It} {b : Ss} {tg iter : Expr} {body : List Stmt} {pos : Pos} (f : Fits c X) (g : Good T kw j E0 X) (po : PassesOwn (model X.prog X.w) X.A X.env X.xe) (hp : plainX iter = true) (ht : chkTn c t tg = true) (hi : PI X tg iter (semI T X.K X.mg E0 it))
    (hb : PSs X body (semF X.K X.mg E0 (runs T b))) : PS X (.For tg iter body [] pos) (semF X.K X.mg E0 (run T (.forr t it b))) := by
  refine (ps_for po g.calm hi (tn_pg f g.calm g.nd t tg ht) hb (folded_none hp)).bnw fun D σ H q => ?_
  refine semF.fl (rel := relW X.K X.mg) (k := fun env xs S1 => forL (bindT t) (fun e S => runs T b e S) xs env S1) q fun Z ρ1 S1 H1 env l J ok sl W h2 => ?_
  have W : Walks X.K X.mg (Mu Z ρ1 S1) ρ1 H1 J l := W
  let P : Nat → L2.St → Hp → Prop := fun i σ' H' => ∃ ρ' S' env', Ext Z ρ1 S1 H1 ρ' S' H' ∧ OkS X.K X.mg Z ρ' S' H' ∧ Slots X.K X.mg (Mu Z ρ' S') ρ' H' σ' env' ∧ FPost X.K X.mg Z E0 D ρ' S' H' (forL (bindT t) (fun e S => runs T b e S) (l.drop i) env' S')
  refine ⟨fun i m σ' H' => m = l.length - i ∧ i ≤ l.length ∧ P i σ' H', ⟨l.length, by simp, Nat.zero_le _, ρ1, S1, env, Ext.refl, ok, sl, h2⟩, ?_⟩
  rintro i m σ' H' ⟨rfl, hi, ρ', S', env', ex, o, sl', hr⟩
  by_cases hlt : i < l.length
  · refine .inr ⟨W.go _ H' i ex.toKeep hlt, P (i + 1), fun σ2 H2 p => ⟨l.length - (i + 1), by omega, rfl, by omega, p⟩, fun x H3 y => ?_⟩
    obtain ⟨a, ea, y⟩ := W.yld _ ρ' H' i x H3 ex.toKeep ex.pre hlt y
    have st : Ext Z ρ' S' H' ρ' S' H3 ∧ OkS X.K X.mg Z ρ' S' H3 ∧ RepA X.K X.mg (Mu Z ρ' S') ρ' H3 x a := by
      rcases y with ⟨rfl, y⟩ | ⟨Ta, u, h1, rfl, y⟩
      · exact ⟨Ext.refl, o, y⟩
      · exact ⟨Ext.laid h1, o.laid h1, y (o.fresh h1)⟩
    obtain ⟨e3, o3, rx⟩ := st
    have hdrop : l.drop i = a :: l.drop (i + 1) := by
      rw [List.drop_eq_getElem_cons hlt]
      have := List.getElem?_eq_getElem hlt
      rw [ea] at this
      cases this
      rfl
    rw [hdrop] at hr
    unfold forL at hr
    cases hbd : bindT t a env' with
    | none =>
      rw [hbd] at hr
      exact hr.elim
    | some env1 =>
      rw [hbd] at hr
      simp only at hr
      refine tn_r X.K X.mg t _ ρ' H3 _ _ env1 a x _ (sl'.ext e3) rx hbd fun σ2 s2 _ => ?_
      refine ⟨Z, ρ', S', env1, o3, s2, ?_⟩
      have hr := FPost.later e3 hr
      have ex3 := ex.trans e3
      cases hbody : runs T b env1 S' with
      | no =>
        rw [hbody] at hr
        exact hr
      | ex cl xx S2 =>
        rw [hbody] at hr
        exact hr
      | rt aa S2 =>
        rw [hbody] at hr
        exact hr
      | bk e2 S2 =>
        rw [hbody] at hr
        exact hr
      | nx e2 S2 =>
        rw [hbody] at hr
        exact fun σ4 ρ4 H4 e4 o4 s4 => ⟨ρ4, S2, e2, ex3.trans e4, o4, s4, FPost.later e4 hr⟩
      | ct e2 S2 =>
        rw [hbody] at hr
        exact fun σ4 ρ4 H4 e4 o4 s4 => ⟨ρ4, S2, e2, ex3.trans e4, o4, s4, FPost.later e4 hr⟩
  · have ei : i = l.length := by omega
    subst ei
    refine .inl ⟨W.stop _ H' ex.toKeep, ?_⟩
    rw [List.drop_length] at hr
    exact hr.nx_here o sl'
theorem s_while {d : E} {b : Ss} {v : Expr} {body : List Stmt} {pos : Pos} (po : PassesOwn (model X.prog X.w) X.A X.env X.xe) (h : PT X v (semT T X.K X.mg E0 d))
    (hb : PSs X body (semF X.K X.mg E0 (runs T b))) : PS X (.While v body [] pos) (semF X.K X.mg E0 (run T (.while d b))) := by
  refine (ps_while po h hb).bnw fun D σ H q => ?_
  obtain ⟨Z, ρ, S, env, ok, sl, q⟩ := q
  have q : FPost X.K X.mg Z E0 D ρ S H (whR (fun e S => den T d e S) (fun e S => runs T b e S) env S) := q
  unfold whR at q
  split at q
  · rename_i hex
    let P : Nat → L2.St → Hp → Prop := fun n σ' H' => ∃ ρ' S' env', Ext Z ρ S H ρ' S' H' ∧ OkS X.K X.mg Z ρ' S' H' ∧ Slots X.K X.mg (Mu Z ρ' S') ρ' H' σ' env' ∧ FPost X.K X.mg Z E0 D ρ' S' H' (whN (fun e S => den T d e S) (fun e S => runs T b e S) n env' S')
    refine ⟨P, ⟨_, ρ, S, env, Ext.refl, ok, sl, q⟩, ?_⟩
    rintro m σ' H' ⟨ρ', S', env', ex, o, sl', hr⟩
    cases m with
    | zero => exact hr.elim
    | succ m =>
      have hr : FPost X.K X.mg Z E0 D ρ' S' H' ((den T d env' S').fl fun k S1 => ifF k (match runs T b env' S1 with
        | .nx e S => whN (fun e S => den T d e S) (fun e S => runs T b e S) m e S
        | .ct e S => whN (fun e S => den T d e S) (fun e S => runs T b e S) m e S
        | .bk e S => .nx e S
        | f => f) (.nx env' S1)) := hr
      refine ⟨Z, ρ', S', env', o, sl', RPost.mono (RPost.fork hr) ?_⟩
      rintro k H1 ⟨ρ2, S2, e2, o2, h2⟩
      cases k with
      | false =>
        rw [if_neg Bool.false_ne_true] at h2 ⊢
        exact h2.nx_here o2 (sl'.ext e2)
      | true =>
        rw [if_pos rfl] at h2 ⊢
        refine ⟨P m, fun σ3 H3 p => ⟨m, Nat.lt_succ_self m, p⟩, Z, ρ2, S2, env', o2, sl'.ext e2, ?_⟩
        have ex2 := ex.trans e2
        cases hbody : runs T b env' S2 with
        | no =>
          rw [hbody] at h2
          exact h2
        | ex cl xx S3 =>
          rw [hbody] at h2
          exact h2
        | rt aa S3 =>
          rw [hbody] at h2
          exact h2
        | bk e3 S3 =>
          rw [hbody] at h2
          exact h2
        | nx e3 S3 =>
          rw [hbody] at h2
          exact fun σ4 ρ4 H4 e4 o4 s4 => ⟨ρ4, S3, e3, ex2.trans e4, o4, s4, FPost.later e4 h2⟩
        | ct e3 S3 =>
          rw [hbody] at h2
          exact fun σ4 ρ4 H4 e4 o4 s4 => ⟨ρ4, S3, e3, ex2.trans e4, o4, s4, FPost.later e4 h2⟩
  · exact q.elim
end
mutual
theorem soundS (T : Tab) (kw : List (List (Nat × List Str))) (j : Nat) {X : Cx} {c : Ctx} {E0 : XK} (f : Fits c X) (g : Good T kw j E0 X) (po : PassesOwn (model X.prog X.w) X.A X.env X.xe) : ∀ (m : S) (st : Stmt), chkS T kw c m st = true → PS X st (semF X.K X.mg E0 (run T m))
  | .set i e, st, h => by
    replace h : cSet T kw c i e (asg1 st) = true := by simpa only [chkS] using h
    unfold cSet at h
    split at h
    · cases h
    · rename_i tg v e1
      obtain ⟨pos, rfl⟩ := asg1_ok e1
      split at h
      · cases h
      · rename_i x px e2
        cases nm1_ok e2
        simp only [Bool.and_eq_true] at h
        exact s_set f g h.1.1 (fun l => swaps_none h.1.2) (soundE T kw j e X c E0 v f g h.2).1
  | .setc i e, st, h => by
    replace h : cSetc T kw c i e (asg1 st) = true := by simpa only [chkS] using h
    unfold cSetc at h
    split at h
    · rename_i isCell elt t own it cond tg0 v e1
      obtain ⟨pos, rfl⟩ := asg1_ok e1
      split at h
      · rename_i x px elt' tg iter ifs scope pos2 e2 e3
        cases nm1_ok e2
        cases lc1_ok e3
        simp only [Bool.and_eq_true] at h
        obtain ⟨⟨⟨⟨h1, h2⟩, h3⟩, h4⟩, ⟨⟨⟨⟨⟨⟨b1, b2⟩, b3⟩, b4⟩, b5⟩, b6⟩, b7⟩⟩ := h
        have b2' : ∀ i ∈ t.ixs, i ∈ own.map (·.2) := fun i hi => of_decide_eq_true (List.all_eq_true.mp b2 i hi)
        have hc := fun (s : Shared) (H : Hp) (C : Addr) (cl : List (Str × Addr)) (fp : List Addr) => soundC T kw j cond _ (c.blk scope) (fun _ _ _ => False) ifs (f.blk s H scope C cl fp) (g.blk s H scope _ fp) b6
        have he := fun (s : Shared) (H : Hp) (C : Addr) (cl : List (Str × Addr)) (fp : List Addr) => (soundE T kw j elt _ (c.blk scope) (fun _ _ _ => False) elt' (f.blk s H scope C cl fp) (g.blk s H scope _ fp) b7).1
        split at h4
        · rename_i h5
          exact s_setc f g (by simpa using h1) h2 h3 (by simp only [Bool.and_eq_true]; exact h5) b1 b2' b3 b5 (soundI T kw j it X c E0 tg iter f g b4) hc he
        · have h6 : (px.line == pos2.line) = false := by simpa using h4
          refine (s_set (e := .comp isCell elt t own it cond) f g (by simp only [nameB, h1, h2, locB, Bool.true_and, Bool.or_true, Bool.and_true]; unfold isLoc at h2; split at h2 <;> simp_all) (fun l => ?_) (e_comp f g b1 b2' b3 b5 (soundI T kw j it X c E0 tg iter f g b4) hc he))
          unfold swapsWith
          simp only [Expr.pos, h6]
          simp
      · cases h
    · cases h
  | .par i k a b, st, h => by
    replace h : cPar T kw c i k a b (asg1 st) = true := by simpa only [chkS] using h
    unfold cPar at h
    split at h
    · cases h
    · rename_i tg v e1
      obtain ⟨pos, rfl⟩ := asg1_ok e1
      split at h
      · rename_i t1 t2 va vb e2 e3
        obtain ⟨k1, p1, rfl⟩ := tup2_ok e2
        obtain ⟨k2, p2, rfl⟩ := tup2_ok e3
        split at h
        · rename_i x px y py e4 e5
          cases nm1_ok e4
          cases nm1_ok e5
          simp only [Bool.and_eq_true, decide_eq_true_eq, Bool.not_eq_true', beq_iff_eq (α := Option Str)] at h
          obtain ⟨⟨⟨⟨⟨⟨⟨⟨⟨⟨⟨⟨⟨h1, h2⟩, h3⟩, h4⟩, h5⟩, h6⟩, h7⟩, h8⟩, h9⟩, h10⟩, h11⟩, h12⟩, h13⟩, h14⟩ := h
          exact s_par f g h1 h2 h3 h4 h5 h6 h7 h8 h9 h10 h11 h12 (soundE T kw j a X c E0 va f g h13).1 (soundE T kw j b X c E0 vb f g h14).1
        · cases h
      · cases h
  | .asg t e, st, h => by
    replace h : cAsg T kw c t e (asg1 st) = true := by simpa only [chkS] using h
    unfold cAsg at h
    split at h
    · cases h
    · rename_i tg v e1
      obtain ⟨pos, rfl⟩ := asg1_ok e1
      simp only [Bool.and_eq_true] at h
      exact s_asg f g h.1.1.1.1 h.1.1.1.2 h.1.1.2 (soundG T kw j f g t tg h.1.2) (soundE T kw j e X c E0 v f g h.2).1
  | .expr e, st, h => by
    replace h : cExp T kw c e (exp1 st) = true := by simpa only [chkS] using h
    unfold cExp at h
    split at h
    · cases h
    · rename_i v e1
      obtain ⟨pos, rfl⟩ := exp1_ok e1
      simp only [Bool.and_eq_true] at h
      exact s_expr h.1 (soundE T kw j e X c E0 v f g h.2).1
  | .ret e, st, h => by
    replace h : cRet T kw c e (ret1 st) = true := by simpa only [chkS] using h
    unfold cRet at h
    split at h
    · rename_i v e1
      obtain ⟨pos, rfl⟩ := ret1_ok e1
      exact s_ret (soundE T kw j e X c E0 v f g h).1
    · cases h
  | .retN, st, h => by
    replace h : cRetN (ret1 st) = true := by simpa only [chkS] using h
    unfold cRetN at h
    split at h
    · rename_i e1
      obtain ⟨pos, rfl⟩ := ret1_ok e1
      exact ps_retN.bnw fun D σ H ⟨Z, ρ, S, env, ok, sl, q⟩ => q .non ρ H Ext.refl ok Rep.non
    · cases h
  | .app i e, st, h => by
    replace h : cApp T kw c i e (exp1 st) = true := by simpa only [chkS] using h
    unfold cApp at h
    split at h
    · cases h
    · rename_i v e1
      obtain ⟨pos, rfl⟩ := exp1_ok e1
      split at h
      · rename_i x w e2
        obtain ⟨px, apos, cpos, rfl, hl⟩ := app1_ok e2
        simp only [Bool.and_eq_true] at h
        obtain ⟨⟨⟨⟨h1, h2⟩, h3⟩, h4⟩, h5⟩ := h
        exact s_app f g (e_var (T := T) (kw := kw) f (by simp only [chkE, h1, h2, h3]; rfl)) hl h4 (soundE T kw j e X c E0 w f g h5).1
      · cases h
  | .ite d a b, st, h => by
    simp only [chkS] at h
    split at h
    · cases h
    · rename_i t x y e1
      obtain ⟨pos, rfl⟩ := if1_ok e1
      simp only [Bool.and_eq_true] at h
      exact s_ite (soundE T kw j d X c E0 t f g h.1.1).2 (soundSs T kw j f g po a x h.1.2) (soundSs T kw j f g po b y h.2)
  | .forr t it b, st, h => by
    simp only [chkS] at h
    split at h
    · cases h
    · rename_i tg iter body e1
      obtain ⟨pos, rfl⟩ := for1_ok e1
      simp only [Bool.and_eq_true] at h
      exact s_for f g po h.1.1.1.1 h.1.2 (soundI T kw j it X c E0 tg iter f g h.1.1.2) (soundSs T kw j f g po b body h.2)
  | .while d b, st, h => by
    simp only [chkS] at h
    split at h
    · cases h
    · rename_i t body e1
      obtain ⟨pos, rfl⟩ := wh1_ok e1
      simp only [Bool.and_eq_true] at h
      exact s_while po (soundE T kw j d X c E0 t f g h.1).2 (soundSs T kw j f g po b body h.2)
  | .brk, st, h => by
    replace h : brkB st = true := by simpa only [chkS] using h
    unfold brkB at h
    split at h
    · exact ps_break.bnw fun D σ H ⟨Z, ρ, S, env, ok, sl, q⟩ => q σ ρ H Ext.refl ok sl
    · cases h
  | .cont, st, h => by
    replace h : contB st = true := by simpa only [chkS] using h
    unfold contB at h
    split at h
    · exact ps_continue.bnw fun D σ H ⟨Z, ρ, S, env, ok, sl, q⟩ => q σ ρ H Ext.refl ok sl
    · cases h
  | .pass, st, h => by
    have fin : ∀ {st}, PS X st tNext → PS X st (semF X.K X.mg E0 (run T .pass)) := fun h => h.bnw fun D σ H ⟨Z, ρ, S, env, ok, sl, q⟩ => q σ ρ H Ext.refl ok sl
    replace h : passB st = true := by simpa only [chkS] using h
    unfold passB at h
    split at h
    · exact fin ps_pass
    · split at h
      · split at h
        · exact fin ps_doc
        · cases h
      · cases h
    · cases h
  | .never, st, h => ⟨fun pins s σ H D I ⟨Z, ρ, S, env, ok, sl, q⟩ => q.elim⟩
  | .frz i, st, h => by
    replace h : false = true := by simpa only [chkS] using h
    cases h
theorem soundSs (T : Tab) (kw : List (List (Nat × List Str))) (j : Nat) {X : Cx} {c : Ctx} {E0 : XK} (f : Fits c X) (g : Good T kw j E0 X) (po : PassesOwn (model X.prog X.w) X.A X.env X.xe) : ∀ (m : Ss) (st : List Stmt), chkSs T kw c m st = true → PSs X st (semF X.K X.mg E0 (runs T m))
  | .nil, st, h => by
    cases st with
    | cons _ _ => simp [chkSs] at h
    | nil => exact pss_nil.bnw fun D σ H ⟨Z, ρ, S, env, ok, sl, q⟩ => q σ ρ H Ext.refl ok sl
  | .cons s r, st, h => by
    have gen : ∀ {x : Stmt} {l : List Stmt}, chkS T kw c s x = true → chkSs T kw c r l = true → PSs X (x :: l) (semF X.K X.mg E0 (runs T (.cons s r))) := fun {x l} h1 h2 => by
      refine (pss_cons (soundS T kw j f g po s x h1) (soundSs T kw j f g po r l h2)).bnw fun D σ H ⟨Z, ρ, S, env, ok, sl, q⟩ => ⟨Z, ρ, S, env, ok, sl, ?_⟩
      simp only [runs] at q
      cases e : run T s env S with
      | nx e2 S2 =>
        rw [e] at q
        exact fun σ2 ρ2 H2 e4 o4 s4 => ⟨Z, ρ2, S2, e2, o4, s4, FPost.later e4 q⟩
      | no =>
        rw [e] at q
        exact q
      | ex cl xx S2 =>
        rw [e] at q
        exact q
      | rt aa S2 =>
        rw [e] at q
        exact q
      | bk e2 S2 =>
        rw [e] at q
        exact q
      | ct e2 S2 =>
        rw [e] at q
        exact q
    cases s with
    | frz i =>
      have h' : chkSs T kw c r st = true := by simpa only [chkSs] using h
      refine (soundSs T kw j f g po r st h').bnw fun D σ H ⟨Z, ρ, S, env, ok, sl, q⟩ => ?_
      simp only [runs, run] at q
      split at q
      · rename_i e2 S2 hq
        split at hq
        · rename_i n en
          split at hq
          · rename_i ds ed
            cases hq
            obtain ⟨w, ew, rw'⟩ := sl.2 i _ en
            obtain ⟨ex, ok2, r2⟩ := frz_cell ok rw' ed
            refine ⟨Z, ρ, _, _, ok2, ?_, FPost.later ex q⟩
            have s2 := (sl.ext ex).set (i := i) r2
            have e0 : σ.set i (some w) = σ := by
              refine List.ext_getElem? fun k => ?_
              by_cases hk : i = k
              · subst hk
                rw [List.getElem?_set_self (List.getElem?_eq_some_iff.mp ew).1, ew]
              · rw [List.getElem?_set_ne hk]
            rw [e0] at s2
            exact s2
          · cases hq
        · cases hq
      · rename_i hq
        split at q
        · split at q
          · rename_i en _ ds ed
            exact (hq _ _ (by rw [en]; simp only [ed]; rfl)).elim
          · exact q.elim
        · exact q.elim
    | _ => 
      cases st with
      | nil => simp [chkSs] at h
      | cons x l =>
        simp only [chkSs, Bool.and_eq_true] at h
        exact gen h.1 h.2
end
end Bn
/-! Bn, part 13: a def by its term; the law's end. -/
namespace Bn
open PySem PySem.Spec PyProof.Rows L2

section
variable {P : Program} {w : World} {K : PySem.W.Frag} {mg : Str → Option Value} {base : Heap} {j : Nat}
theorem FnG.up {f : Addr} {fd : FuncData} {ps : List Str} {sp : Sp} {i : Nat} (h : FnG P w K mg base j f fd ps sp) (hj : j ≤ i) : FnG P w K mg base i f fd ps sp :=
  ⟨fun A outer s H args us vs Q E hg hr e0 hb r hs => h.run A outer s H args us vs Q E hg (hr.mono hj) e0 hb r hs⟩
theorem FnIn.up {fn : Fn} {ks : List (Nat × List Str)} {i : Nat} (h : FnIn P w K mg base j fn ks) (hj : j ≤ i) : FnIn P w K mg base i fn ks := by
  obtain ⟨fa, fd, h1, h2, h3, h4⟩ := h.ex
  exact ⟨fa, fd, h1, h2, h3.up hj, h4⟩
/-- the table as it stands -/
structure TabOk (P : Program) (w : World) (K : PySem.W.Frag) (mg : Str → Option Value) (base : Heap) (T : Tab) (kw : List (List (Nat × List Str))) (j : Nat) : Prop where
  bs : ∀ x ∈ T.bs, mg x = none
  ms : ∀ p ∈ T.ms, mg p.1 = some (.builtin p.2)
  cs : ∀ p ∈ T.cs, ∃ u v, mg p.1 = some u ∧ RelV v u ∧ ∀ M H, Rep K mg M H v p.2
  fs : ∀ (i : Nat) (fn : Fn), T.fs[i]? = some fn → FnIn P w K mg base j fn (kw.getD i [])
theorem slots_start {M : Addr → Prop} {ρ : List Addr} {H : Hp} {N : List Str} {vs : List V} {as : List A} (r : RepAs K mg M ρ H vs as) : Slots K mg M ρ H (L2.start N vs) (start0 N.length as) := by
  have hl := r.length
  unfold L2.start start0
  refine ⟨by simp [hl], fun i x e => ?_⟩
  by_cases hi : i < as.length
  · rw [List.getElem?_append_left (by simpa using hi), List.getElem?_map] at e
    have ea : as[i]? = some x := by
      cases q : as[i]? with
      | none =>
        rw [q] at e
        cases e
      | some z =>
        rw [q] at e
        cases e
        rfl
    obtain ⟨v, hv, rv⟩ := RepAs.get r ea
    refine ⟨v, ?_, rv⟩
    rw [List.getElem?_append_left (by simp [hl]; exact hi), List.getElem?_map, hv]
    rfl
  · rw [List.getElem?_append_right (by simpa using hi), List.getElem?_replicate] at e
    split at e <;> cases e
/-- THE RULE of a def -/
theorem fnG_of {nm qual : Str} {params : Arguments} {body : List Stmt} {scope : Scope} {dvs : List V} {kws : List (Str × V)} {f : Addr} {fd : FuncData} {N ps : List Str} {T : Tab} {kw : List (List (Nat × List Str))} {b : Ss}
    (F : FunD K nm qual params body scope dvs kws f fd) (sc : FnScope N ps scope) (tk : TabOk P w K mg base T kw j) (hc : chkSs T kw ⟨N, scope, fun _ => true⟩ b body = true) :
    FnG P w K mg base (j + 1) f fd ps (spM K mg ps.length (defR T N.length b)) := by
  obtain ⟨oc, od, dV, kV, doc, pm, an, cdv, ct, osl, rfl, lk, hcd, _, _⟩ := F.ex
  refine ⟨fun A outer s H args us vs Q E hg hr e0 hb r hsp => ?_⟩
  have inK : K.In s.heap := e0.mod.kin.keeps fun p o e => (e0.bs p o e).1
  have noLim : s.heap.NoLimit := e0.mod.nolimit.keeps fun p o e => (e0.bs p o e).1
  have kinds : ∀ y ∈ ps.zip us, scope.names.lookup y.1 = some .local ∨ (scope.names.lookup y.1 = some .cell ∧ ((cellsFrom (s.heap.objs.size + 1) scope.names []).lookup y.1).isSome = true) := fun y hy => by
    rcases sc.par y.1 (List.of_mem_zip (a := y.1) (b := y.2) hy).1 with q | q
    · exact .inl q
    · exact .inr ⟨q, PySem.W.cellsFrom_some _ _ _ (.inl q)⟩
  refine codeAny_call_function hr.depth (inK _ _ lk) rfl sc.co sc.gen rfl (PySem.W.codeRec_of inK hcd) (hb _ _ _ _ ?_)
  refine wpAny_newFunctionEnv_cells sc.kind kinds fun env he s1 x => ?_
  subst he
  refine ⟨noLim.keeps x.toInCall.keep, codeAny_func ?_⟩
  obtain ⟨hl, Z, ρ, S, as, ok, ra, hq⟩ := hsp
  have I : Inv (cxOf (L2.CX P w) P w K mg base N qual scope f cdv A outer s H E) [] (L2.start N vs) H s1 := inv_start sc hr.hd e0 hl r x
  generalize hX : cxOf (L2.CX P w) P w K mg base N qual scope f cdv A outer s H E = X at I
  have hg' : (A.deeper (envOfC qual scope s.heap.objs.size f cdv)).guards = some [] := hg
  have tks : Takes X (fun cls d _ H => E cls d H) := by
    subst hX
    exact takes_of rfl rfl rfl (E₁ := fun e' s'' => L2.CX P w outer H s E e' s'') rfl
  have gd : Good T kw j E X := by
    have pass : Passes (L2.CX X.prog X.w) X E := passes_call tks fun _ _ _ _ h => h
    subst hX
    exact ⟨rfl, sc.nd, hr.deeper _, hg', pass, tk.bs, tk.ms, tk.cs, tk.fs⟩
  have fits : Fits ⟨N, scope, fun _ => true⟩ X := by
    subst hX
    exact ⟨rfl, rfl, rfl⟩
  have po : PassesOwn (model X.prog X.w) X.A X.env X.xe := by
    subst hX
    exact passes_of (K := fun e s'' => L2.CX P w outer H s E e s'') (E₁ := fun e' s'' => L2.CX P w outer H s E e' s'') rfl
  have snd := soundSs T kw j fits gd po b body hc
  have hq' : semF X.K X.mg E (runs T b) { nx := fun _ H' => Q .non H', rt := Q } (L2.start N vs) H := by
    subst hX
    refine ⟨Z, ρ, S, start0 N.length as, ok, slots_start ra, ?_⟩
    have hq : RPost K mg Z E (relA K mg) ρ S H (match runs T b (start0 N.length as) S with
      | .nx _ S => .ok (.d .non) S
      | .rt a S => .ok a S
      | .ex c x S => .ex c x S
      | _ => .no) Q := hq
    show FPost K mg Z E _ ρ S H (runs T b (start0 N.length as) S)
    cases e : runs T b (start0 N.length as) S with
    | nx env' S' =>
      rw [e] at hq
      exact fun σ' ρ' H' e' o' _ => hq .non ρ' H' e' o' Rep.non
    | rt a S' =>
      rw [e] at hq
      exact hq
    | ex c y S' =>
      rw [e] at hq
      exact hq
    | bk env' S' =>
      rw [e] at hq
      exact hq.elim
    | ct env' S' =>
      rw [e] at hq
      exact hq.elim
    | no =>
      rw [e] at hq
      exact hq.elim
  have main := snd.run [] s1 (L2.start N vs) H _ I hq'
  subst hX
  refine wpAny_mono main (fun fl s' hs => ?_) fun e s' hs => hs
  cases fl with
  | ret u =>
    obtain ⟨v, σ', H', J, rv, q⟩ := hs
    exact ⟨v, H', J.os, J.bare, J.base, J.hok, rv, q⟩
  | next =>
    obtain ⟨σ', H', J, q⟩ := hs
    exact ⟨V.non, H', J.os, J.bare, J.base, J.hok, rfl, q⟩
  | brk =>
    obtain ⟨_, _, _, q⟩ := hs
    exact q.elim
  | cont =>
    obtain ⟨_, _, _, q⟩ := hs
    exact q.elim
end
end Bn
/-! Bn, part 14: the law's end. -/
namespace Bn
open PySem PySem.Spec PyProof.Rows L2

/-- what the law's def asks for is there at the start -/
theorem spM_start {K : PySem.W.Frag} {mg : Str → Option Value} {H : Hp} {a : Addr} {ns : List Int} {mir : List A → List Cell → R A} {T' : List Cell} (hS : IsL K (fun _ => False) H a (ns.map V.int)) (h : mir [.d (.scr ns)] [] = .ok (.d (.bl true)) T') :
    spM K mg 1 mir [.ref a] H (fun v _ => v = .bl true) fun _ _ _ => False := by
  have M0 : ∀ b, ¬ Mu (fun _ => False) ([] : List Addr) ([] : List Cell) b := fun b m => by
    rcases m with m | ⟨k, c, e, _⟩
    · exact m
    · simp at e
  refine ⟨rfl, fun _ => False, [], [], [.d (.scr ns)], ⟨rfl, List.nodup_nil, fun k c b e => by simp at e, fun b m => ?_, fun b m => nomatch m⟩, .cons (.scr ?_) .nil, ?_⟩
  · rcases m with m | m
    · exact m.elim
    · exact nomatch m
  · rcases hS with ⟨q, _⟩ | q
    · exact .inl ⟨q, M0 a⟩
    · exact .inr q
  · rw [h]
    intro v ρ' H' _ _ r
    cases r
    rfl
theorem frz_no {x : Addr → Option HO} {a : Addr} {o : Obj} {u : HO} (hb : ∀ b, x b ≠ none → b = a) {b : Addr} (h : b ≠ a) : x b = none := by
  cases q : x b with
  | none => rfl
  | some z => exact (h (hb b (by rw [q]; simp))).elim
/-- the call of the law, from the heap behind the top -/
theorem call_lawG {P : Program} {w : World} {K : PySem.W.Frag} {mg nb : Str → Option Value} {k : Nat} {fa sa : Addr} {fd : FuncData} {x : Str} {mir : List A → List Cell → R A} {sh : Shared} {vals : List Value} {zs : List Int}
    (inK : K.In sh.heap) (gl : sh.heap.Ns mainGlobals mg) (bn : sh.heap.Ns builtinsNs nb) (bs : ∀ y : Str, y ≠ "__name__" → nb y = bootBuiltins y) (nolim : sh.heap.NoLimit) (gens : sh.gens = #[])
    (obj : sh.heap.get? sa = some { cls := .type "list", data := .seq vals.toArray }) (isI : IntsAre vals zs) (fits : zs.length ≤ sizeLine) (room : Room k callerA)
    (F : ∀ base : Heap, K.In base → base.Ns mainGlobals mg → FnG P w K mg base k fa fd [x] (spM K mg 1 mir)) (binds : ∀ (s : Shared) (u : Value), BindsTo s fd ⟨[u], []⟩ [(x, u)])
    (law : ∃ T', mir [.d (.scr zs)] [] = .ok (.d (.bl true)) T') :
    codeAny (model P w) callerA (.call (.ref fa) ⟨[.ref sa], []⟩) (fun r s' => r = .ok (.ret (.bool true)) ∧ OldK sh.heap s'.heap ∧ s'.os = sh.os ∧ AllBare s'.gens) sh := by
  obtain ⟨T', law⟩ := law
  have rel := vals_ints isI
  have many := isI.length
  suffices core : ∀ H : Hp, (∀ b, H b = none ∨ ∃ o xs, H b = some (.frz o (.lst xs))) → IsL K (fun _ => False) H sa (zs.map V.int) → HOk P w H sh.heap → (∀ b, H b ≠ none → b = sa) → (H sa ≠ none → K.lookup sa = none) →
      codeAny (model P w) callerA (.call (.ref fa) ⟨[.ref sa], []⟩) (fun r s' => r = .ok (.ret (.bool true)) ∧ OldK sh.heap s'.heap ∧ s'.os = sh.os ∧ AllBare s'.gens) sh by
    cases own : K.lookup sa with
    | some o =>
      have same := inK sa o own
      rw [obj] at same
      cases same
      have sq : SqL K (fun _ => none) sa (zs.map V.int) := .inr ⟨_, vals.toArray, _, own, rfl, rfl, rfl, by rw [List.size_toArray, many]; exact fits, by simpa using rel⟩
      refine core (fun _ => none) (fun _ => .inl rfl) (.inr sq) (fun b u z => ?_) (fun b z => (z rfl).elim) fun z => (z rfl).elim
      exact nomatch (show (none : Option HO) = some u from z)
    | none =>
      let H : Hp := fun b => if b = sa then some (.frz { cls := .type "list", data := .seq vals.toArray } (.lst (zs.map V.int))) else none
      have at_ : H sa = some (.frz { cls := .type "list", data := .seq vals.toArray } (.lst (zs.map V.int))) := if_pos rfl
      have off : ∀ b, b ≠ sa → H b = none := fun b n => if_neg n
      refine core H (fun b => ?_) (.inl ⟨.inr ⟨_, at_⟩, id⟩) (fun b u z => ?_) (fun b z => ?_) fun _ => own
      · by_cases e : b = sa
        · exact .inr ⟨_, _, e ▸ at_⟩
        · exact .inl (off b e)
      · by_cases e : b = sa
        · subst e
          rw [at_] at z
          cases z
          exact ⟨obj, by rw [List.length_map]; exact fits, vals, _, rel, obj⟩
        · rw [off b e] at z
          cases z
      · by_cases e : b = sa
        · exact e
        · exact (z (off b e)).elim
  intro H only isL hok one notK
  have hid : ∀ {b : Addr} {o : Obj}, sh.heap.get? b = some o → H b = none → (hidT sh.heap H).get? b = some o := fun e n => hidT_get e n
  have free : ∀ {b : Addr} {o : Obj} {es : Array DictEntry} {ep : Nat}, sh.heap.get? b = some o → o.data = .dict es ep → H b = none := fun {b o es ep} e d => by
    cases q : H b with
    | none => rfl
    | some u =>
      obtain rfl : b = sa := one b (by rw [q]; simp)
      rw [obj] at e
      cases e
      exact nomatch (show Data.seq vals.toArray _ = Data.dict es ep from d)
  have ns : ∀ {b : Addr} {m : Str → Option Value}, sh.heap.Ns b m → (hidT sh.heap H).Ns b m := fun {b m} ⟨o, es, ep, e, d, r⟩ => ⟨o, es, ep, hid e (free e d), d, r⟩
  have inB : K.In (hidT sh.heap H) := fun b o e => hid (inK b o e) (by
    cases q : H b with
    | none => rfl
    | some u =>
      obtain rfl : b = sa := one b (by rw [q]; simp)
      rw [notK (by rw [q]; simp)] at e
      cases e)
  have md : Mod K mg (hidT sh.heap H) := ⟨inB, ns gl, ⟨nb, ns bn, bs⟩, let ⟨mc, h1, h2⟩ := nolim; ⟨mc, ns h1, h2⟩⟩
  have env0 : Env0 P w K mg (hidT sh.heap H) callerA [] sh H := ⟨rfl, md, fun b o e => of_hidT e, Nat.le_of_eq (hidT_size _ _), trivial, fun b hb => (nomatch (show b ∈ ([] : List Addr) from hb)), hok, .of_eq gens⟩
  have runs := (F _ inB (ns gl)).run callerA [] sh H ⟨[.ref sa], []⟩ [.ref sa] [.ref sa] _ _ rfl room env0 (binds sh (.ref sa)) (.cons rfl .nil) (spM_start isL law)
  refine codeAny_mono runs fun r s' done => ?_
  cases r with
  | error e =>
    obtain ⟨_, _, _, _, _, _, _, _, _, _, _, _, z⟩ := done
    exact z.elim
  | ok fl =>
    cases fl with
    | next => exact done.elim
    | brk => exact done.elim
    | cont => exact done.elim
    | ret u =>
      obtain ⟨v, H', os, bare, un, hok', rv, vt⟩ := done
      have vt : v = .bl true := vt
      subst vt
      obtain rfl : u = Value.bool true := rv
      refine ⟨rfl, OldK.of_keep fun b o e => ?_, os, bare⟩
      cases q : H b with
      | none => exact un.keep b o e q (fun z => nomatch (show b ∈ ([] : List Addr) from z)) (by simp)
      | some u =>
        rcases only b with z | ⟨ob, xs, z⟩
        · rw [q] at z
          cases z
        · obtain ⟨e1, _⟩ := hok b _ z
          obtain ⟨e2, _⟩ := hok' b _ (un.frzs b ob _ z)
          rw [e] at e1
          cases e1
          exact e2
/-- the goal behind the head -/
theorem walkG {l : PySem.W.OpenLaw} {n k : Nat} {q : Program} {loose : List Str} {XP : (Str → Option Value) → Heap → Prop} {YP : World → Heap → Prop} {d : DefRec} {x : Str} {mir : List A → List Cell → R A}
    (most : l.most = some n) (small : n ≤ sizeLine) (nodf : d.params.defaults = []) (room : Room k callerA)
    (F : ∀ (w : World) (mg : Str → Option Value) (fa : Addr) (h : Heap), YP w h → h.Ns mainGlobals mg → mg d.name = some (.ref fa) →
      ∃ (K : PySem.W.Frag) (fd : FuncData), K.In h ∧ (∀ (s : Shared) (u : Value), BindsTo s fd ⟨[u], []⟩ [(x, u)]) ∧ ∀ base : Heap, K.In base → base.Ns mainGlobals mg → FnG l.prog w K mg base k fa fd [x] (spM K mg 1 mir))
    (law : ∀ ns : List Int, ns.length ≤ n → (∀ z ∈ ns, Builtin.Int.intBits z ≤ 1048576) → ∃ T', mir [.d (.scr ns)] [] = .ok (.d (.bl true)) T') :
    PySem.W.WalkO q loose XP YP l.row.toRowW d [] (fun f vs => PySem.call f vs) := by
  refine Att.attach_callB most nodf fun w s0 s1 mg nb fa o pm cd doc a vs ns G Y _ _ _ hmg hobj hints hlen hbits hg => ?_
  obtain ⟨K, fd, KX, hb, hF⟩ := F w mg fa _ Y G.T.g hmg
  exact call_lawG KX G.T.g G.T.b G.T.builtins G.T.nolimit hg hobj hints (Nat.le_trans hlen small) room hF hb (law ns hlen hbits)

/-! ### constants of the module -/
mutual
/-- K holds the data -/
def datB (K : PySem.W.Frag) : D → Value → Bool
  | .non, .none => true
  | .bl b, .bool c => b == c
  | .int i, .int j _ => decide (i = j)
  | .str x, .str y _ => decide (x = y)
  | .tup ds, .ref a => match K.lookup a with
    | some ⟨.type c, _, .seq its _, _⟩ => decide (c = "tuple") && (decide (its.size ≤ sizeLine) && datAll K ds its.toList)
    | _ => false
  | _, _ => false
def datAll (K : PySem.W.Frag) : List D → List Value → Bool
  | [], [] => true
  | d :: ds, v :: vs => datB K d v && datAll K ds vs
  | _, _ => false
end
def toV : Value → V
  | .none => .non
  | .bool b => .bl b
  | .int i _ => .int i
  | .str s _ => .str s
  | .ref a => .ref a
  | _ => .non
mutual
theorem datB_ok {K : PySem.W.Frag} {mg : Str → Option Value} (M : Addr → Prop) (H : Hp) : ∀ (d : D) (u : Value), datB K d u = true → RelV (toV u) u ∧ Rep K mg M H (toV u) d
  | .non, u, h => by
    cases u <;> first | (simp [datB] at h; done) | skip
    exact ⟨rfl, .non⟩
  | .bl b, u, h => by
    cases u <;> first | (simp [datB] at h; done) | skip
    rename_i c
    have e : b = c := by simpa [datB] using h
    subst e
    exact ⟨rfl, .bl _⟩
  | .int i, u, h => by
    cases u <;> first | (simp [datB] at h; done) | skip
    rename_i k t
    have e : i = k := by simpa [datB] using h
    subst e
    exact ⟨⟨t, rfl⟩, .int _⟩
  | .str x, u, h => by
    cases u <;> first | (simp [datB] at h; done) | skip
    rename_i y t
    have e : x = y := by simpa [datB] using h
    subst e
    exact ⟨⟨t, rfl⟩, .str _⟩
  | .tup ds, u, h => by
    cases u with
    | ref a =>
      simp only [datB] at h
      split at h
      · rename_i c od its n sl q
        simp only [Bool.and_eq_true, decide_eq_true_eq] at h
        obtain ⟨h1, h2, h3⟩ := h
        subst h1
        obtain ⟨r1, r2⟩ := datAll_ok M H ds its.toList h3
        exact ⟨rfl, .tup (.inr (.inr ⟨_, its, n, q, rfl, rfl, h2, r1⟩)) r2⟩
      · cases h
    | _ => simp [datB] at h
  | .lst _, u, h => by cases u <;> simp [datB] at h
  | .scr _, u, h => by cases u <;> simp [datB] at h
  | .dct _, u, h => by cases u <;> simp [datB] at h
  | .obj _ _, u, h => by cases u <;> simp [datB] at h
theorem datAll_ok {K : PySem.W.Frag} {mg : Str → Option Value} (M : Addr → Prop) (H : Hp) : ∀ (d : List D) (u : List Value), datAll K d u = true → Vals (u.map toV) u ∧ Reps K mg M H (u.map toV) d
  | [], [], _ => ⟨.nil, .nil⟩
  | [], _ :: _, h => by simp [datAll] at h
  | _ :: _, [], h => by simp [datAll] at h
  | d :: ds, u :: us, h => by
    simp only [datAll, Bool.and_eq_true] at h
    obtain ⟨a1, a2⟩ := datB_ok M H d u h.1
    obtain ⟨b1, b2⟩ := datAll_ok M H ds us h.2
    exact ⟨.cons a1 b1, .cons a2 b2⟩
end
/-- the module's name x is the data d -/
def conB (K : PySem.W.Frag) (p : Str × D) : Bool := match PySem.W.nsIn K mainGlobals p.1 with
  | some (some u) => datB K p.2 u
  | _ => false
theorem conB_ok {K : PySem.W.Frag} {h : Heap} {mg : Str → Option Value} (X : K.In h) (G : h.Ns mainGlobals mg) {p : Str × D} (c : conB K p = true) : ∃ u v, mg p.1 = some u ∧ RelV v u ∧ ∀ M H, Rep K mg M H v p.2 := by
  unfold conB at c
  split at c
  · rename_i u q
    exact ⟨u, toV u, PySem.W.mg_of X G q, (datB_ok (mg := mg) (fun _ => False) (fun _ => none) p.2 u c).1, fun M H => (datB_ok M H p.2 u c).2⟩
  · cases c
/-- the module's name x is a built-in function -/
def fnB (K : PySem.W.Frag) (p : Str × String) : Bool := match PySem.W.nsIn K mainGlobals p.1 with
  | some (some (.builtin id)) => decide (id = p.2)
  | _ => false
theorem fnB_ok {K : PySem.W.Frag} {h : Heap} {mg : Str → Option Value} (X : K.In h) (G : h.Ns mainGlobals mg) {p : Str × String} (c : fnB K p = true) : mg p.1 = some (.builtin p.2) := by
  unfold fnB at c
  split at c
  · rename_i id q
    have e := of_decide_eq_true c
    subst e
    exact PySem.W.mg_of X G q
  · cases c

/-! ### the head's facts -/
abbrev AlN : Type := Bool × List He.FnW
def obsN (cs : List (Str × D)) (bs : List Str) (ms : List (Str × String)) (fn : List He.DefD) (K : PySem.W.Frag) : AlN :=
  ((fn.all fun d => d.ok K && He.eqO (PySem.W.nsIn K mainGlobals d.at_.1) (some (some (.ref (He.fAd K d.at_))))) && (cs.all (conB K) && (ms.all (fnB K) && bs.all fun x => He.eqO (PySem.W.nsIn K mainGlobals x) (some none))), fn.map fun d => He.fnW K d.at_)
def valN (fn : List He.DefD) : AlN := (true, fn.map He.DefD.val)
def SaysN (cs : List (Str × D)) (bs : List Str) (ms : List (Str × String)) (fn : List He.DefD) (K : PySem.W.Frag) : Prop := obsN cs bs ms fn K = valN fn
def obsNG (n : Nat) (cs : List (Str × D)) (bs : List Str) (ms : List (Str × String)) (fn : List He.DefD) (g : Addr → Option Obj) : AlN := obsN cs bs ms fn (He.frG g (He.asD g n))
def hookN (n : Nat) (cs : List (Str × D)) (bs : List Str) (ms : List (Str × String)) (fn : List He.DefD) : PySem.W.Hook where
  α := AlN
  obs := fun s => obsNG n cs bs ms fn s.heap.get?
  val := fun _ => valN fn
  says := fun _ h => ∃ K : PySem.W.Frag, K.In h ∧ SaysN cs bs ms fn K
  of := fun _ _ e => ⟨_, He.frG_in, e⟩
  keeps := fun _ _ _ ⟨K, hK, c⟩ k => ⟨K, PySem.W.Frag.In.keeps hK k, c⟩
theorem obsNG_eq {n : Nat} {cs : List (Str × D)} {bs : List Str} {ms : List (Str × String)} {fn : List He.DefD} {g : Addr → Option Obj} {s : Shared} (h : ∀ a, g a = s.heap.get? a) : obsNG n cs bs ms fn g = (hookN n cs bs ms fn).obs s := by
  have e : g = s.heap.get? := funext h
  subst e
  rfl
section
variable {cs : List (Str × D)} {bs : List Str} {ms : List (Str × String)} {fn : List He.DefD} {K : PySem.W.Frag} {h : Heap} {mg : Str → Option Value}
theorem SaysN.all (c : SaysN cs bs ms fn K) : ((fn.all fun d => d.ok K && He.eqO (PySem.W.nsIn K mainGlobals d.at_.1) (some (some (.ref (He.fAd K d.at_))))) = true ∧ cs.all (conB K) = true ∧ ms.all (fnB K) = true ∧ (bs.all fun x => He.eqO (PySem.W.nsIn K mainGlobals x) (some none)) = true) := by
  have c1 := congrArg (fun z : AlN => z.1) c
  have c1 : ((fn.all fun d => d.ok K && He.eqO (PySem.W.nsIn K mainGlobals d.at_.1) (some (some (.ref (He.fAd K d.at_))))) && (cs.all (conB K) && (ms.all (fnB K) && bs.all fun x => He.eqO (PySem.W.nsIn K mainGlobals x) (some none)))) = true := c1
  simp only [Bool.and_eq_true] at c1
  exact ⟨c1.1, c1.2.1, c1.2.2.1, c1.2.2.2⟩
theorem SaysN.bs_ok (c : SaysN cs bs ms fn K) (X : K.In h) (G : h.Ns mainGlobals mg) : ∀ x ∈ bs, mg x = none := fun x hx => PySem.W.mg_none_of X G (He.eqO_ok (List.all_eq_true.mp c.all.2.2.2 x hx))
theorem SaysN.ms_ok (c : SaysN cs bs ms fn K) (X : K.In h) (G : h.Ns mainGlobals mg) : ∀ p ∈ ms, mg p.1 = some (.builtin p.2) := fun p hp => fnB_ok X G (List.all_eq_true.mp c.all.2.2.1 p hp)
theorem SaysN.cs_ok (c : SaysN cs bs ms fn K) (X : K.In h) (G : h.Ns mainGlobals mg) : ∀ p ∈ cs, ∃ u v, mg p.1 = some u ∧ RelV v u ∧ ∀ M H, Rep K mg M H v p.2 := fun p hp => conB_ok X G (List.all_eq_true.mp c.all.2.1 p hp)
theorem SaysN.fn_ok (c : SaysN cs bs ms fn K) (X : K.In h) (G : h.Ns mainGlobals mg) (i : Nat) {d : He.DefD} (e : fn[i]? = some d) : ∃ fd, mg d.at_.1 = some (.ref (He.fAd K d.at_)) ∧ FunD K d.name d.qual d.params d.body d.scope (d.dvs K) (d.kws K) (He.fAd K d.at_) fd := by
  have c2 : fn.map (fun d => He.fnW K d.at_) = fn.map He.DefD.val := congrArg (fun z : AlN => z.2) c
  have e2 : (fn.map fun d => He.fnW K d.at_)[i]? = (fn.map He.DefD.val)[i]? := by rw [c2]
  rw [List.getElem?_map, List.getElem?_map, e] at e2
  have a := List.all_eq_true.mp c.all.1 d (List.mem_of_getElem? e)
  simp only [Bool.and_eq_true] at a
  obtain ⟨fd, F⟩ := He.DefD.funD (Option.some.inj e2) a.1
  exact ⟨fd, PySem.W.mg_of X G (He.eqO_ok a.2), F⟩
end
end Bn
/-! Bn, part 15: what a printed law leans on. -/
namespace Bn
open PySem PySem.Spec PyProof.Rows L2

def AllAt (Q : Fn → List (Nat × List Str) → Prop) : List Fn → List (List (Nat × List Str)) → Prop
  | [], _ => True
  | f :: r, kw => Q f (kw.getD 0 []) ∧ AllAt Q r kw.tail
theorem AllAt.get {Q : Fn → List (Nat × List Str) → Prop} : ∀ {l : List Fn} {kw : List (List (Nat × List Str))} {i : Nat} {fn : Fn}, AllAt Q l kw → l[i]? = some fn → Q fn (kw.getD i [])
  | [], _, _, _, _, e => by simp at e
  | f :: r, kw, 0, fn, h, e => by
    simp at e
    subst e
    exact h.1
  | f :: r, kw, i + 1, fn, h, e => by
    have q := AllAt.get (l := r) (kw := kw.tail) (i := i) h.2 (by simpa using e)
    cases kw with
    | nil => simpa using q
    | cons k kw => simpa using q
section
variable {K : PySem.W.Frag} {nm qual : Str} {params : Arguments} {body : List Stmt} {scope : Scope} {f : Addr} {fd : FuncData}
def BAll (nm qual : Str) (params : Arguments) (body : List Stmt) (scope : Scope) (ps : List Str) : List (Nat × List Str) → Prop
  | [] => True
  | p :: r => (∀ (kV doc pm : Value) (an : Option Addr) (cdv ct : Value) (us ws : List Value), us.length = p.1 → ws.length = p.2.length →
      bindArgs (PySem.W.fnOf nm qual params body scope .none kV doc pm an cdv ct) ⟨us, p.2.zip ws⟩ = pure (ps.zip (argsK ps p.2 us ws))) ∧ BAll nm qual params body scope ps r
theorem BAll.get {ps : List Str} : ∀ {l : List (Nat × List Str)}, BAll nm qual params body scope ps l → ∀ p ∈ l, ∀ (kV doc pm : Value) (an : Option Addr) (cdv ct : Value) (us ws : List Value), us.length = p.1 → ws.length = p.2.length →
      bindArgs (PySem.W.fnOf nm qual params body scope .none kV doc pm an cdv ct) ⟨us, p.2.zip ws⟩ = pure (ps.zip (argsK ps p.2 us ws))
  | [], _, p, hp => nomatch hp
  | q :: r, h, p, hp => by
    rcases List.mem_cons.mp hp with e | hp
    · subst e
      exact h.1
    · exact BAll.get h.2 p hp
theorem binds_of (F : FunD K nm qual params body scope [] [] f fd) {ps : List Str} {ks : List (Nat × List Str)} (h : BAll nm qual params body scope ps ((ps.length, []) :: ks)) :
    ∀ p ∈ ((ps.length, []) :: ks : List (Nat × List Str)), ∀ (s : Shared) (us ws : List Value), us.length = p.1 → ws.length = p.2.length → K.In s.heap → BindsTo s fd ⟨us, p.2.zip ws⟩ (ps.zip (argsK ps p.2 us ws)) := by
  obtain ⟨oc, od, dV, kV, doc, pm, an, cdv, ct, osl, rfl, lk, hcd, hD, hK⟩ := F.ex
  rcases hD with ⟨_, rfl⟩ | ⟨e, _⟩
  · exact fun p hp s us ws h1 h2 _ => .of_eq (h.get p hp kV doc pm an cdv ct us ws h1 h2)
  · exact absurd rfl e
theorem bindsL (F : FunD K nm qual params body scope [] [] f fd) {x : Str} (h : ∀ (kV doc pm : Value) (an : Option Addr) (cdv ct : Value) (u : Value), bindArgs (PySem.W.fnOf nm qual params body scope .none kV doc pm an cdv ct) ⟨[u], []⟩ = pure [(x, u)]) :
    ∀ (s : Shared) (v : Value), BindsTo s fd ⟨[v], []⟩ [(x, v)] := by
  obtain ⟨oc, od, dV, kV, doc, pm, an, cdv, ct, osl, rfl, lk, hcd, hD, hK⟩ := F.ex
  rcases hD with ⟨_, rfl⟩ | ⟨e, _⟩
  · exact fun s v => .of_eq (h kV doc pm an cdv ct v)
  · exact absurd rfl e
end
end Bn
/-! Bn, part 16: plain facts for reckoning with terms. -/
namespace Bn
open PySem L2

/-! ### sizes -/
def sm (n : Nat) (i : Int) : Prop := i.natAbs < 2 ^ n
theorem sm_mono {a b : Nat} {i : Int} (h : sm a i) (hab : a ≤ b) : sm b i := Nat.lt_of_lt_of_le h (Nat.pow_le_pow_right (by decide) hab)
theorem sm_mul {a b : Nat} {i j : Int} (h : sm a i) (k : sm b j) : sm (a + b) (i * j) := by
  unfold sm at *
  rw [Int.natAbs_mul, Nat.pow_add]
  exact Nat.mul_lt_mul'' h k
theorem sm_neg {a : Nat} {i : Int} (h : sm a i) : sm a (-i) := by
  unfold sm at *
  rw [Int.natAbs_neg]
  exact h
theorem sm_add {a : Nat} {i j : Int} (h : sm a i) (k : sm a j) : sm (a + 1) (i + j) := by
  unfold sm at *
  have q : (i + j).natAbs ≤ i.natAbs + j.natAbs := Int.natAbs_add_le i j
  rw [Nat.pow_succ]
  omega
theorem sm_sub {a : Nat} {i j : Int} (h : sm a i) (k : sm a j) : sm (a + 1) (i - j) := by
  rw [Int.sub_eq_add_neg]
  exact sm_add h (sm_neg k)
theorem sm_le {a : Nat} {i j : Int} (h : sm a i) (k : j.natAbs ≤ i.natAbs) : sm a j := Nat.lt_of_le_of_lt k h
theorem bits_sm {a : Nat} {i : Int} (h : sm a i) : Builtin.Int.intBits i ≤ a := by
  unfold Builtin.Int.intBits
  by_cases e : i = 0
  · rw [if_pos (by simpa using e)]
    exact Nat.zero_le _
  · rw [if_neg (by simpa using e)]
    exact (Nat.log2_lt (by omega)).mpr h
theorem sm_bits {a : Nat} {i : Int} (h : Builtin.Int.intBits i ≤ a) : sm a i := by
  unfold Builtin.Int.intBits at h
  by_cases e : i = 0
  · subst e
    exact Nat.pow_pos (by decide)
  · rw [if_neg (by simpa using e)] at h
    exact (Nat.log2_lt (by omega)).mp h
theorem mulOk_sm {a b : Nat} {i j : Int} (h : sm a i) (k : sm b j) (hab : a + b ≤ 134217728) : mulOk i j = true := by
  unfold mulOk
  have h1 := bits_sm h
  have h2 := bits_sm k
  exact decide_eq_true (by omega)
theorem divOk_sm {i j : Int} (h : sm 8000 j) (h0 : j ≠ 0) : divOk i j = true := by
  unfold divOk
  rw [decide_eq_true h0, Bool.true_and]
  unfold Builtin.divisionGoesByPylong
  simp only [Bool.not_eq_true', Bool.and_eq_false_iff]
  left
  have hj : ¬ (j == 0) = true := by simpa using h0
  have h1 : j.natAbs.log2 < 8000 := (Nat.log2_lt (by omega)).mpr h
  refine decide_eq_false ?_
  rw [if_neg hj]
  omega
theorem sm_of_lt {n : Nat} {i : Int} (h : i.natAbs < 2 ^ n) : sm n i := h
theorem sm40 {i : Int} (h : i.natAbs < 1099511627776) : sm 40 i := by
  unfold sm
  exact h

/-! ### calls -/
theorem cellsA_data : ∀ l : List D, cellsA (l.map A.d) = []
  | [] => rfl
  | _ :: r => cellsA_data r
theorem renAs_data (f : Nat → Option Nat) : ∀ l : List D, renAs f (l.map A.d) = some (l.map A.d)
  | [] => rfl
  | x :: r => by
    show (match some (A.d x), renAs f (r.map A.d) with
      | some b, some s => some (b :: s)
      | _, _ => none) = _
    rw [renAs_data f r]
    rfl
theorem toDs_eq : ∀ {l : List A} {ds : List D}, toDs l = some ds → l = ds.map A.d
  | [], ds, h => by
    cases h
    rfl
  | .d x :: r, ds, h => by
    obtain ⟨l, e1, e2⟩ := Option.map_eq_some_iff.mp (show (toDs r).map (x :: ·) = some ds from h)
    subst e2
    rw [toDs_eq e1]
    rfl
  | .c _ :: _, ds, h => by cases h
theorem toDs_map : ∀ l : List D, toDs (l.map A.d) = some l
  | [] => rfl
  | x :: r => by
    show (toDs (r.map A.d)).map (x :: ·) = _
    rw [toDs_map r]
    rfl
/-- a call with data alone that gives data -/
theorem callD_data {mir : List A → List Cell → R A} {as : List D} {S T : List Cell} {x : D} (h : mir (as.map A.d) [] = .ok (.d x) T) : callD mir (as.map A.d) S = .ok (.d x) S := by
  unfold callD
  rw [cellsA_data]
  simp only [dedup, reach, List.flatMap_nil, List.all_nil, if_true, renAs_data, pickS, Option.bind_some, renS, h, List.length_nil, List.take_zero, putS]
/-- a call with data alone that gives a new cell of data -/
theorem callD_new {mir : List A → List Cell → R A} {as : List D} {S : List Cell} {l : List D} (h : mir (as.map A.d) [] = .ok (.c 0) [.lst (l.map A.d)]) : callD mir (as.map A.d) S = .ok (.c S.length) (S ++ [.lst (l.map A.d)]) := by
  unfold callD
  rw [cellsA_data]
  simp only [dedup, reach, List.flatMap_nil, List.all_nil, if_true, renAs_data, pickS, Option.bind_some, renS, h, List.length_nil, List.take_zero, putS, renA, backN, List.getElem?_nil, renC, Option.map_some, Nat.zero_le, List.drop_zero, Nat.sub_zero, Nat.add_zero]
/-- a call whose first argument is a cell of data, the others data -/
theorem callD_cell {mir : List A → List Cell → R A} {n : Nat} {as : List D} {S : List Cell} {l l' : List D} {x : D} (hS : S[n]? = some (.lst (l.map A.d))) (h : mir (.c 0 :: as.map A.d) [.lst (l.map A.d)] = .ok (.d x) [.lst (l'.map A.d)]) :
    callD mir (.c n :: as.map A.d) S = .ok (.d x) (S.set n (.lst (l'.map A.d))) := by
  have e1 : cellsA (.c n :: as.map A.d) = [n] := by
    show n :: cellsA (as.map A.d) = [n]
    rw [cellsA_data]
  have e2 : dedup [n] = [n] := by simp [dedup]
  have e3 : reach S 4 [n] = [n] := by
    simp [reach, hS, cellsC, cellsA_data]
  have e4 : renAs (fun k => ixOf k [n]) (.c n :: as.map A.d) = some (.c 0 :: as.map A.d) := by
    show (match renA (fun k => ixOf k [n]) (.c n), renAs (fun k => ixOf k [n]) (as.map A.d) with
      | some b, some s => some (b :: s)
      | _, _ => none) = _
    rw [renAs_data]
    simp [renA, ixOf]
  have e5 : (pickS S [n]).bind (renS fun k => ixOf k [n]) = some [.lst (l.map A.d)] := by
    simp [pickS, hS, renS, renC, renAs_data]
  unfold callD
  simp only [e1, e2, e3, e4, e5, h, List.length_singleton]
  simp [renS, renC, renAs_data, putS]
end Bn
/-! Bn, part 17: reckoning: comparisons, comprehensions, the loop of a common divisor. -/
namespace Bn
open PySem L2
theorem eqv_int (a b : Int) : PyData.eqv (.int a) (.int b) = decide (a = b) := by
  simp only [PyData.eqv]
  by_cases h : a = b
  · simp [h]
  · simp [h]
theorem cmpD_eq_int (a b : Int) (S : List Cell) : cmpD .Eq (.d (.int a)) (.d (.int b)) S = .ok (.d (.bl (decide (a = b)))) S := by
  have e1 : eqOk (.int a) = true := rfl
  have e2 : eqOk (.int b) = true := rfl
  simp [cmpD, cmpE, dataD, e1, e2, D.py, eqv_int]
theorem cmpD_ne_int (a b : Int) (S : List Cell) : cmpD .NotEq (.d (.int a)) (.d (.int b)) S = .ok (.d (.bl (!decide (a = b)))) S := by
  have e1 : eqOk (.int a) = true := rfl
  have e2 : eqOk (.int b) = true := rfl
  simp [cmpD, cmpE, dataD, e1, e2, D.py, eqv_int]
theorem compL_map {bd : A → Option Env} {elt : Env → List Cell → R A} {f : D → D} {S : List Cell} : ∀ (xs : List D) (acc : List D), acc.length + xs.length ≤ LIM → (∀ x ∈ xs, ∃ env, bd (.d x) = some env ∧ elt env S = .ok (.d (f x)) S) →
    compL bd (fun _ S => .ok (.d (.bl true)) S) elt (xs.map A.d) (acc.map A.d) S = .ok ((acc ++ xs.map f).map A.d) S
  | [], acc, _, _ => by simp [compL]
  | x :: r, acc, hl, h => by
    obtain ⟨env, e1, e2⟩ := h x List.mem_cons_self
    have ih := compL_map (bd := bd) (elt := elt) (f := f) (S := S) r (acc ++ [f x]) (by simp at hl ⊢; omega) fun y hy => h y (List.mem_cons_of_mem _ hy)
    have hlt : (acc.map A.d).length < LIM := by simp at hl ⊢; omega
    simp only [List.map_cons, compL, e1, e2, hlt, if_true]
    rw [List.map_append] at ih
    simp only [List.map_cons, List.map_nil] at ih
    rw [ih]
    simp
theorem den_comp {T : Tab} {elt : E} {i : Nat} {own : List (Str × Nat)} {it : It} {env : Env} {S S' : List Cell} {xs : List D} {f : D → D} (hi : denI T it env S = .ok (xs.map A.d) S') (hl : xs.length ≤ LIM)
    (h : ∀ x ∈ xs, den T elt ((wipeE env (own.map (·.2))).set i (some (.d x))) S' = .ok (.d (f x)) S') : den T (.comp false elt (.nm i) own it .no) env S = .ok (.d (.lst (xs.map f))) S' := by
  have q := compL_map (bd := fun x => bindT (.nm i) x (wipeE env (own.map (·.2)))) (elt := fun e S => den T elt e S) (f := f) (S := S') xs [] (by simpa using hl) fun x hx => ⟨_, by simp [bindT], h x hx⟩
  unfold den
  rw [hi, R.bind_ok]
  have q' : compL (fun x => bindT (.nm i) x (wipeE env (own.map (·.2)))) (fun e S => denT T .no e S) (fun e S => den T elt e S) (xs.map A.d) [] S' = .ok ((xs.map f).map A.d) S' := by
    have e : (fun (e : Env) (S : List Cell) => denT T .no e S) = fun _ S => .ok (.d (.bl true)) S := by
      funext e S
      simp [denT]
    rw [e]
    simpa using q
  rw [q', R.bind_ok]
  simp only [compK, toDs_map, Bool.false_eq_true, if_false]
theorem boolsOf_map {α : Type} (p : α → Bool) : ∀ l : List α, boolsOf (l.map fun x => D.bl (p x)) = some (l.map p)
  | [] => rfl
  | x :: r => by simp [boolsOf, boolsOf_map p r]
theorem allD_map {α : Type} (p : α → Bool) (l : List α) (S : List Cell) : allD (.d (.lst (l.map fun x => D.bl (p x)))) S = .ok (.d (.bl (l.all p))) S := by
  simp [allD, listD, boolsOf_map, List.all_map]
theorem anyD_map {α : Type} (p : α → Bool) (l : List α) (S : List Cell) : anyD (.d (.lst (l.map fun x => D.bl (p x)))) S = .ok (.d (.bl (l.any p))) S := by
  simp [anyD, listD, boolsOf_map, List.any_map]

theorem fmod_nat (a b : Nat) : (a : Int).fmod (b : Int) = ((a % b : Nat) : Int) := by
  rw [Int.fmod_eq_emod_of_nonneg _ (Int.natCast_nonneg b)]
  exact (Int.natCast_emod a b).symm
abbrev gcdBody (i j : Nat) : Ss := .cons (.par i j (.var j) (.bin .Mod (.bi .int1 (.cons (.var i) .nil)) (.var j))) .nil
abbrev gcdTest (j : Nat) : E := .cmp .Gt (.var j) (.k (.int 0))
theorem gcd_whN (T : Tab) {i j : Nat} (hij : i ≠ j) (S : List Cell) : ∀ (n b a : Nat) (env : Bn.Env), b < n → i < env.length → j < env.length → env[i]? = some (some (.d (.int a))) → env[j]? = some (some (.d (.int b))) →
    whN (fun e S => den T (gcdTest j) e S) (fun e S => Bn.runs T (gcdBody i j) e S) n env S = .nx ((env.set i (some (.d (.int (Nat.gcd a b : Nat))))).set j (some (.d (.int 0)))) S
  | 0, b, _, _, h, _, _, _, _ => absurd h (by omega)
  | n + 1, b, a, env, h, hi, hj, e1, e2 => by
    have c1 : den T (gcdTest j) env S = .ok (.d (.bl (decide (0 < (b : Int))))) S := by
      simp [gcdTest, den, e2, R.bind, cmpD, cmpO, cmpI, okD]
    unfold whN
    simp only [c1, R.fl]
    by_cases hb : b = 0
    · subst hb
      simp only [Int.natCast_zero, Int.lt_irrefl, decide_false, ifF, Nat.gcd_zero_right]
      congr 1
      refine List.ext_getElem? fun k => ?_
      rw [List.getElem?_set, List.getElem?_set]
      by_cases hk : j = k
      · subst hk
        rw [if_pos rfl, List.length_set, if_pos hj, e2]
        rfl
      · rw [if_neg hk]
        by_cases hk2 : i = k
        · subst hk2
          rw [if_pos rfl, if_pos hi, e1]
        · rw [if_neg hk2]
    · have hb' : (0 : Int) < b := by omega
      have hm : ((a : Int).fmod (b : Int)) = ((a % b : Nat) : Int) := fmod_nat a b
      have hb0 : ((b : Int) = 0) = False := by simp [hb]
      have c2 : Bn.runs T (gcdBody i j) env S = .nx ((env.set i (some (.d (.int (b : Nat))))).set j (some (.d (.int ((a % b : Nat) : Int))))) S := by
        simp [gcdBody, Bn.runs, Bn.run, den, denEs, e1, e2, R.bind, R.fl, biD, one, intD, binD, binI, okD, hb0, hm, hb]
      simp only [hb', decide_true, ifF, c2]
      have hi' : i < ((env.set i (some (A.d (.int (b : Nat))))).set j (some (.d (.int ((a % b : Nat) : Int))))).length := by simpa using hi
      have hj' : j < ((env.set i (some (A.d (.int (b : Nat))))).set j (some (.d (.int ((a % b : Nat) : Int))))).length := by simpa using hj
      have lt : a % b < n := Nat.lt_of_lt_of_le (Nat.mod_lt _ (Nat.pos_of_ne_zero hb)) (by omega)
      rw [gcd_whN T hij S n (a % b) b _ lt hi' hj' (by rw [List.getElem?_set_ne (Ne.symm hij), List.getElem?_set_self hi]) (by rw [List.getElem?_set_self (by simpa using hj)])]
      have eg : Nat.gcd b (a % b) = Nat.gcd a b := by
        rw [Nat.gcd_comm a b]
        rw [Nat.gcd_comm b (a % b)]
        exact (Nat.gcd_rec b a).symm
      rw [eg]
      congr 1
      refine List.ext_getElem? fun k => ?_
      simp only [List.getElem?_set, List.length_set]
      by_cases hk : j = k
      · simp [hk]
      · by_cases hk2 : i = k
        · simp [hk, hk2]
        · simp [hk, hk2]
theorem gcd_run (T : Tab) {i j : Nat} (hij : i ≠ j) (S : List Cell) (a b : Nat) (env : Bn.Env) (hi : i < env.length) (hj : j < env.length) (e1 : env[i]? = some (some (.d (.int a)))) (e2 : env[j]? = some (some (.d (.int b)))) :
    Bn.run T (.while (gcdTest j) (gcdBody i j)) env S = .nx ((env.set i (some (.d (.int (Nat.gcd a b : Nat))))).set j (some (.d (.int 0)))) S := by
  simp only [Bn.run]
  exact whR_of (gcd_whN T hij S (b + 1) b a env (Nat.lt_succ_self b) hi hj e1 e2) (fun z => nomatch z)
theorem cmp_lt (i j : Int) (S : List Cell) : cmpD .Lt (.d (.int i)) (.d (.int j)) S = .ok (.d (.bl (decide (i < j)))) S := rfl
theorem cmp_le (i j : Int) (S : List Cell) : cmpD .LtE (.d (.int i)) (.d (.int j)) S = .ok (.d (.bl (decide (i ≤ j)))) S := rfl
theorem cmp_gt (i j : Int) (S : List Cell) : cmpD .Gt (.d (.int i)) (.d (.int j)) S = .ok (.d (.bl (decide (j < i)))) S := rfl
theorem cmp_ge (i j : Int) (S : List Cell) : cmpD .GtE (.d (.int i)) (.d (.int j)) S = .ok (.d (.bl (decide (j ≤ i)))) S := rfl
theorem bin_add (i j : Int) (S : List Cell) : binD .Add (.d (.int i)) (.d (.int j)) S = .ok (.d (.int (i + j))) S := rfl
theorem bin_sub (i j : Int) (S : List Cell) : binD .Sub (.d (.int i)) (.d (.int j)) S = .ok (.d (.int (i - j))) S := rfl
theorem bin_mul {i j : Int} (h : mulOk i j = true) (S : List Cell) : binD .Mult (.d (.int i)) (.d (.int j)) S = .ok (.d (.int (i * j))) S := by
  simp [binD, binI, h, okD]
theorem bin_fdiv {i j : Int} (h : divOk i j = true) (S : List Cell) : binD .FloorDiv (.d (.int i)) (.d (.int j)) S = .ok (.d (.int (i.fdiv j))) S := by
  simp [binD, binI, h, okD]
theorem bin_mod {i j : Int} (h : j ≠ 0) (S : List Cell) : binD .Mod (.d (.int i)) (.d (.int j)) S = .ok (.d (.int (i.fmod j))) S := by
  simp [binD, binI, h, okD]
theorem bin_tup {l m : List D} (h : l.length + m.length ≤ LIM) (S : List Cell) : binD .Add (.d (.tup l)) (.d (.tup m)) S = .ok (.d (.tup (l ++ m))) S := by
  simp [binD, h]
theorem bin_tupI (l m : List D) (S : List Cell) : binD .Add (.d (.tup l)) (.d (.tup m)) S = if l.length + m.length ≤ LIM then .ok (.d (.tup (l ++ m))) S else .no := rfl
end Bn
/-! Bn, part 18: reckoning: and, or, returns, all of a comprehension. -/
namespace Bn
open PySem L2
variable {T : Tab} {env : Bn.Env} {S S' : List Cell}
theorem runs_cons {st : Bn.S} {r : Ss} {e : Bn.Env} {S1 : List Cell} (h : Bn.run T st env S = .nx e S1) : Bn.runs T (.cons st r) env S = Bn.runs T r e S1 := by
  simp only [Bn.runs, h]
theorem runs_ret {e : E} {r : Ss} {a : A} (h : den T e env S = .ok a S') : Bn.runs T (.cons (.ret e) r) env S = .rt a S' := by
  simp only [Bn.runs, Bn.run, h, R.fl]
theorem runs_set {e : E} {i : Nat} {r : Ss} {a : A} (h : den T e env S = .ok a S') : Bn.runs T (.cons (.set i e) r) env S = Bn.runs T r (env.set i (some a)) S' := by
  simp only [Bn.runs, Bn.run, h, R.fl]
theorem runs_if {d : E} {a b r : Ss} {k : Bool} (h : den T d env S = .ok (.d (.bl k)) S') : Bn.runs T (.cons (.ite d a b) r) env S = (match (if k = true then Bn.runs T a env S' else Bn.runs T b env S') with
    | .nx e S1 => Bn.runs T r e S1
    | f => f) := by
  cases k <;> simp only [Bn.runs, Bn.run, h, R.fl, ifF, if_true, Bool.false_eq_true, if_false] <;> rfl
/-- if d: return e -/
theorem runs_ifret {d e : E} {r : Ss} {k : Bool} {a : A} (h : den T d env S = .ok (.d (.bl k)) S) (he : den T e env S = .ok a S) : Bn.runs T (.cons (.ite d (.cons (.ret e) .nil) .nil) r) env S = if k = true then .rt a S else Bn.runs T r env S := by
  rw [runs_if h]
  cases k
  · simp only [Bool.false_eq_true, if_false]
    rfl
  · simp only [if_true, runs_ret he]
theorem defR_rt {n : Nat} {b : Ss} {as : List A} {a : A} (h : Bn.runs T b (start0 n as) S = .rt a S') : defR T n b as S = .ok a S' := by
  unfold defR
  rw [h]
theorem and1 {e : E} {k : Bool} {r : R A} (h : den T e env S = r) : den T (.bop k (.cons e .nil)) env S = r := by
  rw [← h]
  simp only [den, denB]
theorem andc {e e2 : E} {r : Es} {b c : Bool} (h : den T e env S = .ok (.d (.bl b)) S) (h2 : b = true → den T (.bop true (.cons e2 r)) env S = .ok (.d (.bl c)) S) : den T (.bop true (.cons e (.cons e2 r))) env S = .ok (.d (.bl (b && c))) S := by
  have q : den T (.bop true (.cons e (.cons e2 r))) env S = (den T e env S).bind fun x S1 => bopK true x S1 (den T (.bop true (.cons e2 r)) env S1) := by
    rw [den]
    rw [denB]
    rfl
  rw [q, h, R.bind_ok]
  cases b with
  | false => rfl
  | true =>
    simp only [bopK, if_true, Bool.true_and]
    exact h2 rfl
theorem orc {e e2 : E} {r : Es} {b c : Bool} (h : den T e env S = .ok (.d (.bl b)) S) (h2 : b = false → den T (.bop false (.cons e2 r)) env S = .ok (.d (.bl c)) S) : den T (.bop false (.cons e (.cons e2 r))) env S = .ok (.d (.bl (b || c))) S := by
  have q : den T (.bop false (.cons e (.cons e2 r))) env S = (den T e env S).bind fun x S1 => bopK false x S1 (den T (.bop false (.cons e2 r)) env S1) := by
    rw [den]
    rw [denB]
    rfl
  rw [q, h, R.bind_ok]
  cases b with
  | true => rfl
  | false =>
    simp only [bopK, if_true, Bool.false_or]
    exact h2 rfl
theorem notc {e : E} {b : Bool} (h : den T e env S = .ok (.d (.bl b)) S) : den T (.not_ e) env S = .ok (.d (.bl (!b))) S := by
  rw [den, h, R.bind_ok]
  rfl
theorem calls {c : Nat} {es : Es} {fn : Fn} {as : List D} {x : D} {U : List Cell} (hf : T.fs[c]? = some fn) (hn : as.length = fn.ps.length) (he : denEs T es env S = .ok (as.map A.d) S) (h : fn.mir (as.map A.d) [] = .ok (.d x) U) : den T (.call c es) env S = .ok (.d x) S := by
  rw [den, he, R.bind_ok]
  unfold callK
  rw [hf]
  simp only [List.length_map, hn, if_true]
  exact callD_data h
theorem bi1 {b : Bi} {e : E} {a : A} (h : den T e env S = .ok a S') : den T (.bi b (.cons e .nil)) env S = biD b [a] S' := by
  rw [den]
  simp only [denEs, h, R.bind]
theorem all_comp {e it' : E} {i : Nat} {own : List (Str × Nat)} {it : It} {l : List D} {p : D → Bool} (hi : denI T it env S = .ok (l.map A.d) S) (hl : l.length ≤ LIM) (h : ∀ x ∈ l, den T e ((wipeE env (own.map (·.2))).set i (some (.d x))) S = .ok (.d (.bl (p x))) S) :
    den T (.bi .all (.cons (.comp false e (.nm i) own it .no) .nil)) env S = .ok (.d (.bl (l.all p))) S := by
  rw [bi1 (den_comp (f := fun x => .bl (p x)) hi hl h)]
  exact allD_map p l S
theorem wipeE_len : ∀ (vs : List Nat) (env : Bn.Env), (wipeE env vs).length = env.length
  | [], _ => rfl
  | v :: vs, env => by
    show ((wipeE env vs).set v none).length = _
    rw [List.length_set, wipeE_len vs]
theorem var_set {i : Nat} {own : List (Str × Nat)} {x : A} (hi : i < env.length) : den T (.var i) ((wipeE env (own.map (·.2))).set i (some x)) S = .ok x S := by
  rw [den, List.getElem?_set_self (by rw [wipeE_len]; exact hi)]
/-- all([f(x) for x in a tuple]) -/
theorem all_calls {c i j : Nat} {own : List (Str × Nat)} {fn : Fn} {l : List D} {p : D → Bool} (hf : T.fs[c]? = some fn) (hn : 1 = fn.ps.length) (hj : env[j]? = some (some (.d (.tup l)))) (hl : l.length ≤ LIM) (hi : i < env.length) (h : ∀ x ∈ l, fn.mir [.d x] [] = .ok (.d (.bl (p x))) []) :
    den T (.bi .all (.cons (.comp false (.call c (.cons (.var i) .nil)) (.nm i) own (.seq true (.var j)) .no) .nil)) env S = .ok (.d (.bl (l.all p))) S := by
  refine all_comp (it' := .var 0) ?_ hl fun x hx => ?_
  · simp only [denI, den, hj, R.bind, seqK, seqL, optR]
  · refine calls (as := [x]) hf hn ?_ (h x hx)
    simp only [denEs, var_set hi, R.bind, List.map_cons, List.map_nil]
/-- not a tuple of n things that p holds of -/
theorem no_tuple {c i j : Nat} {n : Int} {own : List (Str × Nat)} {fn : Fn} {l : List D} {p : D → Bool} (hf : T.fs[c]? = some fn) (hn : 1 = fn.ps.length) (hj : env[j]? = some (some (.d (.tup l)))) (hl : l.length ≤ LIM) (hi : i < env.length) (h : ∀ x ∈ l, fn.mir [.d x] [] = .ok (.d (.bl (p x))) []) :
    den T (.bop false (.cons (.not_ (.bi (.isi "tuple") (.cons (.var j) .nil))) (.cons (.cmp .NotEq (.bi .len (.cons (.var j) .nil)) (.k (.int n))) (.cons (.not_ (.bi .all (.cons (.comp false (.call c (.cons (.var i) .nil)) (.nm i) own (.seq true (.var j)) .no) .nil))) .nil)))) env S =
      .ok (.d (.bl (false || (!decide ((l.length : Int) = n) || !l.all p)))) S := by
  have v : den T (.var j) env S = .ok (.d (.tup l)) S := by
    rw [den, hj]
  refine orc (notc (b := true) ?_) fun _ => orc ?_ fun _ => and1 (notc (all_calls hf hn hj hl hi h))
  · rw [bi1 v]
    rfl
  · rw [den, bi1 v]
    simp only [biD, one, lenD, items, R.bind, den, List.length_map]
    exact cmpD_ne_int _ _ _
end Bn
/-! Bn, part 19: what is shown of lists of truth values; calls with cells. -/
namespace Bn
open PySem L2
theorem textFrom_up (n : Nat) : ∀ (ts : List Str) (k : Nat) (acc : Str), (∀ t ∈ ts, t.length ≤ n) → (textFrom k acc ts).length ≤ acc.length + (n + 2) * ts.length
  | [], k, acc, _ => by
    show acc.length ≤ _
    omega
  | t :: r, k, acc, h => by
    have ih := textFrom_up n r (k + 1) (acc ++ (if k > 0 then ", " else "" : String) ++ t) fun x hx => h x (List.mem_cons_of_mem _ hx)
    have ht := h t List.mem_cons_self
    show (textFrom (k + 1) (acc ++ (if k > 0 then ", " else "" : String) ++ t) r).length ≤ _
    refine Nat.le_trans ih ?_
    rw [List.length_cons, Nat.mul_succ]
    have e : (acc ++ ((if k > 0 then ", " else "" : String) : Str) ++ t).length ≤ acc.length + 2 + t.length := by
      rw [strLen_append, strLen_append]
      split
      · exact Nat.le_refl _
      · exact Nat.add_le_add_right (Nat.add_le_add_left (Nat.zero_le 2) _) _
    omega
def pairB (p : Bool × Bool) : D := .lst [.bl p.1, .bl p.2]
theorem pair_len : ∀ p : Bool × Bool, (pairB p).py.shown.length ≤ 14
  | (true, true) => by decide +kernel
  | (true, false) => by decide +kernel
  | (false, true) => by decide +kernel
  | (false, false) => by decide +kernel
theorem pairs_flat : ∀ l : List (Bool × Bool), flatAll (l.map pairB) = true
  | [] => rfl
  | p :: r => by
    show ((pairB p).flat && flatAll (r.map pairB)) = true
    rw [pairs_flat r]
    rfl
theorem pairs_showable : ∀ l : List (Bool × Bool), PyData.showableAll (pyAll (l.map pairB)) = true
  | [] => rfl
  | p :: r => by
    show (PyData.showable (pairB p).py && PyData.showableAll (pyAll (r.map pairB))) = true
    rw [pairs_showable r]
    rfl
theorem pairs_depth : ∀ l : List (Bool × Bool), PyData.depthAll (pyAll (l.map pairB)) ≤ 10
  | [] => by decide
  | p :: r => by
    have ih := pairs_depth r
    show max (PyData.depth (pairB p).py) (PyData.depthAll (pyAll (r.map pairB))) ≤ 10
    have h1 : PyData.depth (pairB p).py ≤ 10 := by
      show PyData.depth (.list [.bool p.1, .bool p.2]) ≤ 10
      simp only [PyData.depth, PyData.depthAll]
      omega
    omega
theorem pairs_texts : ∀ l : List (Bool × Bool), (PyData.shownAll (pyAll (l.map pairB))).length = l.length ∧ ∀ t ∈ PyData.shownAll (pyAll (l.map pairB)), t.length ≤ 14
  | [] => ⟨rfl, fun _ h => nomatch h⟩
  | p :: r => by
    have ih := pairs_texts r
    have e : PyData.shownAll (pyAll ((p :: r).map pairB)) = (pairB p).py.shown :: PyData.shownAll (pyAll (r.map pairB)) := by
      show PyData.shownAll ((pairB p).py :: pyAll (r.map pairB)) = _
      rw [PyData.shownAll]
    rw [e]
    refine ⟨by rw [List.length_cons, List.length_cons, ih.1], fun t ht => ?_⟩
    rcases List.mem_cons.mp ht with h | h
    · rw [h]
      exact pair_len p
    · exact ih.2 t h
theorem pairs_ok {l : List (Bool × Bool)} (h : l.length ≤ 1000) : showOk (.lst (l.map pairB)) = true := by
  unfold showOk
  have h1 : (D.lst (l.map pairB)).flat = true := pairs_flat l
  have e : (D.lst (l.map pairB)).py = .list (pyAll (l.map pairB)) := rfl
  have h2 : (D.lst (l.map pairB)).py.showable = true := by
    rw [e, PyData.showable]
    exact pairs_showable l
  have h3 : (D.lst (l.map pairB)).py.depth ≤ 64 := by
    have := pairs_depth l
    rw [e, PyData.depth]
    omega
  have h4 : (D.lst (l.map pairB)).py.shown.length ≤ sizeLine := by
    obtain ⟨q1, q2⟩ := pairs_texts l
    have up := textFrom_up 14 _ 0 "[" q2
    rw [q1] at up
    rw [e, PyData.shown]
    show (textFrom 0 "[" (PyData.shownAll (pyAll (l.map pairB))) ++ "]").length ≤ sizeLine
    have b : (textFrom 0 "[" (PyData.shownAll (pyAll (l.map pairB))) ++ ("]" : Str)).length = (textFrom 0 "[" (PyData.shownAll (pyAll (l.map pairB)))).length + 1 := strLen_append _ _
    rw [b]
    have c : (("[" : Str)).length = 1 := rfl
    have d : (17000 : Nat) ≤ sizeLine := by decide
    omega
  rw [h1, h2, decide_eq_true h3, decide_eq_true h4]
  rfl
theorem repr_pairs {l : List (Bool × Bool)} (h : l.length ≤ 1000) (S : List Cell) : reprD (.d (.lst (l.map pairB))) S = .ok (.d (.str (D.lst (l.map pairB)).py.shown)) S := by
  simp only [reprD, dataD, pairs_ok h, if_true]
theorem strOk_append {x y : Str} (hx : PyData.strOk x = true) (hy : PyData.strOk y = true) : PyData.strOk (x ++ y) = true := by
  unfold PyData.strOk at *
  rw [PySem.Str.cps_append, Array.all_append, hx, hy]
  rfl
theorem textFrom_ok : ∀ (ts : List Str) (k : Nat) (acc : Str), PyData.strOk acc = true → (∀ t ∈ ts, PyData.strOk t = true) → PyData.strOk (textFrom k acc ts) = true
  | [], k, acc, h, _ => h
  | t :: r, k, acc, h, ht => by
    show PyData.strOk (textFrom (k + 1) (acc ++ (if k > 0 then ", " else "" : String) ++ t) r) = true
    refine textFrom_ok r (k + 1) _ (strOk_append (strOk_append h ?_) (ht t List.mem_cons_self)) fun x hx => ht x (List.mem_cons_of_mem _ hx)
    split <;> decide +kernel
theorem pair_str : ∀ p : Bool × Bool, PyData.strOk (pairB p).py.shown = true
  | (true, true) => by decide +kernel
  | (true, false) => by decide +kernel
  | (false, true) => by decide +kernel
  | (false, false) => by decide +kernel
theorem pairs_strs : ∀ l : List (Bool × Bool), ∀ t ∈ PyData.shownAll (pyAll (l.map pairB)), PyData.strOk t = true
  | [] => fun _ h => nomatch h
  | p :: r => by
    have e : PyData.shownAll (pyAll ((p :: r).map pairB)) = (pairB p).py.shown :: PyData.shownAll (pyAll (r.map pairB)) := by
      show PyData.shownAll ((pairB p).py :: pyAll (r.map pairB)) = _
      rw [PyData.shownAll]
    rw [e]
    intro t ht
    rcases List.mem_cons.mp ht with h | h
    · rw [h]
      exact pair_str p
    · exact pairs_strs r t h
theorem pairs_str (l : List (Bool × Bool)) : PyData.strOk (D.lst (l.map pairB)).py.shown = true := by
  have e : (D.lst (l.map pairB)).py = .list (pyAll (l.map pairB)) := rfl
  rw [e, PyData.shown]
  exact strOk_append (textFrom_ok _ 0 _ (by decide +kernel) (pairs_strs l)) (by decide +kernel)
theorem eq_str {s : Str} (h : PyData.strOk s = true) (S : List Cell) : cmpD .Eq (.d (.str s)) (.d (.str s)) S = .ok (.d (.bl true)) S := by
  have e : eqOk (.str s) = true := by simp [eqOk, D.flat, D.py, SeqAt.shaped, PyData.canLay0, PyData.depth, h]
  have q : PyData.eqv (.str s) (.str s) = true := by simp [PyData.eqv]
  simp [cmpD, cmpE, dataD, e, D.py, q]
theorem ne_str {s : Str} (h : PyData.strOk s = true) (S : List Cell) : cmpD .NotEq (.d (.str s)) (.d (.str s)) S = .ok (.d (.bl false)) S := by
  have e : eqOk (.str s) = true := by simp [eqOk, D.flat, D.py, SeqAt.shaped, PyData.canLay0, PyData.depth, h]
  have q : PyData.eqv (.str s) (.str s) = true := by simp [PyData.eqv]
  simp [cmpD, cmpE, dataD, e, D.py, q]
/-- as callD_cell, more cells behind -/
theorem callD_cell2 {mir : List A → List Cell → R A} {n : Nat} {as : List D} {S more : List Cell} {l l' : List D} {x : D} (hS : S[n]? = some (.lst (l.map A.d))) (h : mir (.c 0 :: as.map A.d) [.lst (l.map A.d)] = .ok (.d x) (.lst (l'.map A.d) :: more)) :
    callD mir (.c n :: as.map A.d) S = .ok (.d x) (S.set n (.lst (l'.map A.d))) := by
  have e1 : cellsA (.c n :: as.map A.d) = [n] := by
    show n :: cellsA (as.map A.d) = [n]
    rw [cellsA_data]
  have e2 : dedup [n] = [n] := by simp [dedup]
  have e3 : reach S 4 [n] = [n] := by
    simp [reach, hS, cellsC, cellsA_data]
  have e4 : renAs (fun k => ixOf k [n]) (.c n :: as.map A.d) = some (.c 0 :: as.map A.d) := by
    show (match renA (fun k => ixOf k [n]) (.c n), renAs (fun k => ixOf k [n]) (as.map A.d) with
      | some b, some s => some (b :: s)
      | _, _ => none) = _
    rw [renAs_data]
    simp [renA, ixOf]
  have e5 : (pickS S [n]).bind (renS fun k => ixOf k [n]) = some [.lst (l.map A.d)] := by
    simp [pickS, hS, renS, renC, renAs_data]
  unfold callD
  simp only [e1, e2, e3, e4, e5, h, List.length_singleton]
  simp [renS, renC, renAs_data, putS]
end Bn
/-! Bn, part 20: the laws' own draws: mixing by numbers. -/
namespace Bn
open PySem L2
theorem fmodR (a b : Int) (h : 0 < b) : 0 ≤ a.fmod b ∧ a.fmod b < b := ⟨Int.fmod_nonneg_of_pos a h, Int.fmod_lt_of_pos a h⟩
theorem mul40 {i j : Int} (h : i.natAbs < 1099511627776) (k : j.natAbs < 1099511627776) : mulOk i j = true := mulOk_sm (sm40 h) (sm40 k) (by decide)
abbrev mixE (i j : Nat) (p q r c M : Int) : E := .bin .Mod (.bi .int1 (.cons (.bin .Add (.bin .Add (.bin .Mult (.var i) (.k (.int p))) (.bin .Mult (.bin .Mod (.bi .int1 (.cons (.var j) .nil)) (.k (.int q))) (.k (.int r)))) (.k (.int c))) .nil)) (.k (.int M))
theorem mix_ok {T : Tab} {env : Bn.Env} {S : List Cell} {i j : Nat} {p q r c M s v : Int} (hi : env[i]? = some (some (.d (.int s)))) (hj : env[j]? = some (some (.d (.int v)))) (hM : 0 < M) (hq : 0 < q) (q40 : q < 1099511627776) (p40 : p.natAbs < 1099511627776) (r40 : r.natAbs < 1099511627776) (s0 : 0 ≤ s) (s1 : s < 1099511627776) :
    ∃ s', 0 ≤ s' ∧ s' < M ∧ den T (mixE i j p q r c M) env S = .ok (.d (.int s')) S := by
  have b := fmodR v q hq
  have m1 : mulOk s p = true := mul40 (by omega) p40
  have m2 : mulOk (v.fmod q) r = true := mul40 (by omega) r40
  have z1 : q ≠ 0 := by omega
  have z2 : M ≠ 0 := by omega
  obtain ⟨h0, h1⟩ := fmodR (s * p + v.fmod q * r + c) M hM
  refine ⟨_, h0, h1, ?_⟩
  simp [mixE, den, denEs, hi, hj, R.bind, biD, one, intD, bin_add, bin_mul, m1, m2, bin_mod, z1, z2]
theorem mix_loop {T : Tab} {p q r c M : Int} (hM : 0 < M) (hq : 0 < q) (q40 : q < 1099511627776) (p40 : p.natAbs < 1099511627776) (r40 : r.natAbs < 1099511627776) (M40 : M ≤ 1099511627776) (S : List Cell) (x0 x1 x2 : Option A) (vs : List Int) :
    ∀ (seed : Int) (x4 : Option A), 0 ≤ seed → seed < 1099511627776 → ∃ (seed' : Int) (x4' : Option A), 0 ≤ seed' ∧ seed' < 1099511627776 ∧
      forL (bindT (.nm 4)) (fun e S => Bn.runs T (.cons (.set 3 (mixE 3 4 p q r c M)) .nil) e S) (vs.map fun v => .d (.int v)) [x0, x1, x2, some (.d (.int seed)), x4] S = .nx [x0, x1, x2, some (.d (.int seed')), x4'] S := by
  induction vs with
  | nil => exact fun seed x4 h0 h1 => ⟨seed, x4, h0, h1, rfl⟩
  | cons v r' ih =>
    intro seed x4 h0 h1
    obtain ⟨s1, g0, g1, e1⟩ := mix_ok (T := T) (env := [x0, x1, x2, some (.d (.int seed)), some (.d (.int v))]) (S := S) (i := 3) (j := 4) (p := p) (r := r) (c := c) rfl rfl hM hq q40 p40 r40 h0 h1
    obtain ⟨s', x4', k0, k1, e⟩ := ih s1 (some (.d (.int v))) g0 (by omega)
    refine ⟨s', x4', k0, k1, ?_⟩
    rw [List.map_cons]
    unfold forL
    have bd : bindT (.nm 4) (.d (.int v)) [x0, x1, x2, some (.d (.int seed)), x4] = some [x0, x1, x2, some (.d (.int seed)), some (.d (.int v))] := rfl
    have st : Bn.runs T (.cons (.set 3 (mixE 3 4 p q r c M)) .nil) [x0, x1, x2, some (.d (.int seed)), some (.d (.int v))] S = .nx [x0, x1, x2, some (.d (.int s1)), some (.d (.int v))] S := by
      rw [runs_set e1]
      rfl
    simp only [bd, st]
    exact e
end Bn
namespace K02
open PySem PySem.Spec PyProof.Rows L2 Bn
def top (i : Nat) : Stmt := PySem.Challenge.pw_bringnear_k02_kinds_and_gaps_of_anything.main.body.getD i (.Pass ⟨0, 0, 0, 0⟩)
def cs : List (Str × Bn.D) := [("ZERO", (.tup [(.int 0), (.int 1)]))]
def bs : List Str := ["all", "range", "max", "min", "len", "repr", "divmod", "int", "abs", "list", "isinstance", "tuple", "bool"]
def ms : List (Str × String) := [("gcd", "math.gcd")]
def d__law_draw : He.DefD := ⟨("_law_draw", none), "_law_draw", "_law_draw", defArgs (top 22), defBody (top 22), defScope (top 22), [], []⟩
def d__law_lowest : He.DefD := ⟨("_law_lowest", none), "_law_lowest", "_law_lowest", defArgs (top 25), defBody (top 25), defScope (top 25), [], []⟩
def d__law_kind : He.DefD := ⟨("_law_kind", none), "_law_kind", "_law_kind", defArgs (top 26), defBody (top 26), defScope (top 26), [], []⟩
def d__law_ratio : He.DefD := ⟨("_law_ratio", none), "_law_ratio", "_law_ratio", defArgs (top 24), defBody (top 24), defScope (top 24), [], []⟩
def d__law_over : He.DefD := ⟨("_law_over", none), "_law_over", "_law_over", defArgs (top 28), defBody (top 28), defScope (top 28), [], []⟩
def d__law_gap : He.DefD := ⟨("_law_gap", none), "_law_gap", "_law_gap", defArgs (top 27), defBody (top 27), defScope (top 27), [], []⟩
def d__law_pick : He.DefD := ⟨("_law_pick", none), "_law_pick", "_law_pick", defArgs (top 23), defBody (top 23), defScope (top 23), [], []⟩
def d__law_near_rim : He.DefD := ⟨("_law_near_rim", none), "_law_near_rim", "_law_near_rim", defArgs (top 37), defBody (top 37), defScope (top 37), [], []⟩
def d__law_odd : He.DefD := ⟨("_law_odd", none), "_law_odd", "_law_odd", defArgs (top 34), defBody (top 34), defScope (top 34), [], []⟩
def d__law_stretched : He.DefD := ⟨("_law_stretched", none), "_law_stretched", "_law_stretched", defArgs (top 36), defBody (top 36), defScope (top 36), [], []⟩
def d__law_bent : He.DefD := ⟨("_law_bent", none), "_law_bent", "_law_bent", defArgs (top 35), defBody (top 35), defScope (top 35), [], []⟩
def d__law_divisor : He.DefD := ⟨("_law_divisor", none), "_law_divisor", "_law_divisor", defArgs (top 30), defBody (top 30), defScope (top 30), [], []⟩
def d__law_is_whole : He.DefD := ⟨("_law_is_whole", none), "_law_is_whole", "_law_is_whole", defArgs (top 29), defBody (top 29), defScope (top 29), [], []⟩
def d__law_is_fraction : He.DefD := ⟨("_law_is_fraction", none), "_law_is_fraction", "_law_is_fraction", defArgs (top 31), defBody (top 31), defScope (top 31), [], []⟩
def d__law_is_gap : He.DefD := ⟨("_law_is_gap", none), "_law_is_gap", "_law_is_gap", defArgs (top 33), defBody (top 33), defScope (top 33), [], []⟩
def d__law_is_kind : He.DefD := ⟨("_law_is_kind", none), "_law_is_kind", "_law_is_kind", defArgs (top 32), defBody (top 32), defScope (top 32), [], []⟩
def d_divisor_of : He.DefD := ⟨("divisor_of", none), "divisor_of", "divisor_of", defArgs (top 4), defBody (top 4), defScope (top 4), [], []⟩
def d_is_whole : He.DefD := ⟨("is_whole", none), "is_whole", "is_whole", defArgs (top 2), defBody (top 2), defScope (top 2), [], []⟩
def d_are_wholes : He.DefD := ⟨("are_wholes", none), "are_wholes", "are_wholes", defArgs (top 3), defBody (top 3), defScope (top 3), [], []⟩
def d_is_ratio : He.DefD := ⟨("is_ratio", none), "is_ratio", "is_ratio", defArgs (top 8), defBody (top 8), defScope (top 8), [], []⟩
def d_is_from_nought : He.DefD := ⟨("is_from_nought", none), "is_from_nought", "is_from_nought", defArgs (top 9), defBody (top 9), defScope (top 9), [], []⟩
def d_is_below : He.DefD := ⟨("is_below", none), "is_below", "is_below", defArgs (top 13), defBody (top 13), defScope (top 13), [], []⟩
def d_squared : He.DefD := ⟨("squared", none), "squared", "squared", defArgs (top 12), defBody (top 12), defScope (top 12), [], []⟩
def d_lowest : He.DefD := ⟨("lowest", none), "lowest", "lowest", defArgs (top 5), defBody (top 5), defScope (top 5), [], []⟩
def d_ratio : He.DefD := ⟨("ratio", none), "ratio", "ratio", defArgs (top 10), defBody (top 10), defScope (top 10), [], []⟩
def d_times : He.DefD := ⟨("times", none), "times", "times", defArgs (top 11), defBody (top 11), defScope (top 11), [], []⟩
def d_is_gap_by : He.DefD := ⟨("is_gap_by", none), "is_gap_by", "is_gap_by", defArgs (top 16), defBody (top 16), defScope (top 16), [], []⟩
def d_is_gap : He.DefD := ⟨("is_gap", none), "is_gap", "is_gap", defArgs (top 19), defBody (top 19), defScope (top 19), [], []⟩
def d_is_kind_by : He.DefD := ⟨("is_kind_by", none), "is_kind_by", "is_kind_by", defArgs (top 15), defBody (top 15), defScope (top 15), [], []⟩
def d_is_kind : He.DefD := ⟨("is_kind", none), "is_kind", "is_kind", defArgs (top 18), defBody (top 18), defScope (top 18), [], []⟩
def d__law_right : He.DefD := ⟨("_law_right", none), "_law_right", "_law_right", defArgs (top 38), defBody (top 38), defScope (top 38), [], []⟩
def d__law_well : He.DefD := ⟨("_law_well", none), "_law_well", "_law_well", defArgs (top 21), defBody (top 21), defScope (top 21), [], []⟩
def d_law : He.DefD := ⟨("law", none), "law", "law", defArgs (top 39), defBody (top 39), defScope (top 39), [], []⟩
def fns : List He.DefD := [d__law_draw, d__law_lowest, d__law_kind, d__law_ratio, d__law_over, d__law_gap, d__law_pick, d__law_near_rim, d__law_odd, d__law_stretched, d__law_bent, d__law_divisor, d__law_is_whole, d__law_is_fraction, d__law_is_gap, d__law_is_kind, d_divisor_of, d_is_whole, d_are_wholes, d_is_ratio, d_is_from_nought, d_is_below, d_squared, d_lowest, d_ratio, d_times, d_is_gap_by, d_is_gap, d_is_kind_by, d_is_kind, d__law_right, d__law_well, d_law]
/-! ### _law_draw -/
def b__law_draw : Ss := (.cons (.ite (.cmp .Gt (.ix (.var 0) (.k (.int 0))) (.k (.int 0))) (.cons (.asg (.tp [(.ix (.var 0) (.k (.int 0))), (.nm 3)]) (.bi .divmod (.cons (.ix (.var 0) (.k (.int 0))) (.cons (.var 1) .nil)))) (.cons (.ret (.var 3)) .nil)) .nil) (.cons (.asg (.ix (.var 0) (.k (.int 2))) (.bin .Add (.ix (.var 0) (.k (.int 2))) (.k (.int 1)))) (.cons (.set 2 (.bin .Mod (.bi .int1 (.cons (.bin .Add (.ix (.var 0) (.k (.int 1))) (.bin .Mult (.k (.int 40487)) (.ix (.var 0) (.k (.int 2))))) .nil)) (.k (.int 2147483629)))) (.cons (.set 2 (.bin .Mod (.bi .int1 (.cons (.bin .Add (.bin .Mult (.var 2) (.bin .Add (.bin .Mod (.bi .int1 (.cons (.var 2) .nil)) (.k (.int 9973))) (.k (.int 50021)))) (.bin .Mult (.k (.int 31)) (.ix (.var 0) (.k (.int 2))))) .nil)) (.k (.int 2147483629)))) (.cons (.asg (.ix (.var 0) (.k (.int 1))) (.var 2)) (.cons (.ret (.bin .Mod (.bi .int1 (.cons (.bin .FloorDiv (.var 2) (.k (.int 277))) .nil)) (.var 1))) .nil))))))
def n__law_draw : List Str := ["_law_well_here", "_law_many", "_law_seed", "_law_figure"]
def T__law_draw : Tab := ⟨[], cs, bs, ms⟩
def k__law_draw : List (List (Nat × List Str)) := []
noncomputable def m__law_draw : List A → List Cell → R A := defR T__law_draw 4 b__law_draw
/-! ### _law_lowest -/
def b__law_lowest : Ss := (.cons (.set 3 (.bi .abs (.cons (.var 0) .nil))) (.cons (.forr (.nm 4) (.seq true (.tup (.cons (.var 1) (.cons (.var 2) .nil)))) (.cons (.set 5 (.bi .abs (.cons (.var 4) .nil))) (.cons (.while (.cmp .Gt (.var 5) (.k (.int 0))) (.cons (.par 3 5 (.var 5) (.bin .Mod (.bi .int1 (.cons (.var 3) .nil)) (.var 5))) .nil)) .nil))) (.cons (.ret (.tup (.cons (.bin .FloorDiv (.var 0) (.var 3)) (.cons (.bin .FloorDiv (.var 1) (.var 3)) (.cons (.bin .FloorDiv (.var 2) (.var 3)) .nil))))) .nil)))
def n__law_lowest : List Str := ["_law_one", "_law_two", "_law_three", "_law_a", "_law_each", "_law_b"]
def T__law_lowest : Tab := ⟨[], cs, bs, ms⟩
def k__law_lowest : List (List (Nat × List Str)) := []
noncomputable def m__law_lowest : List A → List Cell → R A := defR T__law_lowest 6 b__law_lowest
/-! ### _law_kind -/
def b__law_kind : Ss := (.cons (.set 1 (.call 0 (.cons (.var 0) (.cons (.k (.int 8)) .nil)))) (.cons (.set 2 (.ite (.cmp .Lt (.var 1) (.k (.int 4))) (.k (.int 4)) (.ite (.cmp .Lt (.var 1) (.k (.int 7))) (.k (.int 11)) (.k (.int 1000000))))) (.cons (.set 3 (.bin .Sub (.call 0 (.cons (.var 0) (.cons (.bin .Add (.bin .Mult (.k (.int 2)) (.var 2)) (.k (.int 1))) .nil))) (.var 2))) (.cons (.set 4 (.bin .Sub (.call 0 (.cons (.var 0) (.cons (.bin .Add (.bin .Mult (.k (.int 2)) (.var 2)) (.k (.int 1))) .nil))) (.var 2))) (.cons (.set 5 (.bin .Sub (.call 0 (.cons (.var 0) (.cons (.bin .Add (.bin .Mult (.k (.int 2)) (.var 2)) (.k (.int 1))) .nil))) (.var 2))) (.cons (.ite (.cmp .LtE (.bin .Mult (.var 4) (.var 4)) (.bin .Mult (.var 3) (.var 5))) (.cons (.set 5 (.bin .Sub (.k (.int 0)) (.var 5))) .nil) .nil) (.cons (.ite (.cmp .LtE (.bin .Mult (.var 4) (.var 4)) (.bin .Mult (.var 3) (.var 5))) (.cons (.set 4 (.k (.int 1))) .nil) .nil) (.cons (.ret (.call 1 (.cons (.var 3) (.cons (.var 4) (.cons (.var 5) .nil))))) .nil))))))))
def n__law_kind : List Str := ["_law_well_here", "_law_way", "_law_top", "_law_first", "_law_second", "_law_third"]
noncomputable def T__law_kind : Tab := ⟨[⟨"_law_draw", ["_law_well_here", "_law_many"], m__law_draw⟩, ⟨"_law_lowest", ["_law_one", "_law_two", "_law_three"], m__law_lowest⟩], cs, bs, ms⟩
def k__law_kind : List (List (Nat × List Str)) := [[], []]
noncomputable def m__law_kind : List A → List Cell → R A := defR T__law_kind 6 b__law_kind
/-! ### _law_ratio -/
def b__law_ratio : Ss := (.cons (.par 2 3 (.bi .abs (.cons (.var 0) .nil)) (.bi .abs (.cons (.var 1) .nil))) (.cons (.while (.cmp .Gt (.var 3) (.k (.int 0))) (.cons (.par 2 3 (.var 3) (.bin .Mod (.bi .int1 (.cons (.var 2) .nil)) (.var 3))) .nil)) (.cons (.set 2 (.ite (.cmp .Gt (.var 1) (.k (.int 0))) (.var 2) (.bin .Sub (.k (.int 0)) (.var 2)))) (.cons (.ret (.tup (.cons (.bin .FloorDiv (.var 0) (.var 2)) (.cons (.bin .FloorDiv (.var 1) (.var 2)) .nil)))) .nil))))
def n__law_ratio : List Str := ["_law_n", "_law_m", "_law_a", "_law_b"]
def T__law_ratio : Tab := ⟨[], cs, bs, ms⟩
def k__law_ratio : List (List (Nat × List Str)) := []
noncomputable def m__law_ratio : List A → List Cell → R A := defR T__law_ratio 4 b__law_ratio
/-! ### _law_over -/
def b__law_over : Ss := (.cons (.ret (.tup (.cons (.call 0 (.cons (.ix (.var 0) (.k (.int 0))) (.cons (.var 1) .nil))) (.cons (.call 0 (.cons (.ix (.var 0) (.k (.int 1))) (.cons (.var 1) .nil))) (.cons (.call 0 (.cons (.ix (.var 0) (.k (.int 2))) (.cons (.var 1) .nil))) .nil))))) .nil)
def n__law_over : List Str := ["_law_gap_here", "_law_number"]
noncomputable def T__law_over : Tab := ⟨[⟨"_law_ratio", ["_law_n", "_law_m"], m__law_ratio⟩], cs, bs, ms⟩
def k__law_over : List (List (Nat × List Str)) := [[]]
noncomputable def m__law_over : List A → List Cell → R A := defR T__law_over 2 b__law_over
/-! ### _law_gap -/
def b__law_gap : Ss := (.cons (.set 1 (.call 0 (.cons (.var 0) (.cons (.k (.int 7)) .nil)))) (.cons (.ite (.cmp .Eq (.var 1) (.k (.int 0))) (.cons (.ret (.tup (.cons (.k (.int 0)) (.cons (.k (.int 0)) (.cons (.bin .Add (.k (.int 1)) (.call 0 (.cons (.var 0) (.cons (.k (.int 5)) .nil)))) .nil))))) .nil) .nil) (.cons (.set 2 (.bin .Sub (.call 0 (.cons (.var 0) (.cons (.k (.int 31)) .nil))) (.k (.int 15)))) (.cons (.set 3 (.call 0 (.cons (.var 0) (.cons (.k (.int 90)) .nil)))) (.cons (.ret (.tup (.cons (.bin .Mult (.var 1) (.var 1)) (.cons (.bin .Mult (.var 1) (.var 2)) (.cons (.bin .Add (.bin .Mult (.var 2) (.var 2)) (.ite (.cmp .Lt (.var 3) (.k (.int 60))) (.var 3) (.k (.int 0)))) .nil))))) .nil)))))
def n__law_gap : List Str := ["_law_well_here", "_law_a", "_law_b", "_law_rise"]
noncomputable def T__law_gap : Tab := ⟨[⟨"_law_draw", ["_law_well_here", "_law_many"], m__law_draw⟩], cs, bs, ms⟩
def k__law_gap : List (List (Nat × List Str)) := [[]]
noncomputable def m__law_gap : List A → List Cell → R A := defR T__law_gap 4 b__law_gap
/-! ### _law_pick -/
def b__law_pick : Ss := (.cons (.ret (.ix (.var 1) (.call 0 (.cons (.var 0) (.cons (.bi .len (.cons (.var 1) .nil)) .nil))))) .nil)
def n__law_pick : List Str := ["_law_well_here", "_law_some"]
noncomputable def T__law_pick : Tab := ⟨[⟨"_law_draw", ["_law_well_here", "_law_many"], m__law_draw⟩], cs, bs, ms⟩
def k__law_pick : List (List (Nat × List Str)) := [[]]
noncomputable def m__law_pick : List A → List Cell → R A := defR T__law_pick 2 b__law_pick
/-! ### _law_near_rim -/
def b__law_near_rim : Ss := (.cons (.par 1 2 (.bin .Add (.k (.int 1)) (.call 0 (.cons (.var 0) (.cons (.k (.int 9)) .nil)))) (.bin .Sub (.call 0 (.cons (.var 0) (.cons (.k (.int 41)) .nil))) (.k (.int 20)))) (.cons (.set 3 (.call 1 (.cons (.var 0) (.cons (.lst (.cons (.k (.int 0)) (.cons (.k (.int 1)) (.cons (.neg (.k (.int 1))) (.cons (.k (.int 0)) (.cons (.k (.int 30)) .nil)))))) .nil)))) (.cons (.ret (.tup (.cons (.call 2 (.cons (.var 1) (.cons (.k (.int 7)) .nil))) (.cons (.call 2 (.cons (.var 2) (.cons (.k (.int 7)) .nil))) (.cons (.call 2 (.cons (.bin .Add (.bin .Mult (.bin .Mult (.k (.int 100)) (.var 2)) (.var 2)) (.var 3)) (.cons (.bin .Mult (.k (.int 700)) (.var 1)) .nil))) .nil))))) .nil)))
def n__law_near_rim : List Str := ["_law_well_here", "_law_a", "_law_b", "_law_more"]
noncomputable def T__law_near_rim : Tab := ⟨[⟨"_law_draw", ["_law_well_here", "_law_many"], m__law_draw⟩, ⟨"_law_pick", ["_law_well_here", "_law_some"], m__law_pick⟩, ⟨"_law_ratio", ["_law_n", "_law_m"], m__law_ratio⟩], cs, bs, ms⟩
def k__law_near_rim : List (List (Nat × List Str)) := [[], [], []]
noncomputable def m__law_near_rim : List A → List Cell → R A := defR T__law_near_rim 4 b__law_near_rim
/-! ### _law_odd -/
def b__law_odd : Ss := (.cons (.ret (.call 0 (.cons (.var 0) (.cons (.lst (.cons (.k .non) (.cons (.k (.bl true)) (.cons (.k (.bl false)) (.cons (.k (.int 0)) (.cons (.neg (.k (.int 1))) (.cons (.k (.int 1)) (.cons (.k (.str "kind")) (.cons (.k (.str "")) (.cons (.tup .nil) (.cons (.lst .nil) (.cons .dct0 (.cons (.tup (.cons (.k (.int 0)) (.cons (.k (.int 1)) .nil))) (.cons (.tup (.cons (.k (.int 2)) (.cons (.k (.int 4)) .nil))) (.cons (.tup (.cons (.k (.int 1)) (.cons (.k (.int 0)) .nil))) (.cons (.tup (.cons (.k (.int 1)) (.cons (.neg (.k (.int 2))) .nil))) (.cons (.tup (.cons (.k (.int 1)) (.cons (.k (.int 1)) .nil))) (.cons (.tup (.cons (.k (.bl true)) (.cons (.k (.int 1)) .nil))) (.cons (.tup (.cons (.k (.int 1)) (.cons (.k (.bl true)) .nil))) (.cons (.lst (.cons (.k (.int 1)) (.cons (.k (.int 2)) .nil))) (.cons (.tup (.cons (.k (.int 1)) (.cons (.k (.int 2)) (.cons (.k (.int 3)) .nil)))) (.cons (.tup (.cons (.tup (.cons (.k (.int 1)) (.cons (.k (.int 2)) .nil))) .nil)) (.cons (.tup (.cons (.k (.str "1")) (.cons (.k (.int 2)) .nil))) (.cons (.tup (.cons (.k .non) (.cons (.k (.int 1)) .nil))) (.cons (.bin .Sub (.k (.int 0)) (.bin .Pow (.k (.int 10)) (.k (.int 40)))) .nil))))))))))))))))))))))))) .nil)))) .nil)
def n__law_odd : List Str := ["_law_well_here"]
noncomputable def T__law_odd : Tab := ⟨[⟨"_law_pick", ["_law_well_here", "_law_some"], m__law_pick⟩], cs, bs, ms⟩
def k__law_odd : List (List (Nat × List Str)) := [[]]
noncomputable def m__law_odd : List A → List Cell → R A := defR T__law_odd 1 b__law_odd
/-! ### _law_stretched -/
def b__law_stretched : Ss := (.cons (.ite (.not_ (.bi (.isi "tuple") (.cons (.ix (.var 1) (.k (.int 0))) .nil))) (.cons (.set 6 (.call 0 (.cons (.var 0) (.cons (.lst (.cons (.neg (.k (.int 1))) (.cons (.k (.int 2)) (.cons (.k (.int 3)) (.cons (.neg (.k (.int 2))) (.cons (.k (.int 0)) .nil)))))) .nil)))) (.cons (.ret (.tup (.cons (.bin .Mult (.var 6) (.ix (.var 1) (.k (.int 0)))) (.cons (.bin .Mult (.var 6) (.ix (.var 1) (.k (.int 1)))) (.cons (.bin .Mult (.var 6) (.ix (.var 1) (.k (.int 2)))) .nil))))) .nil)) .nil) (.cons (.asg (.tp [(.nm 3), (.nm 4)]) (.ix (.var 1) (.var 2))) (.cons (.set 5 (.call 0 (.cons (.var 0) (.cons (.lst (.cons (.tup (.cons (.bin .Mult (.k (.int 2)) (.var 3)) (.cons (.bin .Mult (.k (.int 2)) (.var 4)) .nil))) (.cons (.tup (.cons (.var 3) (.cons (.bin .Sub (.k (.int 0)) (.var 4)) .nil))) (.cons (.tup (.cons (.bin .Sub (.k (.int 0)) (.var 3)) (.cons (.var 4) .nil))) (.cons (.lst (.cons (.var 3) (.cons (.var 4) .nil))) (.cons (.tup (.cons (.bin .Sub (.k (.int 0)) (.var 3)) (.cons (.bin .Sub (.k (.int 0)) (.var 4)) .nil))) (.cons (.tup (.cons (.var 3) (.cons (.var 4) (.cons (.k (.int 1)) .nil)))) (.cons (.tup (.cons (.var 3) .nil)) (.cons (.tup (.cons (.var 4) (.cons (.var 3) .nil))) .nil))))))))) .nil)))) (.cons (.ret (.bin .Add (.bin .Add (.sl (.var 1) .no (.so (.var 2))) (.tup (.cons (.var 5) .nil))) (.sl (.var 1) (.so (.bin .Add (.var 2) (.k (.int 1)))) .no))) .nil))))
def n__law_stretched : List Str := ["_law_well_here", "_law_value", "_law_at", "_law_n", "_law_m", "_law_new", "_law_factor"]
noncomputable def T__law_stretched : Tab := ⟨[⟨"_law_pick", ["_law_well_here", "_law_some"], m__law_pick⟩], cs, bs, ms⟩
def k__law_stretched : List (List (Nat × List Str)) := [[]]
noncomputable def m__law_stretched : List A → List Cell → R A := defR T__law_stretched 7 b__law_stretched
/-! ### _law_bent -/
def b__law_bent : Ss := (.cons (.par 2 3 (.call 0 (.cons (.var 0) (.cons (.k (.int 9)) .nil))) (.call 0 (.cons (.var 0) (.cons (.k (.int 3)) .nil)))) (.cons (.ite (.cmp .Eq (.var 2) (.k (.int 0))) (.cons (.ret (.bi .list (.cons (.var 1) .nil))) .nil) .nil) (.cons (.ite (.cmp .Eq (.var 2) (.k (.int 1))) (.cons (.ret (.bin .Add (.var 1) (.tup (.cons (.ix (.var 1) (.var 3)) .nil)))) .nil) .nil) (.cons (.ite (.cmp .Eq (.var 2) (.k (.int 2))) (.cons (.ret (.sl (.var 1) .no (.so (.var 3)))) .nil) .nil) (.cons (.ite (.cmp .Eq (.var 2) (.k (.int 3))) (.cons (.ret (.bin .Add (.bin .Add (.sl (.var 1) .no (.so (.var 3))) (.tup (.cons (.call 1 (.cons (.var 0) .nil)) .nil))) (.sl (.var 1) (.so (.bin .Add (.var 3) (.k (.int 1)))) .no))) .nil) .nil) (.cons (.ite (.cmp .Eq (.var 2) (.k (.int 4))) (.cons (.ret (.bin .Add (.bin .Add (.tup (.cons (.ix (.var 1) (.var 3)) .nil)) (.sl (.var 1) .no (.so (.var 3)))) (.sl (.var 1) (.so (.bin .Add (.var 3) (.k (.int 1)))) .no))) .nil) .nil) (.cons (.ite (.cmp .Eq (.var 2) (.k (.int 5))) (.cons (.ret (.call 2 (.cons (.var 0) (.cons (.lst (.cons (.tup (.cons (.var 1) .nil)) (.cons (.tup (.cons (.ix (.var 1) (.k (.int 0))) (.cons (.sl (.var 1) (.so (.k (.int 1))) .no) .nil))) (.cons (.call 1 (.cons (.var 0) .nil)) .nil)))) .nil)))) .nil) .nil) (.cons (.ite (.cmp .Eq (.var 2) (.k (.int 6))) (.cons (.ret (.bin .Add (.bin .Add (.sl (.var 1) .no (.so (.var 3))) (.tup (.cons (.call 2 (.cons (.var 0) (.cons (.lst (.cons (.k (.int 0)) (.cons (.k (.int 1)) (.cons (.neg (.k (.int 1))) (.cons (.k (.int 2)) (.cons (.tup (.cons (.k (.int 0)) (.cons (.k (.int 1)) .nil))) (.cons (.tup (.cons (.k (.int 1)) (.cons (.k (.int 1)) .nil))) (.cons (.tup (.cons (.neg (.k (.int 1))) (.cons (.k (.int 1)) .nil))) (.cons (.tup (.cons (.k (.int 1)) (.cons (.k (.int 2)) .nil))) .nil))))))))) .nil))) .nil))) (.sl (.var 1) (.so (.bin .Add (.var 3) (.k (.int 1)))) .no))) .nil) .nil) (.cons (.ret (.ite (.cmp .Eq (.var 2) (.k (.int 7))) (.call 3 (.cons (.var 0) (.cons (.var 1) (.cons (.var 3) .nil)))) (.var 1))) .nil)))))))))
def n__law_bent : List Str := ["_law_well_here", "_law_value", "_law_way", "_law_at"]
noncomputable def T__law_bent : Tab := ⟨[⟨"_law_draw", ["_law_well_here", "_law_many"], m__law_draw⟩, ⟨"_law_odd", ["_law_well_here"], m__law_odd⟩, ⟨"_law_pick", ["_law_well_here", "_law_some"], m__law_pick⟩, ⟨"_law_stretched", ["_law_well_here", "_law_value", "_law_at"], m__law_stretched⟩], cs, bs, ms⟩
def k__law_bent : List (List (Nat × List Str)) := [[], [], [], []]
noncomputable def m__law_bent : List A → List Cell → R A := defR T__law_bent 4 b__law_bent
/-! ### _law_divisor -/
def b__law_divisor : Ss := (.cons (.par 0 1 (.bi .abs (.cons (.var 0) .nil)) (.bi .abs (.cons (.var 1) .nil))) (.cons (.while (.cmp .Gt (.var 1) (.k (.int 0))) (.cons (.par 0 1 (.var 1) (.bin .Mod (.bi .int1 (.cons (.var 0) .nil)) (.var 1))) .nil)) (.cons (.ret (.var 0)) .nil)))
def n__law_divisor : List Str := ["_law_a", "_law_b"]
def T__law_divisor : Tab := ⟨[], cs, bs, ms⟩
def k__law_divisor : List (List (Nat × List Str)) := []
noncomputable def m__law_divisor : List A → List Cell → R A := defR T__law_divisor 2 b__law_divisor
/-! ### _law_is_whole -/
def b__law_is_whole : Ss := (.cons (.ret (.bop true (.cons (.bi (.isi "int") (.cons (.var 0) .nil)) (.cons (.not_ (.bi (.isi "bool") (.cons (.var 0) .nil))) .nil)))) .nil)
def n__law_is_whole : List Str := ["_law_x"]
def T__law_is_whole : Tab := ⟨[], cs, bs, ms⟩
def k__law_is_whole : List (List (Nat × List Str)) := []
noncomputable def m__law_is_whole : List A → List Cell → R A := defR T__law_is_whole 1 b__law_is_whole
/-! ### _law_is_fraction -/
def b__law_is_fraction : Ss := (.cons (.ite (.bop false (.cons (.not_ (.bi (.isi "tuple") (.cons (.var 0) .nil))) (.cons (.cmp .NotEq (.bi .len (.cons (.var 0) .nil)) (.k (.int 2))) .nil))) (.cons (.ret (.k (.bl false))) .nil) .nil) (.cons (.ret (.bop true (.cons (.call 1 (.cons (.ix (.var 0) (.k (.int 0))) .nil)) (.cons (.call 1 (.cons (.ix (.var 0) (.k (.int 1))) .nil)) (.cons (.cmp .Gt (.ix (.var 0) (.k (.int 1))) (.k (.int 0))) (.cons (.cmp .Eq (.call 0 (.cons (.ix (.var 0) (.k (.int 0))) (.cons (.ix (.var 0) (.k (.int 1))) .nil))) (.k (.int 1))) .nil)))))) .nil))
def n__law_is_fraction : List Str := ["_law_x"]
noncomputable def T__law_is_fraction : Tab := ⟨[⟨"_law_divisor", ["_law_a", "_law_b"], m__law_divisor⟩, ⟨"_law_is_whole", ["_law_x"], m__law_is_whole⟩], cs, bs, ms⟩
def k__law_is_fraction : List (List (Nat × List Str)) := [[], []]
noncomputable def m__law_is_fraction : List A → List Cell → R A := defR T__law_is_fraction 1 b__law_is_fraction
/-! ### _law_is_gap -/
def b__law_is_gap : Ss := (.cons (.ite (.bop false (.cons (.not_ (.bi (.isi "tuple") (.cons (.var 0) .nil))) (.cons (.cmp .NotEq (.bi .len (.cons (.var 0) .nil)) (.k (.int 3))) (.cons (.not_ (.bi .all (.cons (.comp false (.call 0 (.cons (.var 4) .nil)) (.nm 4) [("_law_each", 4)] (.seq true (.var 0)) .no) .nil))) .nil)))) (.cons (.ret (.k (.bl false))) .nil) .nil) (.cons (.asg (.tp [(.nm 1), (.nm 2), (.nm 3)]) (.var 0)) (.cons (.ite (.bop false (.cons (.cmp .Lt (.ix (.var 1) (.k (.int 0))) (.k (.int 0))) (.cons (.cmp .Lt (.ix (.var 3) (.k (.int 0))) (.k (.int 0))) (.cons (.cmp .Eq (.bin .Add (.ix (.var 1) (.k (.int 0))) (.ix (.var 3) (.k (.int 0)))) (.k (.int 0))) .nil)))) (.cons (.ret (.k (.bl false))) .nil) .nil) (.cons (.ret (.cmp .LtE (.bin .Mult (.bin .Mult (.bin .Mult (.ix (.var 2) (.k (.int 0))) (.ix (.var 2) (.k (.int 0)))) (.ix (.var 1) (.k (.int 1)))) (.ix (.var 3) (.k (.int 1)))) (.bin .Mult (.bin .Mult (.bin .Mult (.ix (.var 1) (.k (.int 0))) (.ix (.var 3) (.k (.int 0)))) (.ix (.var 2) (.k (.int 1)))) (.ix (.var 2) (.k (.int 1)))))) .nil))))
def n__law_is_gap : List Str := ["_law_x", "_law_a", "_law_b", "_law_c", "_law_each"]
noncomputable def T__law_is_gap : Tab := ⟨[⟨"_law_is_fraction", ["_law_x"], m__law_is_fraction⟩], cs, bs, ms⟩
def k__law_is_gap : List (List (Nat × List Str)) := [[]]
noncomputable def m__law_is_gap : List A → List Cell → R A := defR T__law_is_gap 5 b__law_is_gap
/-! ### _law_is_kind -/
def b__law_is_kind : Ss := (.cons (.ite (.bop false (.cons (.not_ (.bi (.isi "tuple") (.cons (.var 0) .nil))) (.cons (.cmp .NotEq (.bi .len (.cons (.var 0) .nil)) (.k (.int 3))) (.cons (.not_ (.bi .all (.cons (.comp false (.call 0 (.cons (.var 1) .nil)) (.nm 1) [("_law_each", 1)] (.seq true (.var 0)) .no) .nil))) .nil)))) (.cons (.ret (.k (.bl false))) .nil) .nil) (.cons (.ret (.bop true (.cons (.cmp .Eq (.call 1 (.cons (.call 1 (.cons (.ix (.var 0) (.k (.int 0))) (.cons (.ix (.var 0) (.k (.int 1))) .nil))) (.cons (.ix (.var 0) (.k (.int 2))) .nil))) (.k (.int 1))) (.cons (.cmp .Gt (.bin .Mult (.ix (.var 0) (.k (.int 1))) (.ix (.var 0) (.k (.int 1)))) (.bin .Mult (.ix (.var 0) (.k (.int 0))) (.ix (.var 0) (.k (.int 2))))) .nil)))) .nil))
def n__law_is_kind : List Str := ["_law_x", "_law_each"]
noncomputable def T__law_is_kind : Tab := ⟨[⟨"_law_is_whole", ["_law_x"], m__law_is_whole⟩, ⟨"_law_divisor", ["_law_a", "_law_b"], m__law_divisor⟩], cs, bs, ms⟩
def k__law_is_kind : List (List (Nat × List Str)) := [[], []]
noncomputable def m__law_is_kind : List A → List Cell → R A := defR T__law_is_kind 2 b__law_is_kind
/-! ### divisor_of -/
def b_divisor_of : Ss := (.cons (.set 1 (.k (.int 0))) (.cons (.forr (.nm 2) (.seq true (.var 0)) (.cons (.set 1 (.bi .gcd (.cons (.var 1) (.cons (.var 2) .nil)))) .nil)) (.cons (.ret (.var 1)) .nil)))
def n_divisor_of : List Str := ["numbers", "found", "number"]
def T_divisor_of : Tab := ⟨[], cs, bs, ms⟩
def k_divisor_of : List (List (Nat × List Str)) := []
noncomputable def m_divisor_of : List A → List Cell → R A := defR T_divisor_of 3 b_divisor_of
/-! ### is_whole -/
def b_is_whole : Ss := (.cons (.ret (.bop true (.cons (.bi (.isi "int") (.cons (.var 0) .nil)) (.cons (.not_ (.bi (.isi "bool") (.cons (.var 0) .nil))) .nil)))) .nil)
def n_is_whole : List Str := ["value"]
def T_is_whole : Tab := ⟨[], cs, bs, ms⟩
def k_is_whole : List (List (Nat × List Str)) := []
noncomputable def m_is_whole : List A → List Cell → R A := defR T_is_whole 1 b_is_whole
/-! ### are_wholes -/
def b_are_wholes : Ss := (.cons (.ret (.bop true (.cons (.bi (.isi "tuple") (.cons (.var 0) .nil)) (.cons (.cmp .Eq (.bi .len (.cons (.var 0) .nil)) (.var 1)) (.cons (.bi .all (.cons (.comp false (.call 0 (.cons (.var 2) .nil)) (.nm 2) [("each", 2)] (.seq true (.var 0)) .no) .nil)) .nil))))) .nil)
def n_are_wholes : List Str := ["value", "many", "each"]
noncomputable def T_are_wholes : Tab := ⟨[⟨"is_whole", ["value"], m_is_whole⟩], cs, bs, ms⟩
def k_are_wholes : List (List (Nat × List Str)) := [[]]
noncomputable def m_are_wholes : List A → List Cell → R A := defR T_are_wholes 3 b_are_wholes
/-! ### is_ratio -/
def b_is_ratio : Ss := (.cons (.ret (.bop true (.cons (.call 1 (.cons (.var 0) (.cons (.k (.int 2)) .nil))) (.cons (.cmp .Gt (.ix (.var 0) (.k (.int 1))) (.k (.int 0))) (.cons (.cmp .Eq (.call 0 (.cons (.var 0) .nil)) (.k (.int 1))) .nil))))) .nil)
def n_is_ratio : List Str := ["value"]
noncomputable def T_is_ratio : Tab := ⟨[⟨"divisor_of", ["numbers"], m_divisor_of⟩, ⟨"are_wholes", ["value", "many"], m_are_wholes⟩], cs, bs, ms⟩
def k_is_ratio : List (List (Nat × List Str)) := [[], []]
noncomputable def m_is_ratio : List A → List Cell → R A := defR T_is_ratio 1 b_is_ratio
/-! ### is_from_nought -/
def b_is_from_nought : Ss := (.cons (.ret (.bop true (.cons (.call 0 (.cons (.var 0) .nil)) (.cons (.cmp .GtE (.ix (.var 0) (.k (.int 0))) (.k (.int 0))) .nil)))) .nil)
def n_is_from_nought : List Str := ["value"]
noncomputable def T_is_from_nought : Tab := ⟨[⟨"is_ratio", ["value"], m_is_ratio⟩], cs, bs, ms⟩
def k_is_from_nought : List (List (Nat × List Str)) := [[]]
noncomputable def m_is_from_nought : List A → List Cell → R A := defR T_is_from_nought 1 b_is_from_nought
/-! ### is_below -/
def b_is_below : Ss := (.cons (.ret (.cmp .Lt (.bin .Mult (.ix (.var 0) (.k (.int 0))) (.ix (.var 1) (.k (.int 1)))) (.bin .Mult (.ix (.var 1) (.k (.int 0))) (.ix (.var 0) (.k (.int 1)))))) .nil)
def n_is_below : List Str := ["one", "two"]
def T_is_below : Tab := ⟨[], cs, bs, ms⟩
def k_is_below : List (List (Nat × List Str)) := []
noncomputable def m_is_below : List A → List Cell → R A := defR T_is_below 2 b_is_below
/-! ### squared -/
def b_squared : Ss := (.cons (.ret (.tup (.cons (.bin .Mult (.ix (.var 0) (.k (.int 0))) (.ix (.var 0) (.k (.int 0)))) (.cons (.bin .Mult (.ix (.var 0) (.k (.int 1))) (.ix (.var 0) (.k (.int 1)))) .nil)))) .nil)
def n_squared : List Str := ["one"]
def T_squared : Tab := ⟨[], cs, bs, ms⟩
def k_squared : List (List (Nat × List Str)) := []
noncomputable def m_squared : List A → List Cell → R A := defR T_squared 1 b_squared
/-! ### lowest -/
def b_lowest : Ss := (.cons (.set 1 (.call 0 (.cons (.var 0) .nil))) (.cons (.ret (.bi .tuple (.cons (.comp false (.bin .FloorDiv (.var 2) (.var 1)) (.nm 2) [("number", 2)] (.seq true (.var 0)) .no) .nil))) .nil))
def n_lowest : List Str := ["numbers", "part", "number"]
noncomputable def T_lowest : Tab := ⟨[⟨"divisor_of", ["numbers"], m_divisor_of⟩], cs, bs, ms⟩
def k_lowest : List (List (Nat × List Str)) := [[]]
noncomputable def m_lowest : List A → List Cell → R A := defR T_lowest 3 b_lowest
/-! ### ratio -/
def b_ratio : Ss := (.cons (.ret (.ite (.cmp .Gt (.var 1) (.k (.int 0))) (.call 0 (.cons (.tup (.cons (.var 0) (.cons (.var 1) .nil))) .nil)) (.call 0 (.cons (.tup (.cons (.neg (.var 0)) (.cons (.neg (.var 1)) .nil))) .nil)))) .nil)
def n_ratio : List Str := ["top", "under"]
noncomputable def T_ratio : Tab := ⟨[⟨"lowest", ["numbers"], m_lowest⟩], cs, bs, ms⟩
def k_ratio : List (List (Nat × List Str)) := [[]]
noncomputable def m_ratio : List A → List Cell → R A := defR T_ratio 2 b_ratio
/-! ### times -/
def b_times : Ss := (.cons (.ret (.call 0 (.cons (.bin .Mult (.ix (.var 0) (.k (.int 0))) (.ix (.var 1) (.k (.int 0)))) (.cons (.bin .Mult (.ix (.var 0) (.k (.int 1))) (.ix (.var 1) (.k (.int 1)))) .nil)))) .nil)
def n_times : List Str := ["one", "two"]
noncomputable def T_times : Tab := ⟨[⟨"ratio", ["top", "under"], m_ratio⟩], cs, bs, ms⟩
def k_times : List (List (Nat × List Str)) := [[]]
noncomputable def m_times : List A → List Cell → R A := defR T_times 2 b_times
/-! ### is_gap_by -/
def b_is_gap_by : Ss := (.cons (.ite (.bop false (.cons (.not_ (.bi (.isi "tuple") (.cons (.var 0) .nil))) (.cons (.cmp .NotEq (.bi .len (.cons (.var 0) .nil)) (.k (.int 3))) (.cons (.not_ (.bi .all (.cons (.comp false (.call 0 (.cons (.var 1) .nil)) (.nm 1) [("each", 1)] (.seq true (.var 0)) .no) .nil))) .nil)))) (.cons (.ret (.k (.bl false))) .nil) .nil) (.cons (.ite (.bop false (.cons (.not_ (.call 1 (.cons (.ix (.var 0) (.k (.int 0))) .nil))) (.cons (.not_ (.call 1 (.cons (.ix (.var 0) (.k (.int 2))) .nil))) (.cons (.bop true (.cons (.cmp .Eq (.ix (.var 0) (.k (.int 0))) (.con 0)) (.cons (.cmp .Eq (.ix (.var 0) (.k (.int 2))) (.con 0)) .nil))) .nil)))) (.cons (.ret (.k (.bl false))) .nil) .nil) (.cons (.ret (.not_ (.call 2 (.cons (.call 4 (.cons (.ix (.var 0) (.k (.int 0))) (.cons (.ix (.var 0) (.k (.int 2))) .nil))) (.cons (.call 3 (.cons (.ix (.var 0) (.k (.int 1))) .nil)) .nil))))) .nil)))
def n_is_gap_by : List Str := ["value", "each"]
noncomputable def T_is_gap_by : Tab := ⟨[⟨"is_ratio", ["value"], m_is_ratio⟩, ⟨"is_from_nought", ["value"], m_is_from_nought⟩, ⟨"is_below", ["one", "two"], m_is_below⟩, ⟨"squared", ["one"], m_squared⟩, ⟨"times", ["one", "two"], m_times⟩], cs, bs, ms⟩
def k_is_gap_by : List (List (Nat × List Str)) := [[], [], [], [], []]
noncomputable def m_is_gap_by : List A → List Cell → R A := defR T_is_gap_by 2 b_is_gap_by
/-! ### is_gap -/
def b_is_gap : Ss := (.cons (.ret (.call 0 (.cons (.var 0) .nil))) .nil)
def n_is_gap : List Str := ["value"]
noncomputable def T_is_gap : Tab := ⟨[⟨"is_gap_by", ["value"], m_is_gap_by⟩], cs, bs, ms⟩
def k_is_gap : List (List (Nat × List Str)) := [[]]
noncomputable def m_is_gap : List A → List Cell → R A := defR T_is_gap 1 b_is_gap
/-! ### is_kind_by -/
def b_is_kind_by : Ss := (.cons (.ite (.bop false (.cons (.not_ (.call 1 (.cons (.var 0) (.cons (.k (.int 3)) .nil)))) (.cons (.cmp .NotEq (.call 0 (.cons (.var 0) .nil)) (.k (.int 1))) .nil))) (.cons (.ret (.k (.bl false))) .nil) .nil) (.cons (.ret (.cmp .Gt (.bin .Mult (.ix (.var 0) (.k (.int 1))) (.ix (.var 0) (.k (.int 1)))) (.bin .Mult (.ix (.var 0) (.k (.int 0))) (.ix (.var 0) (.k (.int 2)))))) .nil))
def n_is_kind_by : List Str := ["value"]
noncomputable def T_is_kind_by : Tab := ⟨[⟨"divisor_of", ["numbers"], m_divisor_of⟩, ⟨"are_wholes", ["value", "many"], m_are_wholes⟩], cs, bs, ms⟩
def k_is_kind_by : List (List (Nat × List Str)) := [[], []]
noncomputable def m_is_kind_by : List A → List Cell → R A := defR T_is_kind_by 1 b_is_kind_by
/-! ### is_kind -/
def b_is_kind : Ss := (.cons (.ret (.call 0 (.cons (.var 0) .nil))) .nil)
def n_is_kind : List Str := ["value"]
noncomputable def T_is_kind : Tab := ⟨[⟨"is_kind_by", ["value"], m_is_kind_by⟩], cs, bs, ms⟩
def k_is_kind : List (List (Nat × List Str)) := [[]]
noncomputable def m_is_kind : List A → List Cell → R A := defR T_is_kind 1 b_is_kind
/-! ### _law_right -/
def b__law_right : Ss := (.cons (.set 1 (.call 0 (.cons (.var 0) .nil))) (.cons (.set 2 (.call 1 (.cons (.call 3 (.cons (.var 0) .nil)) (.cons (.bin .Add (.k (.int 1)) (.call 2 (.cons (.var 0) (.cons (.k (.int 12)) .nil)))) .nil)))) (.cons (.set 3 (.call 4 (.cons (.var 0) .nil))) (.cons (.set 4 (.ite (.cmp .Eq (.call 2 (.cons (.var 0) (.cons (.k (.int 2)) .nil))) (.k (.int 0))) (.tup (.cons (.ix (.var 1) (.k (.int 0))) (.cons (.ix (.var 1) (.k (.int 1))) (.cons (.k (.int 0)) .nil)))) (.tup (.cons (.ix (.var 1) (.k (.int 0))) (.cons (.bin .Add (.ix (.var 1) (.k (.int 0))) (.k (.int 1))) (.cons (.bin .Add (.ix (.var 1) (.k (.int 0))) (.k (.int 2))) .nil)))))) (.cons (.set 5 (.lstc (.cons (.var 1) (.cons (.var 2) (.cons (.var 3) (.cons (.var 4) .nil)))))) (.cons (.forr (.nm 6) (.rng (.k (.int 4))) (.cons (.app 5 (.call 5 (.cons (.var 0) (.cons (.var 1) .nil)))) (.cons (.app 5 (.call 5 (.cons (.var 0) (.cons (.var 2) .nil)))) (.cons (.app 5 (.call 5 (.cons (.var 0) (.cons (.var 3) .nil)))) .nil)))) (.cons (.app 5 (.call 6 (.cons (.var 0) .nil))) (.cons (.frz 5) (.cons (.setc 7 (.comp false (.lst (.cons (.call 8 (.cons (.var 8) .nil)) (.cons (.call 7 (.cons (.var 8) .nil)) .nil))) (.nm 8) [("_law_value", 8)] (.seq true (.var 5)) .no)) (.cons (.ite (.cmp .NotEq (.bi .repr (.cons (.comp false (.lst (.cons (.call 10 (.cons (.var 8) .nil)) (.cons (.call 9 (.cons (.var 8) .nil)) .nil))) (.nm 8) [("_law_value", 8)] (.seq true (.var 5)) .no) .nil)) (.bi .repr (.cons (.var 7) .nil))) (.cons (.ret (.k (.bl false))) .nil) .nil) (.cons (.ret (.cmp .Eq (.bi .repr (.cons (.comp false (.lst (.cons (.callk 10 .nil ["value"] (.cons (.var 8) .nil)) (.cons (.callk 9 .nil ["value"] (.cons (.var 8) .nil)) .nil))) (.nm 8) [("_law_value", 8)] (.seq true (.var 5)) .no) .nil)) (.bi .repr (.cons (.var 7) .nil)))) .nil)))))))))))
def n__law_right : List Str := ["_law_well_here", "_law_kind_here", "_law_gap_here", "_law_near", "_law_rim", "_law_values", "_law_turn", "_law_dues", "_law_value"]
noncomputable def T__law_right : Tab := ⟨[⟨"_law_kind", ["_law_well_here"], m__law_kind⟩, ⟨"_law_over", ["_law_gap_here", "_law_number"], m__law_over⟩, ⟨"_law_draw", ["_law_well_here", "_law_many"], m__law_draw⟩, ⟨"_law_gap", ["_law_well_here"], m__law_gap⟩, ⟨"_law_near_rim", ["_law_well_here"], m__law_near_rim⟩, ⟨"_law_bent", ["_law_well_here", "_law_value"], m__law_bent⟩, ⟨"_law_odd", ["_law_well_here"], m__law_odd⟩, ⟨"_law_is_gap", ["_law_x"], m__law_is_gap⟩, ⟨"_law_is_kind", ["_law_x"], m__law_is_kind⟩, ⟨"is_gap", ["value"], m_is_gap⟩, ⟨"is_kind", ["value"], m_is_kind⟩], cs, bs, ms⟩
def k__law_right : List (List (Nat × List Str)) := [[], [], [], [], [], [], [], [], [], [(0, ["value"])], [(0, ["value"])]]
noncomputable def m__law_right : List A → List Cell → R A := defR T__law_right 9 b__law_right
/-! ### _law_well -/
def b__law_well : Ss := (.cons (.set 2 (.ite (.cmp .Lt (.var 1) (.bi .len (.cons (.var 0) .nil))) (.bi .int1 (.cons (.ix (.var 0) (.var 1)) .nil)) (.bin .Add (.bin .Mult (.k (.int 8191)) (.var 1)) (.k (.int 523))))) (.cons (.set 3 (.bin .Add (.k (.int 79021)) (.bin .Mult (.k (.int 6007)) (.var 1)))) (.cons (.forr (.nm 4) (.seq true (.sl (.var 0) .no (.so (.k (.int 8))))) (.cons (.set 3 (.bin .Mod (.bi .int1 (.cons (.bin .Add (.bin .Add (.bin .Mult (.var 3) (.k (.int 60013))) (.bin .Mult (.bin .Mod (.bi .int1 (.cons (.var 4) .nil)) (.k (.int 1000000007))) (.k (.int 30011)))) (.k (.int 19))) .nil)) (.k (.int 2147483629)))) .nil)) (.cons (.set 3 (.bin .Mod (.bi .int1 (.cons (.bin .Add (.bin .Add (.bin .Mult (.var 3) (.k (.int 127))) (.bin .Mult (.bin .Mod (.bi .int1 (.cons (.var 2) .nil)) (.k (.int 2147483587))) (.k (.int 51503)))) (.k (.int 7))) .nil)) (.k (.int 2147483629)))) (.cons (.ret (.lstc (.cons (.ite (.cmp .GtE (.bi .abs (.cons (.var 2) .nil)) (.bin .Pow (.k (.int 10)) (.k (.int 18)))) (.bi .abs (.cons (.var 2) .nil)) (.k (.int 0))) (.cons (.var 3) (.cons (.k (.int 0)) .nil))))) .nil)))))
def n__law_well : List Str := ["_law_script", "_law_turn", "_law_own", "_law_seed", "_law_cell"]
def T__law_well : Tab := ⟨[], cs, bs, ms⟩
def k__law_well : List (List (Nat × List Str)) := []
noncomputable def m__law_well : List A → List Cell → R A := defR T__law_well 5 b__law_well
/-! ### law -/
def b_law : Ss := (.cons (.ret (.bi .all (.cons (.comp false (.call 0 (.cons (.call 1 (.cons (.var 0) (.cons (.var 1) .nil))) .nil)) (.nm 1) [("_law_turn", 1)] (.rng (.bi .max2 (.cons (.k (.int 2)) (.cons (.bi .min2 (.cons (.bi .len (.cons (.var 0) .nil)) (.cons (.k (.int 3)) .nil))) .nil)))) .no) .nil))) .nil)
def n_law : List Str := ["_law_script", "_law_turn"]
noncomputable def T_law : Tab := ⟨[⟨"_law_right", ["_law_well_here"], m__law_right⟩, ⟨"_law_well", ["_law_script", "_law_turn"], m__law_well⟩], cs, bs, ms⟩
def k_law : List (List (Nat × List Str)) := [[], []]
noncomputable def m_law : List A → List Cell → R A := defR T_law 2 b_law
/-! ### the checks -/
theorem sc__law_draw : FnScope n__law_draw ["_law_well_here", "_law_many"] (defScope (top 22)) := ⟨rfl, rfl, rfl, by decide +kernel, rfl, by decide +kernel, by decide +kernel⟩
theorem c__law_draw : chkSs T__law_draw k__law_draw ⟨n__law_draw, defScope (top 22), fun _ => true⟩ b__law_draw (defBody (top 22)) = true := by kernel_rfl
theorem sc__law_lowest : FnScope n__law_lowest ["_law_one", "_law_two", "_law_three"] (defScope (top 25)) := ⟨rfl, rfl, rfl, by decide +kernel, rfl, by decide +kernel, by decide +kernel⟩
theorem c__law_lowest : chkSs T__law_lowest k__law_lowest ⟨n__law_lowest, defScope (top 25), fun _ => true⟩ b__law_lowest (defBody (top 25)) = true := by kernel_rfl
theorem sc__law_kind : FnScope n__law_kind ["_law_well_here"] (defScope (top 26)) := ⟨rfl, rfl, rfl, by decide +kernel, rfl, by decide +kernel, by decide +kernel⟩
theorem c__law_kind : chkSs T__law_kind k__law_kind ⟨n__law_kind, defScope (top 26), fun _ => true⟩ b__law_kind (defBody (top 26)) = true := by kernel_rfl
theorem sc__law_ratio : FnScope n__law_ratio ["_law_n", "_law_m"] (defScope (top 24)) := ⟨rfl, rfl, rfl, by decide +kernel, rfl, by decide +kernel, by decide +kernel⟩
theorem c__law_ratio : chkSs T__law_ratio k__law_ratio ⟨n__law_ratio, defScope (top 24), fun _ => true⟩ b__law_ratio (defBody (top 24)) = true := by kernel_rfl
theorem sc__law_over : FnScope n__law_over ["_law_gap_here", "_law_number"] (defScope (top 28)) := ⟨rfl, rfl, rfl, by decide +kernel, rfl, by decide +kernel, by decide +kernel⟩
theorem c__law_over : chkSs T__law_over k__law_over ⟨n__law_over, defScope (top 28), fun _ => true⟩ b__law_over (defBody (top 28)) = true := by kernel_rfl
theorem sc__law_gap : FnScope n__law_gap ["_law_well_here"] (defScope (top 27)) := ⟨rfl, rfl, rfl, by decide +kernel, rfl, by decide +kernel, by decide +kernel⟩
theorem c__law_gap : chkSs T__law_gap k__law_gap ⟨n__law_gap, defScope (top 27), fun _ => true⟩ b__law_gap (defBody (top 27)) = true := by kernel_rfl
theorem sc__law_pick : FnScope n__law_pick ["_law_well_here", "_law_some"] (defScope (top 23)) := ⟨rfl, rfl, rfl, by decide +kernel, rfl, by decide +kernel, by decide +kernel⟩
theorem c__law_pick : chkSs T__law_pick k__law_pick ⟨n__law_pick, defScope (top 23), fun _ => true⟩ b__law_pick (defBody (top 23)) = true := by kernel_rfl
theorem sc__law_near_rim : FnScope n__law_near_rim ["_law_well_here"] (defScope (top 37)) := ⟨rfl, rfl, rfl, by decide +kernel, rfl, by decide +kernel, by decide +kernel⟩
theorem c__law_near_rim : chkSs T__law_near_rim k__law_near_rim ⟨n__law_near_rim, defScope (top 37), fun _ => true⟩ b__law_near_rim (defBody (top 37)) = true := by kernel_rfl
theorem sc__law_odd : FnScope n__law_odd ["_law_well_here"] (defScope (top 34)) := ⟨rfl, rfl, rfl, by decide +kernel, rfl, by decide +kernel, by decide +kernel⟩
theorem c__law_odd : chkSs T__law_odd k__law_odd ⟨n__law_odd, defScope (top 34), fun _ => true⟩ b__law_odd (defBody (top 34)) = true := by kernel_rfl
theorem sc__law_stretched : FnScope n__law_stretched ["_law_well_here", "_law_value", "_law_at"] (defScope (top 36)) := ⟨rfl, rfl, rfl, by decide +kernel, rfl, by decide +kernel, by decide +kernel⟩
theorem c__law_stretched : chkSs T__law_stretched k__law_stretched ⟨n__law_stretched, defScope (top 36), fun _ => true⟩ b__law_stretched (defBody (top 36)) = true := by kernel_rfl
theorem sc__law_bent : FnScope n__law_bent ["_law_well_here", "_law_value"] (defScope (top 35)) := ⟨rfl, rfl, rfl, by decide +kernel, rfl, by decide +kernel, by decide +kernel⟩
theorem c__law_bent : chkSs T__law_bent k__law_bent ⟨n__law_bent, defScope (top 35), fun _ => true⟩ b__law_bent (defBody (top 35)) = true := by kernel_rfl
theorem sc__law_divisor : FnScope n__law_divisor ["_law_a", "_law_b"] (defScope (top 30)) := ⟨rfl, rfl, rfl, by decide +kernel, rfl, by decide +kernel, by decide +kernel⟩
theorem c__law_divisor : chkSs T__law_divisor k__law_divisor ⟨n__law_divisor, defScope (top 30), fun _ => true⟩ b__law_divisor (defBody (top 30)) = true := by kernel_rfl
theorem sc__law_is_whole : FnScope n__law_is_whole ["_law_x"] (defScope (top 29)) := ⟨rfl, rfl, rfl, by decide +kernel, rfl, by decide +kernel, by decide +kernel⟩
theorem c__law_is_whole : chkSs T__law_is_whole k__law_is_whole ⟨n__law_is_whole, defScope (top 29), fun _ => true⟩ b__law_is_whole (defBody (top 29)) = true := by kernel_rfl
theorem sc__law_is_fraction : FnScope n__law_is_fraction ["_law_x"] (defScope (top 31)) := ⟨rfl, rfl, rfl, by decide +kernel, rfl, by decide +kernel, by decide +kernel⟩
theorem c__law_is_fraction : chkSs T__law_is_fraction k__law_is_fraction ⟨n__law_is_fraction, defScope (top 31), fun _ => true⟩ b__law_is_fraction (defBody (top 31)) = true := by kernel_rfl
theorem sc__law_is_gap : FnScope n__law_is_gap ["_law_x"] (defScope (top 33)) := ⟨rfl, rfl, rfl, by decide +kernel, rfl, by decide +kernel, by decide +kernel⟩
theorem c__law_is_gap : chkSs T__law_is_gap k__law_is_gap ⟨n__law_is_gap, defScope (top 33), fun _ => true⟩ b__law_is_gap (defBody (top 33)) = true := by kernel_rfl
theorem sc__law_is_kind : FnScope n__law_is_kind ["_law_x"] (defScope (top 32)) := ⟨rfl, rfl, rfl, by decide +kernel, rfl, by decide +kernel, by decide +kernel⟩
theorem c__law_is_kind : chkSs T__law_is_kind k__law_is_kind ⟨n__law_is_kind, defScope (top 32), fun _ => true⟩ b__law_is_kind (defBody (top 32)) = true := by kernel_rfl
theorem sc_divisor_of : FnScope n_divisor_of ["numbers"] (defScope (top 4)) := ⟨rfl, rfl, rfl, by decide +kernel, rfl, by decide +kernel, by decide +kernel⟩
theorem c_divisor_of : chkSs T_divisor_of k_divisor_of ⟨n_divisor_of, defScope (top 4), fun _ => true⟩ b_divisor_of (defBody (top 4)) = true := by kernel_rfl
theorem sc_is_whole : FnScope n_is_whole ["value"] (defScope (top 2)) := ⟨rfl, rfl, rfl, by decide +kernel, rfl, by decide +kernel, by decide +kernel⟩
theorem c_is_whole : chkSs T_is_whole k_is_whole ⟨n_is_whole, defScope (top 2), fun _ => true⟩ b_is_whole (defBody (top 2)) = true := by kernel_rfl
theorem sc_are_wholes : FnScope n_are_wholes ["value", "many"] (defScope (top 3)) := ⟨rfl, rfl, rfl, by decide +kernel, rfl, by decide +kernel, by decide +kernel⟩
theorem c_are_wholes : chkSs T_are_wholes k_are_wholes ⟨n_are_wholes, defScope (top 3), fun _ => true⟩ b_are_wholes (defBody (top 3)) = true := by kernel_rfl
theorem sc_is_ratio : FnScope n_is_ratio ["value"] (defScope (top 8)) := ⟨rfl, rfl, rfl, by decide +kernel, rfl, by decide +kernel, by decide +kernel⟩
theorem c_is_ratio : chkSs T_is_ratio k_is_ratio ⟨n_is_ratio, defScope (top 8), fun _ => true⟩ b_is_ratio (defBody (top 8)) = true := by kernel_rfl
theorem sc_is_from_nought : FnScope n_is_from_nought ["value"] (defScope (top 9)) := ⟨rfl, rfl, rfl, by decide +kernel, rfl, by decide +kernel, by decide +kernel⟩
theorem c_is_from_nought : chkSs T_is_from_nought k_is_from_nought ⟨n_is_from_nought, defScope (top 9), fun _ => true⟩ b_is_from_nought (defBody (top 9)) = true := by kernel_rfl
theorem sc_is_below : FnScope n_is_below ["one", "two"] (defScope (top 13)) := ⟨rfl, rfl, rfl, by decide +kernel, rfl, by decide +kernel, by decide +kernel⟩
theorem c_is_below : chkSs T_is_below k_is_below ⟨n_is_below, defScope (top 13), fun _ => true⟩ b_is_below (defBody (top 13)) = true := by kernel_rfl
theorem sc_squared : FnScope n_squared ["one"] (defScope (top 12)) := ⟨rfl, rfl, rfl, by decide +kernel, rfl, by decide +kernel, by decide +kernel⟩
theorem c_squared : chkSs T_squared k_squared ⟨n_squared, defScope (top 12), fun _ => true⟩ b_squared (defBody (top 12)) = true := by kernel_rfl
theorem sc_lowest : FnScope n_lowest ["numbers"] (defScope (top 5)) := ⟨rfl, rfl, rfl, by decide +kernel, rfl, by decide +kernel, by decide +kernel⟩
theorem c_lowest : chkSs T_lowest k_lowest ⟨n_lowest, defScope (top 5), fun _ => true⟩ b_lowest (defBody (top 5)) = true := by kernel_rfl
theorem sc_ratio : FnScope n_ratio ["top", "under"] (defScope (top 10)) := ⟨rfl, rfl, rfl, by decide +kernel, rfl, by decide +kernel, by decide +kernel⟩
theorem c_ratio : chkSs T_ratio k_ratio ⟨n_ratio, defScope (top 10), fun _ => true⟩ b_ratio (defBody (top 10)) = true := by kernel_rfl
theorem sc_times : FnScope n_times ["one", "two"] (defScope (top 11)) := ⟨rfl, rfl, rfl, by decide +kernel, rfl, by decide +kernel, by decide +kernel⟩
theorem c_times : chkSs T_times k_times ⟨n_times, defScope (top 11), fun _ => true⟩ b_times (defBody (top 11)) = true := by kernel_rfl
theorem sc_is_gap_by : FnScope n_is_gap_by ["value"] (defScope (top 16)) := ⟨rfl, rfl, rfl, by decide +kernel, rfl, by decide +kernel, by decide +kernel⟩
theorem c_is_gap_by : chkSs T_is_gap_by k_is_gap_by ⟨n_is_gap_by, defScope (top 16), fun _ => true⟩ b_is_gap_by (defBody (top 16)) = true := by kernel_rfl
theorem sc_is_gap : FnScope n_is_gap ["value"] (defScope (top 19)) := ⟨rfl, rfl, rfl, by decide +kernel, rfl, by decide +kernel, by decide +kernel⟩
theorem c_is_gap : chkSs T_is_gap k_is_gap ⟨n_is_gap, defScope (top 19), fun _ => true⟩ b_is_gap (defBody (top 19)) = true := by kernel_rfl
theorem sc_is_kind_by : FnScope n_is_kind_by ["value"] (defScope (top 15)) := ⟨rfl, rfl, rfl, by decide +kernel, rfl, by decide +kernel, by decide +kernel⟩
theorem c_is_kind_by : chkSs T_is_kind_by k_is_kind_by ⟨n_is_kind_by, defScope (top 15), fun _ => true⟩ b_is_kind_by (defBody (top 15)) = true := by kernel_rfl
theorem sc_is_kind : FnScope n_is_kind ["value"] (defScope (top 18)) := ⟨rfl, rfl, rfl, by decide +kernel, rfl, by decide +kernel, by decide +kernel⟩
theorem c_is_kind : chkSs T_is_kind k_is_kind ⟨n_is_kind, defScope (top 18), fun _ => true⟩ b_is_kind (defBody (top 18)) = true := by kernel_rfl
theorem sc__law_right : FnScope n__law_right ["_law_well_here"] (defScope (top 38)) := ⟨rfl, rfl, rfl, by decide +kernel, rfl, by decide +kernel, by decide +kernel⟩
theorem c__law_right : chkSs T__law_right k__law_right ⟨n__law_right, defScope (top 38), fun _ => true⟩ b__law_right (defBody (top 38)) = true := by kernel_rfl
theorem sc__law_well : FnScope n__law_well ["_law_script", "_law_turn"] (defScope (top 21)) := ⟨rfl, rfl, rfl, by decide +kernel, rfl, by decide +kernel, by decide +kernel⟩
theorem c__law_well : chkSs T__law_well k__law_well ⟨n__law_well, defScope (top 21), fun _ => true⟩ b__law_well (defBody (top 21)) = true := by kernel_rfl
theorem sc_law : FnScope n_law ["_law_script"] (defScope (top 39)) := ⟨rfl, rfl, rfl, by decide +kernel, rfl, by decide +kernel, by decide +kernel⟩
theorem c_law : chkSs T_law k_law ⟨n_law, defScope (top 39), fun _ => true⟩ b_law (defBody (top 39)) = true := by kernel_rfl
section
variable {P : Program} {w : World} {K : PySem.W.Frag} {h : Heap} {mg : Str → Option Value} {base : Heap} (X : K.In h) (G : h.Ns mainGlobals mg) (c : SaysN cs bs ms fns K)
include X G c
theorem ok__law_draw : FnIn P w K mg base 1 ⟨"_law_draw", ["_law_well_here", "_law_many"], m__law_draw⟩ [] := by
  obtain ⟨fd, hm, F⟩ := c.fn_ok X G 0 (d := d__law_draw) rfl
  have tk : TabOk P w K mg base T__law_draw k__law_draw 0 := ⟨c.bs_ok X G, c.ms_ok X G, c.cs_ok X G, fun i fn e => AllAt.get (Q := FnIn P w K mg base 0) (l := T__law_draw.fs) (kw := k__law_draw) trivial e⟩
  exact ⟨_, fd, hm, F.kp, fnG_of F sc__law_draw tk c__law_draw, binds_of F ⟨fun _ _ _ _ _ _ us ws hl hw => match us, hl, ws, hw with | [_, _], _, [], _ => rfl, trivial⟩⟩
theorem ok__law_lowest : FnIn P w K mg base 1 ⟨"_law_lowest", ["_law_one", "_law_two", "_law_three"], m__law_lowest⟩ [] := by
  obtain ⟨fd, hm, F⟩ := c.fn_ok X G 1 (d := d__law_lowest) rfl
  have tk : TabOk P w K mg base T__law_lowest k__law_lowest 0 := ⟨c.bs_ok X G, c.ms_ok X G, c.cs_ok X G, fun i fn e => AllAt.get (Q := FnIn P w K mg base 0) (l := T__law_lowest.fs) (kw := k__law_lowest) trivial e⟩
  exact ⟨_, fd, hm, F.kp, fnG_of F sc__law_lowest tk c__law_lowest, binds_of F ⟨fun _ _ _ _ _ _ us ws hl hw => match us, hl, ws, hw with | [_, _, _], _, [], _ => rfl, trivial⟩⟩
theorem ok__law_kind : FnIn P w K mg base 2 ⟨"_law_kind", ["_law_well_here"], m__law_kind⟩ [] := by
  obtain ⟨fd, hm, F⟩ := c.fn_ok X G 2 (d := d__law_kind) rfl
  have tk : TabOk P w K mg base T__law_kind k__law_kind 1 := ⟨c.bs_ok X G, c.ms_ok X G, c.cs_ok X G, fun i fn e => AllAt.get (Q := FnIn P w K mg base 1) (l := T__law_kind.fs) (kw := k__law_kind) ⟨(ok__law_draw X G c).up (by decide), (ok__law_lowest X G c).up (by decide), trivial⟩ e⟩
  exact ⟨_, fd, hm, F.kp, fnG_of F sc__law_kind tk c__law_kind, binds_of F ⟨fun _ _ _ _ _ _ us ws hl hw => match us, hl, ws, hw with | [_], _, [], _ => rfl, trivial⟩⟩
theorem ok__law_ratio : FnIn P w K mg base 1 ⟨"_law_ratio", ["_law_n", "_law_m"], m__law_ratio⟩ [] := by
  obtain ⟨fd, hm, F⟩ := c.fn_ok X G 3 (d := d__law_ratio) rfl
  have tk : TabOk P w K mg base T__law_ratio k__law_ratio 0 := ⟨c.bs_ok X G, c.ms_ok X G, c.cs_ok X G, fun i fn e => AllAt.get (Q := FnIn P w K mg base 0) (l := T__law_ratio.fs) (kw := k__law_ratio) trivial e⟩
  exact ⟨_, fd, hm, F.kp, fnG_of F sc__law_ratio tk c__law_ratio, binds_of F ⟨fun _ _ _ _ _ _ us ws hl hw => match us, hl, ws, hw with | [_, _], _, [], _ => rfl, trivial⟩⟩
theorem ok__law_over : FnIn P w K mg base 2 ⟨"_law_over", ["_law_gap_here", "_law_number"], m__law_over⟩ [] := by
  obtain ⟨fd, hm, F⟩ := c.fn_ok X G 4 (d := d__law_over) rfl
  have tk : TabOk P w K mg base T__law_over k__law_over 1 := ⟨c.bs_ok X G, c.ms_ok X G, c.cs_ok X G, fun i fn e => AllAt.get (Q := FnIn P w K mg base 1) (l := T__law_over.fs) (kw := k__law_over) ⟨(ok__law_ratio X G c).up (by decide), trivial⟩ e⟩
  exact ⟨_, fd, hm, F.kp, fnG_of F sc__law_over tk c__law_over, binds_of F ⟨fun _ _ _ _ _ _ us ws hl hw => match us, hl, ws, hw with | [_, _], _, [], _ => rfl, trivial⟩⟩
theorem ok__law_gap : FnIn P w K mg base 2 ⟨"_law_gap", ["_law_well_here"], m__law_gap⟩ [] := by
  obtain ⟨fd, hm, F⟩ := c.fn_ok X G 5 (d := d__law_gap) rfl
  have tk : TabOk P w K mg base T__law_gap k__law_gap 1 := ⟨c.bs_ok X G, c.ms_ok X G, c.cs_ok X G, fun i fn e => AllAt.get (Q := FnIn P w K mg base 1) (l := T__law_gap.fs) (kw := k__law_gap) ⟨(ok__law_draw X G c).up (by decide), trivial⟩ e⟩
  exact ⟨_, fd, hm, F.kp, fnG_of F sc__law_gap tk c__law_gap, binds_of F ⟨fun _ _ _ _ _ _ us ws hl hw => match us, hl, ws, hw with | [_], _, [], _ => rfl, trivial⟩⟩
theorem ok__law_pick : FnIn P w K mg base 2 ⟨"_law_pick", ["_law_well_here", "_law_some"], m__law_pick⟩ [] := by
  obtain ⟨fd, hm, F⟩ := c.fn_ok X G 6 (d := d__law_pick) rfl
  have tk : TabOk P w K mg base T__law_pick k__law_pick 1 := ⟨c.bs_ok X G, c.ms_ok X G, c.cs_ok X G, fun i fn e => AllAt.get (Q := FnIn P w K mg base 1) (l := T__law_pick.fs) (kw := k__law_pick) ⟨(ok__law_draw X G c).up (by decide), trivial⟩ e⟩
  exact ⟨_, fd, hm, F.kp, fnG_of F sc__law_pick tk c__law_pick, binds_of F ⟨fun _ _ _ _ _ _ us ws hl hw => match us, hl, ws, hw with | [_, _], _, [], _ => rfl, trivial⟩⟩
theorem ok__law_near_rim : FnIn P w K mg base 3 ⟨"_law_near_rim", ["_law_well_here"], m__law_near_rim⟩ [] := by
  obtain ⟨fd, hm, F⟩ := c.fn_ok X G 7 (d := d__law_near_rim) rfl
  have tk : TabOk P w K mg base T__law_near_rim k__law_near_rim 2 := ⟨c.bs_ok X G, c.ms_ok X G, c.cs_ok X G, fun i fn e => AllAt.get (Q := FnIn P w K mg base 2) (l := T__law_near_rim.fs) (kw := k__law_near_rim) ⟨(ok__law_draw X G c).up (by decide), (ok__law_pick X G c).up (by decide), (ok__law_ratio X G c).up (by decide), trivial⟩ e⟩
  exact ⟨_, fd, hm, F.kp, fnG_of F sc__law_near_rim tk c__law_near_rim, binds_of F ⟨fun _ _ _ _ _ _ us ws hl hw => match us, hl, ws, hw with | [_], _, [], _ => rfl, trivial⟩⟩
theorem ok__law_odd : FnIn P w K mg base 3 ⟨"_law_odd", ["_law_well_here"], m__law_odd⟩ [] := by
  obtain ⟨fd, hm, F⟩ := c.fn_ok X G 8 (d := d__law_odd) rfl
  have tk : TabOk P w K mg base T__law_odd k__law_odd 2 := ⟨c.bs_ok X G, c.ms_ok X G, c.cs_ok X G, fun i fn e => AllAt.get (Q := FnIn P w K mg base 2) (l := T__law_odd.fs) (kw := k__law_odd) ⟨(ok__law_pick X G c).up (by decide), trivial⟩ e⟩
  exact ⟨_, fd, hm, F.kp, fnG_of F sc__law_odd tk c__law_odd, binds_of F ⟨fun _ _ _ _ _ _ us ws hl hw => match us, hl, ws, hw with | [_], _, [], _ => rfl, trivial⟩⟩
theorem ok__law_stretched : FnIn P w K mg base 3 ⟨"_law_stretched", ["_law_well_here", "_law_value", "_law_at"], m__law_stretched⟩ [] := by
  obtain ⟨fd, hm, F⟩ := c.fn_ok X G 9 (d := d__law_stretched) rfl
  have tk : TabOk P w K mg base T__law_stretched k__law_stretched 2 := ⟨c.bs_ok X G, c.ms_ok X G, c.cs_ok X G, fun i fn e => AllAt.get (Q := FnIn P w K mg base 2) (l := T__law_stretched.fs) (kw := k__law_stretched) ⟨(ok__law_pick X G c).up (by decide), trivial⟩ e⟩
  exact ⟨_, fd, hm, F.kp, fnG_of F sc__law_stretched tk c__law_stretched, binds_of F ⟨fun _ _ _ _ _ _ us ws hl hw => match us, hl, ws, hw with | [_, _, _], _, [], _ => rfl, trivial⟩⟩
theorem ok__law_bent : FnIn P w K mg base 4 ⟨"_law_bent", ["_law_well_here", "_law_value"], m__law_bent⟩ [] := by
  obtain ⟨fd, hm, F⟩ := c.fn_ok X G 10 (d := d__law_bent) rfl
  have tk : TabOk P w K mg base T__law_bent k__law_bent 3 := ⟨c.bs_ok X G, c.ms_ok X G, c.cs_ok X G, fun i fn e => AllAt.get (Q := FnIn P w K mg base 3) (l := T__law_bent.fs) (kw := k__law_bent) ⟨(ok__law_draw X G c).up (by decide), (ok__law_odd X G c).up (by decide), (ok__law_pick X G c).up (by decide), (ok__law_stretched X G c).up (by decide), trivial⟩ e⟩
  exact ⟨_, fd, hm, F.kp, fnG_of F sc__law_bent tk c__law_bent, binds_of F ⟨fun _ _ _ _ _ _ us ws hl hw => match us, hl, ws, hw with | [_, _], _, [], _ => rfl, trivial⟩⟩
theorem ok__law_divisor : FnIn P w K mg base 1 ⟨"_law_divisor", ["_law_a", "_law_b"], m__law_divisor⟩ [] := by
  obtain ⟨fd, hm, F⟩ := c.fn_ok X G 11 (d := d__law_divisor) rfl
  have tk : TabOk P w K mg base T__law_divisor k__law_divisor 0 := ⟨c.bs_ok X G, c.ms_ok X G, c.cs_ok X G, fun i fn e => AllAt.get (Q := FnIn P w K mg base 0) (l := T__law_divisor.fs) (kw := k__law_divisor) trivial e⟩
  exact ⟨_, fd, hm, F.kp, fnG_of F sc__law_divisor tk c__law_divisor, binds_of F ⟨fun _ _ _ _ _ _ us ws hl hw => match us, hl, ws, hw with | [_, _], _, [], _ => rfl, trivial⟩⟩
theorem ok__law_is_whole : FnIn P w K mg base 1 ⟨"_law_is_whole", ["_law_x"], m__law_is_whole⟩ [] := by
  obtain ⟨fd, hm, F⟩ := c.fn_ok X G 12 (d := d__law_is_whole) rfl
  have tk : TabOk P w K mg base T__law_is_whole k__law_is_whole 0 := ⟨c.bs_ok X G, c.ms_ok X G, c.cs_ok X G, fun i fn e => AllAt.get (Q := FnIn P w K mg base 0) (l := T__law_is_whole.fs) (kw := k__law_is_whole) trivial e⟩
  exact ⟨_, fd, hm, F.kp, fnG_of F sc__law_is_whole tk c__law_is_whole, binds_of F ⟨fun _ _ _ _ _ _ us ws hl hw => match us, hl, ws, hw with | [_], _, [], _ => rfl, trivial⟩⟩
theorem ok__law_is_fraction : FnIn P w K mg base 2 ⟨"_law_is_fraction", ["_law_x"], m__law_is_fraction⟩ [] := by
  obtain ⟨fd, hm, F⟩ := c.fn_ok X G 13 (d := d__law_is_fraction) rfl
  have tk : TabOk P w K mg base T__law_is_fraction k__law_is_fraction 1 := ⟨c.bs_ok X G, c.ms_ok X G, c.cs_ok X G, fun i fn e => AllAt.get (Q := FnIn P w K mg base 1) (l := T__law_is_fraction.fs) (kw := k__law_is_fraction) ⟨(ok__law_divisor X G c).up (by decide), (ok__law_is_whole X G c).up (by decide), trivial⟩ e⟩
  exact ⟨_, fd, hm, F.kp, fnG_of F sc__law_is_fraction tk c__law_is_fraction, binds_of F ⟨fun _ _ _ _ _ _ us ws hl hw => match us, hl, ws, hw with | [_], _, [], _ => rfl, trivial⟩⟩
theorem ok__law_is_gap : FnIn P w K mg base 3 ⟨"_law_is_gap", ["_law_x"], m__law_is_gap⟩ [] := by
  obtain ⟨fd, hm, F⟩ := c.fn_ok X G 14 (d := d__law_is_gap) rfl
  have tk : TabOk P w K mg base T__law_is_gap k__law_is_gap 2 := ⟨c.bs_ok X G, c.ms_ok X G, c.cs_ok X G, fun i fn e => AllAt.get (Q := FnIn P w K mg base 2) (l := T__law_is_gap.fs) (kw := k__law_is_gap) ⟨(ok__law_is_fraction X G c).up (by decide), trivial⟩ e⟩
  exact ⟨_, fd, hm, F.kp, fnG_of F sc__law_is_gap tk c__law_is_gap, binds_of F ⟨fun _ _ _ _ _ _ us ws hl hw => match us, hl, ws, hw with | [_], _, [], _ => rfl, trivial⟩⟩
theorem ok__law_is_kind : FnIn P w K mg base 2 ⟨"_law_is_kind", ["_law_x"], m__law_is_kind⟩ [] := by
  obtain ⟨fd, hm, F⟩ := c.fn_ok X G 15 (d := d__law_is_kind) rfl
  have tk : TabOk P w K mg base T__law_is_kind k__law_is_kind 1 := ⟨c.bs_ok X G, c.ms_ok X G, c.cs_ok X G, fun i fn e => AllAt.get (Q := FnIn P w K mg base 1) (l := T__law_is_kind.fs) (kw := k__law_is_kind) ⟨(ok__law_is_whole X G c).up (by decide), (ok__law_divisor X G c).up (by decide), trivial⟩ e⟩
  exact ⟨_, fd, hm, F.kp, fnG_of F sc__law_is_kind tk c__law_is_kind, binds_of F ⟨fun _ _ _ _ _ _ us ws hl hw => match us, hl, ws, hw with | [_], _, [], _ => rfl, trivial⟩⟩
theorem ok_divisor_of : FnIn P w K mg base 1 ⟨"divisor_of", ["numbers"], m_divisor_of⟩ [] := by
  obtain ⟨fd, hm, F⟩ := c.fn_ok X G 16 (d := d_divisor_of) rfl
  have tk : TabOk P w K mg base T_divisor_of k_divisor_of 0 := ⟨c.bs_ok X G, c.ms_ok X G, c.cs_ok X G, fun i fn e => AllAt.get (Q := FnIn P w K mg base 0) (l := T_divisor_of.fs) (kw := k_divisor_of) trivial e⟩
  exact ⟨_, fd, hm, F.kp, fnG_of F sc_divisor_of tk c_divisor_of, binds_of F ⟨fun _ _ _ _ _ _ us ws hl hw => match us, hl, ws, hw with | [_], _, [], _ => rfl, trivial⟩⟩
theorem ok_is_whole : FnIn P w K mg base 1 ⟨"is_whole", ["value"], m_is_whole⟩ [] := by
  obtain ⟨fd, hm, F⟩ := c.fn_ok X G 17 (d := d_is_whole) rfl
  have tk : TabOk P w K mg base T_is_whole k_is_whole 0 := ⟨c.bs_ok X G, c.ms_ok X G, c.cs_ok X G, fun i fn e => AllAt.get (Q := FnIn P w K mg base 0) (l := T_is_whole.fs) (kw := k_is_whole) trivial e⟩
  exact ⟨_, fd, hm, F.kp, fnG_of F sc_is_whole tk c_is_whole, binds_of F ⟨fun _ _ _ _ _ _ us ws hl hw => match us, hl, ws, hw with | [_], _, [], _ => rfl, trivial⟩⟩
theorem ok_are_wholes : FnIn P w K mg base 2 ⟨"are_wholes", ["value", "many"], m_are_wholes⟩ [] := by
  obtain ⟨fd, hm, F⟩ := c.fn_ok X G 18 (d := d_are_wholes) rfl
  have tk : TabOk P w K mg base T_are_wholes k_are_wholes 1 := ⟨c.bs_ok X G, c.ms_ok X G, c.cs_ok X G, fun i fn e => AllAt.get (Q := FnIn P w K mg base 1) (l := T_are_wholes.fs) (kw := k_are_wholes) ⟨(ok_is_whole X G c).up (by decide), trivial⟩ e⟩
  exact ⟨_, fd, hm, F.kp, fnG_of F sc_are_wholes tk c_are_wholes, binds_of F ⟨fun _ _ _ _ _ _ us ws hl hw => match us, hl, ws, hw with | [_, _], _, [], _ => rfl, trivial⟩⟩
theorem ok_is_ratio : FnIn P w K mg base 3 ⟨"is_ratio", ["value"], m_is_ratio⟩ [] := by
  obtain ⟨fd, hm, F⟩ := c.fn_ok X G 19 (d := d_is_ratio) rfl
  have tk : TabOk P w K mg base T_is_ratio k_is_ratio 2 := ⟨c.bs_ok X G, c.ms_ok X G, c.cs_ok X G, fun i fn e => AllAt.get (Q := FnIn P w K mg base 2) (l := T_is_ratio.fs) (kw := k_is_ratio) ⟨(ok_divisor_of X G c).up (by decide), (ok_are_wholes X G c).up (by decide), trivial⟩ e⟩
  exact ⟨_, fd, hm, F.kp, fnG_of F sc_is_ratio tk c_is_ratio, binds_of F ⟨fun _ _ _ _ _ _ us ws hl hw => match us, hl, ws, hw with | [_], _, [], _ => rfl, trivial⟩⟩
theorem ok_is_from_nought : FnIn P w K mg base 4 ⟨"is_from_nought", ["value"], m_is_from_nought⟩ [] := by
  obtain ⟨fd, hm, F⟩ := c.fn_ok X G 20 (d := d_is_from_nought) rfl
  have tk : TabOk P w K mg base T_is_from_nought k_is_from_nought 3 := ⟨c.bs_ok X G, c.ms_ok X G, c.cs_ok X G, fun i fn e => AllAt.get (Q := FnIn P w K mg base 3) (l := T_is_from_nought.fs) (kw := k_is_from_nought) ⟨(ok_is_ratio X G c).up (by decide), trivial⟩ e⟩
  exact ⟨_, fd, hm, F.kp, fnG_of F sc_is_from_nought tk c_is_from_nought, binds_of F ⟨fun _ _ _ _ _ _ us ws hl hw => match us, hl, ws, hw with | [_], _, [], _ => rfl, trivial⟩⟩
theorem ok_is_below : FnIn P w K mg base 1 ⟨"is_below", ["one", "two"], m_is_below⟩ [] := by
  obtain ⟨fd, hm, F⟩ := c.fn_ok X G 21 (d := d_is_below) rfl
  have tk : TabOk P w K mg base T_is_below k_is_below 0 := ⟨c.bs_ok X G, c.ms_ok X G, c.cs_ok X G, fun i fn e => AllAt.get (Q := FnIn P w K mg base 0) (l := T_is_below.fs) (kw := k_is_below) trivial e⟩
  exact ⟨_, fd, hm, F.kp, fnG_of F sc_is_below tk c_is_below, binds_of F ⟨fun _ _ _ _ _ _ us ws hl hw => match us, hl, ws, hw with | [_, _], _, [], _ => rfl, trivial⟩⟩
theorem ok_squared : FnIn P w K mg base 1 ⟨"squared", ["one"], m_squared⟩ [] := by
  obtain ⟨fd, hm, F⟩ := c.fn_ok X G 22 (d := d_squared) rfl
  have tk : TabOk P w K mg base T_squared k_squared 0 := ⟨c.bs_ok X G, c.ms_ok X G, c.cs_ok X G, fun i fn e => AllAt.get (Q := FnIn P w K mg base 0) (l := T_squared.fs) (kw := k_squared) trivial e⟩
  exact ⟨_, fd, hm, F.kp, fnG_of F sc_squared tk c_squared, binds_of F ⟨fun _ _ _ _ _ _ us ws hl hw => match us, hl, ws, hw with | [_], _, [], _ => rfl, trivial⟩⟩
theorem ok_lowest : FnIn P w K mg base 2 ⟨"lowest", ["numbers"], m_lowest⟩ [] := by
  obtain ⟨fd, hm, F⟩ := c.fn_ok X G 23 (d := d_lowest) rfl
  have tk : TabOk P w K mg base T_lowest k_lowest 1 := ⟨c.bs_ok X G, c.ms_ok X G, c.cs_ok X G, fun i fn e => AllAt.get (Q := FnIn P w K mg base 1) (l := T_lowest.fs) (kw := k_lowest) ⟨(ok_divisor_of X G c).up (by decide), trivial⟩ e⟩
  exact ⟨_, fd, hm, F.kp, fnG_of F sc_lowest tk c_lowest, binds_of F ⟨fun _ _ _ _ _ _ us ws hl hw => match us, hl, ws, hw with | [_], _, [], _ => rfl, trivial⟩⟩
theorem ok_ratio : FnIn P w K mg base 3 ⟨"ratio", ["top", "under"], m_ratio⟩ [] := by
  obtain ⟨fd, hm, F⟩ := c.fn_ok X G 24 (d := d_ratio) rfl
  have tk : TabOk P w K mg base T_ratio k_ratio 2 := ⟨c.bs_ok X G, c.ms_ok X G, c.cs_ok X G, fun i fn e => AllAt.get (Q := FnIn P w K mg base 2) (l := T_ratio.fs) (kw := k_ratio) ⟨(ok_lowest X G c).up (by decide), trivial⟩ e⟩
  exact ⟨_, fd, hm, F.kp, fnG_of F sc_ratio tk c_ratio, binds_of F ⟨fun _ _ _ _ _ _ us ws hl hw => match us, hl, ws, hw with | [_, _], _, [], _ => rfl, trivial⟩⟩
theorem ok_times : FnIn P w K mg base 4 ⟨"times", ["one", "two"], m_times⟩ [] := by
  obtain ⟨fd, hm, F⟩ := c.fn_ok X G 25 (d := d_times) rfl
  have tk : TabOk P w K mg base T_times k_times 3 := ⟨c.bs_ok X G, c.ms_ok X G, c.cs_ok X G, fun i fn e => AllAt.get (Q := FnIn P w K mg base 3) (l := T_times.fs) (kw := k_times) ⟨(ok_ratio X G c).up (by decide), trivial⟩ e⟩
  exact ⟨_, fd, hm, F.kp, fnG_of F sc_times tk c_times, binds_of F ⟨fun _ _ _ _ _ _ us ws hl hw => match us, hl, ws, hw with | [_, _], _, [], _ => rfl, trivial⟩⟩
theorem ok_is_gap_by : FnIn P w K mg base 5 ⟨"is_gap_by", ["value"], m_is_gap_by⟩ [] := by
  obtain ⟨fd, hm, F⟩ := c.fn_ok X G 26 (d := d_is_gap_by) rfl
  have tk : TabOk P w K mg base T_is_gap_by k_is_gap_by 4 := ⟨c.bs_ok X G, c.ms_ok X G, c.cs_ok X G, fun i fn e => AllAt.get (Q := FnIn P w K mg base 4) (l := T_is_gap_by.fs) (kw := k_is_gap_by) ⟨(ok_is_ratio X G c).up (by decide), (ok_is_from_nought X G c).up (by decide), (ok_is_below X G c).up (by decide), (ok_squared X G c).up (by decide), (ok_times X G c).up (by decide), trivial⟩ e⟩
  exact ⟨_, fd, hm, F.kp, fnG_of F sc_is_gap_by tk c_is_gap_by, binds_of F ⟨fun _ _ _ _ _ _ us ws hl hw => match us, hl, ws, hw with | [_], _, [], _ => rfl, trivial⟩⟩
theorem ok_is_gap : FnIn P w K mg base 6 ⟨"is_gap", ["value"], m_is_gap⟩ [(0, ["value"])] := by
  obtain ⟨fd, hm, F⟩ := c.fn_ok X G 27 (d := d_is_gap) rfl
  have tk : TabOk P w K mg base T_is_gap k_is_gap 5 := ⟨c.bs_ok X G, c.ms_ok X G, c.cs_ok X G, fun i fn e => AllAt.get (Q := FnIn P w K mg base 5) (l := T_is_gap.fs) (kw := k_is_gap) ⟨(ok_is_gap_by X G c).up (by decide), trivial⟩ e⟩
  exact ⟨_, fd, hm, F.kp, fnG_of F sc_is_gap tk c_is_gap, binds_of F ⟨fun _ _ _ _ _ _ us ws hl hw => match us, hl, ws, hw with | [_], _, [], _ => rfl, fun _ _ _ _ _ _ us ws hl hw => match us, hl, ws, hw with | [], _, [_], _ => rfl, trivial⟩⟩
theorem ok_is_kind_by : FnIn P w K mg base 3 ⟨"is_kind_by", ["value"], m_is_kind_by⟩ [] := by
  obtain ⟨fd, hm, F⟩ := c.fn_ok X G 28 (d := d_is_kind_by) rfl
  have tk : TabOk P w K mg base T_is_kind_by k_is_kind_by 2 := ⟨c.bs_ok X G, c.ms_ok X G, c.cs_ok X G, fun i fn e => AllAt.get (Q := FnIn P w K mg base 2) (l := T_is_kind_by.fs) (kw := k_is_kind_by) ⟨(ok_divisor_of X G c).up (by decide), (ok_are_wholes X G c).up (by decide), trivial⟩ e⟩
  exact ⟨_, fd, hm, F.kp, fnG_of F sc_is_kind_by tk c_is_kind_by, binds_of F ⟨fun _ _ _ _ _ _ us ws hl hw => match us, hl, ws, hw with | [_], _, [], _ => rfl, trivial⟩⟩
theorem ok_is_kind : FnIn P w K mg base 4 ⟨"is_kind", ["value"], m_is_kind⟩ [(0, ["value"])] := by
  obtain ⟨fd, hm, F⟩ := c.fn_ok X G 29 (d := d_is_kind) rfl
  have tk : TabOk P w K mg base T_is_kind k_is_kind 3 := ⟨c.bs_ok X G, c.ms_ok X G, c.cs_ok X G, fun i fn e => AllAt.get (Q := FnIn P w K mg base 3) (l := T_is_kind.fs) (kw := k_is_kind) ⟨(ok_is_kind_by X G c).up (by decide), trivial⟩ e⟩
  exact ⟨_, fd, hm, F.kp, fnG_of F sc_is_kind tk c_is_kind, binds_of F ⟨fun _ _ _ _ _ _ us ws hl hw => match us, hl, ws, hw with | [_], _, [], _ => rfl, fun _ _ _ _ _ _ us ws hl hw => match us, hl, ws, hw with | [], _, [_], _ => rfl, trivial⟩⟩
theorem ok__law_right : FnIn P w K mg base 7 ⟨"_law_right", ["_law_well_here"], m__law_right⟩ [] := by
  obtain ⟨fd, hm, F⟩ := c.fn_ok X G 30 (d := d__law_right) rfl
  have tk : TabOk P w K mg base T__law_right k__law_right 6 := ⟨c.bs_ok X G, c.ms_ok X G, c.cs_ok X G, fun i fn e => AllAt.get (Q := FnIn P w K mg base 6) (l := T__law_right.fs) (kw := k__law_right) ⟨(ok__law_kind X G c).up (by decide), (ok__law_over X G c).up (by decide), (ok__law_draw X G c).up (by decide), (ok__law_gap X G c).up (by decide), (ok__law_near_rim X G c).up (by decide), (ok__law_bent X G c).up (by decide), (ok__law_odd X G c).up (by decide), (ok__law_is_gap X G c).up (by decide), (ok__law_is_kind X G c).up (by decide), (ok_is_gap X G c).up (by decide), (ok_is_kind X G c).up (by decide), trivial⟩ e⟩
  exact ⟨_, fd, hm, F.kp, fnG_of F sc__law_right tk c__law_right, binds_of F ⟨fun _ _ _ _ _ _ us ws hl hw => match us, hl, ws, hw with | [_], _, [], _ => rfl, trivial⟩⟩
theorem ok__law_well : FnIn P w K mg base 1 ⟨"_law_well", ["_law_script", "_law_turn"], m__law_well⟩ [] := by
  obtain ⟨fd, hm, F⟩ := c.fn_ok X G 31 (d := d__law_well) rfl
  have tk : TabOk P w K mg base T__law_well k__law_well 0 := ⟨c.bs_ok X G, c.ms_ok X G, c.cs_ok X G, fun i fn e => AllAt.get (Q := FnIn P w K mg base 0) (l := T__law_well.fs) (kw := k__law_well) trivial e⟩
  exact ⟨_, fd, hm, F.kp, fnG_of F sc__law_well tk c__law_well, binds_of F ⟨fun _ _ _ _ _ _ us ws hl hw => match us, hl, ws, hw with | [_, _], _, [], _ => rfl, trivial⟩⟩
theorem ok_law : FnIn P w K mg base 8 ⟨"law", ["_law_script"], m_law⟩ [] := by
  obtain ⟨fd, hm, F⟩ := c.fn_ok X G 32 (d := d_law) rfl
  have tk : TabOk P w K mg base T_law k_law 7 := ⟨c.bs_ok X G, c.ms_ok X G, c.cs_ok X G, fun i fn e => AllAt.get (Q := FnIn P w K mg base 7) (l := T_law.fs) (kw := k_law) ⟨(ok__law_right X G c).up (by decide), (ok__law_well X G c).up (by decide), trivial⟩ e⟩
  exact ⟨_, fd, hm, F.kp, fnG_of F sc_law tk c_law, binds_of F ⟨fun _ _ _ _ _ _ us ws hl hw => match us, hl, ws, hw with | [_], _, [], _ => rfl, trivial⟩⟩
end
/-! ### the head -/
abbrev R : PySem.W.OpenRow := PySem.W.OpenLaw.row PySem.Challenge.rw_bringnear_k02_kinds_and_gaps_of_anything
abbrev hk : PySem.W.Hook := hookN 5 cs bs ms fns
def ob (s : PySem.W.SharedT) : AlN := obsNG 5 cs bs ms fns (HeadRun.getT s)
theorem ob_eq (s : PySem.W.SharedT) : ob s = hk.obs s.abs := obsNG_eq (HeadRun.getT_eq s)
def loose : List Str := (["is_whole", "are_wholes", "divisor_of", "lowest", "ZERO", "is_ratio", "is_from_nought", "ratio", "times", "squared", "is_below", "is_kind_by", "is_gap_by", "is_kind", "is_gap", "_law_well"] : List Str) ++ (["_law_draw", "_law_pick", "_law_ratio", "_law_lowest", "_law_kind", "_law_gap", "_law_over", "_law_is_whole", "_law_divisor", "_law_is_fraction", "_law_is_kind", "_law_is_gap", "_law_odd", "_law_bent", "_law_stretched", "_law_near_rim"] : List Str) ++ (["_law_right"] : List Str)
def vw : List Nat := [0, 39]
theorem run (w : World) : HeadRun.RunEqI R (PySem.W.view R.prog vw) hk ob 4000 loose w := by
  unfold HeadRun.RunEqI
  kernel_rfl
theorem facts {P : Program} {w : World} {K : PySem.W.Frag} {h : Heap} {mg : Str → Option Value} {f : Addr} (X : K.In h) (G : h.Ns mainGlobals mg) (hfa : mg ("law" : Str) = some (.ref f)) (c : SaysN cs bs ms fns K) :
    ∃ fd : FuncData, (∀ (s : Shared) (v : Value), BindsTo s fd ⟨[v], []⟩ [("_law_script", v)]) ∧ ∀ base : Heap, K.In base → base.Ns mainGlobals mg → FnG P w K mg base 8 f fd ["_law_script"] (spM K mg 1 m_law) := by
  obtain ⟨fd, hm, F⟩ := c.fn_ok X G 32 (d := d_law) rfl
  have e := hfa.symm.trans hm
  cases e
  refine ⟨fd, bindsL F fun _ _ _ _ _ _ u => rfl, fun base _ _ => ?_⟩
  have tk : TabOk P w K mg base T_law k_law 7 := ⟨c.bs_ok X G, c.ms_ok X G, c.cs_ok X G, fun i fn e => AllAt.get (Q := FnIn P w K mg base 7) (l := T_law.fs) (kw := k_law) ⟨(ok__law_right X G c).up (by decide), (ok__law_well X G c).up (by decide), trivial⟩ e⟩
  exact fnG_of F sc_law tk c_law
end K02
namespace K02
open PySem L2 Bn
/-! ### the well -/
def Well (k : Nat) (l : List Bn.D) : Prop := ∃ a s c : Int, l = [.int a, .int s, .int c] ∧ 0 ≤ a ∧ 0 ≤ s ∧ s < 2147483629 ∧ 0 ≤ c ∧ c + k ≤ 1000000
theorem Well.less {k k' : Nat} {l : List Bn.D} (h : Well k l) (hk : k' ≤ k) : Well k' l := by
  obtain ⟨a, s, c, e, h1, h2, h3, h4, h5⟩ := h
  exact ⟨a, s, c, e, h1, h2, h3, h4, by omega⟩
theorem fmod_rng (a b : Int) (h : 0 < b) : 0 ≤ a.fmod b ∧ a.fmod b < b := ⟨Int.fmod_nonneg_of_pos a h, Int.fmod_lt_of_pos a h⟩
theorem draw_ok {k : Nat} {l : List Bn.D} {m : Int} (h : Well (k + 1) l) (hm : 0 < m) (hs : sm 8000 m) :
    ∃ l' r, Well k l' ∧ 0 ≤ r ∧ r < m ∧ m__law_draw [.c 0, .d (.int m)] [.lst (l.map A.d)] = .ok (.d (.int r)) [.lst (l'.map A.d)] := by
  obtain ⟨a, s, c, rfl, h1, h2, h3, h4, h5⟩ := h
  have hd : divOk a m = true := divOk_sm hs (by omega)
  by_cases ha : 0 < a
  · refine ⟨[.int (a / m), .int s, .int c], a % m, ⟨_, _, _, rfl, Int.ediv_nonneg h1 (by omega), h2, h3, h4, by omega⟩, Int.emod_nonneg _ (by omega), Int.emod_lt_of_pos _ hm, ?_⟩
    simp [m__law_draw, defR, start0, b__law_draw, Bn.runs, Bn.run, R.fl, den, denEs, R.bind, ixD, items, atI, ixN, cmpD, cmpO, cmpI, okD, ifF, ha, biD, two, divmodD, hm, hd, asgT, asgTs]
  · let c1 := c + 1
    let s1 := (s + 40487 * c1).fmod 2147483629
    let s2 := (s1 * (s1.fmod 9973 + 50021) + 31 * c1).fmod 2147483629
    have b1 := fmod_rng (s + 40487 * c1) 2147483629 (by decide)
    have b2 := fmod_rng (s1 * (s1.fmod 9973 + 50021) + 31 * c1) 2147483629 (by decide)
    have b3 := fmod_rng s1 9973 (by decide)
    have b4 := fmod_rng (s2.fdiv 277) m hm
    have k1 : mulOk 40487 (c + 1) = true := mulOk_sm (sm40 (by omega)) (sm40 (by omega)) (by decide)
    have k2 : mulOk s1 (s1.fmod 9973 + 50021) = true := mulOk_sm (sm40 (by omega)) (sm40 (by omega)) (by decide)
    have k3 : mulOk 31 (c + 1) = true := mulOk_sm (sm40 (by omega)) (sm40 (by omega)) (by decide)
    have k4 : divOk s2 277 = true := divOk_sm (sm_mono (sm40 (i := 277) (by decide)) (by decide)) (by decide)
    have hm0 : m ≠ 0 := by omega
    refine ⟨[.int a, .int s2, .int c1], (s2.fdiv 277).fmod m, ⟨_, _, _, rfl, h1, b2.1, b2.2, by omega, by omega⟩, b4.1, b4.2, ?_⟩
    simp [m__law_draw, defR, start0, b__law_draw, Bn.runs, Bn.run, R.fl, den, denEs, R.bind, ixD, items, atI, ixN, cmpD, cmpO, cmpI, okD, ifF, ha, biD, one, intD, binD, binI, k1, k2, k3, k4, hm0, asgT, asgTs, s1, s2, c1]

theorem runs_cons {T : Tab} {st : Bn.S} {r : Ss} {env e : Bn.Env} {S S1 : List Cell} (h : Bn.run T st env S = .nx e S1) : Bn.runs T (.cons st r) env S = Bn.runs T r e S1 := by
  simp only [Bn.runs, h]
theorem draw_call {k : Nat} {l : List Bn.D} {m : Int} (h : Well (k + 1) l) (hm : 0 < m) (hs : sm 8000 m) :
    ∃ l' r, Well k l' ∧ 0 ≤ r ∧ r < m ∧ callD m__law_draw [.c 0, .d (.int m)] [.lst (l.map A.d)] = .ok (.d (.int r)) [.lst (l'.map A.d)] := by
  obtain ⟨l', r, h1, h2, h3, e⟩ := draw_ok h hm hs
  exact ⟨l', r, h1, h2, h3, callD_cell (n := 0) (as := [.int m]) (S := [.lst (l.map A.d)]) rfl e⟩
theorem ix_lst {ds : List Bn.D} {r : Int} {S : List Cell} (h0 : 0 ≤ r) (h1 : r < ds.length) : ∃ x, x ∈ ds ∧ ixD (.d (.lst ds)) (.d (.int r)) S = .ok (.d x) S := by
  have hn : r.toNat < ds.length := by omega
  refine ⟨ds[r.toNat], List.getElem_mem hn, ?_⟩
  simp [ixD, items, atI, ixN, h0, h1, List.getElem?_eq_getElem hn]
theorem pick_ok {k : Nat} {l : List Bn.D} {ds : List Bn.D} (h : Well (k + 1) l) (h0 : 0 < ds.length) (h1 : ds.length ≤ 1000) :
    ∃ l' x, Well k l' ∧ x ∈ ds ∧ callD m__law_pick [.c 0, .d (.lst ds)] [.lst (l.map A.d)] = .ok (.d x) [.lst (l'.map A.d)] := by
  obtain ⟨l', r, w, r0, r1, e⟩ := draw_call (m := (ds.length : Int)) h (by omega) (sm_mono (sm40 (by omega)) (by decide))
  obtain ⟨x, hx, ex⟩ := ix_lst (S := [.lst (l'.map A.d)]) r0 r1
  refine ⟨l', x, w, hx, callD_cell (n := 0) (as := [.lst ds]) (S := [.lst (l.map A.d)]) rfl ?_⟩
  simp [m__law_pick, defR, start0, b__law_pick, Bn.runs, Bn.run, R.fl, den, denEs, R.bind, biD, one, lenD, items, callK, T__law_pick, e, ex]
theorem natAbs_fdiv {a g : Int} (h : 0 ≤ g) : (a.fdiv g).natAbs ≤ a.natAbs := by
  rw [Int.fdiv_eq_ediv_of_nonneg _ h]
  exact Int.natAbs_ediv_le_natAbs a g
theorem abs_eq (a : Int) : (if a < 0 then -a else a) = (a.natAbs : Int) := by
  split <;> omega
/-- a fraction by the law -/
theorem ratio_ok {n m : Int} (hm : 0 < m) (sm' : sm 8000 m) (S : List Cell) : ∃ a b, a.natAbs ≤ n.natAbs ∧ b.natAbs ≤ m.natAbs ∧ m__law_ratio [.d (.int n), .d (.int m)] S = .ok (.d (.tup [.int a, .int b])) S := by
  let g : Nat := Nat.gcd n.natAbs m.natAbs
  have hg : 0 < g := Nat.gcd_pos_of_pos_right _ (by omega)
  have gl : g ≤ m.natAbs := Nat.gcd_le_right _ (by omega)
  have sg : sm 8000 (g : Int) := by
    refine sm_le sm' ?_
    simpa using gl
  have d1 : divOk n (g : Int) = true := divOk_sm sg (by omega)
  have d2 : divOk m (g : Int) = true := divOk_sm sg (by omega)
  refine ⟨n.fdiv g, m.fdiv g, natAbs_fdiv (by omega), natAbs_fdiv (by omega), ?_⟩
  have st1 : Bn.run T__law_ratio (.par 2 3 (.bi .abs (.cons (.var 0) .nil)) (.bi .abs (.cons (.var 1) .nil))) [some (.d (.int n)), some (.d (.int m)), none, none] S = .nx [some (.d (.int n)), some (.d (.int m)), some (.d (.int n.natAbs)), some (.d (.int m.natAbs))] S := by
    simp [Bn.run, den, denEs, R.bind, R.fl, biD, one, absD, abs_eq]
  have st2 := gcd_run T__law_ratio (i := 2) (j := 3) (by decide) S n.natAbs m.natAbs [some (.d (.int n)), some (.d (.int m)), some (.d (.int n.natAbs)), some (.d (.int m.natAbs))] (by simp) (by simp) rfl rfl
  have e : start0 4 [A.d (.int n), .d (.int m)] = [some (.d (.int n)), some (.d (.int m)), none, none] := rfl
  unfold m__law_ratio defR b__law_ratio
  rw [e, runs_cons st1, runs_cons st2]
  have hg' : ((g : Nat) : Int) = ((n.natAbs.gcd m.natAbs : Nat) : Int) := rfl
  simp [Bn.runs, Bn.run, R.fl, den, denEs, R.bind, cmpD, cmpO, cmpI, okD, hm, ifK, binD, binI, ← hg', d1, d2, tupK, toDs, LIM]
/-- the law's own greatest divisor -/
theorem divisor_ok (a b : Int) (S : List Cell) : m__law_divisor [.d (.int a), .d (.int b)] S = .ok (.d (.int ((Nat.gcd a.natAbs b.natAbs : Nat) : Int))) S := by
  have st1 : Bn.run T__law_divisor (.par 0 1 (.bi .abs (.cons (.var 0) .nil)) (.bi .abs (.cons (.var 1) .nil))) [some (.d (.int a)), some (.d (.int b))] S = .nx [some (.d (.int a.natAbs)), some (.d (.int b.natAbs))] S := by
    simp [Bn.run, den, denEs, R.bind, R.fl, biD, one, absD, abs_eq]
  have st2 := gcd_run T__law_divisor (i := 0) (j := 1) (by decide) S a.natAbs b.natAbs [some (.d (.int a.natAbs)), some (.d (.int b.natAbs))] (by simp) (by simp) rfl rfl
  have e : start0 2 [A.d (.int a), .d (.int b)] = [some (.d (.int a)), some (.d (.int b))] := rfl
  unfold m__law_divisor defR b__law_divisor
  rw [e, runs_cons st1, runs_cons st2]
  simp [Bn.runs, Bn.run, R.fl, den]
/-- three numbers without a common divisor -/
theorem lowest_ok {a b c : Int} (h : ¬(a = 0 ∧ b = 0 ∧ c = 0)) (sa : sm 100 a) (sb : sm 100 b) (sc : sm 100 c) (S : List Cell) :
    ∃ x y z, sm 100 x ∧ sm 100 y ∧ sm 100 z ∧ m__law_lowest [.d (.int a), .d (.int b), .d (.int c)] S = .ok (.d (.tup [.int x, .int y, .int z])) S := by
  let g1 : Nat := Nat.gcd a.natAbs b.natAbs
  let g : Nat := Nat.gcd g1 c.natAbs
  have hg : g ≠ 0 := fun z => by
    have z1 := Nat.eq_zero_of_gcd_eq_zero_left z
    have z2 := Nat.eq_zero_of_gcd_eq_zero_right z
    have z3 := Nat.eq_zero_of_gcd_eq_zero_left z1
    have z4 := Nat.eq_zero_of_gcd_eq_zero_right z1
    exact h ⟨by omega, by omega, by omega⟩
  have sg : sm 8000 (g : Int) := by
    by_cases hc : c = 0
    · have e : g = g1 := by
        show Nat.gcd g1 c.natAbs = g1
        rw [hc]
        exact Nat.gcd_zero_right g1
      by_cases hb : b = 0
      · have e2 : g1 = a.natAbs := by
          show Nat.gcd a.natAbs b.natAbs = _
          rw [hb]
          exact Nat.gcd_zero_right _
        refine sm_mono (sm_le sa ?_) (by decide : 100 ≤ 8000)
        rw [e, e2]
        simp
      · refine sm_mono (sm_le sb ?_) (by decide : 100 ≤ 8000)
        rw [e]
        simpa using Nat.gcd_le_right a.natAbs (by omega : 0 < b.natAbs)
    · refine sm_mono (sm_le sc ?_) (by decide : 100 ≤ 8000)
      simpa using Nat.gcd_le_right g1 (by omega : 0 < c.natAbs)
  have d1 : divOk a (g : Int) = true := divOk_sm sg (by omega)
  have d2 : divOk b (g : Int) = true := divOk_sm sg (by omega)
  have d3 : divOk c (g : Int) = true := divOk_sm sg (by omega)
  refine ⟨a.fdiv g, b.fdiv g, c.fdiv g, sm_le sa (natAbs_fdiv (by omega)), sm_le sb (natAbs_fdiv (by omega)), sm_le sc (natAbs_fdiv (by omega)), ?_⟩
  have turn : ∀ (u : Nat) (v : Int) (x4 x5 : Option A), Bn.runs T__law_lowest (.cons (.set 5 (.bi .abs (.cons (.var 4) .nil))) (.cons (.while (gcdTest 5) (gcdBody 3 5)) .nil)) [some (.d (.int a)), some (.d (.int b)), some (.d (.int c)), some (.d (.int u)), some (.d (.int v)), x5] S =
      .nx [some (.d (.int a)), some (.d (.int b)), some (.d (.int c)), some (.d (.int (Nat.gcd u v.natAbs : Nat))), some (.d (.int v)), some (.d (.int 0))] S := fun u v x4 x5 => by
    have st1 : Bn.run T__law_lowest (.set 5 (.bi .abs (.cons (.var 4) .nil))) [some (.d (.int a)), some (.d (.int b)), some (.d (.int c)), some (.d (.int u)), some (.d (.int v)), x5] S = .nx [some (.d (.int a)), some (.d (.int b)), some (.d (.int c)), some (.d (.int u)), some (.d (.int v)), some (.d (.int v.natAbs))] S := by
      simp [Bn.run, den, denEs, R.bind, R.fl, biD, one, absD, abs_eq]
    have st2 := gcd_run T__law_lowest (i := 3) (j := 5) (by decide) S u v.natAbs [some (.d (.int a)), some (.d (.int b)), some (.d (.int c)), some (.d (.int u)), some (.d (.int v)), some (.d (.int v.natAbs))] (by simp) (by simp) rfl rfl
    rw [runs_cons st1, runs_cons st2]
    simp [Bn.runs]
  have loop : Bn.run T__law_lowest (.forr (.nm 4) (.seq true (.tup (.cons (.var 1) (.cons (.var 2) .nil)))) (.cons (.set 5 (.bi .abs (.cons (.var 4) .nil))) (.cons (.while (gcdTest 5) (gcdBody 3 5)) .nil)))
      [some (.d (.int a)), some (.d (.int b)), some (.d (.int c)), some (.d (.int a.natAbs)), none, none] S = .nx [some (.d (.int a)), some (.d (.int b)), some (.d (.int c)), some (.d (.int g)), some (.d (.int c)), some (.d (.int 0))] S := by
    have it : denI T__law_lowest (.seq true (.tup (.cons (.var 1) (.cons (.var 2) .nil)))) [some (.d (.int a)), some (.d (.int b)), some (.d (.int c)), some (.d (.int a.natAbs)), none, none] S = .ok [.d (.int b), .d (.int c)] S := by
      simp [denI, den, denEs, R.bind, tupK, toDs, seqK, seqL, optR, LIM]
    simp only [Bn.run, it, R.fl, forL, bindT, List.set_cons_succ, List.set_cons_zero, turn a.natAbs b none none, turn g1 c none (some (.d (.int 0)))]
    have t2 := turn g1 c none (some (.d (.int 0)))
    simp only [g1] at t2
    rw [t2]
  have st0 : Bn.run T__law_lowest (.set 3 (.bi .abs (.cons (.var 0) .nil))) [some (.d (.int a)), some (.d (.int b)), some (.d (.int c)), none, none, none] S = .nx [some (.d (.int a)), some (.d (.int b)), some (.d (.int c)), some (.d (.int a.natAbs)), none, none] S := by
    simp [Bn.run, den, denEs, R.bind, R.fl, biD, one, absD, abs_eq]
  have e : start0 6 [A.d (.int a), .d (.int b), .d (.int c)] = [some (.d (.int a)), some (.d (.int b)), some (.d (.int c)), none, none, none] := rfl
  unfold m__law_lowest defR b__law_lowest
  rw [e, runs_cons st0]
  refine Eq.trans (b := match Bn.runs T__law_lowest _ _ S with
    | .nx _ S => .ok (.d .non) S
    | .rt a S => .ok a S
    | .ex c x S => .ex c x S
    | _ => .no) rfl ?_
  rw [runs_cons loop]
  simp [Bn.runs, Bn.run, R.fl, den, denEs, R.bind, binD, binI, okD, d1, d2, d3, tupK, toDs, LIM]
end K02
namespace K02
open PySem L2 Bn
theorem sm1 {i : Int} (h : i.natAbs < 1099511627776) : sm 100 i := sm_mono (sm40 h) (by decide)
theorem d1 {i : Int} (h : i.natAbs < 1099511627776) : sm 8000 i := sm_mono (sm40 h) (by decide)
theorem mul1 {i j : Int} (h : i.natAbs < 1099511627776) (k : j.natAbs < 1099511627776) : mulOk i j = true := mulOk_sm (sm40 h) (sm40 k) (by decide)
theorem kind_ok {k : Nat} {l : List Bn.D} (h : Well (k + 4) l) : ∃ l' x y z, Well k l' ∧ sm 100 x ∧ sm 100 y ∧ sm 100 z ∧ callD m__law_kind [.c 0] [.lst (l.map A.d)] = .ok (.d (.tup [.int x, .int y, .int z])) [.lst (l'.map A.d)] := by
  obtain ⟨l1, r1, w1, a1, b1, e1⟩ := draw_call (m := 8) h (by decide) (d1 (by decide))
  obtain ⟨top, etop⟩ : ∃ u : Int, u = if r1 < 4 then 4 else if r1 < 7 then 11 else 1000000 := ⟨_, rfl⟩
  have ht : 0 < top ∧ top ≤ 1000000 := by
    rw [etop]
    split
    · decide
    · split <;> decide
  obtain ⟨l2, r2, w2, a2, b2, e2⟩ := draw_call (m := 2 * top + 1) w1 (by omega) (d1 (by omega))
  obtain ⟨l3, r3, w3, a3, b3, e3⟩ := draw_call (m := 2 * top + 1) w2 (by omega) (d1 (by omega))
  obtain ⟨l4, r4, w4, a4, b4, e4⟩ := draw_call (m := 2 * top + 1) w3 (by omega) (d1 (by omega))
  have m1 : mulOk 2 top = true := mul1 (by decide) (by omega)
  have m2 : mulOk (r3 - top) (r3 - top) = true := mul1 (by omega) (by omega)
  have m3 : mulOk (r2 - top) (r4 - top) = true := mul1 (by omega) (by omega)
  obtain ⟨t, et⟩ : ∃ u : Int, u = if (r3 - top) * (r3 - top) ≤ (r2 - top) * (r4 - top) then 0 - (r4 - top) else r4 - top := ⟨_, rfl⟩
  have st : t.natAbs < 1099511627776 := by
    rw [et]
    split <;> omega
  have m4 : mulOk (r2 - top) t = true := mul1 (by omega) st
  obtain ⟨s, es⟩ : ∃ u : Int, u = if (r3 - top) * (r3 - top) ≤ (r2 - top) * t then 1 else r3 - top := ⟨_, rfl⟩
  have nz : ¬ (r2 - top = 0 ∧ s = 0 ∧ t = 0) := fun ⟨z1, z2, z3⟩ => by
    rw [es] at z2
    split at z2
    · omega
    · rename_i hn
      rw [z2, z3] at hn
      simp at hn
  have ss : s.natAbs < 1099511627776 := by
    rw [es]
    split <;> omega
  obtain ⟨x, y, z, sx, sy, sz, e5⟩ := lowest_ok nz (sm1 (by omega)) (sm1 ss) (sm1 st) []
  have e6 := callD_data (mir := m__law_lowest) (as := [.int (r2 - top), .int s, .int t]) (S := [.lst (l4.map A.d)]) e5
  refine ⟨l4, x, y, z, w4, sx, sy, sz, callD_cell (n := 0) (as := []) (S := [.lst (l.map A.d)]) rfl ?_⟩
  simp only [List.map_cons, List.map_nil] at e6 ⊢
  have c1 : den T__law_kind (.ite (.cmp .Lt (.var 1) (.k (.int 4))) (.k (.int 4)) (.ite (.cmp .Lt (.var 1) (.k (.int 7))) (.k (.int 11)) (.k (.int 1000000)))) [some (.c 0), some (.d (.int r1)), none, none, none, none] [.lst (l1.map A.d)] = .ok (.d (.int top)) [.lst (l1.map A.d)] := by
    rw [etop]
    by_cases h4 : r1 < 4
    · simp [den, R.bind, cmpD, cmpO, cmpI, okD, ifK, h4]
    · by_cases h7 : r1 < 7
      · simp [den, R.bind, cmpD, cmpO, cmpI, okD, ifK, h4, h7]
      · simp [den, R.bind, cmpD, cmpO, cmpI, okD, ifK, h4, h7]
  have q1 : Bn.run T__law_kind (.ite (.cmp .LtE (.bin .Mult (.var 4) (.var 4)) (.bin .Mult (.var 3) (.var 5))) (.cons (.set 5 (.bin .Sub (.k (.int 0)) (.var 5))) .nil) .nil) [some (.c 0), some (.d (.int r1)), some (.d (.int top)), some (.d (.int (r2 - top))), some (.d (.int (r3 - top))), some (.d (.int (r4 - top)))] [.lst (l4.map A.d)] =
      .nx [some (.c 0), some (.d (.int r1)), some (.d (.int top)), some (.d (.int (r2 - top))), some (.d (.int (r3 - top))), some (.d (.int t))] [.lst (l4.map A.d)] := by
    by_cases hc : (r3 - top) * (r3 - top) ≤ (r2 - top) * (r4 - top)
    · simp [Bn.run, Bn.runs, den, R.bind, R.fl, cmpD, cmpO, cmpI, okD, ifF, binD, binI, m2, m3, hc, et]
    · simp [Bn.run, Bn.runs, den, R.bind, R.fl, cmpD, cmpO, cmpI, okD, ifF, binD, binI, m2, m3, hc, et]
  have q2 : Bn.run T__law_kind (.ite (.cmp .LtE (.bin .Mult (.var 4) (.var 4)) (.bin .Mult (.var 3) (.var 5))) (.cons (.set 4 (.k (.int 1))) .nil) .nil) [some (.c 0), some (.d (.int r1)), some (.d (.int top)), some (.d (.int (r2 - top))), some (.d (.int (r3 - top))), some (.d (.int t))] [.lst (l4.map A.d)] =
      .nx [some (.c 0), some (.d (.int r1)), some (.d (.int top)), some (.d (.int (r2 - top))), some (.d (.int s)), some (.d (.int t))] [.lst (l4.map A.d)] := by
    by_cases hc : (r3 - top) * (r3 - top) ≤ (r2 - top) * t
    · simp [Bn.run, Bn.runs, den, R.bind, R.fl, cmpD, cmpO, cmpI, okD, ifF, binD, binI, m2, m4, hc, es]
    · simp [Bn.run, Bn.runs, den, R.bind, R.fl, cmpD, cmpO, cmpI, okD, ifF, binD, binI, m2, m4, hc, es]
  have e : start0 6 [A.c 0] = [some (.c 0), none, none, none, none, none] := rfl
  have p1 : Bn.run T__law_kind (.set 1 (.call 0 (.cons (.var 0) (.cons (.k (.int 8)) .nil)))) [some (.c 0), none, none, none, none, none] [.lst (l.map A.d)] = .nx [some (.c 0), some (.d (.int r1)), none, none, none, none] [.lst (l1.map A.d)] := by
    simp [Bn.run, den, denEs, R.bind, R.fl, callK, T__law_kind, e1]
  have p2 : Bn.run T__law_kind (.set 2 (.ite (.cmp .Lt (.var 1) (.k (.int 4))) (.k (.int 4)) (.ite (.cmp .Lt (.var 1) (.k (.int 7))) (.k (.int 11)) (.k (.int 1000000))))) [some (.c 0), some (.d (.int r1)), none, none, none, none] [.lst (l1.map A.d)] = .nx [some (.c 0), some (.d (.int r1)), some (.d (.int top)), none, none, none] [.lst (l1.map A.d)] := by
    simp only [Bn.run, c1, R.fl, List.set_cons_succ, List.set_cons_zero]
  have p3 : ∀ (i : Nat) (x3 x4 x5 : Option A) (l l' : List Bn.D) (r : Int), callD m__law_draw [.c 0, .d (.int (2 * top + 1))] [.lst (l.map A.d)] = .ok (.d (.int r)) [.lst (l'.map A.d)] → Bn.run T__law_kind (.set i (.bin .Sub (.call 0 (.cons (.var 0) (.cons (.bin .Add (.bin .Mult (.k (.int 2)) (.var 2)) (.k (.int 1))) .nil))) (.var 2))) [some (.c 0), some (.d (.int r1)), some (.d (.int top)), x3, x4, x5] [.lst (l.map A.d)] =
      .nx ([some (.c 0), some (.d (.int r1)), some (.d (.int top)), x3, x4, x5].set i (some (.d (.int (r - top))))) [.lst (l'.map A.d)] := fun i x3 x4 x5 l l' r q => by
    simp [Bn.run, den, denEs, R.bind, R.fl, callK, T__law_kind, binD, binI, okD, m1, q]
  have z3 := p3 3 none none none _ _ _ e2
  have z4 := p3 4 (some (.d (.int (r2 - top)))) none none _ _ _ e3
  have z5 := p3 5 (some (.d (.int (r2 - top)))) (some (.d (.int (r3 - top)))) none _ _ _ e4
  simp only [List.set_cons_succ, List.set_cons_zero] at z3 z4 z5
  unfold m__law_kind defR b__law_kind
  rw [e, runs_cons p1, runs_cons p2, runs_cons z3, runs_cons z4, runs_cons z5, runs_cons q1, runs_cons q2]
  simp [Bn.runs, Bn.run, R.fl, den, denEs, R.bind, callK, T__law_kind, e6]
end K02
namespace K02
open PySem L2 Bn
mutual
/-- the law's values: small numbers, words, None, tuples, lists, empty tables -/
def nc : Bn.D → Prop
  | .int i => sm 200 i
  | .tup l => l.length ≤ 20 ∧ ncAll l
  | .lst l => l.length ≤ 20 ∧ ncAll l
  | .dct l => l = []
  | .non => True
  | .bl _ => True
  | .str _ => True
  | .scr _ => False
  | .obj _ _ => False
def ncAll : List Bn.D → Prop
  | [] => True
  | x :: r => nc x ∧ ncAll r
end
theorem sm2 {i : Int} (h : sm 100 i) : sm 200 i := sm_mono h (by decide)
theorem gap_ok {k : Nat} {l : List Bn.D} (h : Well (k + 3) l) : ∃ l' x y z, Well k l' ∧ x.natAbs < 1000000 ∧ y.natAbs < 1000000 ∧ z.natAbs < 1000000 ∧ callD m__law_gap [.c 0] [.lst (l.map A.d)] = .ok (.d (.tup [.int x, .int y, .int z])) [.lst (l'.map A.d)] := by
  obtain ⟨l1, r1, w1, a1, b1, e1⟩ := draw_call (m := 7) h (by decide) (d1 (by decide))
  by_cases hz : r1 = 0
  · subst hz
    obtain ⟨l2, r2, w2, a2, b2, e2⟩ := draw_call (m := 5) w1 (by decide) (d1 (by decide))
    refine ⟨l2, 0, 0, 1 + r2, w2.less (by omega), by decide, by decide, by omega, callD_cell (n := 0) (as := []) (S := [.lst (l.map A.d)]) rfl ?_⟩
    simp [m__law_gap, defR, start0, b__law_gap, Bn.runs, Bn.run, R.fl, den, denEs, R.bind, callK, T__law_gap, e1, cmpD_eq_int, ifF, e2, binD, binI, okD, tupK, toDs, LIM]
  · obtain ⟨l2, r2, w2, a2, b2, e2⟩ := draw_call (m := 31) w1 (by decide) (d1 (by decide))
    obtain ⟨l3, r3, w3, a3, b3, e3⟩ := draw_call (m := 90) w2 (by decide) (d1 (by decide))
    have m1 : mulOk r1 r1 = true := mul1 (by omega) (by omega)
    have m2 : mulOk r1 (r2 - 15) = true := mul1 (by omega) (by omega)
    have m3 : mulOk (r2 - 15) (r2 - 15) = true := mul1 (by omega) (by omega)
    obtain ⟨t, et⟩ : ∃ u : Int, u = if r3 < 60 then r3 else 0 := ⟨_, rfl⟩
    have bt : 0 ≤ t ∧ t < 60 := by
      rw [et]
      split <;> omega
    have n1 : (r1 * r1).natAbs < 1000000 := by
      have := Nat.mul_le_mul (show r1.natAbs ≤ 7 by omega) (show r1.natAbs ≤ 7 by omega)
      rw [Int.natAbs_mul]
      omega
    have n2 : (r1 * (r2 - 15)).natAbs < 1000000 := by
      have := Nat.mul_le_mul (show r1.natAbs ≤ 7 by omega) (show (r2 - 15).natAbs ≤ 16 by omega)
      rw [Int.natAbs_mul]
      omega
    have n3 : ((r2 - 15) * (r2 - 15) + t).natAbs < 1000000 := by
      have q := Nat.mul_le_mul (show (r2 - 15).natAbs ≤ 16 by omega) (show (r2 - 15).natAbs ≤ 16 by omega)
      have q2 := Int.natAbs_add_le ((r2 - 15) * (r2 - 15)) t
      rw [Int.natAbs_mul] at q2
      omega
    refine ⟨l3, r1 * r1, r1 * (r2 - 15), (r2 - 15) * (r2 - 15) + t, w3, n1, n2, n3, callD_cell (n := 0) (as := []) (S := [.lst (l.map A.d)]) rfl ?_⟩
    have hz' : decide (r1 = 0) = false := decide_eq_false hz
    have c1 : ifK (A.d (.bl (decide (r3 < 60)))) (R.ok (A.d (.int r3)) [Cell.lst (l3.map A.d)]) (R.ok (A.d (.int 0)) [Cell.lst (l3.map A.d)]) = .ok (.d (.int t)) [.lst (l3.map A.d)] := by
      rw [et]
      by_cases h6 : r3 < 60
      · simp [ifK, h6]
      · simp [ifK, h6]
    simp [m__law_gap, defR, start0, b__law_gap, Bn.runs, Bn.run, R.fl, den, denEs, R.bind, callK, T__law_gap, e1, cmpD_eq_int, hz, ifF, e2, e3, binD, binI, okD, tupK, toDs, LIM, m1, m2, m3, cmp_lt, c1]
/-- over a number -/
theorem over_ok {x y z m : Int} (hm : 0 < m) (hx : x.natAbs < 1000000) (hy : y.natAbs < 1000000) (hz : z.natAbs < 1000000) (hm2 : m < 1000000) (S : List Cell) :
    ∃ a b c d e f, sm 100 a ∧ sm 100 b ∧ sm 100 c ∧ sm 100 d ∧ sm 100 e ∧ sm 100 f ∧ callD m__law_over [.d (.tup [.int x, .int y, .int z]), .d (.int m)] S = .ok (.d (.tup [.tup [.int a, .int b], .tup [.int c, .int d], .tup [.int e, .int f]])) S := by
  obtain ⟨a, b, h1, h2, e1⟩ := ratio_ok (n := x) hm (d1 (by omega)) []
  obtain ⟨c, d, h3, h4, e2⟩ := ratio_ok (n := y) hm (d1 (by omega)) []
  obtain ⟨e, f, h5, h6, e3⟩ := ratio_ok (n := z) hm (d1 (by omega)) []
  refine ⟨a, b, c, d, e, f, sm1 (by omega), sm1 (by omega), sm1 (by omega), sm1 (by omega), sm1 (by omega), sm1 (by omega), callD_data (as := [.tup [.int x, .int y, .int z], .int m]) (T := []) ?_⟩
  have q1 := callD_data (mir := m__law_ratio) (as := [.int x, .int m]) (S := []) e1
  have q2 := callD_data (mir := m__law_ratio) (as := [.int y, .int m]) (S := []) e2
  have q3 := callD_data (mir := m__law_ratio) (as := [.int z, .int m]) (S := []) e3
  simp only [List.map_cons, List.map_nil] at q1 q2 q3
  simp [m__law_over, defR, start0, b__law_over, Bn.runs, Bn.run, R.fl, den, denEs, R.bind, callK, T__law_over, ixD, items, atI, ixN, q1, q2, q3, tupK, toDs, LIM]
theorem near_ok {k : Nat} {l : List Bn.D} (h : Well (k + 3) l) : ∃ l' a b c d e f, Well k l' ∧ sm 100 a ∧ sm 100 b ∧ sm 100 c ∧ sm 100 d ∧ sm 100 e ∧ sm 100 f ∧
    callD m__law_near_rim [.c 0] [.lst (l.map A.d)] = .ok (.d (.tup [.tup [.int a, .int b], .tup [.int c, .int d], .tup [.int e, .int f]])) [.lst (l'.map A.d)] := by
  obtain ⟨l1, r1, w1, a1, b1, e1⟩ := draw_call (m := 9) h (by decide) (d1 (by decide))
  obtain ⟨l2, r2, w2, a2, b2, e2⟩ := draw_call (m := 41) w1 (by decide) (d1 (by decide))
  obtain ⟨l3, x, w3, hx, e3⟩ := pick_ok (ds := [.int 0, .int 1, .int (-1), .int 0, .int 30]) w2 (by decide) (by decide)
  obtain ⟨t, et, bt⟩ : ∃ t : Int, x = .int t ∧ t.natAbs ≤ 30 := by
    simp only [List.mem_cons, List.not_mem_nil, or_false] at hx
    rcases hx with rfl | rfl | rfl | rfl | rfl <;> exact ⟨_, rfl, by decide⟩
  subst et
  have m1 : mulOk 100 (r2 - 20) = true := mul1 (by decide) (by omega)
  have m2 : mulOk (100 * (r2 - 20)) (r2 - 20) = true := mul1 (by omega) (by omega)
  have m3 : mulOk 700 (1 + r1) = true := mul1 (by decide) (by omega)
  have n3 : (100 * (r2 - 20) * (r2 - 20) + t).natAbs < 1000000 := by
    have q := Nat.mul_le_mul (show (100 * (r2 - 20)).natAbs ≤ 2100 by omega) (show (r2 - 20).natAbs ≤ 21 by omega)
    have q2 := Int.natAbs_add_le (100 * (r2 - 20) * (r2 - 20)) t
    rw [Int.natAbs_mul] at q2
    omega
  obtain ⟨a, b, h1, h2, f1⟩ := ratio_ok (n := 1 + r1) (m := 7) (by decide) (d1 (by decide)) []
  obtain ⟨c, d, h3, h4, f2⟩ := ratio_ok (n := r2 - 20) (m := 7) (by decide) (d1 (by decide)) []
  obtain ⟨e, f, h5, h6, f3⟩ := ratio_ok (n := 100 * (r2 - 20) * (r2 - 20) + t) (m := 700 * (1 + r1)) (by omega) (d1 (by omega)) []
  refine ⟨l3, a, b, c, d, e, f, w3, sm1 (by omega), sm1 (by omega), sm1 (by omega), sm1 (by omega), sm1 (by omega), sm1 (by omega), callD_cell (n := 0) (as := []) (S := [.lst (l.map A.d)]) rfl ?_⟩
  have q1 := callD_data (mir := m__law_ratio) (as := [.int (1 + r1), .int 7]) (S := [.lst (l3.map A.d)]) f1
  have q2 := callD_data (mir := m__law_ratio) (as := [.int (r2 - 20), .int 7]) (S := [.lst (l3.map A.d)]) f2
  have q3 := callD_data (mir := m__law_ratio) (as := [.int (100 * (r2 - 20) * (r2 - 20) + t), .int (700 * (1 + r1))]) (S := [.lst (l3.map A.d)]) f3
  simp only [List.map_cons, List.map_nil] at q1 q2 q3
  simp [m__law_near_rim, defR, start0, b__law_near_rim, Bn.runs, Bn.run, R.fl, den, denEs, R.bind, callK, T__law_near_rim, e1, e2, binD, binI, okD, negD, lstK, toDs, LIM, e3, m1, m2, m3, q1, q2, q3, tupK]
theorem odd_in {k : Nat} {l : List Bn.D} (h : Well (k + 1) l) : ∃ l' x, Well k l' ∧ nc x ∧ m__law_odd [.c 0] [.lst (l.map A.d)] = .ok (.d x) [.lst (l'.map A.d)] := by
  obtain ⟨l1, x, w1, hx, e1⟩ := pick_ok (ds := [.non, .bl true, .bl false, .int 0, .int (-1), .int 1, .str "kind", .str "", .tup [], .lst [], .dct [], .tup [.int 0, .int 1], .tup [.int 2, .int 4], .tup [.int 1, .int 0], .tup [.int 1, .int (-2)], .tup [.int 1, .int 1],
    .tup [.bl true, .int 1], .tup [.int 1, .bl true], .lst [.int 1, .int 2], .tup [.int 1, .int 2, .int 3], .tup [.tup [.int 1, .int 2]], .tup [.str "1", .int 2], .tup [.non, .int 1], .int (-10000000000000000000000000000000000000000)]) h (by decide) (by decide)
  have p1 : powOk 10 40 = true := by decide
  refine ⟨l1, x, w1, ?_, ?_⟩
  · have s0 : ∀ i : Int, i.natAbs < 1099511627776 → sm 200 i := fun i hi => sm2 (sm1 hi)
    have big : sm 200 (-10000000000000000000000000000000000000000) := by
      unfold sm
      decide
    simp only [List.mem_cons, List.not_mem_nil, or_false] at hx
    rcases hx with rfl | rfl | rfl | rfl | rfl | rfl | rfl | rfl | rfl | rfl | rfl | rfl | rfl | rfl | rfl | rfl | rfl | rfl | rfl | rfl | rfl | rfl | rfl | rfl
    all_goals first | exact big | (simp [nc, ncAll] <;> first | exact s0 _ (by decide) | (refine ⟨s0 _ (by decide), ?_⟩; first | exact s0 _ (by decide) | (refine ⟨s0 _ (by decide), ?_⟩; exact s0 _ (by decide))))
  · simp [m__law_odd, defR, start0, b__law_odd, Bn.runs, Bn.run, R.fl, den, denEs, R.bind, callK, T__law_odd, binD, binI, okD, negD, lstK, tupK, toDs, LIM, p1, e1]
theorem odd_ok {k : Nat} {l : List Bn.D} (h : Well (k + 1) l) : ∃ l' x, Well k l' ∧ nc x ∧ callD m__law_odd [.c 0] [.lst (l.map A.d)] = .ok (.d x) [.lst (l'.map A.d)] := by
  obtain ⟨l', x, w, n, e⟩ := odd_in h
  exact ⟨l', x, w, n, callD_cell (n := 0) (as := []) (S := [.lst (l.map A.d)]) rfl e⟩
end K02
namespace K02
open PySem L2 Bn
theorem nc_int {i : Int} (h : sm 200 i) : nc (.int i) := h
theorem stretchI_ok {k : Nat} {l : List Bn.D} {x y z at_ : Int} (h : Well (k + 1) l) (hx : sm 100 x) (hy : sm 100 y) (hz : sm 100 z) :
    ∃ l' r, Well k l' ∧ nc r ∧ callD m__law_stretched [.c 0, .d (.tup [.int x, .int y, .int z]), .d (.int at_)] [.lst (l.map A.d)] = .ok (.d r) [.lst (l'.map A.d)] := by
  obtain ⟨l1, v, w1, hv, e1⟩ := pick_ok (ds := [.int (-1), .int 2, .int 3, .int (-2), .int 0]) h (by decide) (by decide)
  obtain ⟨f, ef, bf⟩ : ∃ t : Int, v = .int t ∧ t.natAbs ≤ 30 := by
    simp only [List.mem_cons, List.not_mem_nil, or_false] at hv
    rcases hv with rfl | rfl | rfl | rfl | rfl <;> exact ⟨_, rfl, by decide⟩
  subst ef
  have sf : sm 40 f := sm40 (by omega)
  have m1 : mulOk f x = true := mulOk_sm sf hx (by decide)
  have m2 : mulOk f y = true := mulOk_sm sf hy (by decide)
  have m3 : mulOk f z = true := mulOk_sm sf hz (by decide)
  refine ⟨l1, .tup [.int (f * x), .int (f * y), .int (f * z)], w1, ?_, callD_cell (n := 0) (as := [.tup [.int x, .int y, .int z], .int at_]) (S := [.lst (l.map A.d)]) rfl ?_⟩
  · exact ⟨by simp, sm_mono (sm_mul sf hx) (by decide), sm_mono (sm_mul sf hy) (by decide), sm_mono (sm_mul sf hz) (by decide), trivial⟩
  · have t1 : isiD "tuple" (.d (.int x)) [.lst (l.map A.d)] = .ok (.d (.bl false)) [.lst (l.map A.d)] := rfl
    simp [m__law_stretched, defR, start0, b__law_stretched, Bn.runs, Bn.run, R.fl, den, denEs, R.bind, callK, T__law_stretched, biD, one, t1, notK, ifF, ixD, items, atI, ixN, negD, lstK, toDs, LIM, e1, bin_mul, m1, m2, m3, tupK]
theorem stretchP_ok {k : Nat} {l : List Bn.D} {a b c d e f at_ : Int} (h : Well (k + 1) l) (ha : sm 100 a) (hb : sm 100 b) (hc : sm 100 c) (hd : sm 100 d) (he : sm 100 e) (hf : sm 100 f) (h0 : 0 ≤ at_) (h3 : at_ < 3) :
    ∃ l' r, Well k l' ∧ nc r ∧ callD m__law_stretched [.c 0, .d (.tup [.tup [.int a, .int b], .tup [.int c, .int d], .tup [.int e, .int f]]), .d (.int at_)] [.lst (l.map A.d)] = .ok (.d r) [.lst (l'.map A.d)] := by
  have t1 : isiD "tuple" (.d (.tup [.int a, .int b])) [.lst (l.map A.d)] = .ok (.d (.bl true)) [.lst (l.map A.d)] := rfl
  have key : ∀ n m : Int, sm 100 n → sm 100 m → ∃ l1 v, Well k l1 ∧ nc v ∧ mulOk 2 n = true ∧ mulOk 2 m = true ∧ callD m__law_pick [.c 0, .d (.lst [.tup [.int (2 * n), .int (2 * m)], .tup [.int n, .int (0 - m)], .tup [.int (0 - n), .int m], .lst [.int n, .int m], .tup [.int (0 - n), .int (0 - m)], .tup [.int n, .int m, .int 1], .tup [.int n], .tup [.int m, .int n]])]
      [.lst (l.map A.d)] = .ok (.d v) [.lst (l1.map A.d)] := fun n m hn hm => by
    obtain ⟨l1, v, w1, hv, e1⟩ := pick_ok (ds := [.tup [.int (2 * n), .int (2 * m)], .tup [.int n, .int (0 - m)], .tup [.int (0 - n), .int m], .lst [.int n, .int m], .tup [.int (0 - n), .int (0 - m)], .tup [.int n, .int m, .int 1], .tup [.int n], .tup [.int m, .int n]]) h (by simp) (by simp)
    have s2 : sm 40 (2 : Int) := sm40 (by decide)
    refine ⟨l1, v, w1, ?_, mulOk_sm s2 hn (by decide), mulOk_sm s2 hm (by decide), e1⟩
    have z0 : sm 100 (0 : Int) := sm1 (by decide)
    have p1 : nc (.int n) := sm2 hn
    have p2 : nc (.int m) := sm2 hm
    have p3 : nc (.int (2 * n)) := sm_mono (sm_mul s2 hn) (by decide)
    have p4 : nc (.int (2 * m)) := sm_mono (sm_mul s2 hm) (by decide)
    have p5 : nc (.int (0 - n)) := sm_mono (sm_sub z0 hn) (by decide)
    have p6 : nc (.int (0 - m)) := sm_mono (sm_sub z0 hm) (by decide)
    have p7 : nc (.int 1) := sm2 (sm1 (by decide))
    simp only [List.mem_cons, List.not_mem_nil, or_false] at hv
    rcases hv with rfl | rfl | rfl | rfl | rfl | rfl | rfl | rfl
    · exact ⟨by simp, p3, p4, trivial⟩
    · exact ⟨by simp, p1, p6, trivial⟩
    · exact ⟨by simp, p5, p2, trivial⟩
    · exact ⟨by simp, p1, p2, trivial⟩
    · exact ⟨by simp, p5, p6, trivial⟩
    · exact ⟨by simp, p1, p2, p7, trivial⟩
    · exact ⟨by simp, p1, trivial⟩
    · exact ⟨by simp, p2, p1, trivial⟩
  have q : ∀ u v : Int, sm 100 u → sm 100 v → nc (.tup [.int u, .int v]) := fun u v hu hv => ⟨by simp, sm2 hu, sm2 hv, trivial⟩
  have hat : at_ = 0 ∨ at_ = 1 ∨ at_ = 2 := by omega
  rcases hat with rfl | rfl | rfl
  · obtain ⟨l1, v, w1, nv, m1, m2, e1⟩ := key a b ha hb
    simp only [Int.zero_sub] at e1
    refine ⟨l1, .tup [v, .tup [.int c, .int d], .tup [.int e, .int f]], w1, ⟨by simp, nv, q c d hc hd, q e f he hf, trivial⟩, callD_cell (n := 0) (as := [.tup [.tup [.int a, .int b], .tup [.int c, .int d], .tup [.int e, .int f]], .int 0]) (S := [.lst (l.map A.d)]) rfl ?_⟩
    have c1 : cutL [Bn.D.tup [.int a, .int b], .tup [.int c, .int d], .tup [.int e, .int f]] none (some 0) = [] := rfl
    have c2 : cutL [Bn.D.tup [.int a, .int b], .tup [.int c, .int d], .tup [.int e, .int f]] (some 1) none = [.tup [.int c, .int d], .tup [.int e, .int f]] := rfl
    simp [m__law_stretched, defR, start0, b__law_stretched, Bn.runs, Bn.run, R.fl, den, denEs, denO, intK, R.bind, callK, T__law_stretched, biD, one, t1, notK, ifF, ixD, items, atI, ixN, lstK, toDs, LIM, asgT, asgTs, bin_mul, m1, m2, bin_sub, bin_add, tupK, e1, slD, c1, c2, bin_tupI]
  · obtain ⟨l1, v, w1, nv, m1, m2, e1⟩ := key c d hc hd
    simp only [Int.zero_sub] at e1
    refine ⟨l1, .tup [.tup [.int a, .int b], v, .tup [.int e, .int f]], w1, ⟨by simp, q a b ha hb, nv, q e f he hf, trivial⟩, callD_cell (n := 0) (as := [.tup [.tup [.int a, .int b], .tup [.int c, .int d], .tup [.int e, .int f]], .int 1]) (S := [.lst (l.map A.d)]) rfl ?_⟩
    have c1 : cutL [Bn.D.tup [.int a, .int b], .tup [.int c, .int d], .tup [.int e, .int f]] none (some 1) = [.tup [.int a, .int b]] := rfl
    have c2 : cutL [Bn.D.tup [.int a, .int b], .tup [.int c, .int d], .tup [.int e, .int f]] (some 2) none = [.tup [.int e, .int f]] := rfl
    simp [m__law_stretched, defR, start0, b__law_stretched, Bn.runs, Bn.run, R.fl, den, denEs, denO, intK, R.bind, callK, T__law_stretched, biD, one, t1, notK, ifF, ixD, items, atI, ixN, lstK, toDs, LIM, asgT, asgTs, bin_mul, m1, m2, bin_sub, bin_add, tupK, e1, slD, c1, c2, bin_tupI]
  · obtain ⟨l1, v, w1, nv, m1, m2, e1⟩ := key e f he hf
    simp only [Int.zero_sub] at e1
    refine ⟨l1, .tup [.tup [.int a, .int b], .tup [.int c, .int d], v], w1, ⟨by simp, q a b ha hb, q c d hc hd, nv, trivial⟩, callD_cell (n := 0) (as := [.tup [.tup [.int a, .int b], .tup [.int c, .int d], .tup [.int e, .int f]], .int 2]) (S := [.lst (l.map A.d)]) rfl ?_⟩
    have c1 : cutL [Bn.D.tup [.int a, .int b], .tup [.int c, .int d], .tup [.int e, .int f]] none (some 2) = [.tup [.int a, .int b], .tup [.int c, .int d]] := rfl
    have c2 : cutL [Bn.D.tup [.int a, .int b], .tup [.int c, .int d], .tup [.int e, .int f]] (some 3) none = [] := rfl
    simp [m__law_stretched, defR, start0, b__law_stretched, Bn.runs, Bn.run, R.fl, den, denEs, denO, intK, R.bind, callK, T__law_stretched, biD, one, t1, notK, ifF, ixD, items, atI, ixN, lstK, toDs, LIM, asgT, asgTs, bin_mul, m1, m2, bin_sub, bin_add, tupK, e1, slD, c1, c2, bin_tupI]
end K02
namespace K02
open PySem L2 Bn
/-- a value of three, that can be stretched -/
structure V3 (v : Bn.D) : Prop where
  is3 : ∃ p q r, v = .tup [p, q, r] ∧ nc p ∧ nc q ∧ nc r
  st : ∀ (k : Nat) (l : List Bn.D) (at_ : Int), Well (k + 1) l → 0 ≤ at_ → at_ < 3 → ∃ l' x, Well k l' ∧ nc x ∧ callD m__law_stretched [.c 0, .d v, .d (.int at_)] [.lst (l.map A.d)] = .ok (.d x) [.lst (l'.map A.d)]
theorem nc3 {p q r : Bn.D} (hp : nc p) (hq : nc q) (hr : nc r) : nc (.tup [p, q, r]) := ⟨by simp, hp, hq, hr, trivial⟩
theorem bent_in {k : Nat} {l : List Bn.D} {v : Bn.D} (h : Well (k + 4) l) (hv : V3 v) : ∃ l' x, Well k l' ∧ nc x ∧ m__law_bent [.c 0, .d v] [.lst (l.map A.d)] = .ok (.d x) [.lst (l'.map A.d)] := by
  obtain ⟨l1, w, w1, a1, b1, e1⟩ := draw_call (m := 9) h (by decide) (d1 (by decide))
  obtain ⟨l2, at_, w2, a2, b2, e2⟩ := draw_call (m := 3) w1 (by decide) (d1 (by decide))
  have st := fun q1 q2 => hv.st (k + 1) l2 at_ w2 q1 q2
  obtain ⟨p, q, r, rfl, np, nq, nr⟩ := hv.is3
  have c0a : cutL [p, q, r] none (some 0) = [] := rfl
  have c0b : cutL [p, q, r] (some 1) none = [q, r] := rfl
  have c1a : cutL [p, q, r] none (some 1) = [p] := rfl
  have c1b : cutL [p, q, r] (some 2) none = [r] := rfl
  have c2a : cutL [p, q, r] none (some 2) = [p, q] := rfl
  have c2b : cutL [p, q, r] (some 3) none = [] := rfl
  have hw : w = 0 ∨ w = 1 ∨ w = 2 ∨ w = 3 ∨ w = 4 ∨ w = 5 ∨ w = 6 ∨ w = 7 ∨ w = 8 := by omega
  have ha : at_ = 0 ∨ at_ = 1 ∨ at_ = 2 := by omega
  have done : ∀ {l' x}, Well (k + 2) l' → nc x → m__law_bent [.c 0, .d (.tup [p, q, r])] [.lst (l.map A.d)] = .ok (.d x) [.lst (l'.map A.d)] → ∃ l' x, Well k l' ∧ nc x ∧ m__law_bent [.c 0, .d (.tup [p, q, r])] [.lst (l.map A.d)] = .ok (.d x) [.lst (l'.map A.d)] := fun w n e => ⟨_, _, w.less (by omega), n, e⟩
  have done1 : ∀ {l' x}, Well (k + 1) l' → nc x → m__law_bent [.c 0, .d (.tup [p, q, r])] [.lst (l.map A.d)] = .ok (.d x) [.lst (l'.map A.d)] → ∃ l' x, Well k l' ∧ nc x ∧ m__law_bent [.c 0, .d (.tup [p, q, r])] [.lst (l.map A.d)] = .ok (.d x) [.lst (l'.map A.d)] := fun w n e => ⟨_, _, w.less (by omega), n, e⟩
  rcases hw with rfl | rfl | rfl | rfl | rfl | rfl | rfl | rfl | rfl
  · refine done (x := .lst [p, q, r]) w2 ⟨by simp, np, nq, nr, trivial⟩ ?_
    simp [m__law_bent, defR, start0, b__law_bent, Bn.runs, Bn.run, R.fl, den, denEs, denO, intK, R.bind, callK, T__law_bent, e1, e2, cmpD_eq_int, ifF, ifK, biD, one, listOfD, ixD, items, atI, ixN, tupK, lstK, toDs, LIM, slD, bin_add, bin_tupI, negD]
  · rcases ha with rfl | rfl | rfl
    · refine done (x := .tup [p, q, r, p]) w2 ⟨by simp, np, nq, nr, np, trivial⟩ ?_
      simp [m__law_bent, defR, start0, b__law_bent, Bn.runs, Bn.run, R.fl, den, denEs, denO, intK, R.bind, callK, T__law_bent, e1, e2, cmpD_eq_int, ifF, ifK, biD, one, listOfD, ixD, items, atI, ixN, tupK, lstK, toDs, LIM, slD, bin_add, bin_tupI, negD]
    · refine done (x := .tup [p, q, r, q]) w2 ⟨by simp, np, nq, nr, nq, trivial⟩ ?_
      simp [m__law_bent, defR, start0, b__law_bent, Bn.runs, Bn.run, R.fl, den, denEs, denO, intK, R.bind, callK, T__law_bent, e1, e2, cmpD_eq_int, ifF, ifK, biD, one, listOfD, ixD, items, atI, ixN, tupK, lstK, toDs, LIM, slD, bin_add, bin_tupI, negD]
    · refine done (x := .tup [p, q, r, r]) w2 ⟨by simp, np, nq, nr, nr, trivial⟩ ?_
      simp [m__law_bent, defR, start0, b__law_bent, Bn.runs, Bn.run, R.fl, den, denEs, denO, intK, R.bind, callK, T__law_bent, e1, e2, cmpD_eq_int, ifF, ifK, biD, one, listOfD, ixD, items, atI, ixN, tupK, lstK, toDs, LIM, slD, bin_add, bin_tupI, negD]
  · rcases ha with rfl | rfl | rfl
    · refine done (x := .tup []) w2 ⟨by simp, trivial⟩ ?_
      simp [m__law_bent, defR, start0, b__law_bent, Bn.runs, Bn.run, R.fl, den, denEs, denO, intK, R.bind, callK, T__law_bent, e1, e2, cmpD_eq_int, ifF, ifK, biD, one, listOfD, ixD, items, atI, ixN, tupK, lstK, toDs, LIM, slD, bin_add, bin_tupI, negD, c0a]
    · refine done (x := .tup [p]) w2 ⟨by simp, np, trivial⟩ ?_
      simp [m__law_bent, defR, start0, b__law_bent, Bn.runs, Bn.run, R.fl, den, denEs, denO, intK, R.bind, callK, T__law_bent, e1, e2, cmpD_eq_int, ifF, ifK, biD, one, listOfD, ixD, items, atI, ixN, tupK, lstK, toDs, LIM, slD, bin_add, bin_tupI, negD, c1a]
    · refine done (x := .tup [p, q]) w2 ⟨by simp, np, nq, trivial⟩ ?_
      simp [m__law_bent, defR, start0, b__law_bent, Bn.runs, Bn.run, R.fl, den, denEs, denO, intK, R.bind, callK, T__law_bent, e1, e2, cmpD_eq_int, ifF, ifK, biD, one, listOfD, ixD, items, atI, ixN, tupK, lstK, toDs, LIM, slD, bin_add, bin_tupI, negD, c2a]
  · obtain ⟨l3, x, w3, nx, e3⟩ := odd_ok (k := k + 1) w2
    rcases ha with rfl | rfl | rfl
    · refine done1 (x := .tup [x, q, r]) w3 (nc3 nx nq nr) ?_
      simp [m__law_bent, defR, start0, b__law_bent, Bn.runs, Bn.run, R.fl, den, denEs, denO, intK, R.bind, callK, T__law_bent, e1, e2, cmpD_eq_int, ifF, ifK, biD, one, listOfD, ixD, items, atI, ixN, tupK, lstK, toDs, LIM, slD, bin_add, bin_tupI, negD, c0a, c0b, e3]
    · refine done1 (x := .tup [p, x, r]) w3 (nc3 np nx nr) ?_
      simp [m__law_bent, defR, start0, b__law_bent, Bn.runs, Bn.run, R.fl, den, denEs, denO, intK, R.bind, callK, T__law_bent, e1, e2, cmpD_eq_int, ifF, ifK, biD, one, listOfD, ixD, items, atI, ixN, tupK, lstK, toDs, LIM, slD, bin_add, bin_tupI, negD, c1a, c1b, e3]
    · refine done1 (x := .tup [p, q, x]) w3 (nc3 np nq nx) ?_
      simp [m__law_bent, defR, start0, b__law_bent, Bn.runs, Bn.run, R.fl, den, denEs, denO, intK, R.bind, callK, T__law_bent, e1, e2, cmpD_eq_int, ifF, ifK, biD, one, listOfD, ixD, items, atI, ixN, tupK, lstK, toDs, LIM, slD, bin_add, bin_tupI, negD, c2a, c2b, e3]
  · rcases ha with rfl | rfl | rfl
    · refine done (x := .tup [p, q, r]) w2 (nc3 np nq nr) ?_
      simp [m__law_bent, defR, start0, b__law_bent, Bn.runs, Bn.run, R.fl, den, denEs, denO, intK, R.bind, callK, T__law_bent, e1, e2, cmpD_eq_int, ifF, ifK, biD, one, listOfD, ixD, items, atI, ixN, tupK, lstK, toDs, LIM, slD, bin_add, bin_tupI, negD, c0a, c0b]
    · refine done (x := .tup [q, p, r]) w2 (nc3 nq np nr) ?_
      simp [m__law_bent, defR, start0, b__law_bent, Bn.runs, Bn.run, R.fl, den, denEs, denO, intK, R.bind, callK, T__law_bent, e1, e2, cmpD_eq_int, ifF, ifK, biD, one, listOfD, ixD, items, atI, ixN, tupK, lstK, toDs, LIM, slD, bin_add, bin_tupI, negD, c1a, c1b]
    · refine done (x := .tup [r, p, q]) w2 (nc3 nr np nq) ?_
      simp [m__law_bent, defR, start0, b__law_bent, Bn.runs, Bn.run, R.fl, den, denEs, denO, intK, R.bind, callK, T__law_bent, e1, e2, cmpD_eq_int, ifF, ifK, biD, one, listOfD, ixD, items, atI, ixN, tupK, lstK, toDs, LIM, slD, bin_add, bin_tupI, negD, c2a, c2b]
  · obtain ⟨l3, x, w3, nx, e3⟩ := odd_ok (k := k + 1) w2
    obtain ⟨l4, y, w4, hy, e4⟩ := pick_ok (ds := [.tup [.tup [p, q, r]], .tup [p, .tup [q, r]], x]) w3 (by simp) (by simp)
    refine ⟨l4, y, w4, ?_, ?_⟩
    · simp only [List.mem_cons, List.not_mem_nil, or_false] at hy
      rcases hy with rfl | rfl | rfl
      · exact ⟨by simp, nc3 np nq nr, trivial⟩
      · exact ⟨by simp, np, ⟨by simp, nq, nr, trivial⟩, trivial⟩
      · exact nx
    · simp [m__law_bent, defR, start0, b__law_bent, Bn.runs, Bn.run, R.fl, den, denEs, denO, intK, R.bind, callK, T__law_bent, e1, e2, cmpD_eq_int, ifF, ifK, biD, one, listOfD, ixD, items, atI, ixN, tupK, lstK, toDs, LIM, slD, bin_add, bin_tupI, negD, c0b, e3, e4]
  · obtain ⟨l3, x, w3, hx, e3⟩ := pick_ok (ds := [.int 0, .int 1, .int (-1), .int 2, .tup [.int 0, .int 1], .tup [.int 1, .int 1], .tup [.int (-1), .int 1], .tup [.int 1, .int 2]]) w2 (by simp) (by simp)
    have s0 : ∀ i : Int, i.natAbs < 1099511627776 → nc (.int i) := fun i hi => sm2 (sm1 hi)
    have nx : nc x := by
      simp only [List.mem_cons, List.not_mem_nil, or_false] at hx
      rcases hx with rfl | rfl | rfl | rfl | rfl | rfl | rfl | rfl
      all_goals first | exact s0 _ (by decide) | exact ⟨by simp, s0 _ (by decide), s0 _ (by decide), trivial⟩
    rcases ha with rfl | rfl | rfl
    · refine done1 (x := .tup [x, q, r]) w3 (nc3 nx nq nr) ?_
      simp [m__law_bent, defR, start0, b__law_bent, Bn.runs, Bn.run, R.fl, den, denEs, denO, intK, R.bind, callK, T__law_bent, e1, e2, cmpD_eq_int, ifF, ifK, biD, one, listOfD, ixD, items, atI, ixN, tupK, lstK, toDs, LIM, slD, bin_add, bin_tupI, negD, c0a, c0b, e3]
    · refine done1 (x := .tup [p, x, r]) w3 (nc3 np nx nr) ?_
      simp [m__law_bent, defR, start0, b__law_bent, Bn.runs, Bn.run, R.fl, den, denEs, denO, intK, R.bind, callK, T__law_bent, e1, e2, cmpD_eq_int, ifF, ifK, biD, one, listOfD, ixD, items, atI, ixN, tupK, lstK, toDs, LIM, slD, bin_add, bin_tupI, negD, c1a, c1b, e3]
    · refine done1 (x := .tup [p, q, x]) w3 (nc3 np nq nx) ?_
      simp [m__law_bent, defR, start0, b__law_bent, Bn.runs, Bn.run, R.fl, den, denEs, denO, intK, R.bind, callK, T__law_bent, e1, e2, cmpD_eq_int, ifF, ifK, biD, one, listOfD, ixD, items, atI, ixN, tupK, lstK, toDs, LIM, slD, bin_add, bin_tupI, negD, c2a, c2b, e3]
  · obtain ⟨l3, x, w3, nx, e3⟩ := st a2 b2
    refine done1 w3 nx ?_
    simp [m__law_bent, defR, start0, b__law_bent, Bn.runs, Bn.run, R.fl, den, denEs, denO, intK, R.bind, callK, T__law_bent, e1, e2, cmpD_eq_int, ifF, ifK, biD, one, listOfD, ixD, items, atI, ixN, tupK, lstK, toDs, LIM, slD, bin_add, bin_tupI, negD, e3]
  · refine done w2 (nc3 np nq nr) ?_
    simp [m__law_bent, defR, start0, b__law_bent, Bn.runs, Bn.run, R.fl, den, denEs, denO, intK, R.bind, callK, T__law_bent, e1, e2, cmpD_eq_int, ifF, ifK, biD, one, listOfD, ixD, items, atI, ixN, tupK, lstK, toDs, LIM, slD, bin_add, bin_tupI, negD]
end K02
namespace K02
open PySem L2 Bn
def isW : Bn.D → Bool
  | .int _ => true
  | _ => false
def plainD : Bn.D → Prop
  | .obj _ _ => False
  | _ => True
theorem nc_plain {x : Bn.D} (h : nc x) : plainD x := by
  cases x <;> first | trivial | exact h
theorem ncAll_mem : ∀ {l : List Bn.D}, ncAll l → ∀ x ∈ l, nc x
  | [], _, _, hx => nomatch hx
  | y :: r, h, x, hx => by
    rcases List.mem_cons.mp hx with e | hx
    · subst e
      exact h.1
    · exact ncAll_mem h.2 x hx
theorem is_whole_ok (x : Bn.D) (h : plainD x) (S : List Cell) : m_is_whole [.d x] S = .ok (.d (.bl (isW x))) S := by
  cases x <;> first | rfl | exact h.elim
theorem law_is_whole_ok (x : Bn.D) (h : plainD x) (S : List Cell) : m__law_is_whole [.d x] S = .ok (.d (.bl (isW x))) S := by
  cases x <;> first | rfl | exact h.elim
def areW (n : Int) : Bn.D → Bool
  | .tup l => decide ((l.length : Int) = n) && l.all isW
  | _ => false
theorem tup_len {l : List Bn.D} (h : nc (.tup l)) : l.length ≤ LIM := Nat.le_trans h.1 (by decide)
theorem are_wholes_ok (x : Bn.D) (n : Int) (h : nc x) (S : List Cell) : m_are_wholes [.d x, .d (.int n)] S = .ok (.d (.bl (areW n x))) S := by
  cases x with
  | tup l =>
    have v : den T_are_wholes (.var 0) [some (.d (.tup l)), some (.d (.int n)), none] S = .ok (.d (.tup l)) S := rfl
    have q : den T_are_wholes (.bop true (.cons (.bi (.isi "tuple") (.cons (.var 0) .nil)) (.cons (.cmp .Eq (.bi .len (.cons (.var 0) .nil)) (.var 1)) (.cons (.bi .all (.cons (.comp false (.call 0 (.cons (.var 2) .nil)) (.nm 2) [("each", 2)] (.seq true (.var 0)) .no) .nil)) .nil)))) [some (.d (.tup l)), some (.d (.int n)), none] S = .ok (.d (.bl (areW n (.tup l)))) S := by
      refine andc (b := true) rfl fun _ => andc ?_ fun _ => and1 (all_calls (p := isW) (fn := ⟨"is_whole", ["value"], m_is_whole⟩) rfl rfl rfl (tup_len h) (by simp) fun x hx => is_whole_ok x (nc_plain (ncAll_mem h.2 x hx)) [])
      rw [den, bi1 v]
      simp only [biD, one, lenD, items, R.bind, den, List.length_map, List.getElem?_cons_succ, List.getElem?_cons_zero]
      exact cmpD_eq_int _ _ _
    exact defR_rt (runs_ret q)
  | obj _ _ => exact h.elim
  | _ => rfl
def isR : Bn.D → Bool
  | .tup [.int a, .int b] => decide (0 < b) && decide (Nat.gcd a.natAbs b.natAbs = 1)
  | _ => false
theorem areW2 {x : Bn.D} (h : areW 2 x = true) : ∃ a b, x = .tup [.int a, .int b] := by
  cases x with
  | tup l =>
    rcases l with _ | ⟨p, _ | ⟨q, _ | ⟨r, l⟩⟩⟩
    · simp [areW] at h
    · simp [areW] at h
    · cases p <;> cases q <;> first | (simp [areW, isW] at h; done) | exact ⟨_, _, rfl⟩
    · simp [areW] at h
      omega
  | _ => simp [areW] at h
theorem areW3 {x : Bn.D} (h : areW 3 x = true) : ∃ a b c, x = .tup [.int a, .int b, .int c] := by
  cases x with
  | tup l =>
    rcases l with _ | ⟨p, _ | ⟨q, _ | ⟨r, _ | ⟨s, l⟩⟩⟩⟩
    · simp [areW] at h
    · simp [areW] at h
    · simp [areW] at h
    · cases p <;> cases q <;> cases r <;> first | (simp [areW, isW] at h; done) | exact ⟨_, _, _, rfl⟩
    · simp [areW] at h
      omega
  | _ => simp [areW] at h
theorem isR_areW {x : Bn.D} (h : isR x = true) : areW 2 x = true ∧ ∃ a b, x = .tup [.int a, .int b] ∧ 0 < b ∧ Nat.gcd a.natAbs b.natAbs = 1 := by
  unfold isR at h
  split at h
  · simp at h
    exact ⟨rfl, _, _, rfl, h.1, h.2⟩
  · cases h
theorem isR_off {x : Bn.D} (h : areW 2 x = false) : isR x = false := by
  cases q : isR x with
  | false => rfl
  | true =>
    rw [(isR_areW q).1] at h
    cases h
theorem div2_ok (a b : Int) (S : List Cell) : m_divisor_of [.d (.tup [.int a, .int b])] S = .ok (.d (.int ((Nat.gcd a.natAbs b.natAbs : Nat) : Int))) S := by
  simp [m_divisor_of, defR, start0, b_divisor_of, Bn.runs, Bn.run, R.fl, den, denEs, denI, R.bind, seqK, seqL, optR, forL, bindT, biD, two, gcdD]
theorem div3_ok (a b c : Int) (S : List Cell) : m_divisor_of [.d (.tup [.int a, .int b, .int c])] S = .ok (.d (.int ((Nat.gcd (Nat.gcd a.natAbs b.natAbs) c.natAbs : Nat) : Int))) S := by
  simp [m_divisor_of, defR, start0, b_divisor_of, Bn.runs, Bn.run, R.fl, den, denEs, denI, R.bind, seqK, seqL, optR, forL, bindT, biD, two, gcdD]
theorem nat1 (g : Nat) : decide ((g : Int) = 1) = decide (g = 1) := by
  by_cases h : g = 1
  · simp [h]
  · rw [decide_eq_false h, decide_eq_false]
    omega
theorem is_ratio_ok (x : Bn.D) (h : nc x) (S : List Cell) : m_is_ratio [.d x] S = .ok (.d (.bl (isR x))) S := by
  have c1 : den T_is_ratio (.call 1 (.cons (.var 0) (.cons (.k (.int 2)) .nil))) [some (.d x)] S = .ok (.d (.bl (areW 2 x))) S :=
    calls (fn := ⟨"are_wholes", ["value", "many"], m_are_wholes⟩) (as := [x, .int 2]) rfl rfl rfl (are_wholes_ok x 2 h [])
  have q : den T_is_ratio (.bop true (.cons (.call 1 (.cons (.var 0) (.cons (.k (.int 2)) .nil))) (.cons (.cmp .Gt (.ix (.var 0) (.k (.int 1))) (.k (.int 0))) (.cons (.cmp .Eq (.call 0 (.cons (.var 0) .nil)) (.k (.int 1))) .nil)))) [some (.d x)] S = .ok (.d (.bl (isR x))) S := by
    cases e : areW 2 x with
    | false =>
      rw [e] at c1
      rw [isR_off e]
      exact andc (b := false) (c := true) c1 fun z => nomatch z
    | true =>
      rw [e] at c1
      obtain ⟨a, b, rfl⟩ := areW2 e
      have c2 : den T_is_ratio (.call 0 (.cons (.var 0) .nil)) [some (.d (.tup [.int a, .int b]))] S = .ok (.d (.int ((Nat.gcd a.natAbs b.natAbs : Nat) : Int))) S :=
        calls (fn := ⟨"divisor_of", ["numbers"], m_divisor_of⟩) (as := [.tup [.int a, .int b]]) rfl rfl rfl (div2_ok a b [])
      refine andc (b := true) c1 fun _ => andc (b := decide (0 < b)) (c := decide (Nat.gcd a.natAbs b.natAbs = 1)) rfl fun _ => and1 ?_
      rw [den, c2, R.bind_ok, den, R.bind_ok, cmpD_eq_int, nat1]
  exact defR_rt (runs_ret q)
theorem law_fraction_ok (x : Bn.D) (h : nc x) (S : List Cell) : m__law_is_fraction [.d x] S = .ok (.d (.bl (isR x))) S := by
  cases x with
  | tup l =>
    have v : den T__law_is_fraction (.var 0) [some (.d (.tup l))] S = .ok (.d (.tup l)) S := rfl
    have q1 : den T__law_is_fraction (.bop false (.cons (.not_ (.bi (.isi "tuple") (.cons (.var 0) .nil))) (.cons (.cmp .NotEq (.bi .len (.cons (.var 0) .nil)) (.k (.int 2))) .nil))) [some (.d (.tup l))] S = .ok (.d (.bl (false || !decide ((l.length : Int) = 2)))) S := by
      refine orc (notc (b := true) ?_) fun _ => and1 ?_
      · rw [bi1 v]
        rfl
      · rw [den, bi1 v]
        simp only [biD, one, lenD, items, R.bind, den, List.length_map]
        exact cmpD_ne_int _ _ _
    refine defR_rt (b := b__law_is_fraction) ?_
    show Bn.runs T__law_is_fraction b__law_is_fraction [some (.d (.tup l))] S = _
    unfold b__law_is_fraction
    rw [runs_ifret q1 (a := .d (.bl false)) rfl]
    rcases l with _ | ⟨p, _ | ⟨q, _ | ⟨r, l⟩⟩⟩
    · rfl
    · rw [isR_off (x := .tup [p]) rfl]
      rfl
    · simp only [List.length_cons, List.length_nil]
      have np := h.2.1
      have nq := h.2.2.1
      have w1 : den T__law_is_fraction (.call 1 (.cons (.ix (.var 0) (.k (.int 0))) .nil)) [some (.d (.tup [p, q]))] S = .ok (.d (.bl (isW p))) S :=
        calls (fn := ⟨"_law_is_whole", ["_law_x"], m__law_is_whole⟩) (as := [p]) rfl rfl rfl (law_is_whole_ok p (nc_plain np) [])
      have w2 : den T__law_is_fraction (.call 1 (.cons (.ix (.var 0) (.k (.int 1))) .nil)) [some (.d (.tup [p, q]))] S = .ok (.d (.bl (isW q))) S :=
        calls (fn := ⟨"_law_is_whole", ["_law_x"], m__law_is_whole⟩) (as := [q]) rfl rfl rfl (law_is_whole_ok q (nc_plain nq) [])
      have fin : den T__law_is_fraction (.bop true (.cons (.call 1 (.cons (.ix (.var 0) (.k (.int 0))) .nil)) (.cons (.call 1 (.cons (.ix (.var 0) (.k (.int 1))) .nil)) (.cons (.cmp .Gt (.ix (.var 0) (.k (.int 1))) (.k (.int 0))) (.cons (.cmp .Eq (.call 0 (.cons (.ix (.var 0) (.k (.int 0))) (.cons (.ix (.var 0) (.k (.int 1))) .nil))) (.k (.int 1))) .nil))))) [some (.d (.tup [p, q]))] S = .ok (.d (.bl (isR (.tup [p, q])))) S := by
        by_cases hp : isW p = true
        · by_cases hq : isW q = true
          · obtain ⟨a, b, e⟩ := areW2 (x := .tup [p, q]) (by simp [areW, hp, hq])
            cases e
            have c2 : den T__law_is_fraction (.call 0 (.cons (.ix (.var 0) (.k (.int 0))) (.cons (.ix (.var 0) (.k (.int 1))) .nil))) [some (.d (.tup [.int a, .int b]))] S = .ok (.d (.int ((Nat.gcd a.natAbs b.natAbs : Nat) : Int))) S :=
              calls (fn := ⟨"_law_divisor", ["_law_a", "_law_b"], m__law_divisor⟩) (as := [.int a, .int b]) rfl rfl rfl (divisor_ok a b [])
            refine andc (b := true) w1 fun _ => andc (b := true) w2 fun _ => andc (b := decide (0 < b)) (c := decide (Nat.gcd a.natAbs b.natAbs = 1)) rfl fun _ => and1 ?_
            rw [den, c2, R.bind_ok, den, R.bind_ok, cmpD_eq_int, nat1]
          · have hq' : isW q = false := by simpa using hq
            rw [isR_off (x := .tup [p, q]) (by simp [areW, hp, hq'])]
            rw [hq'] at w2
            rw [hp] at w1
            exact andc (b := true) (c := false) w1 fun _ => andc (b := false) (c := true) w2 fun z => nomatch z
        · have hp' : isW p = false := by simpa using hp
          rw [isR_off (x := .tup [p, q]) (by simp [areW, hp'])]
          rw [hp'] at w1
          exact andc (b := false) (c := true) w1 fun z => nomatch z
      exact runs_ret fin
    · have hl : decide ((((p :: q :: r :: l).length : Nat) : Int) = 2) = false := by
        apply decide_eq_false
        simp only [List.length_cons]
        omega
      rw [isR_off (x := .tup (p :: q :: r :: l)) (by simp only [areW, hl, Bool.false_and]), hl]
      rfl
  | obj _ _ => exact h.elim
  | _ => rfl
end K02
namespace K02
open PySem L2 Bn
def isK : Bn.D → Bool
  | .tup [.int a, .int b, .int c] => decide (Nat.gcd (Nat.gcd a.natAbs b.natAbs) c.natAbs = 1) && decide (a * c < b * b)
  | _ => false
theorem isK_off {x : Bn.D} (h : areW 3 x = false) : isK x = false := by
  cases q : isK x with
  | false => rfl
  | true =>
    unfold isK at q
    split at q
    · cases h
    · cases q
theorem mul2 {a b : Int} (ha : sm 200 a) (hb : sm 200 b) : mulOk a b = true := mulOk_sm ha hb (by decide)
theorem is_kind_by_ok (x : Bn.D) (h : nc x) (S : List Cell) : m_is_kind_by [.d x] S = .ok (.d (.bl (isK x))) S := by
  have c1 : den T_is_kind_by (.call 1 (.cons (.var 0) (.cons (.k (.int 3)) .nil))) [some (.d x)] S = .ok (.d (.bl (areW 3 x))) S :=
    calls (fn := ⟨"are_wholes", ["value", "many"], m_are_wholes⟩) (as := [x, .int 3]) rfl rfl rfl (are_wholes_ok x 3 h [])
  refine defR_rt (b := b_is_kind_by) ?_
  show Bn.runs T_is_kind_by b_is_kind_by [some (.d x)] S = _
  unfold b_is_kind_by
  cases e : areW 3 x with
  | false =>
    rw [e] at c1
    rw [runs_ifret (k := true) (a := .d (.bl false)) (orc (b := true) (c := true) (notc c1) fun z => nomatch z) rfl, isK_off e]
    rfl
  | true =>
    rw [e] at c1
    obtain ⟨a, b, c, rfl⟩ := areW3 e
    have c2 : den T_is_kind_by (.call 0 (.cons (.var 0) .nil)) [some (.d (.tup [.int a, .int b, .int c]))] S = .ok (.d (.int ((Nat.gcd (Nat.gcd a.natAbs b.natAbs) c.natAbs : Nat) : Int))) S :=
      calls (fn := ⟨"divisor_of", ["numbers"], m_divisor_of⟩) (as := [.tup [.int a, .int b, .int c]]) rfl rfl rfl (div3_ok a b c [])
    have t : den T_is_kind_by (.bop false (.cons (.not_ (.call 1 (.cons (.var 0) (.cons (.k (.int 3)) .nil)))) (.cons (.cmp .NotEq (.call 0 (.cons (.var 0) .nil)) (.k (.int 1))) .nil))) [some (.d (.tup [.int a, .int b, .int c]))] S = .ok (.d (.bl (false || !decide (Nat.gcd (Nat.gcd a.natAbs b.natAbs) c.natAbs = 1)))) S := by
      refine orc (notc (b := true) c1) fun _ => and1 ?_
      rw [den, c2, R.bind_ok, den, R.bind_ok, cmpD_ne_int, nat1]
    have m1 := mul2 h.2.2.1 h.2.2.1
    have m2 := mul2 h.2.1 h.2.2.2.1
    have r : den T_is_kind_by (.cmp .Gt (.bin .Mult (.ix (.var 0) (.k (.int 1))) (.ix (.var 0) (.k (.int 1)))) (.bin .Mult (.ix (.var 0) (.k (.int 0))) (.ix (.var 0) (.k (.int 2))))) [some (.d (.tup [.int a, .int b, .int c]))] S = .ok (.d (.bl (decide (a * c < b * b)))) S := by
      simp [den, R.bind, ixD, items, atI, ixN, bin_mul, m1, m2, cmp_gt]
    rw [runs_ifret t (a := .d (.bl false)) rfl, runs_ret r]
    show _ = Fl.rt (A.d (.bl (decide (Nat.gcd (Nat.gcd a.natAbs b.natAbs) c.natAbs = 1) && decide (a * c < b * b)))) S
    cases decide (Nat.gcd (Nat.gcd a.natAbs b.natAbs) c.natAbs = 1) <;> rfl
theorem is_kind_ok (x : Bn.D) (h : nc x) (S : List Cell) : m_is_kind [.d x] S = .ok (.d (.bl (isK x))) S :=
  defR_rt (runs_ret (T := T_is_kind) (e := .call 0 (.cons (.var 0) .nil)) (calls (fn := ⟨"is_kind_by", ["value"], m_is_kind_by⟩) (as := [x]) rfl rfl rfl (is_kind_by_ok x h [])))
theorem law_kind_ok (x : Bn.D) (h : nc x) (S : List Cell) : m__law_is_kind [.d x] S = .ok (.d (.bl (isK x))) S := by
  cases x with
  | tup l =>
    have t := no_tuple (T := T__law_is_kind) (env := [some (.d (.tup l)), none]) (S := S) (c := 0) (i := 1) (j := 0) (n := 3) (own := [("_law_each", 1)]) (fn := ⟨"_law_is_whole", ["_law_x"], m__law_is_whole⟩) (p := isW) rfl rfl rfl (tup_len h) (by simp) fun x hx => law_is_whole_ok x (nc_plain (ncAll_mem h.2 x hx)) []
    refine defR_rt (b := b__law_is_kind) ?_
    show Bn.runs T__law_is_kind b__law_is_kind [some (.d (.tup l)), none] S = _
    unfold b__law_is_kind
    rw [runs_ifret t (a := .d (.bl false)) rfl]
    have ea : (false || (!decide ((l.length : Int) = 3) || !l.all isW)) = !areW 3 (.tup l) := by
      show _ = !(decide ((l.length : Int) = 3) && l.all isW)
      cases decide ((l.length : Int) = 3) <;> cases l.all isW <;> rfl
    rw [ea]
    cases e : areW 3 (.tup l) with
    | false =>
      rw [isK_off e]
      rfl
    | true =>
      obtain ⟨a, b, c, el⟩ := areW3 e
      cases el
      have c1 : den T__law_is_kind (.call 1 (.cons (.ix (.var 0) (.k (.int 0))) (.cons (.ix (.var 0) (.k (.int 1))) .nil))) [some (.d (.tup [.int a, .int b, .int c])), none] S = .ok (.d (.int ((Nat.gcd a.natAbs b.natAbs : Nat) : Int))) S :=
        calls (fn := ⟨"_law_divisor", ["_law_a", "_law_b"], m__law_divisor⟩) (as := [.int a, .int b]) rfl rfl rfl (divisor_ok a b [])
      have c2 : den T__law_is_kind (.call 1 (.cons (.call 1 (.cons (.ix (.var 0) (.k (.int 0))) (.cons (.ix (.var 0) (.k (.int 1))) .nil))) (.cons (.ix (.var 0) (.k (.int 2))) .nil))) [some (.d (.tup [.int a, .int b, .int c])), none] S = .ok (.d (.int ((Nat.gcd (Nat.gcd a.natAbs b.natAbs) c.natAbs : Nat) : Int))) S := by
        refine calls (fn := ⟨"_law_divisor", ["_law_a", "_law_b"], m__law_divisor⟩) (as := [.int ((Nat.gcd a.natAbs b.natAbs : Nat) : Int), .int c]) rfl rfl ?_ (divisor_ok _ c [])
        rw [denEs, c1]
        rfl
      have m1 := mul2 h.2.2.1 h.2.2.1
      have m2 := mul2 h.2.1 h.2.2.2.1
      have r : den T__law_is_kind (.cmp .Gt (.bin .Mult (.ix (.var 0) (.k (.int 1))) (.ix (.var 0) (.k (.int 1)))) (.bin .Mult (.ix (.var 0) (.k (.int 0))) (.ix (.var 0) (.k (.int 2))))) [some (.d (.tup [.int a, .int b, .int c])), none] S = .ok (.d (.bl (decide (a * c < b * b)))) S := by
        simp [den, R.bind, ixD, items, atI, ixN, bin_mul, m1, m2, cmp_gt]
      refine (runs_ret (andc (b := decide (Nat.gcd (Nat.gcd a.natAbs b.natAbs) c.natAbs = 1)) ?_ fun _ => and1 r))
      rw [den, c2, R.bind_ok, den, R.bind_ok, cmpD_eq_int, nat1]
  | obj _ _ => exact h.elim
  | _ => rfl
end K02
namespace K02
open PySem L2 Bn
def areR (l : List Bn.D) : Bool := decide ((l.length : Int) = 3) && l.all isR
/-- the numbers of a gap -/
def gapN (a b c d e f : Int) : Bool := (decide (0 ≤ a) && decide (0 ≤ e)) && (!(decide (a = 0) && decide (e = 0)) && decide (c * c * b * f ≤ a * e * d * d))
def gapL : List Bn.D → Bool
  | [.tup [.int a, .int b], .tup [.int c, .int d], .tup [.int e, .int f]] => gapN a b c d e f
  | _ => false
def isG : Bn.D → Bool
  | .tup l => areR l && gapL l
  | _ => false
theorem areR_of {l : List Bn.D} (h : areR l = true) : ∃ a b c d e f, l = [.tup [.int a, .int b], .tup [.int c, .int d], .tup [.int e, .int f]] ∧ 0 < b ∧ 0 < d ∧ 0 < f ∧ Nat.gcd a.natAbs b.natAbs = 1 ∧ Nat.gcd e.natAbs f.natAbs = 1 := by
  unfold areR at h
  simp only [Bool.and_eq_true, decide_eq_true_eq] at h
  rcases l with _ | ⟨p, _ | ⟨q, _ | ⟨r, _ | ⟨s, l⟩⟩⟩⟩
  · simp at h
  · simp at h
  · simp at h
  · simp only [List.all_cons, List.all_nil, Bool.and_true, Bool.and_eq_true] at h
    obtain ⟨_, a, b, rfl, h1, g1⟩ := isR_areW h.2.1
    obtain ⟨_, c, d, rfl, h2, _⟩ := isR_areW h.2.2.1
    obtain ⟨_, e, f, rfl, h3, g3⟩ := isR_areW h.2.2.2
    exact ⟨a, b, c, d, e, f, rfl, h1, h2, h3, g1, g3⟩
  · have := h.1
    simp only [List.length_cons] at this
    omega
theorem no_eq (l : List Bn.D) : (false || (!decide ((l.length : Int) = 3) || !l.all isR)) = !areR l := by
  show _ = !(decide ((l.length : Int) = 3) && l.all isR)
  cases decide ((l.length : Int) = 3) <;> cases l.all isR <;> rfl
theorem law_gap_ok (x : Bn.D) (h : nc x) (S : List Cell) : m__law_is_gap [.d x] S = .ok (.d (.bl (isG x))) S := by
  cases x with
  | tup l =>
    have t := no_tuple (T := T__law_is_gap) (env := [some (.d (.tup l)), none, none, none, none]) (S := S) (c := 0) (i := 4) (j := 0) (n := 3) (own := [("_law_each", 4)]) (fn := ⟨"_law_is_fraction", ["_law_x"], m__law_is_fraction⟩) (p := isR) rfl rfl rfl (tup_len h) (by simp) fun x hx => law_fraction_ok x (ncAll_mem h.2 x hx) []
    rw [no_eq] at t
    refine defR_rt (b := b__law_is_gap) ?_
    show Bn.runs T__law_is_gap b__law_is_gap [some (.d (.tup l)), none, none, none, none] S = Fl.rt (A.d (.bl (areR l && gapL l))) S
    unfold b__law_is_gap
    rw [runs_ifret t (a := .d (.bl false)) rfl]
    cases ea : areR l with
    | false => rfl
    | true =>
      obtain ⟨a, b, c, d, e, f, rfl, hb, hd, hf, _, _⟩ := areR_of ea
      have na : sm 200 a := h.2.1.2.1
      have nb : sm 200 b := h.2.1.2.2.1
      have ncc : sm 200 c := h.2.2.1.2.1
      have nd : sm 200 d := h.2.2.1.2.2.1
      have ne : sm 200 e := h.2.2.2.1.2.1
      have nf : sm 200 f := h.2.2.2.1.2.2.1
      have st : Bn.run T__law_is_gap (.asg (.tp [.nm 1, .nm 2, .nm 3]) (.var 0)) [some (.d (.tup [.tup [.int a, .int b], .tup [.int c, .int d], .tup [.int e, .int f]])), none, none, none, none] S =
          .nx [some (.d (.tup [.tup [.int a, .int b], .tup [.int c, .int d], .tup [.int e, .int f]])), some (.d (.tup [.int a, .int b])), some (.d (.tup [.int c, .int d])), some (.d (.tup [.int e, .int f])), none] S := by
        simp [Bn.run, den, R.fl, asgT, asgTs, R.bind]
      have t2 : den T__law_is_gap (.bop false (.cons (.cmp .Lt (.ix (.var 1) (.k (.int 0))) (.k (.int 0))) (.cons (.cmp .Lt (.ix (.var 3) (.k (.int 0))) (.k (.int 0))) (.cons (.cmp .Eq (.bin .Add (.ix (.var 1) (.k (.int 0))) (.ix (.var 3) (.k (.int 0)))) (.k (.int 0))) .nil))))
          [some (.d (.tup [.tup [.int a, .int b], .tup [.int c, .int d], .tup [.int e, .int f]])), some (.d (.tup [.int a, .int b])), some (.d (.tup [.int c, .int d])), some (.d (.tup [.int e, .int f])), none] S = .ok (.d (.bl (decide (a < 0) || (decide (e < 0) || decide (a + e = 0))))) S := by
        refine orc rfl fun _ => orc rfl fun _ => and1 ?_
        simp [den, R.bind, ixD, items, atI, ixN, bin_add, cmpD_eq_int]
      have m1 : mulOk c c = true := mul2 ncc ncc
      have m2 : mulOk (c * c) b = true := mulOk_sm (sm_mul ncc ncc) nb (by decide)
      have m3 : mulOk (c * c * b) f = true := mulOk_sm (sm_mul (sm_mul ncc ncc) nb) nf (by decide)
      have m4 : mulOk a e = true := mul2 na ne
      have m5 : mulOk (a * e) d = true := mulOk_sm (sm_mul na ne) nd (by decide)
      have m6 : mulOk (a * e * d) d = true := mulOk_sm (sm_mul (sm_mul na ne) nd) nd (by decide)
      have r : den T__law_is_gap (.cmp .LtE (.bin .Mult (.bin .Mult (.bin .Mult (.ix (.var 2) (.k (.int 0))) (.ix (.var 2) (.k (.int 0)))) (.ix (.var 1) (.k (.int 1)))) (.ix (.var 3) (.k (.int 1)))) (.bin .Mult (.bin .Mult (.bin .Mult (.ix (.var 1) (.k (.int 0))) (.ix (.var 3) (.k (.int 0)))) (.ix (.var 2) (.k (.int 1)))) (.ix (.var 2) (.k (.int 1)))))
          [some (.d (.tup [.tup [.int a, .int b], .tup [.int c, .int d], .tup [.int e, .int f]])), some (.d (.tup [.int a, .int b])), some (.d (.tup [.int c, .int d])), some (.d (.tup [.int e, .int f])), none] S = .ok (.d (.bl (decide (c * c * b * f ≤ a * e * d * d)))) S := by
        simp [den, R.bind, ixD, items, atI, ixN, bin_mul, m1, m2, m3, m4, m5, m6, cmp_le]
      show Bn.runs T__law_is_gap _ _ S = _
      rw [runs_cons st, runs_ifret t2 (a := .d (.bl false)) rfl, runs_ret r]
      show _ = Fl.rt (A.d (.bl (gapN a b c d e f))) S
      unfold gapN
      by_cases h1 : a < 0
      · rw [decide_eq_true h1, decide_eq_false (show ¬ 0 ≤ a by omega)]
        rfl
      · rw [decide_eq_false h1, decide_eq_true (show 0 ≤ a by omega)]
        by_cases h2 : e < 0
        · rw [decide_eq_true h2, decide_eq_false (show ¬ 0 ≤ e by omega)]
          rfl
        · rw [decide_eq_false h2, decide_eq_true (show 0 ≤ e by omega)]
          by_cases h3 : a + e = 0
          · rw [decide_eq_true h3, decide_eq_true (show a = 0 by omega), decide_eq_true (show e = 0 by omega)]
            rfl
          · rw [decide_eq_false h3]
            have : (decide (a = 0) && decide (e = 0)) = false := by
              rw [Bool.and_eq_false_iff]
              by_cases h4 : a = 0
              · exact .inr (decide_eq_false (by omega))
              · exact .inl (decide_eq_false h4)
            rw [this]
            rfl
  | obj _ _ => exact h.elim
  | _ => rfl
/-! ### the program's own way -/
def isN : Bn.D → Bool
  | .tup [.int a, .int b] => isR (.tup [.int a, .int b]) && decide (0 ≤ a)
  | _ => false
theorem nought_ok {a b : Int} (h : isR (.tup [.int a, .int b]) = true) (n : nc (.tup [.int a, .int b])) (S : List Cell) : m_is_from_nought [.d (.tup [.int a, .int b])] S = .ok (.d (.bl (decide (0 ≤ a)))) S := by
  have c1 : den T_is_from_nought (.call 0 (.cons (.var 0) .nil)) [some (.d (.tup [.int a, .int b]))] S = .ok (.d (.bl (isR (.tup [.int a, .int b])))) S :=
    calls (fn := ⟨"is_ratio", ["value"], m_is_ratio⟩) (as := [.tup [.int a, .int b]]) rfl rfl rfl (is_ratio_ok _ n [])
  rw [h] at c1
  exact defR_rt (runs_ret (T := T_is_from_nought) (andc (b := true) c1 fun _ => and1 rfl))
theorem eqv2 (a b c d : Int) : PyData.eqv (.tuple [.int a, .int b]) (.tuple [.int c, .int d]) = (decide (a = c) && decide (b = d)) := by
  have e1 := eqv_int a c
  have e2 := eqv_int b d
  simp only [PyData.eqv] at e1 e2 ⊢
  simp only [PyData.eqvAll, PyData.eqv, e1, e2, Bool.and_true]
theorem cmp2 (a b c d : Int) (S : List Cell) : cmpD .Eq (.d (.tup [.int a, .int b])) (.d (.tup [.int c, .int d])) S = .ok (.d (.bl (decide (a = c) && decide (b = d)))) S := by
  have e1 : eqOk (.tup [.int a, .int b]) = true := rfl
  have e2 : eqOk (.tup [.int c, .int d]) = true := rfl
  simp only [cmpD, cmpE, dataD, e1, e2, Bool.and_self, if_true, D.py, pyAll, eqv2]
theorem lowest2_ok {n m : Int} (hm : 0 < m) (sn : sm 400 n) (sm' : sm 400 m) (S : List Cell) : ∃ x y g : Int, 0 < g ∧ n = g * x ∧ m = g * y ∧ sm 400 x ∧ sm 400 y ∧ m_ratio [.d (.int n), .d (.int m)] S = .ok (.d (.tup [.int x, .int y])) S := by
  let g : Nat := Nat.gcd n.natAbs m.natAbs
  have hg : 0 < g := Nat.gcd_pos_of_pos_right _ (by omega)
  have hgi : (0 : Int) ≤ (g : Int) := by omega
  have gl : g ≤ m.natAbs := Nat.gcd_le_right _ (by omega)
  have sg : sm 8000 (g : Int) := sm_mono (sm_le sm' (by simpa using gl)) (by decide)
  have q1 : divOk n (g : Int) = true := divOk_sm sg (by omega)
  have q2 : divOk m (g : Int) = true := divOk_sm sg (by omega)
  have v1 : (g : Int) ∣ n := Int.ofNat_dvd_left.mpr (Nat.gcd_dvd_left _ _)
  have v2 : (g : Int) ∣ m := Int.ofNat_dvd_left.mpr (Nat.gcd_dvd_right _ _)
  refine ⟨n.fdiv g, m.fdiv g, g, by omega, ?_, ?_, sm_le sn (natAbs_fdiv hgi), sm_le sm' (natAbs_fdiv hgi), ?_⟩
  · rw [Int.fdiv_eq_ediv_of_nonneg _ hgi]
    exact (Int.mul_ediv_cancel' v1).symm
  · rw [Int.fdiv_eq_ediv_of_nonneg _ hgi]
    exact (Int.mul_ediv_cancel' v2).symm
  · have low : m_lowest [.d (.tup [.int n, .int m])] [] = .ok (.d (.tup [.int (n.fdiv g), .int (m.fdiv g)])) [] := by
      have c1 : den T_lowest (.call 0 (.cons (.var 0) .nil)) [some (.d (.tup [.int n, .int m])), none, none] [] = .ok (.d (.int (g : Int))) [] :=
        calls (fn := ⟨"divisor_of", ["numbers"], m_divisor_of⟩) (as := [.tup [.int n, .int m]]) rfl rfl rfl (div2_ok n m [])
      refine defR_rt (b := b_lowest) ?_
      show Bn.runs T_lowest b_lowest [some (.d (.tup [.int n, .int m])), none, none] [] = _
      unfold b_lowest
      rw [runs_set c1]
      refine runs_ret ?_
      have cp := den_comp (T := T_lowest) (elt := .bin .FloorDiv (.var 2) (.var 1)) (i := 2) (own := [("number", 2)]) (it := .seq true (.var 0)) (env := [some (.d (.tup [.int n, .int m])), some (.d (.int (g : Int))), none]) (S := []) (S' := []) (xs := [.int n, .int m])
        (f := fun x => match x with | .int i => .int (i.fdiv g) | y => y) rfl (by show 2 ≤ LIM; decide) (fun x hx => by
          simp only [List.mem_cons, List.not_mem_nil, or_false] at hx
          rcases hx with rfl | rfl
          · simp [wipeE, den, R.bind, bin_fdiv, q1]
          · simp [wipeE, den, R.bind, bin_fdiv, q2])
      show den T_lowest (.bi .tuple (.cons _ .nil)) [some (.d (.tup [.int n, .int m])), some (.d (.int (g : Int))), none] [] = _
      rw [bi1 cp]
      rfl
    have cl : den T_ratio (.call 0 (.cons (.tup (.cons (.var 0) (.cons (.var 1) .nil))) .nil)) [some (.d (.int n)), some (.d (.int m))] S = .ok (.d (.tup [.int (n.fdiv g), .int (m.fdiv g)])) S :=
      calls (fn := ⟨"lowest", ["numbers"], m_lowest⟩) (as := [.tup [.int n, .int m]]) rfl rfl rfl low
    refine defR_rt (b := b_ratio) ?_
    show Bn.runs T_ratio b_ratio [some (.d (.int n)), some (.d (.int m))] S = _
    unfold b_ratio
    refine runs_ret ?_
    rw [den]
    have t : den T_ratio (.cmp .Gt (.var 1) (.k (.int 0))) [some (.d (.int n)), some (.d (.int m))] S = .ok (.d (.bl true)) S := by
      rw [show true = decide (0 < m) from (decide_eq_true hm).symm]
      rfl
    rw [t, R.bind_ok]
    exact cl
end K02
namespace K02
open PySem L2 Bn
theorem below_iff {n m x y g u v : Int} (hg : 0 < g) (e1 : n = g * x) (e2 : m = g * y) : (x * v < u * y) ↔ (n * v < u * m) := by
  subst e1 e2
  have q1 : g * x * v = g * (x * v) := Int.mul_assoc g x v
  have q2 : u * (g * y) = g * (u * y) := by
    rw [← Int.mul_assoc, Int.mul_comm u g, Int.mul_assoc]
  rw [q1, q2]
  exact (Int.mul_lt_mul_left hg).symm
theorem is_gap_by_ok (x : Bn.D) (h : nc x) (S : List Cell) : m_is_gap_by [.d x] S = .ok (.d (.bl (isG x))) S := by
  cases x with
  | tup l =>
    have t := no_tuple (T := T_is_gap_by) (env := [some (.d (.tup l)), none]) (S := S) (c := 0) (i := 1) (j := 0) (n := 3) (own := [("each", 1)]) (fn := ⟨"is_ratio", ["value"], m_is_ratio⟩) (p := isR) rfl rfl rfl (tup_len h) (by simp) fun x hx => is_ratio_ok x (ncAll_mem h.2 x hx) []
    rw [no_eq] at t
    refine defR_rt (b := b_is_gap_by) ?_
    show Bn.runs T_is_gap_by b_is_gap_by [some (.d (.tup l)), none] S = Fl.rt (A.d (.bl (areR l && gapL l))) S
    unfold b_is_gap_by
    rw [runs_ifret t (a := .d (.bl false)) rfl]
    cases ea : areR l with
    | false => rfl
    | true =>
      have all := ea
      obtain ⟨a, b, c, d, e, f, rfl, hb, hd, hf, g1, g3⟩ := areR_of ea
      have rp : isR (.tup [.int a, .int b]) = true := by simp [isR, hb, g1]
      have rr : isR (.tup [.int e, .int f]) = true := by simp [isR, hf, g3]
      have na : sm 200 a := h.2.1.2.1
      have nb : sm 200 b := h.2.1.2.2.1
      have ncc : sm 200 c := h.2.2.1.2.1
      have nd : sm 200 d := h.2.2.1.2.2.1
      have ne : sm 200 e := h.2.2.2.1.2.1
      have nf : sm 200 f := h.2.2.2.1.2.2.1
      let env : Bn.Env := [some (.d (.tup [.tup [.int a, .int b], .tup [.int c, .int d], .tup [.int e, .int f]])), none]
      have n1 : den T_is_gap_by (.call 1 (.cons (.ix (.var 0) (.k (.int 0))) .nil)) env S = .ok (.d (.bl (decide (0 ≤ a)))) S :=
        calls (fn := ⟨"is_from_nought", ["value"], m_is_from_nought⟩) (as := [.tup [.int a, .int b]]) rfl rfl rfl (nought_ok rp h.2.1 [])
      have n2 : den T_is_gap_by (.call 1 (.cons (.ix (.var 0) (.k (.int 2))) .nil)) env S = .ok (.d (.bl (decide (0 ≤ e)))) S :=
        calls (fn := ⟨"is_from_nought", ["value"], m_is_from_nought⟩) (as := [.tup [.int e, .int f]]) rfl rfl rfl (nought_ok rr h.2.2.2.1 [])
      have z1 : den T_is_gap_by (.cmp .Eq (.ix (.var 0) (.k (.int 0))) (.con 0)) env S = .ok (.d (.bl (decide (a = 0)))) S := by
        have q : (decide (a = 0) && decide (b = 1)) = decide (a = 0) := by
          by_cases z : a = 0
          · subst z
            have : b = 1 := by
              simp at g1
              omega
            simp [this]
          · simp [z]
        rw [← q]
        exact cmp2 a b 0 1 S
      have z2 : den T_is_gap_by (.cmp .Eq (.ix (.var 0) (.k (.int 2))) (.con 0)) env S = .ok (.d (.bl (decide (e = 0)))) S := by
        have q : (decide (e = 0) && decide (f = 1)) = decide (e = 0) := by
          by_cases z : e = 0
          · subst z
            have : f = 1 := by
              simp at g3
              omega
            simp [this]
          · simp [z]
        rw [← q]
        exact cmp2 e f 0 1 S
      have t2 : den T_is_gap_by (.bop false (.cons (.not_ (.call 1 (.cons (.ix (.var 0) (.k (.int 0))) .nil))) (.cons (.not_ (.call 1 (.cons (.ix (.var 0) (.k (.int 2))) .nil))) (.cons (.bop true (.cons (.cmp .Eq (.ix (.var 0) (.k (.int 0))) (.con 0)) (.cons (.cmp .Eq (.ix (.var 0) (.k (.int 2))) (.con 0)) .nil))) .nil))))
          env S = .ok (.d (.bl (!decide (0 ≤ a) || (!decide (0 ≤ e) || (decide (a = 0) && decide (e = 0)))))) S :=
        orc (notc n1) fun _ => orc (notc n2) fun _ => and1 (andc z1 fun _ => and1 z2)
      obtain ⟨x, y, g, hg, e1, e2, sx, sy, lo⟩ := lowest2_ok (n := a * e) (m := b * f) (Int.mul_pos hb hf) (sm_mul na ne) (sm_mul nb nf) []
      have tm : m_times [.d (.tup [.int a, .int b]), .d (.tup [.int e, .int f])] [] = .ok (.d (.tup [.int x, .int y])) [] := by
        have q := callD_data (mir := m_ratio) (as := [.int (a * e), .int (b * f)]) (S := []) lo
        have m1 := mul2 na ne
        have m2 := mul2 nb nf
        simp only [List.map_cons, List.map_nil] at q
        simp [m_times, defR, start0, b_times, Bn.runs, Bn.run, R.fl, den, denEs, R.bind, ixD, items, atI, ixN, bin_mul, m1, m2, callK, T_times, q]
      have sq : m_squared [.d (.tup [.int c, .int d])] [] = .ok (.d (.tup [.int (c * c), .int (d * d)])) [] := by
        have m1 := mul2 ncc ncc
        have m2 := mul2 nd nd
        simp [m_squared, defR, start0, b_squared, Bn.runs, Bn.run, R.fl, den, denEs, R.bind, ixD, items, atI, ixN, bin_mul, m1, m2, tupK, toDs, LIM]
      have bl : m_is_below [.d (.tup [.int x, .int y]), .d (.tup [.int (c * c), .int (d * d)])] [] = .ok (.d (.bl (decide (x * (d * d) < c * c * y)))) [] := by
        have m1 : mulOk x (d * d) = true := mulOk_sm sx (sm_mul nd nd) (by decide)
        have m2 : mulOk (c * c) y = true := mulOk_sm (sm_mul ncc ncc) sy (by decide)
        simp [m_is_below, defR, start0, b_is_below, Bn.runs, Bn.run, R.fl, den, denEs, R.bind, ixD, items, atI, ixN, bin_mul, m1, m2, cmp_lt]
      have c4 : den T_is_gap_by (.call 4 (.cons (.ix (.var 0) (.k (.int 0))) (.cons (.ix (.var 0) (.k (.int 2))) .nil))) env S = .ok (.d (.tup [.int x, .int y])) S :=
        calls (fn := ⟨"times", ["one", "two"], m_times⟩) (as := [.tup [.int a, .int b], .tup [.int e, .int f]]) rfl rfl rfl tm
      have c3 : den T_is_gap_by (.call 3 (.cons (.ix (.var 0) (.k (.int 1))) .nil)) env S = .ok (.d (.tup [.int (c * c), .int (d * d)])) S :=
        calls (fn := ⟨"squared", ["one"], m_squared⟩) (as := [.tup [.int c, .int d]]) rfl rfl rfl sq
      have c2 : den T_is_gap_by (.call 2 (.cons (.call 4 (.cons (.ix (.var 0) (.k (.int 0))) (.cons (.ix (.var 0) (.k (.int 2))) .nil))) (.cons (.call 3 (.cons (.ix (.var 0) (.k (.int 1))) .nil)) .nil))) env S = .ok (.d (.bl (decide (x * (d * d) < c * c * y)))) S := by
        refine calls (fn := ⟨"is_below", ["one", "two"], m_is_below⟩) (as := [.tup [.int x, .int y], .tup [.int (c * c), .int (d * d)]]) rfl rfl ?_ bl
        rw [denEs, c4, R.bind_ok, denEs, c3, R.bind_ok]
        rfl
      show Bn.runs T_is_gap_by _ env S = _
      rw [runs_ifret t2 (a := .d (.bl false)) rfl, runs_ret (notc c2)]
      have fin : (!decide (x * (d * d) < c * c * y)) = decide (c * c * b * f ≤ a * e * d * d) := by
        have q := below_iff (u := c * c) (v := d * d) hg e1 e2
        have r1 : a * e * (d * d) = a * e * d * d := (Int.mul_assoc _ _ _).symm
        have r2 : c * c * (b * f) = c * c * b * f := (Int.mul_assoc _ _ _).symm
        rw [r1, r2] at q
        by_cases z : x * (d * d) < c * c * y
        · rw [decide_eq_true z, decide_eq_false (by have := q.mp z; omega)]
          rfl
        · rw [decide_eq_false z, decide_eq_true (by have := fun w => z (q.mpr w); omega)]
          rfl
      rw [fin]
      show _ = Fl.rt (A.d (.bl (gapN a b c d e f))) S
      unfold gapN
      cases decide (0 ≤ a) <;> cases decide (0 ≤ e) <;> cases (decide (a = 0) && decide (e = 0)) <;> rfl
  | obj _ _ => exact h.elim
  | _ => rfl
theorem is_gap_ok (x : Bn.D) (h : nc x) (S : List Cell) : m_is_gap [.d x] S = .ok (.d (.bl (isG x))) S :=
  defR_rt (runs_ret (T := T_is_gap) (e := .call 0 (.cons (.var 0) .nil)) (calls (fn := ⟨"is_gap_by", ["value"], m_is_gap_by⟩) (as := [x]) rfl rfl rfl (is_gap_by_ok x h [])))
end K02
namespace K02
open PySem L2 Bn
/-! ### the well's making -/
theorem well_ok {ns : List Int} {t : Int} (h0 : 0 ≤ t) (h3 : t < 3) : ∃ l, Well 900000 l ∧ m__law_well [.d (.scr ns), .d (.int t)] [] = .ok (.c 0) [.lst (l.map A.d)] := by
  have m1 : mulOk 8191 t = true := mul1 (by omega) (by omega)
  have m2 : mulOk 6007 t = true := mul1 (by omega) (by omega)
  obtain ⟨own, c1⟩ : ∃ own : Int, den T__law_well (.ite (.cmp .Lt (.var 1) (.bi .len (.cons (.var 0) .nil))) (.bi .int1 (.cons (.ix (.var 0) (.var 1)) .nil)) (.bin .Add (.bin .Mult (.k (.int 8191)) (.var 1)) (.k (.int 523)))) [some (.d (.scr ns)), some (.d (.int t)), none, none, none] [] = .ok (.d (.int own)) [] := by
    have q : den T__law_well (.cmp .Lt (.var 1) (.bi .len (.cons (.var 0) .nil))) [some (.d (.scr ns)), some (.d (.int t)), none, none, none] [] = .ok (.d (.bl (decide (t < (ns.length : Int))))) [] := by
      simp [den, denEs, R.bind, biD, one, lenD, items, cmp_lt]
    by_cases ht : t < (ns.length : Int)
    · have hn : t.toNat < ns.length := by omega
      refine ⟨ns[t.toNat], ?_⟩
      rw [den, q, R.bind_ok, decide_eq_true ht]
      simp [ifK, den, denEs, R.bind, biD, one, intD, ixD, items, atI, ixN, h0, ht, List.getElem?_eq_getElem hn]
    · refine ⟨8191 * t + 523, ?_⟩
      rw [den, q, R.bind_ok, decide_eq_false ht]
      simp [ifK, den, denEs, R.bind, bin_mul, m1, bin_add]
  have c2 : den T__law_well (.bin .Add (.k (.int 79021)) (.bin .Mult (.k (.int 6007)) (.var 1))) [some (.d (.scr ns)), some (.d (.int t)), some (.d (.int own)), none, none] [] = .ok (.d (.int (79021 + 6007 * t))) [] := by
    simp [den, R.bind, bin_mul, m2, bin_add]
  obtain ⟨vs, ev⟩ : ∃ vs : List Int, cutL (ns.map Bn.D.int) none (some 8) = vs.map Bn.D.int := by
    refine ⟨(ns.drop (HT.sIx ns.length 0 none)).take (HT.sIx ns.length ns.length (some 8) - HT.sIx ns.length 0 none), ?_⟩
    simp only [cutL, List.length_map, List.map_take, List.map_drop]
  obtain ⟨s', x4', g0, g1, e⟩ := mix_loop (T := T__law_well) (p := 60013) (q := 1000000007) (r := 30011) (c := 19) (M := 2147483629) (by omega) (by omega) (by omega) (by omega) (by omega) (by omega) [] (some (.d (.scr ns))) (some (.d (.int t))) (some (.d (.int own))) vs (79021 + 6007 * t) none (by omega) (by omega)
  obtain ⟨s2, k0, k1, c3⟩ := mix_ok (T := T__law_well) (env := [some (.d (.scr ns)), some (.d (.int t)), some (.d (.int own)), some (.d (.int s')), x4']) (S := []) (i := 3) (j := 2) (p := 127) (q := 2147483587) (r := 51503) (c := 7) (M := 2147483629) rfl rfl (by omega) (by omega) (by omega) (by omega) (by omega) g0 g1
  have p1 : powOk 10 18 = true := by decide
  obtain ⟨a, ea, ha⟩ : ∃ a : Int, (if (10 : Int) ^ 18 ≤ (own.natAbs : Int) then (own.natAbs : Int) else 0) = a ∧ 0 ≤ a := by
    refine ⟨_, rfl, ?_⟩
    split <;> omega
  refine ⟨[.int a, .int s2, .int 0], ⟨_, _, _, rfl, ha, k0, k1, by omega, by omega⟩, ?_⟩
  have lp : Bn.run T__law_well (.forr (.nm 4) (.seq true (.sl (.var 0) .no (.so (.k (.int 8))))) (.cons (.set 3 (.bin .Mod (.bi .int1 (.cons (.bin .Add (.bin .Add (.bin .Mult (.var 3) (.k (.int 60013))) (.bin .Mult (.bin .Mod (.bi .int1 (.cons (.var 4) .nil)) (.k (.int 1000000007))) (.k (.int 30011)))) (.k (.int 19))) .nil)) (.k (.int 2147483629)))) .nil))
      [some (.d (.scr ns)), some (.d (.int t)), some (.d (.int own)), some (.d (.int (79021 + 6007 * t))), none] [] = .nx [some (.d (.scr ns)), some (.d (.int t)), some (.d (.int own)), some (.d (.int s')), x4'] [] := by
    have it : denI T__law_well (.seq true (.sl (.var 0) .no (.so (.k (.int 8))))) [some (.d (.scr ns)), some (.d (.int t)), some (.d (.int own)), some (.d (.int (79021 + 6007 * t))), none] [] = .ok (vs.map fun v => .d (.int v)) [] := by
      simp [denI, den, denO, R.bind, intK, slD, ev, seqK, seqL, optR, Function.comp_def]
    simp only [Bn.run, it, R.fl]
    exact e
  refine defR_rt (b := b__law_well) ?_
  show Bn.runs T__law_well b__law_well [some (.d (.scr ns)), some (.d (.int t)), none, none, none] [] = _
  unfold b__law_well
  rw [runs_set c1]
  show Bn.runs T__law_well _ [some (.d (.scr ns)), some (.d (.int t)), some (.d (.int own)), none, none] [] = _
  rw [runs_set c2]
  show Bn.runs T__law_well _ [some (.d (.scr ns)), some (.d (.int t)), some (.d (.int own)), some (.d (.int (79021 + 6007 * t))), none] [] = _
  rw [Bn.runs_cons lp, runs_set c3]
  simp only [List.set_cons_succ, List.set_cons_zero]
  refine runs_ret ?_
  have c4 : den T__law_well (.ite (.cmp .GtE (.bi .abs (.cons (.var 2) .nil)) (.bin .Pow (.k (.int 10)) (.k (.int 18)))) (.bi .abs (.cons (.var 2) .nil)) (.k (.int 0))) [some (.d (.scr ns)), some (.d (.int t)), some (.d (.int own)), some (.d (.int s2)), x4'] [] = .ok (.d (.int a)) [] := by
    have q : den T__law_well (.cmp .GtE (.bi .abs (.cons (.var 2) .nil)) (.bin .Pow (.k (.int 10)) (.k (.int 18)))) [some (.d (.scr ns)), some (.d (.int t)), some (.d (.int own)), some (.d (.int s2)), x4'] [] = .ok (.d (.bl (decide ((10 : Int) ^ 18 ≤ (own.natAbs : Int))))) [] := by
      simp [den, denEs, R.bind, biD, one, absD, abs_eq, binD, binI, p1, okD, cmp_ge]
    rw [den, q, R.bind_ok, ← ea]
    by_cases hz : (10 : Int) ^ 18 ≤ (own.natAbs : Int)
    · rw [decide_eq_true hz, if_pos hz]
      simp [ifK, den, denEs, R.bind, biD, one, absD, abs_eq]
    · rw [decide_eq_false hz, if_neg hz]
      simp [ifK, den]
  rw [den, denEs, c4, R.bind_ok]
  simp [den, denEs, R.bind, lstcK, LIM]
end K02
namespace K02
open PySem L2 Bn
def envR (K G N rim : Bn.D) (x6 : Option A) : Bn.Env := [some (.c 0), some (.d K), some (.d G), some (.d N), some (.d rim), some (.c 1), x6, none, none]
def allnc (l : List Bn.D) : Prop := ∀ x ∈ l, nc x
theorem allnc_app {l : List Bn.D} {x : Bn.D} (h : allnc l) (hx : nc x) : allnc (l ++ [x]) := fun y hy => by
  rcases List.mem_append.mp hy with z | z
  · exact h y z
  · rw [List.mem_singleton.mp z]
    exact hx
theorem app_bent {k : Nat} {K G N rim v : Bn.D} {x6 : Option A} {l vals : List Bn.D} {i : Nat} (h : Well (k + 4) l) (hv : V3 v) (hi : (envR K G N rim x6)[i]? = some (some (.d v))) (hn : allnc vals) (hl : vals.length < 1000) :
    ∃ l' x, Well k l' ∧ nc x ∧ Bn.run T__law_right (.app 5 (.call 5 (.cons (.var 0) (.cons (.var i) .nil)))) (envR K G N rim x6) [.lst (l.map A.d), .lst (vals.map A.d)] = .nx (envR K G N rim x6) [.lst (l'.map A.d), .lst ((vals ++ [x]).map A.d)] := by
  obtain ⟨l', x, w, nx, e⟩ := bent_in h hv
  have q := callD_cell2 (n := 0) (as := [v]) (S := [.lst (l.map A.d), .lst (vals.map A.d)]) (more := []) rfl e
  simp only [List.map_cons, List.map_nil, List.set_cons_zero] at q
  have c : den T__law_right (.call 5 (.cons (.var 0) (.cons (.var i) .nil))) (envR K G N rim x6) [.lst (l.map A.d), .lst (vals.map A.d)] = .ok (.d x) [.lst (l'.map A.d), .lst (vals.map A.d)] := by
    have v0 : den T__law_right (.var 0) (envR K G N rim x6) [.lst (l.map A.d), .lst (vals.map A.d)] = .ok (.c 0) [.lst (l.map A.d), .lst (vals.map A.d)] := rfl
    have vi : den T__law_right (.var i) (envR K G N rim x6) [.lst (l.map A.d), .lst (vals.map A.d)] = .ok (.d v) [.lst (l.map A.d), .lst (vals.map A.d)] := by
      rw [den, hi]
    rw [den, denEs, v0, R.bind_ok, denEs, vi, R.bind_ok]
    exact q
  have e5 : (envR K G N rim x6)[5]? = some (some (.c 1)) := rfl
  have hlt : (vals.map A.d).length < LIM := by
    rw [List.length_map]
    exact Nat.lt_trans hl (by decide)
  refine ⟨l', x, w, nx, ?_⟩
  simp only [Bn.run, e5, List.getElem?_cons_succ, List.getElem?_cons_zero, c, R.fl, hlt, if_true, List.set_cons_succ, List.set_cons_zero, List.map_append, List.map_cons, List.map_nil]
abbrev turnB : Ss := .cons (.app 5 (.call 5 (.cons (.var 0) (.cons (.var 1) .nil)))) (.cons (.app 5 (.call 5 (.cons (.var 0) (.cons (.var 2) .nil)))) (.cons (.app 5 (.call 5 (.cons (.var 0) (.cons (.var 3) .nil)))) .nil))
theorem turn_ok {k : Nat} {K G N rim : Bn.D} {x6 : Option A} {l vals : List Bn.D} (h : Well (k + 12) l) (hK : V3 K) (hG : V3 G) (hN : V3 N) (hn : allnc vals) (hl : vals.length < 900) :
    ∃ l' vals', Well k l' ∧ allnc vals' ∧ vals'.length = vals.length + 3 ∧ Bn.runs T__law_right turnB (envR K G N rim x6) [.lst (l.map A.d), .lst (vals.map A.d)] = .nx (envR K G N rim x6) [.lst (l'.map A.d), .lst (vals'.map A.d)] := by
  obtain ⟨l1, y1, w1, n1, e1⟩ := app_bent (k := k + 8) (rim := rim) (x6 := x6) (K := K) (G := G) (N := N) (i := 1) h hK rfl hn (by omega)
  have q1 := allnc_app hn n1
  obtain ⟨l2, y2, w2, n2, e2⟩ := app_bent (k := k + 4) (rim := rim) (x6 := x6) (K := K) (G := G) (N := N) (i := 2) w1 hG rfl q1 (by simp; omega)
  have q2 := allnc_app q1 n2
  obtain ⟨l3, y3, w3, n3, e3⟩ := app_bent (k := k) (rim := rim) (x6 := x6) (K := K) (G := G) (N := N) (i := 3) w2 hN rfl q2 (by simp; omega)
  refine ⟨l3, _, w3, allnc_app q2 n3, by simp, ?_⟩
  rw [Bn.runs_cons e1, Bn.runs_cons e2, Bn.runs_cons e3]
  simp only [Bn.runs]
theorem loop_ok {k : Nat} {K G N rim : Bn.D} {l vals : List Bn.D} (h : Well (k + 48) l) (hK : V3 K) (hG : V3 G) (hN : V3 N) (hn : allnc vals) (hl : vals.length < 100) :
    ∃ l' vals' x6, Well k l' ∧ allnc vals' ∧ vals'.length = vals.length + 12 ∧ Bn.run T__law_right (.forr (.nm 6) (.rng (.k (.int 4))) turnB) (envR K G N rim none) [.lst (l.map A.d), .lst (vals.map A.d)] = .nx (envR K G N rim x6) [.lst (l'.map A.d), .lst (vals'.map A.d)] := by
  obtain ⟨l1, v1, w1, n1, z1, e1⟩ := turn_ok (k := k + 36) (rim := rim) (x6 := some (.d (.int 0))) h hK hG hN hn (by omega)
  obtain ⟨l2, v2, w2, n2, z2, e2⟩ := turn_ok (k := k + 24) (rim := rim) (x6 := some (.d (.int 1))) w1 hK hG hN n1 (by omega)
  obtain ⟨l3, v3, w3, n3, z3, e3⟩ := turn_ok (k := k + 12) (rim := rim) (x6 := some (.d (.int 2))) w2 hK hG hN n2 (by omega)
  obtain ⟨l4, v4, w4, n4, z4, e4⟩ := turn_ok (k := k) (rim := rim) (x6 := some (.d (.int 3))) w3 hK hG hN n3 (by omega)
  refine ⟨l4, v4, some (.d (.int 3)), w4, n4, by omega, ?_⟩
  have it : denI T__law_right (.rng (.k (.int 4))) (envR K G N rim none) [.lst (l.map A.d), .lst (vals.map A.d)] = .ok [.d (.int 0), .d (.int 1), .d (.int 2), .d (.int 3)] [.lst (l.map A.d), .lst (vals.map A.d)] := rfl
  have b : ∀ (x : Option A) (i : Int), bindT (.nm 6) (.d (.int i)) (envR K G N rim x) = some (envR K G N rim (some (.d (.int i)))) := fun x i => rfl
  simp only [Bn.run, it, R.fl, forL, b, e1, e2, e3, e4]
end K02
namespace K02
open PySem L2 Bn
theorem v3_kind {x y z : Int} (hx : sm 100 x) (hy : sm 100 y) (hz : sm 100 z) : V3 (.tup [.int x, .int y, .int z]) :=
  ⟨⟨_, _, _, rfl, sm2 hx, sm2 hy, sm2 hz⟩, fun k l at_ h _ _ => stretchI_ok h hx hy hz⟩
theorem v3_gap {a b c d e f : Int} (ha : sm 100 a) (hb : sm 100 b) (hc : sm 100 c) (hd : sm 100 d) (he : sm 100 e) (hf : sm 100 f) : V3 (.tup [.tup [.int a, .int b], .tup [.int c, .int d], .tup [.int e, .int f]]) := by
  have q : ∀ u v : Int, sm 100 u → sm 100 v → nc (.tup [.int u, .int v]) := fun u v hu hv => ⟨by simp, sm2 hu, sm2 hv, trivial⟩
  exact ⟨⟨_, _, _, rfl, q a b ha hb, q c d hc hd, q e f he hf⟩, fun k l at_ h h0 h3 => stretchP_ok h ha hb hc hd he hf h0 h3⟩
theorem v3_nc {v : Bn.D} (h : V3 v) : nc v := by
  obtain ⟨p, q, r, rfl, hp, hq, hr⟩ := h.is3
  exact nc3 hp hq hr
/-- what the law and the program say of a value -/
def both (v : Bn.D) : Bool × Bool := (isK v, isG v)
theorem told {T : Tab} {env : Bn.Env} {S : List Cell} {vals : List Bn.D} {e1 e2 : E} (h5 : env[5]? = some (some (.d (.lst vals)))) (h8 : 8 < env.length) (hl : vals.length ≤ 1000)
    (h1 : ∀ v ∈ vals, ∀ env' : Bn.Env, env'[8]? = some (some (.d v)) → den T e1 env' S = .ok (.d (.bl (isK v))) S) (h2 : ∀ v ∈ vals, ∀ env' : Bn.Env, env'[8]? = some (some (.d v)) → den T e2 env' S = .ok (.d (.bl (isG v))) S) :
    den T (.comp false (.lst (.cons e1 (.cons e2 .nil))) (.nm 8) [("_law_value", 8)] (.seq true (.var 5)) .no) env S = .ok (.d (.lst ((vals.map both).map pairB))) S := by
  have q := den_comp (T := T) (elt := .lst (.cons e1 (.cons e2 .nil))) (i := 8) (own := [("_law_value", 8)]) (it := .seq true (.var 5)) (env := env) (S := S) (S' := S) (xs := vals) (f := fun v => pairB (both v)) ?_ (Nat.le_trans hl (by decide)) fun v hv => ?_
  · rw [q, List.map_map]
    rfl
  · simp only [denI, den, h5, R.bind, seqK, seqL, optR]
  · have g8 : ((wipeE env ([(("_law_value" : Str), 8)].map (·.2))).set 8 (some (A.d v)))[8]? = some (some (.d v)) := List.getElem?_set_self (by rw [wipeE_len]; exact h8)
    rw [den, denEs, h1 v hv _ g8, R.bind_ok, denEs, h2 v hv _ g8, R.bind_ok]
    rfl
theorem var_den {T : Tab} {env : Bn.Env} {S : List Cell} {i : Nat} {a : A} (h : env[i]? = some (some a)) : den T (.var i) env S = .ok a S := by
  rw [den, h]
theorem call_var {T : Tab} {env : Bn.Env} {S U : List Cell} {i c : Nat} {fn : Fn} {v x : Bn.D} (h : env[i]? = some (some (.d v))) (hf : T.fs[c]? = some fn) (hn : 1 = fn.ps.length) (e : fn.mir [.d v] [] = .ok (.d x) U) : den T (.call c (.cons (.var i) .nil)) env S = .ok (.d x) S := by
  refine calls (as := [v]) hf hn ?_ e
  rw [denEs, var_den h, R.bind_ok]
  rfl
theorem callk_var {T : Tab} {env : Bn.Env} {S U : List Cell} {i c : Nat} {fn : Fn} {v x : Bn.D} (h : env[i]? = some (some (.d v))) (hf : T.fs[c]? = some fn) (hn : fn.ps = (["value"] : List Str)) (e : fn.mir [.d v] [] = .ok (.d x) U) : den T (.callk c .nil ["value"] (.cons (.var i) .nil)) env S = .ok (.d x) S := by
  have q : argsK (["value"] : List Str) ["value"] ([] : List A) [.d v] = [.d v] := by
    simp [argsK]
  rw [den, denEs, R.bind_ok, denEs, var_den h, R.bind_ok, denEs, R.bind_ok, R.bind_ok]
  unfold callkK
  rw [hf]
  simp only [hn, q, Es.len, List.length_nil, List.length_cons, and_self, if_true]
  exact callD_data (as := [v]) e
theorem right_ok {k : Nat} {l : List Bn.D} (h : Well (k + 200) l) : ∃ (l' : List Bn.D) (more : List Cell), m__law_right [.c 0] [.lst (l.map A.d)] = .ok (.d (.bl true)) (.lst (l'.map A.d) :: more) := by
  obtain ⟨l1, x, y, z, w1, sx, sy, sz, e1⟩ := kind_ok (k := k + 196) h
  obtain ⟨l2, gx, gy, gz, w2, b1, b2, b3, e2⟩ := gap_ok (k := k + 193) w1
  obtain ⟨l3, r3, w3, a3, c3, e3⟩ := draw_call (k := k + 192) (m := 12) w2 (by omega) (d1 (by omega))
  obtain ⟨a, b, c, d, e, f, sa, sb, sc, sd, se, sf, e4⟩ := over_ok (x := gx) (y := gy) (z := gz) (m := 1 + r3) (by omega) b1 b2 b3 (by omega) [.lst (l3.map A.d)]
  obtain ⟨l4, a', b', c', d', f1, f2, w4, ta, tb, tc, td, te, tf, e5⟩ := near_ok (k := k + 189) w3
  obtain ⟨l5, r5, w5, a5, c5, e6⟩ := draw_call (k := k + 188) (m := 2) w4 (by omega) (d1 (by omega))
  obtain ⟨K, eK⟩ : ∃ K : Bn.D, K = .tup [.int x, .int y, .int z] := ⟨_, rfl⟩
  obtain ⟨G, eG⟩ : ∃ G : Bn.D, G = .tup [.tup [.int a, .int b], .tup [.int c, .int d], .tup [.int e, .int f]] := ⟨_, rfl⟩
  obtain ⟨N, eN⟩ : ∃ N : Bn.D, N = .tup [.tup [.int a', .int b'], .tup [.int c', .int d'], .tup [.int f1, .int f2]] := ⟨_, rfl⟩
  have vK : V3 K := eK ▸ v3_kind sx sy sz
  have vG : V3 G := eG ▸ v3_gap sa sb sc sd se sf
  have vN : V3 N := eN ▸ v3_gap ta tb tc td te tf
  have z100 : sm 100 (0 : Int) := sm1 (by omega)
  have one100 : sm 100 (1 : Int) := sm1 (by omega)
  have two100 : sm 100 (2 : Int) := sm1 (by omega)
  have s1 : Bn.run T__law_right (.set 1 (.call 0 (.cons (.var 0) .nil))) [some (.c 0), none, none, none, none, none, none, none, none] [.lst (l.map A.d)] = .nx [some (.c 0), some (.d K), none, none, none, none, none, none, none] [.lst (l1.map A.d)] := by
    simp [Bn.run, den, denEs, R.bind, R.fl, callK, T__law_right, e1, eK]
  have s2 : Bn.run T__law_right (.set 2 (.call 1 (.cons (.call 3 (.cons (.var 0) .nil)) (.cons (.bin .Add (.k (.int 1)) (.call 2 (.cons (.var 0) (.cons (.k (.int 12)) .nil)))) .nil)))) [some (.c 0), some (.d K), none, none, none, none, none, none, none] [.lst (l1.map A.d)] =
      .nx [some (.c 0), some (.d K), some (.d G), none, none, none, none, none, none] [.lst (l3.map A.d)] := by
    simp [Bn.run, den, denEs, R.bind, R.fl, callK, T__law_right, e2, e3, bin_add, e4, eG]
  have s3 : Bn.run T__law_right (.set 3 (.call 4 (.cons (.var 0) .nil))) [some (.c 0), some (.d K), some (.d G), none, none, none, none, none, none] [.lst (l3.map A.d)] = .nx [some (.c 0), some (.d K), some (.d G), some (.d N), none, none, none, none, none] [.lst (l4.map A.d)] := by
    simp [Bn.run, den, denEs, R.bind, R.fl, callK, T__law_right, e5, eN]
  obtain ⟨rim, nrim, s4⟩ : ∃ rim, nc rim ∧ Bn.run T__law_right (.set 4 (.ite (.cmp .Eq (.call 2 (.cons (.var 0) (.cons (.k (.int 2)) .nil))) (.k (.int 0))) (.tup (.cons (.ix (.var 1) (.k (.int 0))) (.cons (.ix (.var 1) (.k (.int 1))) (.cons (.k (.int 0)) .nil)))) (.tup (.cons (.ix (.var 1) (.k (.int 0))) (.cons (.bin .Add (.ix (.var 1) (.k (.int 0))) (.k (.int 1))) (.cons (.bin .Add (.ix (.var 1) (.k (.int 0))) (.k (.int 2))) .nil))))))
      [some (.c 0), some (.d K), some (.d G), some (.d N), none, none, none, none, none] [.lst (l4.map A.d)] = .nx [some (.c 0), some (.d K), some (.d G), some (.d N), some (.d rim), none, none, none, none] [.lst (l5.map A.d)] := by
    by_cases hz : r5 = 0
    · refine ⟨.tup [.int x, .int y, .int 0], ⟨by simp, sm2 sx, sm2 sy, sm2 z100, trivial⟩, ?_⟩
      simp [Bn.run, den, denEs, R.bind, R.fl, callK, T__law_right, e6, cmpD_eq_int, hz, ifK, eK, ixD, items, atI, ixN, tupK, toDs, LIM]
    · refine ⟨.tup [.int x, .int (x + 1), .int (x + 2)], ⟨by simp, sm2 sx, sm_mono (sm_add sx one100) (by omega), sm_mono (sm_add sx two100) (by omega), trivial⟩, ?_⟩
      simp [Bn.run, den, denEs, R.bind, R.fl, callK, T__law_right, e6, cmpD_eq_int, hz, ifK, eK, ixD, items, atI, ixN, tupK, toDs, LIM, bin_add]
  have s5 : Bn.run T__law_right (.set 5 (.lstc (.cons (.var 1) (.cons (.var 2) (.cons (.var 3) (.cons (.var 4) .nil)))))) [some (.c 0), some (.d K), some (.d G), some (.d N), some (.d rim), none, none, none, none] [.lst (l5.map A.d)] =
      .nx (envR K G N rim none) [.lst (l5.map A.d), .lst ([K, G, N, rim].map A.d)] := by
    simp [Bn.run, den, denEs, R.bind, R.fl, lstcK, LIM, envR]
  have n4 : allnc [K, G, N, rim] := fun v hv => by
    simp only [List.mem_cons, List.not_mem_nil, or_false] at hv
    rcases hv with rfl | rfl | rfl | rfl
    · exact v3_nc vK
    · exact v3_nc vG
    · exact v3_nc vN
    · exact nrim
  obtain ⟨l6, vals, x6, w6, nv, lv, s6⟩ := loop_ok (k := k + 140) (rim := rim) w5 vK vG vN n4 (by simp)
  obtain ⟨l7, o, w7, no, e7⟩ := odd_in (k := k + 139) w6
  have s7 : Bn.run T__law_right (.app 5 (.call 6 (.cons (.var 0) .nil))) (envR K G N rim x6) [.lst (l6.map A.d), .lst (vals.map A.d)] = .nx (envR K G N rim x6) [.lst (l7.map A.d), .lst ((vals ++ [o]).map A.d)] := by
    have q := callD_cell2 (n := 0) (as := []) (S := [.lst (l6.map A.d), .lst (vals.map A.d)]) (more := []) rfl e7
    simp only [List.map_nil, List.set_cons_zero] at q
    have c : den T__law_right (.call 6 (.cons (.var 0) .nil)) (envR K G N rim x6) [.lst (l6.map A.d), .lst (vals.map A.d)] = .ok (.d o) [.lst (l7.map A.d), .lst (vals.map A.d)] := by
      rw [den, denEs, var_den (i := 0) (a := .c 0) rfl, R.bind_ok]
      exact q
    have g5 : (envR K G N rim x6)[5]? = some (some (.c 1)) := rfl
    have hlt : (vals.map A.d).length < LIM := by
      rw [List.length_map, lv]
      show 4 + 12 < LIM
      decide
    simp only [Bn.run, g5, List.getElem?_cons_succ, List.getElem?_cons_zero, c, R.fl, hlt, if_true, List.set_cons_succ, List.set_cons_zero, List.map_append, List.map_cons, List.map_nil]
  obtain ⟨vs, evs⟩ : ∃ vs, vs = vals ++ [o] := ⟨_, rfl⟩
  have nvs : allnc vs := evs ▸ allnc_app nv no
  have lvs : vs.length ≤ 1000 := by
    rw [evs, List.length_append, lv]
    simp
  let env8 : Bn.Env := [some (.c 0), some (.d K), some (.d G), some (.d N), some (.d rim), some (.d (.lst vs)), x6, none, none]
  have s8 : Bn.run T__law_right (.frz 5) (envR K G N rim x6) [.lst (l7.map A.d), .lst (vs.map A.d)] = .nx env8 [.lst (l7.map A.d), .dead] := by
    have g5 : (envR K G N rim x6)[5]? = some (some (.c 1)) := rfl
    have ld : listD [Cell.lst (l7.map A.d), .lst (vs.map A.d)] (.c 1) = some vs := by
      simp [listD, toDs_map]
    simp only [Bn.run, g5, ld]
    rfl
  let S := [Cell.lst (l7.map A.d), .dead]
  let P := (vs.map both).map pairB
  have t1 : den T__law_right (.comp false (.lst (.cons (.call 8 (.cons (.var 8) .nil)) (.cons (.call 7 (.cons (.var 8) .nil)) .nil))) (.nm 8) [("_law_value", 8)] (.seq true (.var 5)) .no) env8 S = .ok (.d (.lst P)) S :=
    told rfl (by simp [env8]) lvs (fun v hv env' g => call_var (fn := ⟨"_law_is_kind", ["_law_x"], m__law_is_kind⟩) g rfl rfl (law_kind_ok v (nvs v hv) [])) (fun v hv env' g => call_var (fn := ⟨"_law_is_gap", ["_law_x"], m__law_is_gap⟩) g rfl rfl (law_gap_ok v (nvs v hv) []))
  let env9 : Bn.Env := [some (.c 0), some (.d K), some (.d G), some (.d N), some (.d rim), some (.d (.lst vs)), x6, some (.d (.lst P)), none]
  have s9 : Bn.run T__law_right (.setc 7 (.comp false (.lst (.cons (.call 8 (.cons (.var 8) .nil)) (.cons (.call 7 (.cons (.var 8) .nil)) .nil))) (.nm 8) [("_law_value", 8)] (.seq true (.var 5)) .no)) env8 S = .nx env9 S := by
    simp only [Bn.run, t1, R.fl]
    rfl
  have t2 : den T__law_right (.comp false (.lst (.cons (.call 10 (.cons (.var 8) .nil)) (.cons (.call 9 (.cons (.var 8) .nil)) .nil))) (.nm 8) [("_law_value", 8)] (.seq true (.var 5)) .no) env9 S = .ok (.d (.lst P)) S :=
    told rfl (by simp [env9]) lvs (fun v hv env' g => call_var (fn := ⟨"is_kind", ["value"], m_is_kind⟩) g rfl rfl (is_kind_ok v (nvs v hv) [])) (fun v hv env' g => call_var (fn := ⟨"is_gap", ["value"], m_is_gap⟩) g rfl rfl (is_gap_ok v (nvs v hv) []))
  have t3 : den T__law_right (.comp false (.lst (.cons (.callk 10 .nil ["value"] (.cons (.var 8) .nil)) (.cons (.callk 9 .nil ["value"] (.cons (.var 8) .nil)) .nil))) (.nm 8) [("_law_value", 8)] (.seq true (.var 5)) .no) env9 S = .ok (.d (.lst P)) S :=
    told rfl (by simp [env9]) lvs (fun v hv env' g => callk_var (fn := ⟨"is_kind", ["value"], m_is_kind⟩) g rfl rfl (is_kind_ok v (nvs v hv) [])) (fun v hv env' g => callk_var (fn := ⟨"is_gap", ["value"], m_is_gap⟩) g rfl rfl (is_gap_ok v (nvs v hv) []))
  have lp : (vs.map both).length ≤ 1000 := by
    rw [List.length_map]
    exact lvs
  have rp : den T__law_right (.bi .repr (.cons (.var 7) .nil)) env9 S = .ok (.d (.str (Bn.D.lst P).py.shown)) S := by
    rw [bi1 (var_den (i := 7) (a := .d (.lst P)) rfl)]
    exact repr_pairs lp S
  have r2 : den T__law_right (.bi .repr (.cons (.comp false (.lst (.cons (.call 10 (.cons (.var 8) .nil)) (.cons (.call 9 (.cons (.var 8) .nil)) .nil))) (.nm 8) [("_law_value", 8)] (.seq true (.var 5)) .no) .nil)) env9 S = .ok (.d (.str (Bn.D.lst P).py.shown)) S := by
    rw [bi1 t2]
    exact repr_pairs lp S
  have r3 : den T__law_right (.bi .repr (.cons (.comp false (.lst (.cons (.callk 10 .nil ["value"] (.cons (.var 8) .nil)) (.cons (.callk 9 .nil ["value"] (.cons (.var 8) .nil)) .nil))) (.nm 8) [("_law_value", 8)] (.seq true (.var 5)) .no) .nil)) env9 S = .ok (.d (.str (Bn.D.lst P).py.shown)) S := by
    rw [bi1 t3]
    exact repr_pairs lp S
  have k2 : den T__law_right (.cmp .NotEq (.bi .repr (.cons (.comp false (.lst (.cons (.call 10 (.cons (.var 8) .nil)) (.cons (.call 9 (.cons (.var 8) .nil)) .nil))) (.nm 8) [("_law_value", 8)] (.seq true (.var 5)) .no) .nil)) (.bi .repr (.cons (.var 7) .nil))) env9 S = .ok (.d (.bl false)) S := by
    rw [den, r2, R.bind_ok, rp, R.bind_ok]
    exact ne_str (pairs_str _) S
  have k3 : den T__law_right (.cmp .Eq (.bi .repr (.cons (.comp false (.lst (.cons (.callk 10 .nil ["value"] (.cons (.var 8) .nil)) (.cons (.callk 9 .nil ["value"] (.cons (.var 8) .nil)) .nil))) (.nm 8) [("_law_value", 8)] (.seq true (.var 5)) .no) .nil)) (.bi .repr (.cons (.var 7) .nil))) env9 S = .ok (.d (.bl true)) S := by
    rw [den, r3, R.bind_ok, rp, R.bind_ok]
    exact eq_str (pairs_str _) S
  refine ⟨l7, [.dead], defR_rt (b := b__law_right) ?_⟩
  show Bn.runs T__law_right b__law_right [some (.c 0), none, none, none, none, none, none, none, none] [.lst (l.map A.d)] = _
  unfold b__law_right
  rw [Bn.runs_cons s1, Bn.runs_cons s2, Bn.runs_cons s3, Bn.runs_cons s4, Bn.runs_cons s5, Bn.runs_cons s6, Bn.runs_cons s7, ← evs, Bn.runs_cons s8, Bn.runs_cons s9, runs_ifret k2 (a := .d (.bl false)) rfl, runs_ret k3]
  rfl
end K02
namespace K02
open PySem L2 Bn
theorem elt_ok (ns : List Int) (t : Int) (h0 : 0 ≤ t) (h3 : t < 3) (S : List Cell) : ∃ S', den T_law (.call 0 (.cons (.call 1 (.cons (.var 0) (.cons (.var 1) .nil))) .nil)) [some (.d (.scr ns)), some (.d (.int t))] S = .ok (.d (.bl true)) S' := by
  obtain ⟨l, w, e⟩ := well_ok (ns := ns) h0 h3
  obtain ⟨l', more, r⟩ := right_ok (k := 800000) (w.less (by omega))
  have q1 := callD_new (mir := m__law_well) (as := [.scr ns, .int t]) (S := S) (l := l) e
  have q2 := callD_cell2 (mir := m__law_right) (n := S.length) (as := []) (S := S ++ [.lst (l.map A.d)]) (by simp) r
  simp only [List.map_cons, List.map_nil] at q1 q2
  refine ⟨(S ++ [Cell.lst (l.map A.d)]).set S.length (Cell.lst (l'.map A.d)), ?_⟩
  simp only [den, denEs, List.getElem?_cons_zero, List.getElem?_cons_succ, R.bind, callK, T_law, List.length_cons, List.length_nil, if_true, q1]
  exact q2
theorem comp_any (ns : List Int) : ∀ (ts : List Int) (acc : List Bn.D) (S : List Cell), (∀ t ∈ ts, 0 ≤ t ∧ t < 3) → acc.length + ts.length ≤ 100 → (∀ y ∈ acc, y = .bl true) →
    ∃ (out : List Bn.D) (S' : List Cell), (∀ y ∈ out, y = .bl true) ∧ compL (fun x => bindT (.nm 1) x (wipeE [some (.d (.scr ns)), none] [1])) (fun e S => denT T_law .no e S) (fun e S => den T_law (.call 0 (.cons (.call 1 (.cons (.var 0) (.cons (.var 1) .nil))) .nil)) e S)
      (ts.map fun t => .d (.int t)) (acc.map A.d) S = .ok (out.map A.d) S'
  | [], acc, S, _, _, h => ⟨acc, S, h, rfl⟩
  | t :: r, acc, S, ht, hl, h => by
    obtain ⟨q0, q3⟩ := ht t List.mem_cons_self
    obtain ⟨S1, e1⟩ := elt_ok ns t q0 q3 S
    obtain ⟨out, S', ho, e⟩ := comp_any ns r (acc ++ [.bl true]) S1 (fun x hx => ht x (List.mem_cons_of_mem _ hx)) (by simp at hl ⊢; omega) fun y hy => by
      rcases List.mem_append.mp hy with z | z
      · exact h y z
      · exact List.mem_singleton.mp z
    refine ⟨out, S', ho, ?_⟩
    have hlt : (acc.map A.d).length < LIM := by
      rw [List.length_map]
      exact Nat.lt_of_lt_of_le (by simp at hl; omega : acc.length < 101) (by decide)
    have bd : bindT (.nm 1) (.d (.int t)) (wipeE [some (.d (.scr ns)), none] [1]) = some [some (.d (.scr ns)), some (.d (.int t))] := rfl
    rw [List.map_cons]
    unfold compL
    simp only [bd, denT, e1, hlt, if_true]
    rw [List.map_append] at e
    simp only [List.map_cons, List.map_nil] at e
    exact e
theorem bools_true : ∀ l : List Bn.D, (∀ y ∈ l, y = .bl true) → ∃ bs, boolsOf l = some bs ∧ bs.all id = true
  | [], _ => ⟨[], rfl, rfl⟩
  | x :: r, h => by
    obtain ⟨bs, e, a⟩ := bools_true r fun y hy => h y (List.mem_cons_of_mem _ hy)
    obtain rfl := h x List.mem_cons_self
    exact ⟨true :: bs, by simp [boolsOf, e], by simpa using a⟩
theorem law_ok (ns : List Int) : ∃ T', m_law [.d (.scr ns)] [] = .ok (.d (.bl true)) T' := by
  obtain ⟨n, hn, it⟩ : ∃ n : Nat, n ≤ 3 ∧ denI T_law (.rng (.bi .max2 (.cons (.k (.int 2)) (.cons (.bi .min2 (.cons (.bi .len (.cons (.var 0) .nil)) (.cons (.k (.int 3)) .nil))) .nil)))) [some (.d (.scr ns)), none] [] = .ok (rngL 0 n) [] := by
    obtain ⟨m, hm0, hm3, em⟩ : ∃ m : Int, 0 ≤ m ∧ m ≤ 3 ∧ den T_law (.bi .max2 (.cons (.k (.int 2)) (.cons (.bi .min2 (.cons (.bi .len (.cons (.var 0) .nil)) (.cons (.k (.int 3)) .nil))) .nil))) [some (.d (.scr ns)), none] [] = .ok (.d (.int m)) [] := by
      refine ⟨(if (if (3 : Int) < (ns.length : Int) then 3 else (ns.length : Int)) > 2 then (if (3 : Int) < (ns.length : Int) then 3 else (ns.length : Int)) else 2), ?_, ?_, ?_⟩
      · split
        · split <;> omega
        · omega
      · split
        · split <;> omega
        · omega
      · simp [den, denEs, R.bind, biD, one, two, lenD, items, minD, maxD]
    refine ⟨m.toNat, by omega, ?_⟩
    have ir : inRng m = true := by
      unfold inRng
      apply decide_eq_true
      omega
    rw [denI, em, R.bind_ok]
    simp only [rngK, ir, if_true]
  obtain ⟨ts, ets, hts, lts⟩ : ∃ ts : List Int, rngL 0 n = ts.map (fun t => .d (.int t)) ∧ (∀ t ∈ ts, 0 ≤ t ∧ t < 3) ∧ ts.length ≤ 3 := by
    have h : n = 0 ∨ n = 1 ∨ n = 2 ∨ n = 3 := by omega
    rcases h with rfl | rfl | rfl | rfl
    · exact ⟨[], rfl, by simp, by simp⟩
    · exact ⟨[0], rfl, by simp, by simp⟩
    · exact ⟨[0, 1], rfl, by simp, by simp⟩
    · exact ⟨[0, 1, 2], rfl, by simp, by simp⟩
  obtain ⟨out, S', ho, e⟩ := comp_any ns ts [] [] hts (by simp; omega) (by simp)
  obtain ⟨bs, eb, ab⟩ := bools_true out ho
  refine ⟨S', defR_rt (b := b_law) ?_⟩
  show Bn.runs T_law b_law [some (.d (.scr ns)), none] [] = _
  unfold b_law
  refine runs_ret ?_
  have cp : den T_law (.comp false (.call 0 (.cons (.call 1 (.cons (.var 0) (.cons (.var 1) .nil))) .nil)) (.nm 1) [("_law_turn", 1)] (.rng (.bi .max2 (.cons (.k (.int 2)) (.cons (.bi .min2 (.cons (.bi .len (.cons (.var 0) .nil)) (.cons (.k (.int 3)) .nil))) .nil)))) .no) [some (.d (.scr ns)), none] [] = .ok (.d (.lst out)) S' := by
    rw [den, it, R.bind_ok, ets]
    have e' : compL (fun x => bindT (.nm 1) x (wipeE [some (.d (.scr ns)), none] ([(("_law_turn" : Str), 1)].map (·.2)))) (fun e S => denT T_law .no e S) (fun e S => den T_law (.call 0 (.cons (.call 1 (.cons (.var 0) (.cons (.var 1) .nil))) .nil)) e S) (ts.map fun t => .d (.int t)) [] [] = .ok (out.map A.d) S' := e
    rw [e', R.bind_ok]
    simp only [compK, Bool.false_eq_true, if_false, toDs_map]
  rw [bi1 cp]
  simp only [biD, one, allD, listD, Option.bind_some, eb, ab]
end K02
open PySem PySem.W PySem.Calls PyProof.Rows
theorem PySem.Challenge.cw_bringnear_k02_kinds_and_gaps_of_anything_holds : PySem.Challenge.rw_bringnear_k02_kinds_and_gaps_of_anything.Holds := by
  w_on; o_law
  refine HeadRun.head_imp (r := K02.R) (q := view K02.R.prog K02.vw) (H := K02.hk) (ob := K02.ob) (M := 4000) (loose := K02.loose) (d := HandSHeadRun.topDef K02.R.prog 39) (kwd := []) K02.ob_eq
    K02.run (by kernel_rfl) (by kernel_rfl) (by kernel_rfl) (by rfl) (by first | assumption | decide +kernel) (by decide +kernel) ⟨rfl, rfl, rfl, rfl, rfl, by decide +kernel⟩ ?hw ?hc
  case hw => w_witness2
  case hc =>
    refine Bn.walkG (l := PySem.Challenge.rw_bringnear_k02_kinds_and_gaps_of_anything) (n := 63) (k := 8) (x := "_law_script") (mir := K02.m_law) rfl (by decide) (by kernel_rfl) ⟨rfl, by decide, by decide⟩ ?F (fun ns _ _ => K02.law_ok ns)
    intro w mg fa h Y G hmg0
    obtain ⟨K, KX, c⟩ := Y
    have hmg : mg ("law" : PySem.Str) = some (.ref fa) := by
      have e : (HandSHeadRun.topDef K02.R.prog 39).name = ("law" : PySem.Str) := by kernel_rfl
      rw [← e]
      exact hmg0
    obtain ⟨fd, hb, hF⟩ := K02.facts (P := K02.R.prog) (w := w) KX G hmg c
    exact ⟨K, fd, KX, hb, hF⟩
