import PyProof.Rows.All
import Wide.All
import OpenK.AllK
import Wide.FinOn
import HandS.ForMost
import HandS.Flow
import HandS.Style
import HandS.Deep
import HandS.TupAny
import HandS.Zip
import HandS.IsInst
import HandS.Codes
import PySem.Challenge.RW_pagehouse_k57_undoing
set_option Elab.async false
set_option linter.all false
set_option maxRecDepth 100000
set_option maxHeartbeats 4000000
/-! DL1: data-level values and memories, how they lie in the hand layer's heap, judgements. -/
namespace DL
open PySem L2

/-- built-in types as values -/
inductive Ty where
  | tuple | bool | int | str | list | dict
def Ty.nm : Ty → String
  | .tuple => "tuple" | .bool => "bool" | .int => "int" | .str => "str" | .list => "list" | .dict => "dict"
/-- a value of the data level: what never changes as data, what changes by its number in the memory; frl: a list that nobody writes (the script) -/
inductive D where
  | non | bl (b : Bool) | int (i : Int) | str (s : List Nat) | tup (xs : List D) | frl (xs : List D) | ref (n : Nat) | ty (t : Ty)
/-- what stands at a number of the memory -/
inductive MO where
  | lst (xs : List D)
  | dct (t : Bool) (kvs : List (D × D))
  | ins (c : Nat) (fs : List (Option D))
abbrev Slots := List (Option D)
abbrev Mem := List MO
/-- what an expression gives: a value, or a new thing that nobody holds yet -/
inductive RV where
  | d (x : D) | fo (o : MO)

/-- the classes: their addresses; the names that are methods of each; the names of its fields -/
structure Cla where
  ca : List Addr
  ms : List (List Str)
  fl : List (List Str)
/-- by number -/
@[simp] def sget : List (Option D) → Nat → Option D
  | [], _ => none
  | x :: _, 0 => x
  | _ :: r, n + 1 => sget r n

/-- a text of the data level: not too long, of signs that there are -/
structure Good (l : List Nat) : Prop where
  len : l.length ≤ 16777216
  ok : ∀ x ∈ l, x < 1114112
abbrev Frl (K : PySem.W.Frag) (H : Hp) (a : Addr) (vs : List V) : Prop := SqL K H a vs ∧ ∀ H' : Hp, (∀ o u, H a = some (.frz o u) → H' a = some (.frz o u)) → SqL K H' a vs

mutual
inductive DR (K : PySem.W.Frag) (H : Hp) (ρ : List Addr) : D → V → Prop
  | non : DR K H ρ .non .non
  | bl {b : Bool} : DR K H ρ (.bl b) (.bl b)
  | int {i : Int} : DR K H ρ (.int i) (.int i)
  | str {l : List Nat} : Good l → DR K H ρ (.str l) (.str ⟨l.toArray⟩)
  | tup {ds : List D} {a : Addr} {vs : List V} : H a = some (.tup vs) → DRs K H ρ ds vs → DR K H ρ (.tup ds) (.ref a)
  | frl {ds : List D} {a : Addr} {vs : List V} : Frl K H a vs → DRs K H ρ ds vs → DR K H ρ (.frl ds) (.ref a)
  | ref {n : Nat} {a : Addr} : ρ[n]? = some a → DR K H ρ (.ref n) (.ref a)
  | ty {t : Ty} : DR K H ρ (.ty t) (.ty t.nm)
inductive DRs (K : PySem.W.Frag) (H : Hp) (ρ : List Addr) : List D → List V → Prop
  | nil : DRs K H ρ [] []
  | cons {d : D} {v : V} {ds : List D} {vs : List V} : DR K H ρ d v → DRs K H ρ ds vs → DRs K H ρ (d :: ds) (v :: vs)
end

/-- the fields of an instance -/
structure FRs (K : PySem.W.Frag) (H : Hp) (ρ : List Addr) (nm : List Str) (fs : List (Option D)) (gs : List (Str × V)) : Prop where
  len : fs.length = nm.length
  at_ : ∀ i f d, nm[i]? = some f → sget fs i = some d → ∃ v, gs.lookup f = some v ∧ DR K H ρ d v
  nd : (gs.map (·.1)).Nodup
  sub : ∀ x ∈ gs.map (·.1), x ∈ nm
theorem few_of {α : Type} [DecidableEq α] : ∀ {l m : List α}, l.Nodup → (∀ x ∈ l, x ∈ m) → l.length ≤ m.length
  | [], _, _, _ => Nat.zero_le _
  | x :: l, m, hn, hs => by
    rw [List.nodup_cons] at hn
    have h1 : l.length ≤ (m.erase x).length := few_of hn.2 fun y hy => by
      have hne : y ≠ x := fun e => hn.1 (e ▸ hy)
      exact (List.mem_erase_of_ne hne).mpr (hs y (List.mem_cons_of_mem _ hy))
    have h2 : x ∈ m := hs x List.mem_cons_self
    have h3 := List.length_erase_of_mem h2
    have h4 : 0 < m.length := List.length_pos_of_mem h2
    simp only [List.length_cons]
    omega
/-- keys of dicts: an int, a text; or a tuple of such -/
def keyD : D → Option Key
  | .int i => some (.inl i)
  | .str l => some (.inr ⟨l.toArray⟩)
  | _ => none
def keysD : List D → Option (List Key)
  | [] => some []
  | x :: xs => match keyD x, keysD xs with
    | some k, some ks => some (k :: ks)
    | _, _ => none
inductive KRs (K : PySem.W.Frag) (H : Hp) (ρ : List Addr) : List (D × D) → List (Key × V) → Prop
  | nil : KRs K H ρ [] []
  | cons {x d : D} {k : Key} {v : V} {fs : List (D × D)} {gs : List (Key × V)} : keyD x = some k → DR K H ρ d v → KRs K H ρ fs gs → KRs K H ρ ((x, d) :: fs) ((k, v) :: gs)
inductive KTs (K : PySem.W.Frag) (H : Hp) (ρ : List Addr) : List (D × D) → List (List Key × V) → Prop
  | nil : KTs K H ρ [] []
  | cons {xs : List D} {d : D} {k : List Key} {v : V} {fs : List (D × D)} {gs : List (List Key × V)} : keysD xs = some k → DR K H ρ d v → KTs K H ρ fs gs → KTs K H ρ ((.tup xs, d) :: fs) ((k, v) :: gs)

/-- an object lies at an address -/
def OR (K : PySem.W.Frag) (c : Cla) (H : Hp) (ρ : List Addr) : MO → Addr → Prop
  | .lst ds, a => ∃ vs, H a = some (.lst vs) ∧ DRs K H ρ ds vs
  | .dct false kvs, a => ∃ ws, H a = some (.dK ws) ∧ KRs K H ρ kvs ws
  | .dct true kvs, a => ∃ ws, H a = some (.dT ws) ∧ KTs K H ρ kvs ws
  | .ins i fs, a => ∃ C dx gs, c.ca[i]? = some C ∧ H a = some (.ins C dx gs) ∧ FRs K H ρ (c.fl.getD i []) fs gs

structure Rep (K : PySem.W.Frag) (c : Cla) (ρ : List Addr) (H : Hp) (M : Mem) : Prop where
  len : ρ.length = M.length
  nd : ρ.Nodup
  ok : ∀ (n : Nat) (o : MO) (a : Addr), M[n]? = some o → ρ[n]? = some a → OR K c H ρ o a

/-- what stands for ever -/
def Imm : HO → Prop
  | .tup _ => True
  | .frz _ _ => True
  | _ => False
/-- from one state to a later one -/
structure Ext (ρ : List Addr) (H : Hp) (ρ' : List Addr) (H' : Hp) : Prop where
  pre : ∃ t, ρ' = ρ ++ t
  frm : ∀ a o, H a = some o → a ∉ ρ → H' a = some o
  imm : ∀ a o, H a = some o → Imm o → H' a = some o
  new : ∀ a, a ∈ ρ' → a ∉ ρ → H a = none
  back : ∀ a, H' a = none → H a = none

section
variable {K : PySem.W.Frag} {c : Cla} {ρ ρ' ρ2 : List Addr} {H H' H2 H0 : Hp} {M M' : Mem}
theorem Ext.refl : Ext ρ H ρ H := ⟨⟨[], (List.append_nil _).symm⟩, fun _ _ h _ => h, fun _ _ h _ => h, fun _ h n => absurd h n, fun _ h => h⟩
theorem Ext.trans (a : Ext ρ H ρ' H') (b : Ext ρ' H' ρ2 H2) : Ext ρ H ρ2 H2 := by
  obtain ⟨t1, e1⟩ := a.pre
  obtain ⟨t2, e2⟩ := b.pre
  refine ⟨⟨t1 ++ t2, by rw [e2, e1, List.append_assoc]⟩, fun x o h n => ?_, fun x o h i => b.imm x o (a.imm x o h i) i, fun x h n => ?_, fun x h => a.back x (b.back x h)⟩
  · refine b.frm x o (a.frm x o h n) fun z => ?_
    have := a.new x z n
    rw [h] at this; cases this
  · by_cases z : x ∈ ρ'
    · exact a.new x z n
    · exact a.back x (b.new x h z)
theorem Ext.fresh {a : Addr} {o : HO} (h : H a = none) : Ext ρ H ρ (upd H a o) := by
  refine ⟨⟨[], (List.append_nil _).symm⟩, fun x u e _ => ?_, fun x u e _ => ?_, fun _ h n => absurd h n, fun x e => ?_⟩
  · rw [upd_ne (ne_of_none e h)]; exact e
  · rw [upd_ne (ne_of_none e h)]; exact e
  · unfold upd at e
    split at e
    · cases e
    · exact e
theorem Ext.write {a : Addr} {o u : HO} (h : H a = some u) (hi : ¬ Imm u) (hm : a ∈ ρ) : Ext ρ H ρ (upd H a o) := by
  refine ⟨⟨[], (List.append_nil _).symm⟩, fun x v e n => ?_, fun x v e i => ?_, fun _ h n => absurd h n, fun x e => ?_⟩
  · have : x ≠ a := fun z => n (z ▸ hm)
    rw [upd_ne this]; exact e
  · have : x ≠ a := fun z => by subst z; rw [h] at e; cases e; exact hi i
    rw [upd_ne this]; exact e
  · unfold upd at e
    split at e
    · cases e
    · exact e
theorem Ext.sqT {a : Addr} {xs : List V} (e : Ext ρ H ρ' H') (h : SqT K H a xs) : SqT K H' a xs := by
  rcases h with (h | ⟨o, h⟩) | h
  · exact .inl (.inl (e.imm a _ h trivial))
  · exact .inl (.inr ⟨o, e.imm a _ h trivial⟩)
  · exact .inr h
theorem Ext.frl {a : Addr} {xs : List V} (e : Ext ρ H ρ' H') (h : Frl K H a xs) : Frl K H' a xs := by
  have k := h.2 H' fun o u q => e.imm a _ q trivial
  refine ⟨k, fun H2 q => ?_⟩
  rcases h.1 with (z | ⟨o, z⟩) | z
  · -- a list that is no frozen one stays only if it is the module's
    exact h.2 H2 fun o u q' => by rw [z] at q'; cases q'
  · exact .inl (.inr ⟨o, q _ _ (e.imm a _ z trivial)⟩)
  · exact .inr z
theorem Ext.get {n : Nat} {a : Addr} (e : Ext ρ H ρ' H') (h : ρ[n]? = some a) : ρ'[n]? = some a := by
  obtain ⟨t, z⟩ := e.pre
  rw [z, List.getElem?_append_left (List.getElem?_eq_some_iff.mp h).1]
  exact h
mutual
theorem DR.mono (e : Ext ρ H ρ' H') : ∀ {d : D} {v : V}, DR K H ρ d v → DR K H' ρ' d v
  | _, _, .non => .non
  | _, _, .bl => .bl
  | _, _, .int => .int
  | _, _, .str g => .str g
  | _, _, .tup s r => .tup (e.imm _ _ s trivial) (DRs.mono e r)
  | _, _, .frl s r => .frl (e.frl s) (DRs.mono e r)
  | _, _, .ref h => .ref (e.get h)
  | _, _, .ty => .ty
theorem DRs.mono (e : Ext ρ H ρ' H') : ∀ {ds : List D} {vs : List V}, DRs K H ρ ds vs → DRs K H' ρ' ds vs
  | _, _, .nil => .nil
  | _, _, .cons r t => .cons (DR.mono e r) (DRs.mono e t)
end
theorem FRs.mono (e : Ext ρ H ρ' H') {nm : List Str} {fs : List (Option D)} {gs : List (Str × V)} (h : FRs K H ρ nm fs gs) : FRs K H' ρ' nm fs gs :=
  ⟨h.len, fun i f d e1 e2 => let ⟨v, a, b⟩ := h.at_ i f d e1 e2; ⟨v, a, b.mono e⟩, h.nd, h.sub⟩
theorem KRs.mono (e : Ext ρ H ρ' H') : ∀ {fs : List (D × D)} {gs : List (Key × V)}, KRs K H ρ fs gs → KRs K H' ρ' fs gs
  | _, _, .nil => .nil
  | _, _, .cons k r t => .cons k (r.mono e) (KRs.mono e t)
theorem KTs.mono (e : Ext ρ H ρ' H') : ∀ {fs : List (D × D)} {gs : List (List Key × V)}, KTs K H ρ fs gs → KTs K H' ρ' fs gs
  | _, _, .nil => .nil
  | _, _, .cons k r t => .cons k (r.mono e) (KTs.mono e t)
/-- an object that stands at the same place -/
theorem OR.mono {o : MO} {a : Addr} (e : Ext ρ H ρ' H') (k : ∀ u, H a = some u → H' a = some u) (h : OR K c H ρ o a) : OR K c H' ρ' o a := by
  cases o with
  | lst ds => obtain ⟨vs, h1, h2⟩ := h; exact ⟨vs, k _ h1, h2.mono e⟩
  | dct t kvs => cases t with
    | false => obtain ⟨ws, h1, h2⟩ := h; exact ⟨ws, k _ h1, h2.mono e⟩
    | true => obtain ⟨ws, h1, h2⟩ := h; exact ⟨ws, k _ h1, h2.mono e⟩
  | ins i fs => obtain ⟨C, dx, gs, h0, h1, h2⟩ := h; exact ⟨C, dx, gs, h0, k _ h1, h2.mono e⟩
section
variable (hi : ∀ b o, H b = some o → Imm o → H' b = some o)
include hi
theorem Frl.mono' {a : Addr} {xs : List V} (h : Frl K H a xs) : Frl K H' a xs := by
  have k := h.2 H' fun o u q => hi a _ q trivial
  refine ⟨k, fun H2 q => ?_⟩
  rcases h.1 with (z | ⟨o, z⟩) | z
  · exact h.2 H2 fun o u q' => by rw [z] at q'; cases q'
  · exact .inl (.inr ⟨o, q _ _ (hi a _ z trivial)⟩)
  · exact .inr z
mutual
theorem DR.mono' : ∀ {d : D} {v : V}, DR K H ρ d v → DR K H' ρ d v
  | _, _, .non => .non
  | _, _, .bl => .bl
  | _, _, .int => .int
  | _, _, .str g => .str g
  | _, _, .tup s r => .tup (hi _ _ s trivial) (DRs.mono' r)
  | _, _, .frl s r => .frl (Frl.mono' hi s) (DRs.mono' r)
  | _, _, .ref h => .ref h
  | _, _, .ty => .ty
theorem DRs.mono' : ∀ {ds : List D} {vs : List V}, DRs K H ρ ds vs → DRs K H' ρ ds vs
  | _, _, .nil => .nil
  | _, _, .cons r t => .cons (DR.mono' r) (DRs.mono' t)
end
theorem FRs.mono' {nm : List Str} {fs : List (Option D)} {gs : List (Str × V)} (h : FRs K H ρ nm fs gs) : FRs K H' ρ nm fs gs :=
  ⟨h.len, fun i f d e1 e2 => let ⟨v, a, b⟩ := h.at_ i f d e1 e2; ⟨v, a, b.mono' hi⟩, h.nd, h.sub⟩
theorem KRs.mono' : ∀ {fs : List (D × D)} {gs : List (Key × V)}, KRs K H ρ fs gs → KRs K H' ρ fs gs
  | _, _, .nil => .nil
  | _, _, .cons k r t => .cons k (r.mono' hi) (KRs.mono' t)
theorem KTs.mono' : ∀ {fs : List (D × D)} {gs : List (List Key × V)}, KTs K H ρ fs gs → KTs K H' ρ fs gs
  | _, _, .nil => .nil
  | _, _, .cons k r t => .cons k (r.mono' hi) (KTs.mono' t)
theorem OR.mono' {o : MO} {a : Addr} (h : OR K c H ρ o a) (k : ∀ u, H a = some u → H' a = some u) : OR K c H' ρ o a := by
  cases o with
  | lst ds => obtain ⟨vs, h1, h2⟩ := h; exact ⟨vs, k _ h1, h2.mono' hi⟩
  | dct t kvs => cases t with
    | false => obtain ⟨ws, h1, h2⟩ := h; exact ⟨ws, k _ h1, h2.mono' hi⟩
    | true => obtain ⟨ws, h1, h2⟩ := h; exact ⟨ws, k _ h1, h2.mono' hi⟩
  | ins i fs => obtain ⟨C, dx, gs, h0, h1, h2⟩ := h; exact ⟨C, dx, gs, h0, k _ h1, h2.mono' hi⟩
end
/-- what stands there may change -/
theorem OR.live {o : MO} {a : Addr} (h : OR K c H ρ o a) : ∃ u, H a = some u ∧ ¬ Imm u := by
  cases o with
  | lst ds => obtain ⟨vs, h1, h2⟩ := h; exact ⟨_, h1, fun z => z⟩
  | dct t kvs => cases t with
    | false => obtain ⟨ws, h1, h2⟩ := h; exact ⟨_, h1, fun z => z⟩
    | true => obtain ⟨ws, h1, h2⟩ := h; exact ⟨_, h1, fun z => z⟩
  | ins i fs => obtain ⟨C, dx, gs, h0, h1, h2⟩ := h; exact ⟨_, h1, fun z => z⟩
theorem Rep.live (R : Rep K c ρ H M) {a : Addr} (h : a ∈ ρ) : ∃ u, H a = some u ∧ ¬ Imm u := by
  obtain ⟨n, hn, e⟩ := List.getElem_of_mem h
  have hm : n < M.length := by rw [← R.len]; exact hn
  exact (R.ok n M[n] a (List.getElem?_eq_getElem hm) (by rw [List.getElem?_eq_getElem hn, e])).live
theorem Rep.addr (R : Rep K c ρ H M) {n : Nat} {o : MO} (h : M[n]? = some o) : ∃ a, ρ[n]? = some a ∧ OR K c H ρ o a := by
  have hn : n < ρ.length := by rw [R.len]; exact (List.getElem?_eq_some_iff.mp h).1
  exact ⟨ρ[n], List.getElem?_eq_getElem hn, R.ok n o _ h (List.getElem?_eq_getElem hn)⟩
/-- a new untracked thing -/
theorem Rep.fresh (R : Rep K c ρ H M) {a : Addr} {o : HO} (h : H a = none) : Rep K c ρ (upd H a o) M :=
  ⟨R.len, R.nd, fun n u b e1 e2 => (R.ok n u b e1 e2).mono (Ext.fresh h) fun w z => by rw [upd_ne (ne_of_none z h)]; exact z⟩
theorem nodup_at {ρ : List Addr} (hN : ρ.Nodup) {i j : Nat} {x : Addr} (a : ρ[i]? = some x) (b : ρ[j]? = some x) : i = j := by
  have h1 := (List.getElem?_eq_some_iff.mp a).1
  exact (List.getElem?_inj h1 hN).mp (a.trans b.symm)
/-- one object written -/
theorem Rep.write (R : Rep K c ρ H M) {n : Nat} {a : Addr} {o : HO} {u : MO} (ha : ρ[n]? = some a) (new : OR K c (upd H a o) ρ u a) : Rep K c ρ (upd H a o) (M.set n u) := by
  have hm : a ∈ ρ := List.mem_of_getElem? ha
  obtain ⟨w, hw, hi⟩ := R.live hm
  refine ⟨by rw [List.length_set]; exact R.len, R.nd, fun m v b e1 e2 => ?_⟩
  by_cases hmn : n = m
  · subst hmn
    have hl : n < M.length := by rw [← R.len]; exact (List.getElem?_eq_some_iff.mp ha).1
    rw [List.getElem?_set_self hl] at e1
    cases e1
    rw [ha] at e2; cases e2
    exact new
  · rw [List.getElem?_set_ne hmn] at e1
    have hb : b ≠ a := fun z => hmn (nodup_at R.nd ha (z ▸ e2))
    exact (R.ok m v b e1 e2).mono (Ext.write hw hi hm) fun w z => by rw [upd_ne hb]; exact z
mutual
theorem DR.app {t : List Addr} : ∀ {d : D} {v : V}, DR K H ρ d v → DR K H (ρ ++ t) d v
  | _, _, .non => .non
  | _, _, .bl => .bl
  | _, _, .int => .int
  | _, _, .str g => .str g
  | _, _, .tup s r => .tup s (DRs.app r)
  | _, _, .frl s r => .frl s (DRs.app r)
  | _, _, .ref h => .ref (by rw [List.getElem?_append_left (List.getElem?_eq_some_iff.mp h).1]; exact h)
  | _, _, .ty => .ty
theorem DRs.app {t : List Addr} : ∀ {ds : List D} {vs : List V}, DRs K H ρ ds vs → DRs K H (ρ ++ t) ds vs
  | _, _, .nil => .nil
  | _, _, .cons r s => .cons (DR.app r) (DRs.app s)
end
theorem FRs.app {t : List Addr} {nm : List Str} {fs : List (Option D)} {gs : List (Str × V)} (h : FRs K H ρ nm fs gs) : FRs K H (ρ ++ t) nm fs gs :=
  ⟨h.len, fun i f d e1 e2 => let ⟨v, a, b⟩ := h.at_ i f d e1 e2; ⟨v, a, b.app⟩, h.nd, h.sub⟩
theorem KRs.app {t : List Addr} : ∀ {fs : List (D × D)} {gs : List (Key × V)}, KRs K H ρ fs gs → KRs K H (ρ ++ t) fs gs
  | _, _, .nil => .nil
  | _, _, .cons k r t => .cons k r.app (KRs.app t)
theorem KTs.app {t : List Addr} : ∀ {fs : List (D × D)} {gs : List (List Key × V)}, KTs K H ρ fs gs → KTs K H (ρ ++ t) fs gs
  | _, _, .nil => .nil
  | _, _, .cons k r t => .cons k r.app (KTs.app t)
theorem OR.app {t : List Addr} {o : MO} {a : Addr} (h : OR K c H ρ o a) : OR K c H (ρ ++ t) o a := by
  cases o with
  | lst ds => obtain ⟨vs, h1, h2⟩ := h; exact ⟨vs, h1, h2.app⟩
  | dct t kvs => cases t with
    | false => obtain ⟨ws, h1, h2⟩ := h; exact ⟨ws, h1, h2.app⟩
    | true => obtain ⟨ws, h1, h2⟩ := h; exact ⟨ws, h1, h2.app⟩
  | ins i fs => obtain ⟨C, dx, gs, h0, h1, h2⟩ := h; exact ⟨C, dx, gs, h0, h1, h2.app⟩
/-- an untracked thing becomes tracked -/
theorem Rep.track (R : Rep K c ρ H M) {a : Addr} {u : MO} (hn : a ∉ ρ) (new : OR K c H ρ u a) : Rep K c (ρ ++ [a]) H (M ++ [u]) := by
  refine ⟨by rw [List.length_append, List.length_append, R.len]; rfl, ?_, fun n o b e1 e2 => ?_⟩
  · rw [List.nodup_append]
    refine ⟨R.nd, by simp, fun x hx y hy => ?_⟩
    have : y = a := by simpa using hy
    subst this
    rintro rfl
    exact hn hx
  · by_cases hl : n < M.length
    · rw [List.getElem?_append_left hl] at e1
      rw [List.getElem?_append_left (by rw [R.len]; exact hl)] at e2
      exact (R.ok n o b e1 e2).app
    · have hn2 : n = M.length := by
        have := (List.getElem?_eq_some_iff.mp e1).1
        rw [List.length_append] at this
        simp at this
        omega
      subst hn2
      rw [List.getElem?_concat_length] at e1
      rw [← R.len, List.getElem?_concat_length] at e2
      cases e1; cases e2
      exact new.app
theorem Ext.track {ρ0 : List Addr} (e : Ext ρ0 H0 ρ H) {a : Addr} (h0 : H0 a = none) : Ext ρ0 H0 (ρ ++ [a]) H := by
  obtain ⟨t, z⟩ := e.pre
  refine ⟨⟨t ++ [a], by rw [z, List.append_assoc]⟩, e.frm, e.imm, fun x hx n => ?_, e.back⟩
  rcases List.mem_append.mp hx with z | z
  · exact e.new x z n
  · have : x = a := by simpa using z
    subst this
    exact h0
end
end DL

/-! DL2: the data level's transformers and their judgements; expressions. -/
namespace DL
open PySem L2

def okO {α : Type} (o : Option α) (k : α → Prop) : Prop := match o with
  | some a => k a
  | none => False
@[simp] theorem okO_some {α : Type} {a : α} {k : α → Prop} : okO (some a) k = k a := rfl
@[simp] theorem okO_none {α : Type} {k : α → Prop} : okO none k = False := rfl
theorem okO_mono {α : Type} {o : Option α} {k k' : α → Prop} (h : ∀ a, k a → k' a) : okO o k → okO o k' := by
  cases o <;> simp; exact h _
theorem okO_get {α : Type} {o : Option α} {k : α → Prop} (h : okO o k) : ∃ a, o = some a ∧ k a := by
  cases o with
  | none => cases h
  | some a => exact ⟨a, rfl, h⟩

structure TD where
  t : Slots → Mem → (RV → Mem → Prop) → Prop
  mono : ∀ s M Q Q', (∀ r M', Q r M' → Q' r M') → t s M Q → t s M Q'
structure TB where
  t : Slots → Mem → (Bool → Mem → Prop) → Prop
  mono : ∀ s M Q Q', (∀ r M', Q r M' → Q' r M') → t s M Q → t s M Q'
structure TDs where
  t : Slots → Mem → (List RV → Mem → Prop) → Prop
  mono : ∀ s M Q Q', (∀ r M', Q r M' → Q' r M') → t s M Q → t s M Q'
/-- what is wanted behind a statement -/
structure En where
  nx : Slots → Mem → Prop
  rt : RV → Mem → Prop
  bk : Slots → Mem → Prop
  ct : Slots → Mem → Prop
structure En.Le (D D' : En) : Prop where
  nx : ∀ s M, D.nx s M → D'.nx s M
  rt : ∀ s M, D.rt s M → D'.rt s M
  bk : ∀ s M, D.bk s M → D'.bk s M
  ct : ∀ s M, D.ct s M → D'.ct s M
structure TSd where
  t : En → Slots → Mem → Prop
  mono : ∀ s M D D', En.Le D D' → t D s M → t D' s M
/-- targets -/
structure TGd where
  t : RV → Slots → Mem → (Slots → Mem → Prop) → Prop
  mono : ∀ r s M Q Q', (∀ s' M', Q s' M' → Q' s' M') → t r s M Q → t r s M Q'

/-! ### the relations of what is given -/
section
variable (K : PySem.W.Frag) (c : Cla)
inductive RVR (H0 H : Hp) (ρ : List Addr) : RV → V → Prop
  | d {x : D} {v : V} : DR K H ρ x v → RVR H0 H ρ (.d x) v
  | fo {o : MO} {a : Addr} : H0 a = none → a ∉ ρ → OR K c H ρ o a → RVR H0 H ρ (.fo o) (.ref a)
inductive RVs (H0 H : Hp) (ρ : List Addr) : List RV → List V → List Addr → Prop
  | nil : RVs H0 H ρ [] [] []
  | d {x : D} {v : V} {rs : List RV} {vs : List V} {as : List Addr} : DR K H ρ x v → RVs H0 H ρ rs vs as → RVs H0 H ρ (.d x :: rs) (v :: vs) as
  | fo {o : MO} {a : Addr} {rs : List RV} {vs : List V} {as : List Addr} : H0 a = none → a ∉ ρ → OR K c H ρ o a → a ∉ as → RVs H0 H ρ rs vs as → RVs H0 H ρ (.fo o :: rs) (.ref a :: vs) (a :: as)
structure SlR (H : Hp) (ρ : List Addr) (s : Slots) (σ : L2.St) : Prop where
  len : s.length = σ.length
  at_ : ∀ i d, sget s i = some d → ∃ v, σ[i]? = some (some v) ∧ DR K H ρ d v
end
section
variable {K : PySem.W.Frag} {c : Cla} {ρ ρ' ρ2 ρ0 : List Addr} {H H' H2 H0 : Hp} {M M' : Mem} {s : Slots} {σ : L2.St}
theorem SlR.mono (e : Ext ρ H ρ' H') (h : SlR K H ρ s σ) : SlR K H' ρ' s σ := ⟨h.len, fun i d q => let ⟨v, h1, h2⟩ := h.at_ i d q; ⟨v, h1, h2.mono e⟩⟩
theorem SlR.app {t : List Addr} (h : SlR K H ρ s σ) : SlR K H (ρ ++ t) s σ := ⟨h.len, fun i d q => let ⟨v, h1, h2⟩ := h.at_ i d q; ⟨v, h1, h2.app⟩⟩
theorem Ext.nin (e : Ext ρ H ρ' H') {a : Addr} (h : H a ≠ none) (n : a ∉ ρ) : a ∉ ρ' := fun z => h (e.new a z n)
theorem OR.ne {o : MO} {a : Addr} (h : OR K c H ρ o a) : H a ≠ none := by
  obtain ⟨u, e, _⟩ := h.live
  rw [e]; exact fun z => nomatch z
/-- kept while more is done -/
theorem RVR.mono {r : RV} {v : V} (e : Ext ρ H ρ' H') (h : RVR K c H0 H ρ r v) : RVR K c H0 H' ρ' r v := by
  cases h with
  | d h => exact .d (h.mono e)
  | fo h0 hn ho => exact .fo h0 (e.nin ho.ne hn) (ho.mono e fun u q => e.frm _ u q hn)
/-- looked at from an earlier state -/
theorem RVR.from {r : RV} {v : V} (b : ∀ a, H0 a = none → H2 a = none) (h : RVR K c H0 H ρ r v) : RVR K c H2 H ρ r v := by
  cases h with
  | d h => exact .d h
  | fo h0 hn ho => exact .fo (b _ h0) hn ho
theorem RVs.mono (e : Ext ρ H ρ' H') : ∀ {rs : List RV} {vs : List V} {as : List Addr}, RVs K c H0 H ρ rs vs as → RVs K c H0 H' ρ' rs vs as
  | _, _, _, .nil => .nil
  | _, _, _, .d h t => .d (h.mono e) (RVs.mono e t)
  | _, _, _, .fo h0 hn ho ha t => .fo h0 (e.nin ho.ne hn) (ho.mono e fun u q => e.frm _ u q hn) ha (RVs.mono e t)
theorem RVs.from (b : ∀ a, H0 a = none → H2 a = none) : ∀ {rs : List RV} {vs : List V} {as : List Addr}, RVs K c H0 H ρ rs vs as → RVs K c H2 H ρ rs vs as
  | _, _, _, .nil => .nil
  | _, _, _, .d h t => .d h (RVs.from b t)
  | _, _, _, .fo h0 hn ho ha t => .fo (b _ h0) hn ho ha (RVs.from b t)
theorem RVs.old : ∀ {rs : List RV} {vs : List V} {as : List Addr}, RVs K c H0 H ρ rs vs as → ∀ a ∈ as, H0 a = none
  | _, _, _, .nil, a, h => absurd h (by simp)
  | _, _, _, .d _ t, a, h => RVs.old t a h
  | _, _, _, .fo h0 _ _ _ t, a, h => by
    rcases List.mem_cons.mp h with rfl | h
    · exact h0
    · exact RVs.old t a h
theorem RVs.cons {H1 : Hp} {r : RV} {v : V} {rs : List RV} {vs : List V} {as : List Addr} (h : RVR K c H0 H1 ρ r v) (e : Ext ρ H1 ρ' H') (b : ∀ a, H1 a = none → H0 a = none) (t : RVs K c H1 H' ρ' rs vs as) : ∃ as', RVs K c H0 H' ρ' (r :: rs) (v :: vs) as' := by
  cases h with
  | d h => exact ⟨as, .d (h.mono e) (t.from b)⟩
  | fo h0 hn ho =>
    refine ⟨_, .fo h0 (e.nin ho.ne hn) (ho.mono e fun u q => e.frm _ u q hn) (fun z => ho.ne (t.old _ z)) (t.from b)⟩

/-! ### what nobody holds is taken into the memory -/
def asD (r : RV) (M : Mem) (k : D → Mem → Prop) : Prop := match r with
  | .d x => k x M
  | .fo o => k (.ref M.length) (M ++ [o])
@[simp] theorem asD_d {x : D} {k : D → Mem → Prop} : asD (.d x) M k = k x M := rfl
@[simp] theorem asD_fo {o : MO} {k : D → Mem → Prop} : asD (.fo o) M k = k (.ref M.length) (M ++ [o]) := rfl
theorem asD_mono {r : RV} {k k' : D → Mem → Prop} (h : ∀ d M, k d M → k' d M) : asD r M k → asD r M k' := by
  cases r <;> simp <;> exact h _ _
def asDs : List RV → Mem → (List D → Mem → Prop) → Prop
  | [], M, k => k [] M
  | r :: rs, M, k => asD r M fun d M1 => asDs rs M1 fun ds M2 => k (d :: ds) M2
@[simp] theorem asDs_nil {k : List D → Mem → Prop} : asDs [] M k = k [] M := rfl
@[simp] theorem asDs_cons {r : RV} {rs : List RV} {k : List D → Mem → Prop} : asDs (r :: rs) M k = asD r M fun d M1 => asDs rs M1 fun ds M2 => k (d :: ds) M2 := rfl
theorem asDs_mono : ∀ {rs : List RV} {M : Mem} {k k' : List D → Mem → Prop}, (∀ d M, k d M → k' d M) → asDs rs M k → asDs rs M k'
  | [], _, _, _, h, q => h _ _ q
  | r :: rs, _, _, _, h, q => asD_mono (fun _ _ => asDs_mono fun _ _ => h _ _) q
theorem asD_ok {r : RV} {v : V} {k : D → Mem → Prop} (e : Ext ρ0 H0 ρ H) (R : Rep K c ρ H M) (h : RVR K c H0 H ρ r v) (q : asD r M k) :
    ∃ t d M', k d M' ∧ Rep K c (ρ ++ t) H M' ∧ Ext ρ0 H0 (ρ ++ t) H ∧ DR K H (ρ ++ t) d v ∧ (∀ a ∈ t, H0 a = none ∧ a ∉ ρ ∧ RV.d d ≠ r) := by
  cases h with
  | d h => exact ⟨[], _, M, q, by simpa using R, by simpa using e, by simpa using h, by simp⟩
  | fo h0 hn ho =>
    rename_i o a
    refine ⟨[a], _, _, q, R.track hn ho, e.track h0, .ref (by rw [← R.len]; simp), fun x hx => ?_⟩
    have : x = a := by simpa using hx
    subst this
    exact ⟨h0, hn, fun z => nomatch z⟩
theorem RVs.app {t : List Addr} (ht : ∀ a ∈ t, a ∉ ρ) : ∀ {rs : List RV} {vs : List V} {as : List Addr}, (∀ a ∈ t, a ∉ as) → RVs K c H0 H ρ rs vs as → RVs K c H0 H (ρ ++ t) rs vs as
  | _, _, _, _, .nil => .nil
  | _, _, _, hq, .d h r => .d h.app (RVs.app ht hq r)
  | _, _, _, hq, .fo h0 hn ho ha r => .fo h0 (fun z => (List.mem_append.mp z).elim hn fun z => hq _ z (by simp)) ho.app ha (RVs.app ht (fun a h z => hq a h (List.mem_cons_of_mem _ z)) r)
theorem asDs_ok : ∀ {rs : List RV} {vs : List V} {as : List Addr} {ρ : List Addr} {M : Mem} {k : List D → Mem → Prop}, Ext ρ0 H0 ρ H → Rep K c ρ H M → RVs K c H0 H ρ rs vs as → asDs rs M k →
    ∃ t ds M', k ds M' ∧ Rep K c (ρ ++ t) H M' ∧ Ext ρ0 H0 (ρ ++ t) H ∧ DRs K H (ρ ++ t) ds vs
  | _, _, _, ρ, M, k, e, R, .nil, q => ⟨[], [], M, q, by simpa using R, by simpa using e, .nil⟩
  | _, _, _, ρ, M, k, e, R, .d h t, q => by
    obtain ⟨t, ds, M', q, R', e', hs⟩ := asDs_ok e R t q
    exact ⟨t, _, M', q, R', e', .cons h.app hs⟩
  | _, _, _, ρ, M, k, e, R, .fo (a := a) h0 hn ho ha t, q => by
    obtain ⟨t, ds, M', q, R', e', hs⟩ := asDs_ok (ρ := ρ ++ [a]) (e.track h0) (R.track hn ho) (t.app (by simpa using hn) (by simpa using ha)) q
    refine ⟨a :: t, _, M', q, by simpa using R', by simpa using e', ?_⟩
    have hd : DR K H ((ρ ++ [a]) ++ t) (.ref M.length) (.ref a) := .ref (by rw [← R.len]; simp)
    simpa using DRs.cons hd hs
end

/-! ### judgements -/
section
variable (K : PySem.W.Frag) (c : Cla)
def rdE (t : TD) : TE := fun σ H Q => ∃ ρ s M, SlR K H ρ s σ ∧ Rep K c ρ H M ∧ t.t s M fun r M' => ∀ ρ' H' v, Ext ρ H ρ' H' → Rep K c ρ' H' M' → RVR K c H H' ρ' r v → Q v H'
def rdB (t : TB) : TT := fun σ H Q => ∃ ρ s M, SlR K H ρ s σ ∧ Rep K c ρ H M ∧ t.t s M fun b M' => ∀ ρ' H', Ext ρ H ρ' H' → Rep K c ρ' H' M' → Q b H'
def rdA (t : TDs) : TA := fun σ H Q => ∃ ρ s M, SlR K H ρ s σ ∧ Rep K c ρ H M ∧ t.t s M fun rs M' => ∀ ρ' H' vs as, Ext ρ H ρ' H' → Rep K c ρ' H' M' → RVs K c H H' ρ' rs vs as → Q vs H'
def upS (ρ : List Addr) (H : Hp) (P : L2.St → Hp → Prop) : Slots → Mem → Prop := fun s' M' => ∀ ρ' σ' H', Ext ρ H ρ' H' → SlR K H' ρ' s' σ' → Rep K c ρ' H' M' → P σ' H'
def upR (ρ : List Addr) (H : Hp) (P : VK) : RV → Mem → Prop := fun r M' => ∀ ρ' H' v, Ext ρ H ρ' H' → Rep K c ρ' H' M' → RVR K c H H' ρ' r v → P v H'
def upE (ρ : List Addr) (H : Hp) (D : Ends) : En := ⟨upS K c ρ H D.nx, upR K c ρ H D.rt, upS K c ρ H D.bk, upS K c ρ H D.ct⟩
def rdS (t : TSd) : TS := fun D σ H => ∃ ρ s M, SlR K H ρ s σ ∧ Rep K c ρ H M ∧ t.t (upE K c ρ H D) s M
def rdG (t : TGd) : TG := fun v σ H Q => ∃ ρ0 H0 ρ s M r, Ext ρ0 H0 ρ H ∧ SlR K H ρ s σ ∧ Rep K c ρ H M ∧ RVR K c H0 H ρ r v ∧ t.t r s M (upS K c ρ0 H0 Q)
end
structure EOk (X : Cx) (c : Cla) (e : Expr) (t : TD) : Prop where
  pe : PE X e (rdE X.K c t)
structure BOk (X : Cx) (c : Cla) (e : Expr) (t : TB) : Prop where
  pt : PT X e (rdB X.K c t)
structure WOk (X : Cx) (c : Cla) (e : Expr) (t : TB) : Prop where
  pw : PW X e (rdB X.K c t)
structure AOk (X : Cx) (c : Cla) (es : List Expr) (t : TDs) : Prop where
  pa : PA X es (rdA X.K c t)
structure SOk (X : Cx) (c : Cla) (st : Stmt) (t : TSd) : Prop where
  ps : PS X st (rdS X.K c t)
structure SsOk (X : Cx) (c : Cla) (st : List Stmt) (t : TSd) : Prop where
  ps : PSs X st (rdS X.K c t)
structure GOk (X : Cx) (c : Cla) (e : Expr) (t : TGd) : Prop where
  pg : PG X e (rdG X.K c t)

theorem pe_imp {X : Cx} {e : Expr} {t t' : TE} (h : PE X e t) (i : ∀ σ H Q, t' σ H Q → t σ H Q) : PE X e t' := ⟨fun p s σ H Q I q => h.run p s σ H Q I (i σ H Q q)⟩
theorem pt_imp {X : Cx} {e : Expr} {t t' : TT} (h : PT X e t) (i : ∀ σ H Q, t' σ H Q → t σ H Q) : PT X e t' := ⟨fun p s σ H Q I q => h.run p s σ H Q I (i σ H Q q)⟩
theorem pw_imp {X : Cx} {e : Expr} {t t' : TT} (h : PW X e t) (i : ∀ σ H Q, t' σ H Q → t σ H Q) : PW X e t' := ⟨fun w p s σ H Q I q => h.run w p s σ H Q I (i σ H Q q)⟩
theorem pa_imp {X : Cx} {e : List Expr} {t t' : TA} (h : PA X e t) (i : ∀ σ H Q, t' σ H Q → t σ H Q) : PA X e t' := ⟨fun x p s σ H Q I q => h.run x p s σ H Q I (i σ H Q q)⟩
theorem ps_imp {X : Cx} {e : Stmt} {t t' : TS} (h : PS X e t) (i : ∀ D σ H, t' D σ H → t D σ H) : PS X e t' := ⟨fun p s σ H D I q => h.run p s σ H D I (i D σ H q)⟩
theorem pss_imp {X : Cx} {e : List Stmt} {t t' : TS} (h : PSs X e t) (i : ∀ D σ H, t' D σ H → t D σ H) : PSs X e t' := ⟨fun p s σ H D I q => h.run p s σ H D I (i D σ H q)⟩
theorem pg_imp {X : Cx} {e : Expr} {t t' : TG} (h : PG X e t) (i : ∀ v σ H Q, t' v σ H Q → t v σ H Q) : PG X e t' := ⟨fun p s σ H v u Q I r q => h.run p s σ H v u Q I r (i v σ H Q q)⟩

/-! ### plain expressions -/
def tLit (d : D) : TD := ⟨fun _ M Q => Q (.d d) M, fun _ _ _ _ h q => h _ _ q⟩
def tVar (i : Nat) : TD := ⟨fun s M Q => okO (sget s i) fun d => Q (.d d) M, fun _ _ _ _ h q => okO_mono (fun _ => h _ _) q⟩
section
variable {X : Cx} {c : Cla}
theorem e_lit {e : Expr} {d : D} {v : V} (h : PE X e (tC v)) (r : ∀ H ρ, DR X.K H ρ d v) : EOk X c e (tLit d) :=
  ⟨pe_imp h fun σ H Q ⟨ρ, s, M, _, R, q⟩ => q ρ H v Ext.refl R (.d (r H ρ))⟩
theorem e_var {e : Expr} {i : Nat} (h : PE X e (L2.tVar i)) : EOk X c e (tVar i) :=
  ⟨pe_imp h fun σ H Q ⟨ρ, s, M, S, R, q⟩ => by
    obtain ⟨d, e, q⟩ := okO_get q
    obtain ⟨v, h1, h2⟩ := S.at_ i d e
    exact ⟨v, h1, q ρ H v Ext.refl R (.d h2)⟩⟩

/-- two in a row -/
theorem two {ta tb : TD} {σ : L2.St} {H : Hp} {ρ : List Addr} {s : Slots} {M : Mem} {f : RV → RV → Mem → Prop} {k : V → V → Hp → Prop} {K : PySem.W.Frag} (S : SlR K H ρ s σ) (R : Rep K c ρ H M)
    (q : ta.t s M fun x M1 => tb.t s M1 fun y M2 => f x y M2)
    (h : ∀ x y M2 ρ2 H2 v w as, f x y M2 → Ext ρ H ρ2 H2 → Rep K c ρ2 H2 M2 → RVR K c H H2 ρ2 x v → RVR K c H H2 ρ2 y w → RVs K c H H2 ρ2 [x, y] [v, w] as → k v w H2) :
    rdE K c ta σ H fun v H1 => rdE K c tb σ H1 fun w H2 => k v w H2 := by
  refine ⟨ρ, s, M, S, R, ta.mono _ _ _ _ (fun x M1 q1 ρ1 H1 v e1 R1 rx => ?_) q⟩
  refine ⟨ρ1, s, M1, S.mono e1, R1, tb.mono _ _ _ _ (fun y M2 q2 ρ2 H2 w e2 R2 ry => ?_) q1⟩
  have ry' : ∃ as, RVs K c H1 H2 ρ2 [y] [w] as := by
    cases ry with
    | d h => exact ⟨_, .d h .nil⟩
    | fo h0 hn ho => exact ⟨_, .fo h0 hn ho (by simp) .nil⟩
  obtain ⟨as, ry'⟩ := ry'
  obtain ⟨as', rs⟩ := RVs.cons rx e2 e1.back ry'
  exact h x y M2 ρ2 H2 v w as' q2 (e1.trans e2) R2 (rx.mono e2) (ry.from e1.back) rs

/-- an operation of two values that changes nothing -/
structure Op2 where
  f : Mem → RV → RV → (RV → Prop) → Prop
  mono : ∀ M x y Q Q', (∀ r, Q r → Q' r) → f M x y Q → f M x y Q'
def tBin (o : Op2) (a b : TD) : TD := ⟨fun s M Q => a.t s M fun x M1 => b.t s M1 fun y M2 => o.f M2 x y fun z => Q z M2,
  fun s M Q Q' h q => a.mono _ _ _ _ (fun _ _ => b.mono _ _ _ _ fun _ _ => o.mono _ _ _ _ _ fun _ => h _ _) q⟩
structure Op2Ok (K : PySem.W.Frag) (c : Cla) (o : Op2) (r : R2) : Prop where
  ok : ∀ (ρ : List Addr) (H0 H : Hp) (M : Mem) (x y : RV) (v w : V) (Q : VK), Rep K c ρ H M → RVR K c H0 H ρ x v → RVR K c H0 H ρ y w →
    (o.f M x y fun z => ∀ H' u, Ext ρ H ρ H' → Rep K c ρ H' M → RVR K c H H' ρ z u → Q u H') → r v w H Q
theorem bin_imp {o : Op2} {r : R2} {ta tb : TD} {K : PySem.W.Frag} (h : Op2Ok K c o r) (σ : L2.St) (H : Hp) (Q : VK) (q : rdE K c (tBin o ta tb) σ H Q) : tOp r (rdE K c ta) (rdE K c tb) σ H Q := by
  obtain ⟨ρ, s, M, S, R, q⟩ := q
  refine two S R q fun x y M2 ρ2 H2 v w as q2 e2 R2 rx ry _ => ?_
  exact h.ok ρ2 H H2 M2 x y v w Q R2 rx ry (o.mono _ _ _ _ _ (fun z qz H' u e R' ru => qz ρ2 H' u (e2.trans e) R' (ru.from e2.back)) q2)
theorem e_bin {a b : Expr} {op : Operator} {pos : Pos} {o : Op2} {r : R2} {ta tb : TD} (ho : OpR X (binaryOp op) r) (h : Op2Ok X.K c o r) (ha : EOk X c a ta) (hb : EOk X c b tb) : EOk X c (.BinOp a op b pos) (tBin o ta tb) :=
  ⟨pe_imp (pe_op ho ha.pe hb.pe) (bin_imp h)⟩
theorem e_cmp {a b : Expr} {op : CmpOp} {pos : Pos} {o : Op2} {r : R2} {ta tb : TD} (ho : OpR X (compareOp op) r) (h : Op2Ok X.K c o r) (ha : EOk X c a ta) (hb : EOk X c b tb) (hm : behindInMarks op b = false) : EOk X c (.Compare a [op] [b] pos) (tBin o ta tb) :=
  ⟨pe_imp (pe_cmpR ho ha.pe hb.pe hm) (bin_imp h)⟩
theorem e_ix {a b : Expr} {pos : Pos} {o : Op2} {r : R2} {ta tb : TD} (ho : IxR X r) (h : Op2Ok X.K c o r) (ha : EOk X c a ta) (hb : EOk X c b tb) (hs : PlainIx b) : EOk X c (.Subscript a b pos) (tBin o ta tb) :=
  ⟨pe_imp (pe_ix ho ha.pe hb.pe hs) (bin_imp h)⟩
structure Op1 where
  f : Mem → RV → (RV → Prop) → Prop
  mono : ∀ M x Q Q', (∀ r, Q r → Q' r) → f M x Q → f M x Q'
def tUno (o : Op1) (a : TD) : TD := ⟨fun s M Q => a.t s M fun x M1 => o.f M1 x fun z => Q z M1, fun s M Q Q' h q => a.mono _ _ _ _ (fun _ _ => o.mono _ _ _ _ fun _ => h _ _) q⟩
structure Op1Ok (K : PySem.W.Frag) (c : Cla) (o : Op1) (r : V → Hp → VK → Prop) : Prop where
  ok : ∀ (ρ : List Addr) (H0 H : Hp) (M : Mem) (x : RV) (v : V) (Q : VK), Rep K c ρ H M → RVR K c H0 H ρ x v →
    (o.f M x fun z => ∀ H' u, Ext ρ H ρ H' → Rep K c ρ H' M → RVR K c H H' ρ z u → Q u H') → r v H Q
theorem uno_imp {o : Op1} {r : V → Hp → VK → Prop} {ta : TD} {K : PySem.W.Frag} (h : Op1Ok K c o r) (σ : L2.St) (H : Hp) (Q : VK) (q : rdE K c (tUno o ta) σ H Q) : rdE K c ta σ H fun v H1 => r v H1 Q := by
  obtain ⟨ρ, s, M, S, R, q⟩ := q
  refine ⟨ρ, s, M, S, R, ta.mono _ _ _ _ (fun x M1 q1 ρ1 H1 v e1 R1 rx => ?_) q⟩
  exact h.ok ρ1 H H1 M1 x v Q R1 rx (o.mono _ _ _ _ (fun z qz H' u e R' ru => qz ρ1 H' u (e1.trans e) R' (ru.from e1.back)) q1)
theorem e_un {a : Expr} {op : UnaryOp} {pos : Pos} {o : Op1} {r : V → Hp → VK → Prop} {ta : TD} (ho : UnR X (unaryOp op) r) (h : Op1Ok X.K c o r) (ha : EOk X c a ta) : EOk X c (.UnaryOp op a pos) (tUno o ta) :=
  ⟨pe_imp (pe_un ho ha.pe) (uno_imp h)⟩

/-! ### arguments, displays -/
def dsNil : TDs := ⟨fun _ M Q => Q [] M, fun _ _ _ _ h q => h _ _ q⟩
def dsCons (a : TD) (as : TDs) : TDs := ⟨fun s M Q => a.t s M fun x M1 => as.t s M1 fun xs M2 => Q (x :: xs) M2, fun _ _ _ _ h q => a.mono _ _ _ _ (fun _ _ => as.mono _ _ _ _ fun _ _ => h _ _) q⟩
theorem a_nil : AOk X c [] dsNil := ⟨pa_imp pa_nil fun σ H Q ⟨ρ, s, M, S, R, q⟩ => q ρ H [] [] Ext.refl R .nil⟩
theorem cons_imp {ta : TD} {ts : TDs} {K : PySem.W.Frag} (σ : L2.St) (H : Hp) (Q : List V → Hp → Prop) (q : rdA K c (dsCons ta ts) σ H Q) : tCons (rdE K c ta) (rdA K c ts) σ H Q := by
  obtain ⟨ρ, s, M, S, R, q⟩ := q
  refine ⟨ρ, s, M, S, R, ta.mono _ _ _ _ (fun x M1 q1 ρ1 H1 v e1 R1 rx => ?_) q⟩
  refine ⟨ρ1, s, M1, S.mono e1, R1, ts.mono _ _ _ _ (fun xs M2 q2 ρ2 H2 vs as e2 R2 rs => ?_) q1⟩
  obtain ⟨as', rs'⟩ := RVs.cons rx e2 e1.back rs
  exact q2 ρ2 H2 _ as' (e1.trans e2) R2 rs'
theorem a_cons {e : Expr} {es : List Expr} {ta : TD} {ts : TDs} (ha : EOk X c e ta) (hs : AOk X c es ts) (hst : starEach (e :: es) X.env = (false, eval e X.env) :: starEach es X.env) : AOk X c (e :: es) (dsCons ta ts) :=
  ⟨pa_imp (pa_cons ha.pe hs.pa hst) cons_imp⟩
def tTup (as : TDs) : TD := ⟨fun s M Q => as.t s M fun rs M1 => asDs rs M1 fun ds M2 => ds.length ≤ 16777216 ∧ Q (.d (.tup ds)) M2,
  fun _ _ _ _ h q => as.mono _ _ _ _ (fun _ _ => asDs_mono fun _ _ z => ⟨z.1, h _ _ z.2⟩) q⟩
def tLst (as : TDs) : TD := ⟨fun s M Q => as.t s M fun rs M1 => asDs rs M1 fun ds M2 => ds.length ≤ 16777216 ∧ Q (.fo (.lst ds)) M2,
  fun _ _ _ _ h q => as.mono _ _ _ _ (fun _ _ => asDs_mono fun _ _ z => ⟨z.1, h _ _ z.2⟩) q⟩
theorem DRs.length {K : PySem.W.Frag} {H : Hp} {ρ : List Addr} : ∀ {ds : List D} {vs : List V}, DRs K H ρ ds vs → ds.length = vs.length
  | _, _, .nil => rfl
  | _, _, .cons _ t => by simp [DRs.length t]
theorem line_le {n : Nat} (h : n ≤ 16777216) : n ≤ sizeLine := by rw [sizeLine_eq]; exact h
theorem e_tup {es : List Expr} {k : Nat} {pos : Pos} {ts : TDs} (h : AOk X c es ts) : EOk X c (.Tuple es k pos) (tTup ts) :=
  ⟨pe_imp (pe_tup h.pa) fun σ H Q ⟨ρ, s, M, S, R, q⟩ => by
    refine ⟨ρ, s, M, S, R, ts.mono _ _ _ _ (fun rs M1 q1 ρ1 H1 vs as e1 R1 hr => ?_) q⟩
    obtain ⟨t, ds, M2, ⟨hz, q⟩, R2, e2, hd⟩ := asDs_ok e1 R1 hr q1
    refine ⟨line_le (by rw [← hd.length]; exact hz), fun p hp => ?_⟩
    have ef : Ext (ρ1 ++ t) H1 (ρ1 ++ t) (upd H1 p (.tup vs)) := Ext.fresh hp
    exact q _ _ _ (e2.trans ef) (R2.fresh hp) (.d (.tup upd_same (hd.mono ef)))⟩
theorem e_lst {es : List Expr} {pos : Pos} {ts : TDs} (h : AOk X c es ts) : EOk X c (.List es pos) (tLst ts) :=
  ⟨pe_imp (pe_lst h.pa) fun σ H Q ⟨ρ, s, M, S, R, q⟩ => by
    refine ⟨ρ, s, M, S, R, ts.mono _ _ _ _ (fun rs M1 q1 ρ1 H1 vs as e1 R1 hr => ?_) q⟩
    obtain ⟨t, ds, M2, ⟨hz, q⟩, R2, e2, hd⟩ := asDs_ok e1 R1 hr q1
    refine ⟨line_le (by rw [← hd.length]; exact hz), fun p hp => ?_⟩
    have ef : Ext (ρ1 ++ t) H1 (ρ1 ++ t) (upd H1 p (.lst vs)) := Ext.fresh hp
    refine q _ _ _ (e2.trans ef) (R2.fresh hp) (.fo (e2.back _ hp) (fun z => ?_) ⟨vs, upd_same, hd.mono ef⟩)
    obtain ⟨u, hu, _⟩ := R2.live z
    rw [hp] at hu; cases hu⟩
end
end DL

/-! DL3: tests, statements, targets, loops. -/
namespace DL
open PySem L2

/-! ### truth -/
def truP (M : Mem) (r : RV) (k : Bool → Prop) : Prop := match r with
  | .d .non => k false
  | .d (.bl b) => k b
  | .d (.int i) => k (i != 0)
  | .d (.str l) => k (!l.isEmpty)
  | .d (.tup xs) => k (!xs.isEmpty)
  | .d (.frl xs) => k (!xs.isEmpty)
  | .d (.ref n) => match M[n]? with
    | some (.lst xs) => k (!xs.isEmpty)
    | _ => False
  | .fo (.lst xs) => k (!xs.isEmpty)
  | .fo _ => False
  | .d (.ty _) => False
theorem truP_mono {M : Mem} {r : RV} {k k' : Bool → Prop} (h : ∀ b, k b → k' b) : truP M r k → truP M r k' := by
  unfold truP
  split <;> first | exact h _ | (split <;> first | exact h _ | exact fun z => z) | exact fun z => z
theorem DRs.isEmpty {K : PySem.W.Frag} {H : Hp} {ρ : List Addr} {ds : List D} {vs : List V} (h : DRs K H ρ ds vs) : (!vs.isEmpty) = !ds.isEmpty := by
  cases h <;> rfl
theorem truP_ok {K : PySem.W.Frag} {c : Cla} {ρ : List Addr} {H0 H : Hp} {M : Mem} {r : RV} {v : V} {k : Bool → Prop} (R : Rep K c ρ H M) (h : RVR K c H0 H ρ r v) (q : truP M r k) : ∃ b, TruV K v H b ∧ k b := by
  cases h with
  | d h =>
    cases h with
    | non => exact ⟨_, rfl, q⟩
    | bl => exact ⟨_, rfl, q⟩
    | int => exact ⟨_, rfl, q⟩
    | str g =>
      rename_i l
      refine ⟨_, ⟨line_le (by simpa [Str.length] using g.len), rfl⟩, ?_⟩
      have q' : k (!l.isEmpty) := q
      have e : ((((⟨l.toArray⟩ : Str).length : Nat) : Int) != 0) = !l.isEmpty := by
        cases l <;> simp [Str.length] <;> omega
      rw [e]; exact q'
    | tup s t => exact ⟨_, .inr (.inl ⟨_, .of s, rfl⟩), by rw [t.isEmpty]; exact q⟩
    | frl s t => exact ⟨_, .inl ⟨_, s.1, rfl⟩, by rw [t.isEmpty]; exact q⟩
    | ty => exact False.elim q
    | ref e =>
      rename_i n a
      have q' : (match M[n]? with | some (.lst xs) => k (!xs.isEmpty) | _ => False) := q
      split at q'
      · rename_i xs hm
        obtain ⟨a', e', o⟩ := R.addr hm
        rw [e] at e'; cases e'
        obtain ⟨vs, h1, h2⟩ := o
        exact ⟨_, .inl ⟨vs, .of h1, rfl⟩, by rw [h2.isEmpty]; exact q'⟩
      · exact q'.elim
  | fo h0 hn ho =>
    rename_i o a
    cases o with
    | lst xs =>
      obtain ⟨vs, h1, h2⟩ := ho
      exact ⟨_, .inl ⟨vs, .of h1, rfl⟩, by rw [h2.isEmpty]; exact q⟩
    | dct _ _ => exact False.elim q
    | ins _ _ => exact False.elim q
def bTru (a : TD) : TB := ⟨fun s M Q => a.t s M fun r M1 => truP M1 r fun b => Q b M1, fun _ _ _ _ h q => a.mono _ _ _ _ (fun _ _ => truP_mono fun _ => h _ _) q⟩
def bAnd (a b : TB) : TB := ⟨fun s M Q => a.t s M fun x M1 => if x = true then b.t s M1 Q else Q false M1, fun s M Q Q' h q => a.mono _ _ _ _ (fun x M1 => by
  split
  · exact b.mono _ _ _ _ h
  · exact h _ _) q⟩
def bOr (a b : TB) : TB := ⟨fun s M Q => a.t s M fun x M1 => if x = true then Q true M1 else b.t s M1 Q, fun s M Q Q' h q => a.mono _ _ _ _ (fun x M1 => by
  split
  · exact h _ _
  · exact b.mono _ _ _ _ h) q⟩
def bNot (a : TB) : TB := ⟨fun s M Q => a.t s M fun x M1 => Q (!x) M1, fun _ _ _ _ h q => a.mono _ _ _ _ (fun _ _ => h _ _) q⟩
def tIfE (t : TB) (a b : TD) : TD := ⟨fun s M Q => t.t s M fun x M1 => if x = true then a.t s M1 Q else b.t s M1 Q, fun s M Q Q' h q => t.mono _ _ _ _ (fun x M1 => by
  split
  · exact a.mono _ _ _ _ h
  · exact b.mono _ _ _ _ h) q⟩
def tAndV (a b : TD) : TD := ⟨fun s M Q => a.t s M fun r M1 => truP M1 r fun x => if x = true then b.t s M1 Q else Q r M1, fun s M Q Q' h q => a.mono _ _ _ _ (fun r M1 => truP_mono fun x => by
  split
  · exact b.mono _ _ _ _ h
  · exact h _ _) q⟩
def tOrV (a b : TD) : TD := ⟨fun s M Q => a.t s M fun r M1 => truP M1 r fun x => if x = true then Q r M1 else b.t s M1 Q, fun s M Q Q' h q => a.mono _ _ _ _ (fun r M1 => truP_mono fun x => by
  split
  · exact h _ _
  · exact b.mono _ _ _ _ h) q⟩
def tNotV (a : TB) : TD := ⟨fun s M Q => a.t s M fun x M1 => Q (.d (.bl (!x))) M1, fun _ _ _ _ h q => a.mono _ _ _ _ (fun _ _ => h _ _) q⟩
section
variable {X : Cx} {c : Cla} {e a b f : Expr} {rest : List Expr} {pos : Pos} {t u : TD} {p q : TB}
/-- an expression of a kind that is a test by its truth alone -/
def plainTest : Expr → Bool
  | .UnaryOp .Not _ _ => false
  | .BoolOp .. => false
  | .IfExp .. => false
  | .Compare .. => false
  | _ => true
theorem isTrue_plain_of {e : Expr} (h : plainTest e = true) (env : Env) (whole : Sem Value) : isTrue e env whole = (do let v ← whole; standAt e.pos; holding [v] (truthy v)) := by
  cases e with
  | UnaryOp op _ _ => cases op <;> first | rfl | (simp [plainTest] at h)
  | BoolOp => simp [plainTest] at h
  | IfExp => simp [plainTest] at h
  | Compare => simp [plainTest] at h
  | _ => rfl
theorem b_tru (h : EOk X c e t) (hp : plainTest e = true) : BOk X c e (bTru t) :=
  ⟨pt_imp (pt_truth h.pe (isTrue_plain_of hp _)) fun σ H Q ⟨ρ, s, M, S, R, q⟩ =>
    ⟨ρ, s, M, S, R, t.mono _ _ _ _ (fun r M1 q1 ρ1 H1 v e1 R1 rv => by
      obtain ⟨k, hk, q2⟩ := truP_ok R1 rv q1
      exact ⟨k, hk, q2 ρ1 H1 e1 R1⟩) q⟩⟩
/-- a comparison as a test: its value is a truth value -/
def bVal (a : TD) : TB := ⟨fun s M Q => a.t s M fun r M1 => match r with
    | .d (.bl b) => Q b M1
    | _ => False, fun _ _ _ _ h q => a.mono _ _ _ _ (fun r M1 => by
  split
  · exact h _ _
  · exact fun z => z) q⟩
theorem bVal_imp {K : PySem.W.Frag} (σ : L2.St) (H : Hp) (Q : Bool → Hp → Prop) (z : rdB K c (bVal t) σ H Q) : rdE K c t σ H fun x H' => ∃ k, x = .bl k ∧ Q k H' := by
  obtain ⟨ρ, s, M, S, R, q⟩ := z
  refine ⟨ρ, s, M, S, R, t.mono _ _ _ _ (fun r M1 q1 ρ1 H1 v e1 R1 rv => ?_) q⟩
  split at q1
  · cases rv with
    | d h => cases h; exact ⟨_, rfl, q1 ρ1 H1 e1 R1⟩
  · exact q1.elim
theorem w_and1 (h : BOk X c a p) : WOk X c (.BoolOp .And [a] pos) p := ⟨pw_and1 h.pt⟩
theorem w_or1 (h : BOk X c a p) : WOk X c (.BoolOp .Or [a] pos) p := ⟨pw_or1 h.pt⟩
theorem and_imp {K : PySem.W.Frag} (σ : L2.St) (H : Hp) (Q : Bool → Hp → Prop) (z : rdB K c (bAnd p q) σ H Q) : tAnd (rdB K c p) (rdB K c q) σ H Q := by
  obtain ⟨ρ, s, M, S, R, z⟩ := z
  refine ⟨ρ, s, M, S, R, p.mono _ _ _ _ (fun x M1 q1 ρ1 H1 e1 R1 => ?_) z⟩
  cases x with
  | true => exact ⟨ρ1, s, M1, S.mono e1, R1, q.mono _ _ _ _ (fun y M2 q2 ρ2 H2 e2 R2 => q2 ρ2 H2 (e1.trans e2) R2) q1⟩
  | false => exact q1 ρ1 H1 e1 R1
theorem or_imp {K : PySem.W.Frag} (σ : L2.St) (H : Hp) (Q : Bool → Hp → Prop) (z : rdB K c (bOr p q) σ H Q) : tOr (rdB K c p) (rdB K c q) σ H Q := by
  obtain ⟨ρ, s, M, S, R, z⟩ := z
  refine ⟨ρ, s, M, S, R, p.mono _ _ _ _ (fun x M1 q1 ρ1 H1 e1 R1 => ?_) z⟩
  cases x with
  | false => exact ⟨ρ1, s, M1, S.mono e1, R1, q.mono _ _ _ _ (fun y M2 q2 ρ2 H2 e2 R2 => q2 ρ2 H2 (e1.trans e2) R2) q1⟩
  | true => exact q1 ρ1 H1 e1 R1
theorem w_and (h : BOk X c a p) (h2 : WOk X c (.BoolOp .And (b :: rest) pos) q) : WOk X c (.BoolOp .And (a :: b :: rest) pos) (bAnd p q) := ⟨pw_imp (pw_and h.pt h2.pw) and_imp⟩
theorem w_or (h : BOk X c a p) (h2 : WOk X c (.BoolOp .Or (b :: rest) pos) q) : WOk X c (.BoolOp .Or (a :: b :: rest) pos) (bOr p q) := ⟨pw_imp (pw_or h.pt h2.pw) or_imp⟩
theorem b_of_w (h : WOk X c e p) : BOk X c e p := ⟨h.pw.pt⟩
theorem b_not (h : BOk X c a p) : BOk X c (.UnaryOp .Not a pos) (bNot p) := ⟨pt_imp (pt_not h.pt) fun σ H Q ⟨ρ, s, M, S, R, z⟩ => ⟨ρ, s, M, S, R, p.mono _ _ _ _ (fun x M1 q1 ρ1 H1 e1 R1 => q1 ρ1 H1 e1 R1) z⟩⟩
theorem ife_imp {K : PySem.W.Frag} (σ : L2.St) (H : Hp) (Q : VK) (z : rdE K c (tIfE p t u) σ H Q) : tIf (rdB K c p) (rdE K c t) (rdE K c u) σ H Q := by
  obtain ⟨ρ, s, M, S, R, z⟩ := z
  refine ⟨ρ, s, M, S, R, p.mono _ _ _ _ (fun x M1 q1 ρ1 H1 e1 R1 => ?_) z⟩
  have b1 := e1.back
  cases x with
  | true => exact ⟨ρ1, s, M1, S.mono e1, R1, t.mono _ _ _ _ (fun y M2 q2 ρ2 H2 v e2 R2 rv => q2 ρ2 H2 v (e1.trans e2) R2 (rv.from b1)) q1⟩
  | false => exact ⟨ρ1, s, M1, S.mono e1, R1, u.mono _ _ _ _ (fun y M2 q2 ρ2 H2 v e2 R2 rv => q2 ρ2 H2 v (e1.trans e2) R2 (rv.from b1)) q1⟩
theorem e_ife (h : BOk X c f p) (ha : EOk X c a t) (hb : EOk X c b u) : EOk X c (.IfExp f a b pos) (tIfE p t u) := ⟨pe_imp (pe_ifExp h.pt ha.pe hb.pe) ife_imp⟩
theorem e_one {op : BoolOp} (h : EOk X c a t) : EOk X c (.BoolOp op [a] pos) t := ⟨pe_one h.pe⟩
theorem e_and (ha : EOk X c a t) (hb : EOk X c (.BoolOp .And (b :: rest) pos) u) : EOk X c (.BoolOp .And (a :: b :: rest) pos) (tAndV t u) :=
  ⟨pe_imp (pe_andT ha.pe hb.pe) fun σ H Q ⟨ρ, s, M, S, R, z⟩ => ⟨ρ, s, M, S, R, t.mono _ _ _ _ (fun r M1 q1 ρ1 H1 v e1 R1 rv => by
    obtain ⟨k, hk, q2⟩ := truP_ok R1 rv q1
    refine ⟨k, hk, ?_⟩
    cases k with
    | true => exact ⟨ρ1, s, M1, S.mono e1, R1, u.mono _ _ _ _ (fun y M2 q2 ρ2 H2 v e2 R2 rv => q2 ρ2 H2 v (e1.trans e2) R2 (rv.from e1.back)) q2⟩
    | false => exact q2 ρ1 H1 v e1 R1 rv) z⟩⟩
theorem e_or (ha : EOk X c a t) (hb : EOk X c (.BoolOp .Or (b :: rest) pos) u) : EOk X c (.BoolOp .Or (a :: b :: rest) pos) (tOrV t u) :=
  ⟨pe_imp (pe_orT ha.pe hb.pe) fun σ H Q ⟨ρ, s, M, S, R, z⟩ => ⟨ρ, s, M, S, R, t.mono _ _ _ _ (fun r M1 q1 ρ1 H1 v e1 R1 rv => by
    obtain ⟨k, hk, q2⟩ := truP_ok R1 rv q1
    refine ⟨k, hk, ?_⟩
    cases k with
    | false => exact ⟨ρ1, s, M1, S.mono e1, R1, u.mono _ _ _ _ (fun y M2 q2 ρ2 H2 v e2 R2 rv => q2 ρ2 H2 v (e1.trans e2) R2 (rv.from e1.back)) q2⟩
    | true => exact q2 ρ1 H1 v e1 R1 rv) z⟩⟩
/-- not a, as a value: by the value's truth -/
def tNotT (a : TD) : TD := ⟨fun s M Q => a.t s M fun r M1 => truP M1 r fun b => Q (.d (.bl (!b))) M1, fun _ _ _ _ h q => a.mono _ _ _ _ (fun _ _ => truP_mono fun _ => h _ _) q⟩
theorem e_not (h : EOk X c a t) : EOk X c (.UnaryOp .Not a pos) (tNotT t) :=
  ⟨pe_imp (pe_notT h.pe) fun σ H Q ⟨ρ, s, M, S, R, z⟩ => ⟨ρ, s, M, S, R, t.mono _ _ _ _ (fun r M1 q1 ρ1 H1 v e1 R1 rv => by
    obtain ⟨k, hk, q2⟩ := truP_ok R1 rv q1
    exact ⟨k, hk, q2 ρ1 H1 _ e1 R1 (.d .bl)⟩) z⟩⟩
end

/-! ### statements -/
section
variable {K : PySem.W.Frag} {c : Cla} {ρ ρ' : List Addr} {H H' : Hp}
theorem upS_mono {P : L2.St → Hp → Prop} (e : Ext ρ H ρ' H') (s : Slots) (M : Mem) (h : upS K c ρ H P s M) : upS K c ρ' H' P s M := fun ρ2 σ2 H2 e2 S R => h ρ2 σ2 H2 (e.trans e2) S R
theorem upR_mono {P : VK} (e : Ext ρ H ρ' H') (r : RV) (M : Mem) (h : upR K c ρ H P r M) : upR K c ρ' H' P r M := fun ρ2 H2 v e2 R rv => h ρ2 H2 v (e.trans e2) R (rv.from e.back)
theorem upE_le {D : Ends} (e : Ext ρ H ρ' H') : En.Le (upE K c ρ H D) (upE K c ρ' H' D) := ⟨upS_mono e, upR_mono e, upS_mono e, upS_mono e⟩
end
theorem TSd.le {a : TSd} {D D' : En} {s : Slots} {M : Mem} (q : a.t D s M) (h : En.Le D D') : a.t D' s M := a.mono _ _ _ _ h q
def sNx : TSd := ⟨fun D s M => D.nx s M, fun _ _ _ _ h q => h.nx _ _ q⟩
def sBk : TSd := ⟨fun D s M => D.bk s M, fun _ _ _ _ h q => h.bk _ _ q⟩
def sCt : TSd := ⟨fun D s M => D.ct s M, fun _ _ _ _ h q => h.ct _ _ q⟩
def sSeq (a b : TSd) : TSd := ⟨fun D s M => a.t { D with nx := fun s' M' => b.t D s' M' } s M, fun s M D D' h q => TSd.le (a := a) q ⟨fun _ _ => b.mono _ _ _ _ h, h.rt, h.bk, h.ct⟩⟩
def sExp (a : TD) : TSd := ⟨fun D s M => a.t s M fun _ M' => D.nx s M', fun _ _ _ _ h q => a.mono _ _ _ _ (fun _ _ => h.nx _ _) q⟩
def sRet (a : TD) : TSd := ⟨fun D s M => a.t s M D.rt, fun _ _ _ _ h q => a.mono _ _ _ _ h.rt q⟩
def sRetN : TSd := ⟨fun D s M => D.rt (.d .non) M, fun _ _ _ _ h q => h.rt _ _ q⟩
def sIf (p : TB) (a b : TSd) : TSd := ⟨fun D s M => p.t s M fun x M' => if x = true then a.t D s M' else b.t D s M', fun _ _ _ _ h q => p.mono _ _ _ _ (fun x M' => by
  split
  · exact a.mono _ _ _ _ h
  · exact b.mono _ _ _ _ h) q⟩
def sAsg (a : TD) (g : TGd) : TSd := ⟨fun D s M => a.t s M fun r M' => g.t r s M' D.nx, fun _ _ _ _ h q => a.mono _ _ _ _ (fun _ _ => g.mono _ _ _ _ _ h.nx) q⟩
section
variable {X : Cx} {c : Cla} {st : Stmt} {rest l1 l2 : List Stmt} {e tg : Expr} {pos : Pos} {a b : TSd} {t : TD} {p : TB} {g : TGd}
theorem ss_nil : SsOk X c [] sNx := ⟨pss_imp pss_nil fun D σ H ⟨ρ, s, M, S, R, q⟩ => q ρ σ H Ext.refl S R⟩
theorem ss_cons (h1 : SOk X c st a) (h2 : SsOk X c rest b) : SsOk X c (st :: rest) (sSeq a b) :=
  ⟨pss_imp (pss_cons h1.ps h2.ps) fun D σ H ⟨ρ, s, M, S, R, q⟩ => by
    refine ⟨ρ, s, M, S, R, TSd.le (a := a) q ⟨fun s' M' q' ρ' σ' H' e' S' R' => ?_, fun _ _ z => z, fun _ _ z => z, fun _ _ z => z⟩⟩
    exact ⟨ρ', s', M', S', R', TSd.le (a := b) q' (upE_le e')⟩⟩
theorem ss_one (h1 : SOk X c st a) : SsOk X c [st] a := ⟨pss_one h1.ps⟩
theorem s_pass : SOk X c (.Pass pos) sNx := ⟨ps_imp ps_pass fun D σ H ⟨ρ, s, M, S, R, q⟩ => q ρ σ H Ext.refl S R⟩
theorem s_break : SOk X c (.Break pos) sBk := ⟨ps_imp ps_break fun D σ H ⟨ρ, s, M, S, R, q⟩ => q ρ σ H Ext.refl S R⟩
theorem s_continue : SOk X c (.Continue pos) sCt := ⟨ps_imp ps_continue fun D σ H ⟨ρ, s, M, S, R, q⟩ => q ρ σ H Ext.refl S R⟩
theorem s_exp (h : EOk X c e t) (hs : swapsWith e none pos.line X.env = pure false) : SOk X c (.Expr e pos) (sExp t) :=
  ⟨ps_imp (ps_expr h.pe hs) fun D σ H ⟨ρ, s, M, S, R, q⟩ => ⟨ρ, s, M, S, R, t.mono _ _ _ _ (fun r M1 q1 ρ1 H1 v e1 R1 rv => q1 ρ1 σ H1 e1 (S.mono e1) R1) q⟩⟩
theorem s_ret (h : EOk X c e t) : SOk X c (.Return (some e) pos) (sRet t) :=
  ⟨ps_imp (ps_ret h.pe) fun D σ H ⟨ρ, s, M, S, R, q⟩ => ⟨ρ, s, M, S, R, q⟩⟩
theorem s_retN : SOk X c (.Return none pos) sRetN := ⟨ps_imp ps_retN fun D σ H ⟨ρ, s, M, S, R, q⟩ => q ρ H .non Ext.refl R (.d .non)⟩
theorem s_if (h : BOk X c e p) (h1 : SsOk X c l1 a) (h2 : SsOk X c l2 b) : SOk X c (.If e l1 l2 pos) (sIf p a b) :=
  ⟨ps_imp (ps_if h.pt h1.ps h2.ps) fun D σ H ⟨ρ, s, M, S, R, q⟩ => ⟨ρ, s, M, S, R, p.mono _ _ _ _ (fun x M1 q1 ρ1 H1 e1 R1 => by
    cases x with
    | true => exact ⟨ρ1, s, M1, S.mono e1, R1, a.mono _ _ _ _ (upE_le e1) q1⟩
    | false => exact ⟨ρ1, s, M1, S.mono e1, R1, b.mono _ _ _ _ (upE_le e1) q1⟩) q⟩⟩
theorem asg_imp (hg : True) {K : PySem.W.Frag} (D : Ends) (σ : L2.St) (H : Hp) (z : rdS K c (sAsg t g) D σ H) : tAsg (rdE K c t) (rdG K c g) D σ H := by
  obtain ⟨ρ, s, M, S, R, q⟩ := z
  refine ⟨ρ, s, M, S, R, t.mono _ _ _ _ (fun r M1 q1 ρ1 H1 v e1 R1 rv => ?_) q⟩
  exact ⟨ρ, H, ρ1, s, M1, r, e1, S.mono e1, R1, rv, q1⟩
theorem s_asg (h : EOk X c e t) (hg : GOk X c tg g) (hs : swapsWithSole [tg] e pos.line X.env = pure false) (hw : swappedStores [tg] e X.env = pure none) (h1 : (assignEach [tg] X.env).map (·.2) = [assign tg X.env]) : SOk X c (.Assign [tg] e pos) (sAsg t g) :=
  ⟨ps_imp (ps_asg h.pe hg.pg hs hw h1) (asg_imp trivial)⟩
end

/-! ### targets -/
theorem sget_set {d : Option D} : ∀ {s : Slots} {i j : Nat}, sget (s.set i d) j = if i = j ∧ i < s.length then d else sget s j
  | [], i, j => by simp
  | x :: r, 0, 0 => by simp
  | x :: r, 0, j + 1 => by simp
  | x :: r, i + 1, 0 => by simp
  | x :: r, i + 1, j + 1 => by simp [sget_set (s := r) (i := i) (j := j)]
theorem SlR.set {K : PySem.W.Frag} {H : Hp} {ρ : List Addr} {s : Slots} {σ : L2.St} {i : Nat} {d : D} {v : V} (S : SlR K H ρ s σ) (r : DR K H ρ d v) : SlR K H ρ (s.set i (some d)) (σ.set i (some v)) := by
  refine ⟨by simp [S.len], fun j x e => ?_⟩
  rw [sget_set] at e
  by_cases h : i = j ∧ i < s.length
  · rw [if_pos h] at e
    cases e
    obtain ⟨rfl, hl⟩ := h
    exact ⟨v, List.getElem?_set_self (by rw [← S.len]; exact hl), r⟩
  · rw [if_neg h] at e
    obtain ⟨w, h1, h2⟩ := S.at_ j x e
    refine ⟨w, ?_, h2⟩
    by_cases hij : i = j
    · subst hij
      have hn : ¬ i < s.length := fun z => h ⟨rfl, z⟩
      rw [List.getElem?_eq_none (by rw [← S.len]; omega)] at h1
      cases h1
    · rw [List.getElem?_set_ne hij]; exact h1
/-- slots that are forgotten -/
def skill (is : List Nat) (s : Slots) : Slots := is.foldl (fun s i => s.set i none) s
@[simp] theorem skill_nil {s : Slots} : skill [] s = s := rfl
@[simp] theorem skill_cons {i : Nat} {is : List Nat} {s : Slots} : skill (i :: is) s = skill is (s.set i none) := rfl
theorem SlR.kill1 {K : PySem.W.Frag} {H : Hp} {ρ : List Addr} {s : Slots} {σ : L2.St} {i : Nat} (S : SlR K H ρ s σ) : SlR K H ρ (s.set i none) σ := by
  refine ⟨by simp [S.len], fun j x e => ?_⟩
  rw [sget_set] at e
  split at e
  · cases e
  · exact S.at_ j x e
theorem SlR.kill {K : PySem.W.Frag} {H : Hp} {ρ : List Addr} {σ : L2.St} : ∀ {is : List Nat} {s : Slots}, SlR K H ρ s σ → SlR K H ρ (skill is s) σ
  | [], _, S => S
  | _ :: is, _, S => SlR.kill (is := is) S.kill1
def gNm (i : Nat) : TGd := ⟨fun r s M Q => asD r M fun d M1 => Q (s.set i (some d)) M1, fun _ _ _ _ _ h q => asD_mono (fun _ _ => h _ _) q⟩
structure TGs where
  t : List D → Slots → Mem → (Slots → Mem → Prop) → Prop
  mono : ∀ r s M Q Q', (∀ s' M', Q s' M' → Q' s' M') → t r s M Q → t r s M Q'
def gsNil : TGs := ⟨fun ds s M Q => match ds with
  | [] => Q s M
  | _ => False, fun ds s M Q Q' h q => by cases ds <;> first | exact h _ _ q | exact q⟩
def gsCons (g : TGd) (gs : TGs) : TGs := ⟨fun ds s M Q => match ds with
  | d :: ds => g.t (.d d) s M fun s1 M1 => gs.t ds s1 M1 Q
  | [] => False, fun ds s M Q Q' h q => by
    cases ds with
    | nil => exact q
    | cons d ds => exact g.mono _ _ _ _ _ (fun _ _ => gs.mono _ _ _ _ _ h) q⟩
def gTp (n : Nat) (gs : TGs) : TGd := ⟨fun r s M Q => match r with
  | .d (.tup ds) => ds.length = n ∧ gs.t ds s M Q
  | _ => False, fun r s M Q Q' h q => by
    split at q
    · exact ⟨q.1, gs.mono _ _ _ _ _ h q.2⟩
    · exact q.elim⟩
section
variable {X : Cx} {c : Cla} {e : Expr} {es : List Expr} {pos : Pos} {g : TGd} {gs : TGs}
def rdGs (K : PySem.W.Frag) (c : Cla) (t : TGs) : L2.TGs := fun vs σ H Q => ∃ ρ0 H0 ρ s M ds, Ext ρ0 H0 ρ H ∧ SlR K H ρ s σ ∧ Rep K c ρ H M ∧ DRs K H ρ ds vs ∧ t.t ds s M (upS K c ρ0 H0 Q)
structure GsOk (X : Cx) (c : Cla) (es : List Expr) (t : TGs) : Prop where
  pgs : PGs X es (rdGs X.K c t)
theorem pgs_imp {X : Cx} {e : List Expr} {t t' : L2.TGs} (h : PGs X e t) (i : ∀ v σ H Q, t' v σ H Q → t v σ H Q) : PGs X e t' := ⟨fun p s σ H v u Q I r q => h.run p s σ H v u Q I r (i v σ H Q q)⟩
theorem g_nm {i : Nat} {x : Str} (hN : X.N.Nodup) (hi : X.N[i]? = some x) (hx : Loc X.env.scope x) (hf : X.fn x = true ∨ X.env.scope.names.lookup x = some .local) : GOk X c (.Name x pos) (gNm i) :=
  ⟨pg_imp (pg_name hN hi hx hf) fun v σ H Q ⟨ρ0, H0, ρ, s, M, r, e0, S, R, rv, q⟩ => by
    obtain ⟨t, d, M', q, R', e', hd, _⟩ := asD_ok e0 R rv q
    exact q _ _ _ e' (S.app.set hd) R'⟩
theorem gs_nil : GsOk X c [] gsNil := ⟨pgs_imp pgs_nil fun vs σ H Q ⟨ρ0, H0, ρ, s, M, ds, e0, S, R, rv, q⟩ => by
  cases rv with
  | nil => exact ⟨rfl, q _ _ _ e0 S R⟩
  | cons _ _ => exact q.elim⟩
theorem gs_cons (h1 : GOk X c e g) (h2 : GsOk X c es gs) (hs : (assignEach (e :: es) X.env).map (·.2) = assign e X.env :: (assignEach es X.env).map (·.2)) : GsOk X c (e :: es) (gsCons g gs) :=
  ⟨pgs_imp (pgs_cons h1.pg h2.pgs hs) fun vs σ H Q ⟨ρ0, H0, ρ, s, M, ds, e0, S, R, rv, q⟩ => by
    cases rv with
    | nil => exact q.elim
    | cons r t =>
      refine ⟨_, _, rfl, ρ, H, ρ, s, M, _, Ext.refl, S, R, .d r, g.mono _ _ _ _ _ (fun s1 M1 q1 ρ1 σ1 H1 e1 S1 R1 => ?_) q⟩
      exact ⟨ρ0, H0, ρ1, s1, M1, _, e0.trans e1, S1, R1, t.mono e1, q1⟩⟩
theorem g_tp {n k : Nat} (hc : X.calm = true) (h : GsOk X c es gs) (hn : (assignEach es X.env).length = n) (hst : (assignEach es X.env).findIdx? (·.1) = none) : GOk X c (.Tuple es k pos) (gTp n gs) :=
  ⟨pg_imp (pg_tup hc h.pgs hn hst) fun v σ H Q ⟨ρ0, H0, ρ, s, M, r, e0, S, R, rv, q⟩ => by
    cases rv with
    | fo _ _ _ => exact q.elim
    | d hd =>
      cases hd with
      | tup hs ht =>
        obtain ⟨hl, q⟩ := q
        exact ⟨_, _, rfl, .of hs, by rw [← ht.length]; exact hl, ρ0, H0, ρ, s, M, _, e0, S, R, ht, q⟩
      | _ => exact q.elim⟩
end

/-! ### what a loop walks -/
/-- at turn i: none: not known; some none: the end; some (some d): d comes -/
structure Src where
  go : Nat → Mem → Option (Option D)
structure TIt where
  t : Slots → Mem → (Src → Mem → Prop) → Prop
  mono : ∀ s M Q Q', (∀ r M', Q r M' → Q' r M') → t s M Q → t s M Q'
structure SrcOk (K : PySem.W.Frag) (c : Cla) (J : It) (src : Src) (ρ0 : List Addr) (H0 : Hp) : Prop where
  stop : ∀ i ρ H M, Ext ρ0 H0 ρ H → Rep K c ρ H M → src.go i M = some none → J.stop i H
  go : ∀ i ρ H M d, Ext ρ0 H0 ρ H → Rep K c ρ H M → src.go i M = some (some d) → J.go i H ∧ ∀ x H', J.yld i H x H' → ∃ M', Ext ρ H ρ H' ∧ M' = M ∧ Rep K c ρ H' M' ∧ DR K H' ρ d x
def rdI (K : PySem.W.Frag) (c : Cla) (t : TIt) : TI := fun σ H R => ∃ ρ s M, SlR K H ρ s σ ∧ Rep K c ρ H M ∧ t.t s M fun src M' => ∀ ρ' H' J, Ext ρ H ρ' H' → Rep K c ρ' H' M' → SrcOk K c J src ρ' H' → R J H'
structure IOk (X : Cx) (c : Cla) (tg iter : Expr) (t : TIt) : Prop where
  pi : PI X tg iter (rdI X.K c t)
def forN (src : Src) (g : TGd) (b : TSd) (D : En) : Nat → Nat → Slots → Mem → Prop
  | 0, _, _, _ => False
  | n + 1, i, s, M => match src.go i M with
    | none => False
    | some none => D.nx s M
    | some (some d) => g.t (.d d) s M fun s1 M1 => b.t { nx := forN src g b D n (i + 1), ct := forN src g b D n (i + 1), bk := D.nx, rt := D.rt } s1 M1
theorem forN_mono {src : Src} {g : TGd} {b : TSd} {D D' : En} (h : En.Le D D') : ∀ (n i : Nat) (s : Slots) (M : Mem), forN src g b D n i s M → forN src g b D' n i s M
  | 0, _, _, _, q => q
  | n + 1, i, s, M, q => by
    unfold forN at q ⊢
    split at q
    · exact q
    · exact h.nx _ _ q
    · refine g.mono _ _ _ _ _ ?_ q
      intro s1 M1 q1
      exact TSd.le (a := b) q1 ⟨fun _ _ => forN_mono h n _ _ _, h.rt, h.nx, fun _ _ => forN_mono h n _ _ _⟩
def sFor (it : TIt) (g : TGd) (b : TSd) : TSd := ⟨fun D s M => it.t s M fun src M1 => ∃ n, forN src g b D n 0 s M1, fun s M D D' h q => it.mono _ _ _ _ (fun src M1 ⟨n, q⟩ => ⟨n, forN_mono h n _ _ _ q⟩) q⟩
section
variable {X : Cx} {c : Cla} {tg iter e : Expr} {body : List Stmt} {pos : Pos} {it : TIt} {g : TGd} {b : TSd} {p : TB}
theorem s_for (hp : PassesOwn (model X.prog X.w) X.A X.env X.xe) (hc : X.calm = true) (hi : IOk X c tg iter it) (hg : GOk X c tg g) (hb : SsOk X c body b) (hs : ∀ x, foldedSetIterable iter X.env x = pure x) : SOk X c (.For tg iter body [] pos) (sFor it g b) :=
  ⟨ps_imp (ps_for hp hc hi.pi hg.pg hb.ps hs) fun D σ H ⟨ρ, s, M, S, R, q⟩ => by
    refine ⟨ρ, s, M, S, R, it.mono _ _ _ _ (fun src M1 q1 ρ1 H1 J e1 R1 hJ => ?_) q⟩
    obtain ⟨n0, q1⟩ := q1
    refine ⟨fun i m σ' H' => ∃ ρ' s' M', Ext ρ1 H1 ρ' H' ∧ SlR X.K H' ρ' s' σ' ∧ Rep X.K c ρ' H' M' ∧ forN src g b (upE X.K c ρ H D) m i s' M', ⟨n0, ρ1, s, M1, Ext.refl, S.mono e1, R1, q1⟩, ?_⟩
    rintro i m σ' H' ⟨ρ', s', M', e', S', R', q'⟩
    cases m with
    | zero => exact q'.elim
    | succ m =>
      unfold forN at q'
      split at q'
      · exact q'.elim
      · rename_i hgo
        exact .inl ⟨hJ.stop i ρ' H' M' e' R' hgo, q' ρ' σ' H' (e1.trans e') S' R'⟩
      · rename_i d hgo
        obtain ⟨h1, h2⟩ := hJ.go i ρ' H' M' d e' R' hgo
        refine .inr ⟨h1, fun σ2 H2 => ∃ ρ2 s2 M2, Ext ρ1 H1 ρ2 H2 ∧ SlR X.K H2 ρ2 s2 σ2 ∧ Rep X.K c ρ2 H2 M2 ∧ forN src g b (upE X.K c ρ H D) m (i + 1) s2 M2, fun σ2 H2 z => ⟨m, Nat.lt_succ_self _, z⟩, fun x H2 hy => ?_⟩
        obtain ⟨M2, e2, hM, R2, hd⟩ := h2 x H2 hy
        rw [hM] at R2
        refine ⟨ρ', H2, ρ', s', M', .d d, Ext.refl, S'.mono e2, R2, .d hd, g.mono _ _ _ _ _ (fun s3 M3 q3 ρ3 σ3 H3 e3 S3 R3 => ?_) q'⟩
        refine ⟨ρ3, s3, M3, S3, R3, TSd.le (a := b) q3 ⟨fun s4 M4 q4 ρ4 σ4 H4 e4 S4 R4 => ?_, fun r M4 q4 ρ4 H4 v e4 R4 rv => ?_, fun s4 M4 q4 ρ4 σ4 H4 e4 S4 R4 => ?_, fun s4 M4 q4 ρ4 σ4 H4 e4 S4 R4 => ?_⟩⟩
        · exact ⟨ρ4, s4, M4, e'.trans (e2.trans (e3.trans e4)), S4, R4, q4⟩
        · exact q4 ρ4 H4 v (e1.trans (e'.trans (e2.trans (e3.trans e4)))) R4 (rv.from fun a h => e1.back _ (e'.back _ (e2.back _ (e3.back _ h))))
        · exact q4 ρ4 σ4 H4 (e1.trans (e'.trans (e2.trans (e3.trans e4)))) S4 R4
        · exact ⟨ρ4, s4, M4, e'.trans (e2.trans (e3.trans e4)), S4, R4, q4⟩⟩
/-- a while: what holds, what falls -/
def sWhl (p : TB) (b : TSd) : TSd := ⟨fun D s M => ∃ W : Nat → Slots → Mem → Prop, (∃ m, W m s M) ∧ ∀ m s M, W m s M → p.t s M fun x M1 => if x = true then b.t { nx := fun s2 M2 => ∃ m', m' < m ∧ W m' s2 M2, ct := fun s2 M2 => ∃ m', m' < m ∧ W m' s2 M2, bk := D.nx, rt := D.rt } s M1 else D.nx s M1,
  fun s M D D' h ⟨W, w0, q⟩ => ⟨W, w0, fun m s M w => p.mono _ _ _ _ (fun x M1 => by
    split
    · exact fun z => TSd.le (a := b) z ⟨fun _ _ z => z, h.rt, h.nx, fun _ _ z => z⟩
    · exact h.nx _ _) (q m s M w)⟩⟩
theorem s_while (hp : PassesOwn (model X.prog X.w) X.A X.env X.xe) (hc : BOk X c e p) (hb : SsOk X c body b) : SOk X c (.While e body [] pos) (sWhl p b) :=
  ⟨ps_imp (ps_while hp hc.pt hb.ps) fun D σ H ⟨ρ, s, M, S, R, W, ⟨m0, w0⟩, q⟩ => by
    refine ⟨fun m σ' H' => ∃ ρ' s' M', Ext ρ H ρ' H' ∧ SlR X.K H' ρ' s' σ' ∧ Rep X.K c ρ' H' M' ∧ W m s' M', ⟨m0, ρ, s, M, Ext.refl, S, R, w0⟩, ?_⟩
    rintro m σ' H' ⟨ρ', s', M', e', S', R', w'⟩
    refine ⟨ρ', s', M', S', R', p.mono _ _ _ _ (fun x M1 q1 ρ1 H1 e1 R1 => ?_) (q m s' M' w')⟩
    cases x with
    | false => exact q1 ρ1 σ' H1 (e'.trans e1) (S'.mono e1) R1
    | true =>
      refine ⟨fun σ2 H2 => ∃ m', m' < m ∧ ∃ ρ2 s2 M2, Ext ρ H ρ2 H2 ∧ SlR X.K H2 ρ2 s2 σ2 ∧ Rep X.K c ρ2 H2 M2 ∧ W m' s2 M2, fun σ2 H2 ⟨m', hm, z⟩ => ⟨m', hm, z⟩, ?_⟩
      refine ⟨ρ1, s', M1, S'.mono e1, R1, TSd.le (a := b) q1 ⟨fun s4 M4 ⟨m', hm, q4⟩ ρ4 σ4 H4 e4 S4 R4 => ?_, fun r M4 q4 ρ4 H4 v e4 R4 rv => ?_, fun s4 M4 q4 ρ4 σ4 H4 e4 S4 R4 => ?_, fun s4 M4 ⟨m', hm, q4⟩ ρ4 σ4 H4 e4 S4 R4 => ?_⟩⟩
      · exact ⟨m', hm, ρ4, s4, M4, e'.trans (e1.trans e4), S4, R4, q4⟩
      · exact q4 ρ4 H4 v (e'.trans (e1.trans e4)) R4 (rv.from fun a h => e'.back _ (e1.back _ h))
      · exact q4 ρ4 σ4 H4 (e'.trans (e1.trans e4)) S4 R4
      · exact ⟨m', hm, ρ4, s4, M4, e'.trans (e1.trans e4), S4, R4, q4⟩⟩
end
end DL

/-! DL4: operations of values. -/
namespace DL
open PySem L2

/-- the items of a list that may be joined, repeated, changed -/
def lstOf (M : Mem) : RV → Option (List D)
  | .d (.ref n) => match M[n]? with
    | some (.lst xs) => some xs
    | _ => none
  | .fo (.lst xs) => some xs
  | _ => none
/-- the items of any list -/
def lsOf (M : Mem) : RV → Option (List D)
  | .d (.frl xs) => some xs
  | r => lstOf M r
/-- the items of any list, a tuple -/
def seqOf (M : Mem) : RV → Option (List D)
  | .d (.tup xs) => some xs
  | r => lsOf M r
section
variable {K : PySem.W.Frag} {c : Cla} {ρ : List Addr} {H H0 : Hp} {M : Mem} {r : RV} {v : V} {xs : List D}
theorem lstOf_ok (R : Rep K c ρ H M) (h : RVR K c H0 H ρ r v) (q : lstOf M r = some xs) : ∃ a vs, v = .ref a ∧ H a = some (.lst vs) ∧ DRs K H ρ xs vs := by
  cases h with
  | d h =>
    cases h with
    | ref e =>
      rename_i n a
      unfold lstOf at q
      simp only at q
      split at q
      · rename_i ys hm
        cases q
        obtain ⟨a', e', o⟩ := R.addr hm
        rw [e] at e'; cases e'
        obtain ⟨vs, h1, h2⟩ := o
        exact ⟨_, vs, rfl, h1, h2⟩
      · cases q
    | _ => cases q
  | fo h0 hn ho =>
    rename_i o a
    cases o with
    | lst ys => cases q; obtain ⟨vs, h1, h2⟩ := ho; exact ⟨_, vs, rfl, h1, h2⟩
    | _ => cases q
theorem lsOf_ok (R : Rep K c ρ H M) (h : RVR K c H0 H ρ r v) (q : lsOf M r = some xs) : ∃ a vs, v = .ref a ∧ SqL K H a vs ∧ DRs K H ρ xs vs := by
  unfold lsOf at q
  split at q
  · cases h with
    | d h =>
    cases h with
    | frl s t => cases q; exact ⟨_, _, rfl, s.1, t⟩
  · obtain ⟨a, vs, h1, h2, h3⟩ := lstOf_ok R h q
    exact ⟨a, vs, h1, .of h2, h3⟩
theorem seqOf_ok (R : Rep K c ρ H M) (h : RVR K c H0 H ρ r v) (q : seqOf M r = some xs) : ∃ a vs, v = .ref a ∧ (SqL K H a vs ∨ SqT K H a vs) ∧ DRs K H ρ xs vs := by
  unfold seqOf at q
  split at q
  · cases h with
    | d h =>
    cases h with
    | tup s t => cases q; exact ⟨_, _, rfl, .inr (.of s), t⟩
  · obtain ⟨a, vs, h1, h2, h3⟩ := lsOf_ok R h q
    exact ⟨a, vs, h1, .inl h2, h3⟩
end
theorem DRs.append {K : PySem.W.Frag} {H : Hp} {ρ : List Addr} : ∀ {xs ys : List D} {vs ws : List V}, DRs K H ρ xs vs → DRs K H ρ ys ws → DRs K H ρ (xs ++ ys) (vs ++ ws)
  | _, _, _, _, .nil, s => s
  | _, _, _, _, .cons r t, s => .cons r (DRs.append t s)
theorem DRs.get {K : PySem.W.Frag} {H : Hp} {ρ : List Addr} : ∀ {xs : List D} {vs : List V} {i : Nat} {x : D}, DRs K H ρ xs vs → xs[i]? = some x → ∃ v, vs[i]? = some v ∧ DR K H ρ x v
  | _, _, _, _, .nil, e => by simp at e
  | _, _, 0, _, .cons r _, e => by simp at e; subst e; exact ⟨_, rfl, r⟩
  | _, _, i + 1, x, .cons _ t, e => by
    obtain ⟨u, h1, h2⟩ := DRs.get (i := i) (x := x) t (by simpa using e)
    exact ⟨u, by simpa using h1, h2⟩
theorem DRs.take {K : PySem.W.Frag} {H : Hp} {ρ : List Addr} : ∀ {xs : List D} {vs : List V} (n : Nat), DRs K H ρ xs vs → DRs K H ρ (xs.take n) (vs.take n)
  | _, _, 0, _ => .nil
  | _, _, _ + 1, .nil => .nil
  | _, _, n + 1, .cons r t => .cons r (DRs.take n t)
theorem DRs.drop {K : PySem.W.Frag} {H : Hp} {ρ : List Addr} : ∀ {xs : List D} {vs : List V} (n : Nat), DRs K H ρ xs vs → DRs K H ρ (xs.drop n) (vs.drop n)
  | _, _, 0, r => r
  | _, _, _ + 1, .nil => .nil
  | _, _, n + 1, .cons _ t => DRs.drop n t
theorem DRs.set {K : PySem.W.Frag} {H : Hp} {ρ : List Addr} {d : D} {v : V} (r : DR K H ρ d v) : ∀ {xs : List D} {vs : List V} (i : Nat), DRs K H ρ xs vs → DRs K H ρ (xs.set i d) (vs.set i v)
  | _, _, _, .nil => .nil
  | _, _, 0, .cons _ t => .cons r t
  | _, _, i + 1, .cons q t => .cons q (DRs.set r i t)
theorem DRs.eraseIdx {K : PySem.W.Frag} {H : Hp} {ρ : List Addr} : ∀ {xs : List D} {vs : List V} (i : Nat), DRs K H ρ xs vs → DRs K H ρ (xs.eraseIdx i) (vs.eraseIdx i)
  | _, _, _, .nil => .nil
  | _, _, 0, .cons _ t => t
  | _, _, i + 1, .cons q t => .cons q (DRs.eraseIdx i t)
theorem DRs.dropLast {K : PySem.W.Frag} {H : Hp} {ρ : List Addr} {xs : List D} {vs : List V} (h : DRs K H ρ xs vs) : DRs K H ρ xs.dropLast vs.dropLast := by
  rw [List.dropLast_eq_take, List.dropLast_eq_take, h.length]; exact h.take _
theorem DRs.reverse {K : PySem.W.Frag} {H : Hp} {ρ : List Addr} : ∀ {xs : List D} {vs : List V}, DRs K H ρ xs vs → DRs K H ρ xs.reverse vs.reverse
  | _, _, .nil => .nil
  | _, _, .cons r t => by
    rw [List.reverse_cons, List.reverse_cons]
    exact DRs.append (DRs.reverse t) (.cons r .nil)
theorem DRs.rep {K : PySem.W.Frag} {H : Hp} {ρ : List Addr} {xs : List D} {vs : List V} (h : DRs K H ρ xs vs) : ∀ k : Nat, DRs K H ρ (List.replicate k xs).flatten (List.replicate k vs).flatten
  | 0 => .nil
  | k + 1 => by rw [List.replicate_succ, List.replicate_succ, List.flatten_cons, List.flatten_cons]; exact h.append (DRs.rep h k)
theorem str_app (a b : List Nat) : (⟨a.toArray⟩ : Str) ++ ⟨b.toArray⟩ = ⟨(a ++ b).toArray⟩ := by
  show Str.append ⟨a.toArray⟩ ⟨b.toArray⟩ = _
  simp [Str.append]
theorem Good.append {a b : List Nat} (h : Good a) (h' : Good b) (n : a.length + b.length ≤ 16777216) : Good (a ++ b) :=
  ⟨by simpa using n, fun x hx => (List.mem_append.mp hx).elim (h.ok x) (h'.ok x)⟩
theorem Good.sub {a b : List Nat} (h : Good a) (hs : ∀ x ∈ b, x ∈ a) (hl : b.length ≤ a.length) : Good b := ⟨Nat.le_trans hl h.len, fun x hx => h.ok x (hs x hx)⟩

/-! ### a + b -/
def addF (M : Mem) (x y : RV) (k : RV → Prop) : Prop := match x, y with
  | .d (.int a), .d (.int b) => k (.d (.int (a + b)))
  | .d (.str a), .d (.str b) => a.length + b.length ≤ 16777216 ∧ k (.d (.str (a ++ b)))
  | .d (.tup a), .d (.tup b) => a.length + b.length ≤ 16777216 ∧ k (.d (.tup (a ++ b)))
  | x, y => match lstOf M x, lstOf M y with
    | some a, some b => a.length + b.length ≤ 16777216 ∧ k (.fo (.lst (a ++ b)))
    | _, _ => False
def oAdd : Op2 := ⟨addF, fun M x y Q Q' h q => by
  unfold addF at q ⊢
  split at q
  · exact h _ q
  · exact ⟨q.1, h _ q.2⟩
  · exact ⟨q.1, h _ q.2⟩
  · split at q
    · exact ⟨q.1, h _ q.2⟩
    · exact q⟩
def rAddA (K : PySem.W.Frag) : R2 := fun x y H Q => (((rI0 fun i j => .int (i + j)) x y H Q ∨ ∃ i j, x = .str i ∧ y = .str j ∧ i.length + j.length ≤ sizeLine ∧ Q (.str (i ++ j)) H) ∨ rCatA K x y H Q) ∨ rCat x y H Q
theorem add_op {X : Cx} : OpR X (binaryOp .Add) (rAddA X.K) := ((op_add.or op_add_str).or op_catA).or op_cat
theorem Ext.of_fresh_fo {K : PySem.W.Frag} {c : Cla} {ρ : List Addr} {H : Hp} {M : Mem} {p : Addr} (R : Rep K c ρ H M) (hp : H p = none) : p ∉ ρ := fun z => by
  obtain ⟨u, hu, _⟩ := R.live z
  rw [hp] at hu; cases hu
theorem add_ok {K : PySem.W.Frag} {c : Cla} : Op2Ok K c oAdd (rAddA K) := ⟨fun ρ H0 H M x y v w Q R rx ry q => by
  unfold oAdd at q
  dsimp only at q
  unfold addF at q
  split at q
  · cases rx with
    | d rx =>
    cases ry with
    | d ry =>
    cases rx; cases ry
    exact .inl (.inl (.inl ⟨_, _, rfl, rfl, q H _ Ext.refl R (.d .int)⟩))
  · cases rx with
    | d rx =>
    cases ry with
    | d ry =>
    cases rx with
    | str g1 =>
    cases ry with
    | str g2 =>
    refine .inl (.inl (.inr ⟨_, _, rfl, rfl, line_le (by simpa [Str.length] using q.1), ?_⟩))
    rw [str_app]
    exact q.2 H _ Ext.refl R (.d (.str (g1.append g2 q.1)))
  · cases rx with
    | d rx =>
    cases ry with
    | d ry =>
    cases rx with
    | tup h1 t1 =>
    cases ry with
    | tup h2 t2 =>
    rename_i a b a1 vs a2 ws
    refine .inl (.inr ⟨_, _, _, _, rfl, rfl, .of h1, .of h2, line_le (by rw [← t1.length, ← t2.length]; exact q.1), fun e => ?_, fun _ e => ?_, fun _ _ p hp => ?_⟩)
    · subst e
      cases t1
      exact q.2 H _ Ext.refl R (.d (.tup h2 (by simpa using t2)))
    · subst e
      cases t2
      exact q.2 H _ Ext.refl R (.d (.tup h1 (by simpa using t1)))
    · have e : Ext ρ H ρ (upd H p (.tup (vs ++ ws))) := Ext.fresh hp
      exact q.2 _ _ e (R.fresh hp) (.d (.tup upd_same ((t1.append t2).mono e)))
  · split at q
    · rename_i a b ha hb
      obtain ⟨p, vs, rfl, h1, t1⟩ := lstOf_ok R rx ha
      obtain ⟨p', ws, rfl, h2, t2⟩ := lstOf_ok R ry hb
      refine .inr ⟨_, _, _, _, rfl, rfl, h1, h2, line_le (by rw [← t1.length, ← t2.length]; exact q.1), fun p hp => ?_⟩
      have e : Ext ρ H ρ (upd H p (.lst (vs ++ ws))) := Ext.fresh hp
      exact q.2 _ _ e (R.fresh hp) (.fo hp (Ext.of_fresh_fo R hp) ⟨_, upd_same, (t1.append t2).mono e⟩)
    · exact q.elim⟩

/-! ### ints -/
def int2 (C : Int → Int → Prop) (g : Int → Int → D) : Op2 := ⟨fun _ x y k => match x, y with
  | .d (.int a), .d (.int b) => C a b ∧ k (.d (g a b))
  | _, _ => False, fun M x y Q Q' h q => by
    split at q
    · exact ⟨q.1, h _ q.2⟩
    · exact q⟩
theorem int2_ok {K : PySem.W.Frag} {c : Cla} {C : Int → Int → Prop} {g : Int → Int → D} {gv : Int → Int → V} (hg : ∀ i j H ρ, DR K H ρ (g i j) (gv i j)) : Op2Ok K c (int2 C g) (rI C gv) := ⟨fun ρ H0 H M x y v w Q R rx ry q => by
  unfold int2 at q
  simp only at q
  split at q
  · cases rx with
    | d rx =>
    cases ry with
    | d ry =>
    cases rx; cases ry
    exact ⟨_, _, rfl, rfl, q.1, q.2 H _ Ext.refl R (.d (hg _ _ _ _))⟩
  · exact q.elim⟩
theorem int2_ok0 {K : PySem.W.Frag} {c : Cla} {g : Int → Int → D} {gv : Int → Int → V} (hg : ∀ i j H ρ, DR K H ρ (g i j) (gv i j)) : Op2Ok K c (int2 (fun _ _ => True) g) (rI0 gv) := ⟨fun ρ H0 H M x y v w Q R rx ry q => by
  obtain ⟨i, j, e1, e2, _, q⟩ := (int2_ok (C := fun _ _ => True) hg).ok ρ H0 H M x y v w Q R rx ry q
  exact ⟨i, j, e1, e2, q⟩⟩
def oSub : Op2 := int2 (fun _ _ => True) fun i j => .int (i - j)
def oDiv : Op2 := int2 CDiv fun i j => .int (i / j)
def oMod : Op2 := int2 (fun _ j => 0 < j) fun i j => .int (i % j)
def oPow : Op2 := int2 CPow fun i j => .int (i ^ j.toNat)
/-- a * b: ints (one of them below 2^64), a list by an int -/
def mulF (M : Mem) (x y : RV) (k : RV → Prop) : Prop := match x, y with
  | .d (.int a), .d (.int b) => CMul a b ∧ k (.d (.int (a * b)))
  | x, .d (.int b) => okO (lstOf M x) fun xs => (-(2 ^ 63) ≤ b ∧ b < 2 ^ 63) ∧ xs.length * b.toNat ≤ 16777216 ∧ k (.fo (.lst (List.replicate b.toNat xs).flatten))
  | _, _ => False
def oMul : Op2 := ⟨mulF, fun M x y Q Q' h q => by
  unfold mulF at q ⊢
  split at q
  · exact ⟨q.1, h _ q.2⟩
  · exact okO_mono (fun xs z => ⟨z.1, z.2.1, h _ z.2.2⟩) q
  · exact q⟩
theorem mul_op {X : Cx} : OpR X (binaryOp .Mult) (fun x y H Q => (rI CMul fun i j => .int (i * j)) x y H Q ∨ rRep x y H Q) := op_mul.or op_rep
theorem mul_ok {K : PySem.W.Frag} {c : Cla} : Op2Ok K c oMul (fun x y H Q => (rI CMul fun i j => .int (i * j)) x y H Q ∨ rRep x y H Q) := ⟨fun ρ H0 H M x y v w Q R rx ry q => by
  unfold oMul at q
  dsimp only at q
  unfold mulF at q
  split at q
  · cases rx with
    | d rx =>
    cases ry with
    | d ry =>
    cases rx; cases ry
    exact .inl ⟨_, _, rfl, rfl, q.1, q.2 H _ Ext.refl R (.d .int)⟩
  · obtain ⟨xs, hx, h1, h2, q⟩ := okO_get q
    cases ry with
    | d ry =>
    cases ry
    obtain ⟨p, vs, rfl, hp, t⟩ := lstOf_ok R rx hx
    refine .inr ⟨_, _, _, rfl, rfl, hp, h1.1, h1.2, line_le (by rw [← t.length]; exact h2), fun p hp => ?_⟩
    exact q _ _ (Ext.fresh hp) (R.fresh hp) (.fo hp (Ext.of_fresh_fo R hp) ⟨_, upd_same, (t.rep _).mono (Ext.fresh hp)⟩)
  · exact q.elim⟩
def oNeg : Op1 := ⟨fun _ x k => match x with
  | .d (.int a) => k (.d (.int (-a)))
  | _ => False, fun M x Q Q' h q => by
    split at q
    · exact h _ q
    · exact q⟩
theorem neg_ok {K : PySem.W.Frag} {c : Cla} : Op1Ok K c oNeg (rU fun i => .int (-i)) := ⟨fun ρ H0 H M x v Q R rx q => by
  unfold oNeg at q
  simp only at q
  split at q
  · cases rx with
    | d rx =>
    cases rx
    exact ⟨_, rfl, q H _ Ext.refl R (.d .int)⟩
  · exact q.elim⟩

/-! ### == -/
mutual
def D.py : D → PyData
  | .non => .none
  | .bl b => .bool b
  | .int i => .int i
  | .str l => .str ⟨l.toArray⟩
  | .tup xs => .tuple (D.pys xs)
  | .frl xs => .list (D.pys xs)
  | .ref _ => .none
  | .ty _ => .none
def D.pys : List D → List PyData
  | [] => []
  | x :: xs => D.py x :: D.pys xs
end
mutual
/-- data alone, at most so deep -/
def D.fit : Nat → D → Bool
  | _, .non => true
  | _, .bl _ => true
  | _, .int _ => true
  | _, .str _ => true
  | 0, .tup _ => false
  | n + 1, .tup xs => D.fits n xs
  | 0, .frl _ => false
  | n + 1, .frl xs => D.fits n xs
  | _, .ref _ => false
  | _, .ty _ => false
def D.fits : Nat → List D → Bool
  | _, [] => true
  | n, x :: xs => D.fit n x && D.fits n xs
end
mutual
def D.eqv : D → D → Bool
  | .non, .non => true
  | .bl a, .bl b => a == b
  | .bl a, .int j => (if a then 1 else 0) == j
  | .int i, .bl b => i == (if b then 1 else 0)
  | .int i, .int j => decide (i = j)
  | .str a, .str b => decide (a = b)
  | .tup xs, .tup ys => D.eqvs xs ys
  | .frl xs, .frl ys => D.eqvs xs ys
  | _, _ => false
def D.eqvs : List D → List D → Bool
  | [], [] => true
  | x :: xs, y :: ys => D.eqv x y && D.eqvs xs ys
  | _, _ => false
end
theorem str_beq (a b : List Nat) : (((⟨a.toArray⟩ : Str) == ⟨b.toArray⟩) : Bool) = decide (a = b) := by
  by_cases h : a = b
  · subst h; simp
  · rw [decide_eq_false h]
    exact beq_eq_false_iff_ne.mpr fun z => h (by simpa using z)
mutual
theorem D.eqv_py : ∀ (n m : Nat) (d e : D), D.fit n d = true → D.fit m e = true → D.eqv d e = PyData.eqv d.py e.py
  | n, m, .non, e, h1, h2 => by cases e <;> first | rfl | (simp [D.fit] at h2)
  | n, m, .bl _, e, h1, h2 => by cases e <;> first | rfl | (simp [D.fit] at h2)
  | n, m, .int i, e, h1, h2 => by
    cases e <;> first | rfl | (simp [D.fit] at h2; done)
  | n, m, .str a, e, h1, h2 => by
    cases e <;> first | rfl | (simp [D.fit] at h2; done) | skip
    rename_i b
    exact (str_beq a b).symm
  | 0, m, .tup xs, e, h1, h2 => by simp [D.fit] at h1
  | n + 1, m, .tup xs, e, h1, h2 => by
    cases e with
    | tup ys =>
      cases m with
      | zero => simp [D.fit] at h2
      | succ m => exact D.eqvs_py n m xs ys (by simpa [D.fit] using h1) (by simpa [D.fit] using h2)
    | ref _ => simp [D.fit] at h2
    | ty _ => simp [D.fit] at h2
    | _ => rfl
  | 0, m, .frl xs, e, h1, h2 => by simp [D.fit] at h1
  | n + 1, m, .frl xs, e, h1, h2 => by
    cases e with
    | frl ys =>
      cases m with
      | zero => simp [D.fit] at h2
      | succ m => exact D.eqvs_py n m xs ys (by simpa [D.fit] using h1) (by simpa [D.fit] using h2)
    | ref _ => simp [D.fit] at h2
    | ty _ => simp [D.fit] at h2
    | _ => rfl
  | n, m, .ref _, e, h1, h2 => by simp [D.fit] at h1
  | n, m, .ty _, e, h1, h2 => by simp [D.fit] at h1
theorem D.eqvs_py : ∀ (n m : Nat) (ds es : List D), D.fits n ds = true → D.fits m es = true → D.eqvs ds es = PyData.eqvAll (D.pys ds) (D.pys es)
  | n, m, [], [], _, _ => rfl
  | n, m, [], _ :: _, _, _ => rfl
  | n, m, _ :: _, [], _, _ => rfl
  | n, m, x :: xs, y :: ys, h1, h2 => by
    simp only [D.fits, Bool.and_eq_true] at h1 h2
    simp only [D.eqvs, D.pys, PyData.eqvAll]
    rw [D.eqv_py n m x y h1.1 h2.1, D.eqvs_py n m xs ys h1.2 h2.2]
end
mutual
theorem D.dp {K : PySem.W.Frag} {H : Hp} {ρ : List Addr} : ∀ (n : Nat) (d : D) (v : V), D.fit n d = true → DR K H ρ d v → Dp K H v d.py ∧ d.py.canLay0 = true ∧ d.py.depth ≤ n
  | _, _, _, _, .non => ⟨.non, rfl, Nat.zero_le _⟩
  | _, _, _, _, .bl => ⟨.bl _, rfl, Nat.zero_le _⟩
  | _, _, _, _, .int => ⟨.int _, rfl, Nat.zero_le _⟩
  | _, _, _, _, .str g => ⟨.str _, by
      show PyData.strOk _ = true
      simp only [PyData.strOk, List.all_toArray, List.all_eq_true, decide_eq_true_eq]
      exact fun x hx => g.ok x hx, Nat.zero_le _⟩
  | 0, _, _, h, .tup _ _ => by simp [D.fit] at h
  | n + 1, _, _, h, .tup s t => by
    obtain ⟨h1, h2, h3⟩ := D.dps n _ _ (by simpa [D.fit] using h) t
    exact ⟨.tup (.of s) h1, by simpa [D.py, PyData.canLay0] using h2, by simp [D.py, PyData.depth]; exact h3⟩
  | 0, _, _, h, .frl _ _ => by simp [D.fit] at h
  | n + 1, _, _, h, .frl s t => by
    obtain ⟨h1, h2, h3⟩ := D.dps n _ _ (by simpa [D.fit] using h) t
    exact ⟨.lst s.1 h1, by simpa [D.py, PyData.canLay0] using h2, by simp [D.py, PyData.depth]; exact h3⟩
  | _, _, _, h, .ref _ => by simp [D.fit] at h
  | _, _, _, h, .ty => by simp [D.fit] at h
theorem D.dps {K : PySem.W.Frag} {H : Hp} {ρ : List Addr} : ∀ (n : Nat) (ds : List D) (vs : List V), D.fits n ds = true → DRs K H ρ ds vs → DpAll K H vs (D.pys ds) ∧ PyData.canLayAll0 (D.pys ds) = true ∧ PyData.depthAll (D.pys ds) ≤ n
  | _, _, _, _, .nil => ⟨.nil, rfl, Nat.zero_le _⟩
  | n, _, _, h, .cons r t => by
    simp only [D.fits, Bool.and_eq_true] at h
    obtain ⟨h1, h2, h3⟩ := D.dp n _ _ h.1 r
    obtain ⟨h4, h5, h6⟩ := D.dps n _ _ h.2 t
    exact ⟨.cons h1 h4, by simp [D.pys, PyData.canLayAll0, h2, h5], by simp only [D.pys, PyData.depthAll]; exact Nat.max_le.mpr ⟨h3, h6⟩⟩
end
def eqF (g : Bool → Bool) : Op2 := ⟨fun _ x y k => match x, y with
  | .d a, .d b => (a.fit 64 = true ∧ b.fit 64 = true) ∧ k (.d (.bl (g (D.eqv a b))))
  | _, _ => False, fun M x y Q Q' h q => by
    split at q
    · exact ⟨q.1, h _ q.2⟩
    · exact q⟩
def oEq : Op2 := eqF id
def oNe : Op2 := eqF not
theorem eqD_ok {K : PySem.W.Frag} {ρ : List Addr} {H : Hp} {a b : D} {v w : V} (h1 : a.fit 64 = true) (h2 : b.fit 64 = true) (ra : DR K H ρ a v) (rb : DR K H ρ b w) :
    ∃ d e, Dp K H v d ∧ Dp K H w e ∧ SeqAt.shaped d = true ∧ SeqAt.shaped e = true ∧ PyData.eqv d e = D.eqv a b := by
  obtain ⟨p1, p2, p3⟩ := D.dp 64 a v h1 ra
  obtain ⟨q1, q2, q3⟩ := D.dp 64 b w h2 rb
  exact ⟨_, _, p1, q1, by simp [SeqAt.shaped, p2, p3], by simp [SeqAt.shaped, q2, q3], (D.eqv_py 64 64 a b h1 h2).symm⟩
theorem eq_ok {K : PySem.W.Frag} {c : Cla} : Op2Ok K c oEq (rEqD K) := ⟨fun ρ H0 H M x y v w Q R rx ry q => by
  unfold oEq eqF at q
  simp only at q
  split at q
  · cases rx with
    | d rx =>
    cases ry with
    | d ry =>
    obtain ⟨d, e, h1, h2, h3, h4, h5⟩ := eqD_ok q.1.1 q.1.2 rx ry
    refine ⟨d, e, h1, h2, h3, h4, ?_⟩
    rw [h5]
    exact q.2 H _ Ext.refl R (.d .bl)
  · exact q.elim⟩
theorem ne_ok {K : PySem.W.Frag} {c : Cla} : Op2Ok K c oNe (rNeD K) := ⟨fun ρ H0 H M x y v w Q R rx ry q => by
  unfold oNe eqF at q
  simp only at q
  split at q
  · cases rx with
    | d rx =>
    cases ry with
    | d ry =>
    obtain ⟨d, e, h1, h2, h3, h4, h5⟩ := eqD_ok q.1.1 q.1.2 rx ry
    refine ⟨d, e, h1, h2, h3, h4, ?_⟩
    rw [h5]
    exact q.2 H _ Ext.refl R (.d .bl)
  · exact q.elim⟩

/-! ### order, is -/
def cmpI (p : Int → Int → Bool) : Op2 := int2 (fun _ _ => True) fun i j => .bl (p i j)
def oLt : Op2 := cmpI fun i j => decide (i < j)
def oLe : Op2 := cmpI fun i j => decide (i ≤ j)
def oGt : Op2 := cmpI fun i j => decide (j < i)
def oGe : Op2 := cmpI fun i j => decide (j ≤ i)
def nonD : D → Bool
  | .non => true
  | _ => false
def isB (g : Bool → Bool) : Op2 := ⟨fun _ x y k => match x, y with
  | .d a, .d .non => k (.d (.bl (g (nonD a))))
  | .fo _, .d .non => k (.d (.bl (g false)))
  | .d (.bl a), .d (.bl b) => k (.d (.bl (g (decide (a = b)))))
  | _, _ => False, fun M x y Q Q' h q => by
    split at q
    · exact h _ q
    · exact h _ q
    · exact h _ q
    · exact q⟩
def oIs : Op2 := isB id
def oIsNot : Op2 := isB not
def rIsA : R2 := fun x y H Q => (y = .non ∧ Q (.bl (decide (x = .non))) H) ∨ rIsB x y H Q
def rNotA : R2 := fun x y H Q => (y = .non ∧ Q (.bl (!decide (x = .non))) H) ∨ rNotB x y H Q
theorem is_op {X : Cx} : OpR X (compareOp .Is) rIsA := op_isN.or op_isBl
theorem isnot_op {X : Cx} : OpR X (compareOp .IsNot) rNotA := op_notN.or op_notBl
theorem none_dec {K : PySem.W.Frag} {H : Hp} {ρ : List Addr} {a : D} {v : V} (h : DR K H ρ a v) : decide (v = V.non) = nonD a := by
  cases h <;> simp [nonD]
theorem isB_ok {K : PySem.W.Frag} {c : Cla} : Op2Ok K c oIs rIsA := ⟨fun ρ H0 H M x y v w Q R rx ry q => by
  unfold oIs isB at q
  simp only at q
  split at q
  · cases rx with
    | d rx =>
    cases ry with
    | d ry =>
    cases ry
    refine .inl ⟨rfl, ?_⟩
    rw [none_dec rx]
    exact q H _ Ext.refl R (.d .bl)
  · cases ry with
    | d ry =>
    cases ry
    cases rx with
    | fo h0 hn ho =>
    refine .inl ⟨rfl, ?_⟩
    rename_i a
    have e : decide (V.ref a = V.non) = false := decide_eq_false (fun z => nomatch z)
    rw [e]
    exact q H _ Ext.refl R (.d .bl)
  · cases rx with
    | d rx =>
    cases ry with
    | d ry =>
    cases rx; cases ry
    exact .inr ⟨_, _, rfl, rfl, q H _ Ext.refl R (.d .bl)⟩
  · exact q.elim⟩
theorem isnotB_ok {K : PySem.W.Frag} {c : Cla} : Op2Ok K c oIsNot rNotA := ⟨fun ρ H0 H M x y v w Q R rx ry q => by
  unfold oIsNot isB at q
  simp only at q
  split at q
  · cases rx with
    | d rx =>
    cases ry with
    | d ry =>
    cases ry
    refine .inl ⟨rfl, ?_⟩
    rw [none_dec rx]
    exact q H _ Ext.refl R (.d .bl)
  · cases ry with
    | d ry =>
    cases ry
    cases rx with
    | fo h0 hn ho =>
    refine .inl ⟨rfl, ?_⟩
    rename_i a
    have e : decide (V.ref a = V.non) = false := decide_eq_false (fun z => nomatch z)
    rw [e]
    exact q H _ Ext.refl R (.d .bl)
  · cases rx with
    | d rx =>
    cases ry with
    | d ry =>
    cases rx; cases ry
    exact .inr ⟨_, _, rfl, rfl, q H _ Ext.refl R (.d .bl)⟩
  · exact q.elim⟩

/-! ### subscripts, slices -/
def ixF (M : Mem) (x y : RV) (k : RV → Prop) : Prop := match x, y with
  | .d (.str l), .d (.int i) => okO (atI l i) fun ch => k (.d (.str [ch]))
  | x, .d (.int i) => okO (seqOf M x) fun xs => okO (atI xs i) fun d => k (.d d)
  | _, _ => False
def oIx : Op2 := ⟨ixF, fun M x y Q Q' h q => by
  unfold ixF at q ⊢
  split at q
  · exact okO_mono (fun _ => h _) q
  · exact okO_mono (fun _ => okO_mono fun _ => h _) q
  · exact q⟩
theorem atI_DR {K : PySem.W.Frag} {H : Hp} {ρ : List Addr} {xs : List D} {vs : List V} {i : Int} {d : D} (t : DRs K H ρ xs vs) (h : atI xs i = some d) : ∃ v, atI vs i = some v ∧ DR K H ρ d v := by
  unfold atI at h ⊢
  rw [← t.length]
  cases e : ixN xs.length i with
  | none => rw [e] at h; cases h
  | some j =>
    rw [e] at h
    exact t.get h
theorem ix_ok {K : PySem.W.Frag} {c : Cla} : Op2Ok K c oIx (rIx K) := ⟨fun ρ H0 H M x y v w Q R rx ry q => by
  unfold oIx at q
  dsimp only at q
  unfold ixF at q
  split at q
  · obtain ⟨ch, h1, q⟩ := okO_get q
    cases rx with
    | d rx =>
    cases ry with
    | d ry =>
    cases rx with
    | str g =>
    cases ry
    refine .inr (.inr ⟨_, _, ch, rfl, rfl, line_le (by simpa [Str.length] using g.len), by simpa using h1, q H _ Ext.refl R (.d (.str (l := [ch]) ?_))⟩)
    obtain ⟨j, _, hj, _⟩ := atI_get h1
    exact g.sub (fun x hx => by
      have : x = ch := by simpa using hx
      subst this
      exact List.mem_of_getElem? hj) (by
      have := (List.getElem?_eq_some_iff.mp hj).1
      simp; omega)
  · obtain ⟨xs, hx, q⟩ := okO_get q
    obtain ⟨d, hd, q⟩ := okO_get q
    cases ry with
    | d ry =>
    cases ry
    obtain ⟨p, vs, rfl, hs, t⟩ := seqOf_ok R rx hx
    obtain ⟨u, hu, ru⟩ := atI_DR t hd
    rcases hs with hs | hs
    · exact .inl ⟨_, _, _, _, rfl, rfl, hs, hu, q H _ Ext.refl R (.d ru)⟩
    · exact .inr (.inl ⟨_, _, _, _, rfl, rfl, hs, hu, q H _ Ext.refl R (.d ru)⟩)
  · exact q.elim⟩
/-- the part from lo to hi -/
def cutL {α : Type} (xs : List α) (lo hi : Option Int) : List α := (xs.drop (HT.sIx xs.length 0 lo)).take (HT.sIx xs.length xs.length hi - HT.sIx xs.length 0 lo)
theorem cutL_V (xs : List V) (lo hi : Option Int) : cutV xs lo hi = cutL xs lo hi := rfl
theorem DRs.cut {K : PySem.W.Frag} {H : Hp} {ρ : List Addr} {xs : List D} {vs : List V} (t : DRs K H ρ xs vs) (lo hi : Option Int) : DRs K H ρ (cutL xs lo hi) (cutV vs lo hi) := by
  rw [cutL_V]
  unfold cutL
  rw [t.length]
  exact (t.drop _).take _
def slF (M : Mem) (x : RV) (lo hi : Option Int) (k : RV → Prop) : Prop := match x with
  | .d (.str l) => k (.d (.str (cutL l lo hi)))
  | .d (.tup xs) => k (.d (.tup (cutL xs lo hi)))
  | .d (.frl xs) => k (.fo (.lst (cutL xs lo hi)))
  | x => okO (lstOf M x) fun xs => k (.fo (.lst (cutL xs lo hi)))
theorem slF_mono {M : Mem} {x : RV} {lo hi : Option Int} {Q Q' : RV → Prop} (h : ∀ r, Q r → Q' r) (q : slF M x lo hi Q) : slF M x lo hi Q' := by
  unfold slF at q ⊢
  split at q
  · exact h _ q
  · exact h _ q
  · exact h _ q
  · exact okO_mono (fun _ => h _) q
def rSlAll (K : PySem.W.Frag) : V → Option Int → Option Int → Hp → VK → Prop := fun x lo hi H Q => (rSlS x lo hi H Q ∨ rSlA K x lo hi H Q) ∨ rSlL K x lo hi H Q
theorem sl_op {X : Cx} : L2.SlR X (rSlAll X.K) := (sl_str.or sl_tupA).or sl_list
theorem sl_ok {K : PySem.W.Frag} {c : Cla} {ρ : List Addr} {H0 H : Hp} {M : Mem} {x : RV} {v : V} {lo hi : Option Int} {Q : VK} (R : Rep K c ρ H M) (rx : RVR K c H0 H ρ x v)
    (q : slF M x lo hi fun z => ∀ H' u, Ext ρ H ρ H' → Rep K c ρ H' M → RVR K c H H' ρ z u → Q u H') : rSlAll K v lo hi H Q := by
  unfold slF at q
  split at q
  · cases rx with
    | d rx =>
    cases rx with
    | str g =>
    rename_i l
    refine .inl (.inl ⟨_, rfl, line_le (by simpa [Str.length] using g.len), ?_⟩)
    have e : cutS ⟨l.toArray⟩ lo hi = ⟨(cutL l lo hi).toArray⟩ := by
      unfold cutS cutL
      simp [Str.length]
    rw [e]
    refine q H _ Ext.refl R (.d (.str (g.sub (fun x hx => ?_) ?_)))
    · exact List.mem_of_mem_drop (List.mem_of_mem_take hx)
    · unfold cutL; simp; omega
  · cases rx with
    | d rx =>
    cases rx with
    | tup s t =>
    rename_i xs a vs
    refine .inl (.inr ⟨_, _, rfl, .of s, fun hw => ?_, fun _ p hp => ?_⟩)
    · have e : cutL xs lo hi = xs := by
        unfold cutL
        rw [t.length, hw.1, hw.2]
        simp [← t.length]
      exact q H _ Ext.refl R (.d (by rw [e]; exact .tup s t))
    · have e : Ext ρ H ρ (upd H p (.tup (cutV vs lo hi))) := Ext.fresh hp
      exact q _ _ e (R.fresh hp) (.d (.tup upd_same ((t.cut lo hi).mono e)))
  · cases rx with
    | d rx =>
    cases rx with
    | frl s t =>
    rename_i xs a vs
    refine .inr ⟨_, _, rfl, s.1, fun p hp => ?_⟩
    have e : Ext ρ H ρ (upd H p (.lst (cutV vs lo hi))) := Ext.fresh hp
    exact q _ _ e (R.fresh hp) (.fo hp (Ext.of_fresh_fo R hp) ⟨_, upd_same, (t.cut lo hi).mono e⟩)
  · obtain ⟨xs, hx, q⟩ := okO_get q
    obtain ⟨a, vs, rfl, s, t⟩ := lstOf_ok R rx hx
    refine .inr ⟨_, _, rfl, .of s, fun p hp => ?_⟩
    have e : Ext ρ H ρ (upd H p (.lst (cutV vs lo hi))) := Ext.fresh hp
    exact q _ _ e (R.fresh hp) (.fo hp (Ext.of_fresh_fo R hp) ⟨_, upd_same, (t.cut lo hi).mono e⟩)
/-- a part of a slice -/
structure TO where
  t : Slots → Mem → (Option Int → Mem → Prop) → Prop
  mono : ∀ s M Q Q', (∀ r M', Q r M' → Q' r M') → t s M Q → t s M Q'
def oNo : TO := ⟨fun _ M Q => Q none M, fun _ _ _ _ h q => h _ _ q⟩
def oPt (a : TD) : TO := ⟨fun s M Q => a.t s M fun r M1 => match r with
  | .d (.int i) => Q (some i) M1
  | _ => False, fun _ _ _ _ h q => a.mono _ _ _ _ (fun r M1 => by
    split
    · exact h _ _
    · exact fun z => z) q⟩
def tSli (a : TD) (lo hi : TO) : TD := ⟨fun s M Q => a.t s M fun x M1 => lo.t s M1 fun l M2 => hi.t s M2 fun h M3 => slF M3 x l h fun z => Q z M3,
  fun _ _ _ _ h q => a.mono _ _ _ _ (fun _ _ => lo.mono _ _ _ _ fun _ _ => hi.mono _ _ _ _ fun _ _ => slF_mono fun _ => h _ _) q⟩
section
variable {X : Cx} {c : Cla} {e : Expr} {lo hi : Option Expr} {t : TD} {tl th : TO} {pos p2 : Pos}
def rdO (K : PySem.W.Frag) (c : Cla) (t : TO) : L2.TO := fun σ H Q => ∃ ρ s M, SlR K H ρ s σ ∧ Rep K c ρ H M ∧ t.t s M fun b M' => ∀ ρ' H', Ext ρ H ρ' H' → Rep K c ρ' H' M' → Q b H'
structure OOk (X : Cx) (c : Cla) (e : Option Expr) (t : TO) : Prop where
  po : PO X e (rdO X.K c t)
theorem po_imp {e : Option Expr} {t t' : L2.TO} (h : PO X e t) (i : ∀ σ H Q, t' σ H Q → t σ H Q) : PO X e t' := ⟨fun p s σ H Q I q => h.run p s σ H Q I (i σ H Q q)⟩
theorem o_no : OOk X c none oNo := ⟨po_imp po_none fun σ H Q ⟨ρ, s, M, S, R, q⟩ => q ρ H Ext.refl R⟩
theorem o_pt (h : EOk X c e t) : OOk X c (some e) (oPt t) := ⟨po_imp (po_some h.pe) fun σ H Q ⟨ρ, s, M, S, R, q⟩ => ⟨ρ, s, M, S, R, t.mono _ _ _ _ (fun r M1 q1 ρ1 H1 v e1 R1 rv => by
  split at q1
  · cases rv with
    | d rv => cases rv; exact ⟨_, rfl, q1 ρ1 H1 e1 R1⟩
  · exact q1.elim) q⟩⟩
theorem e_sli (h : EOk X c e t) (h1 : OOk X c lo tl) (h2 : OOk X c hi th) : EOk X c (.Subscript e (.Slice lo hi none p2) pos) (tSli t tl th) :=
  ⟨pe_imp (pe_slice sl_op h.pe h1.po h2.po) fun σ H Q ⟨ρ, s, M, S, R, q⟩ => ⟨ρ, s, M, S, R, t.mono _ _ _ _ (fun r M1 q1 ρ1 H1 v e1 R1 rv =>
    ⟨ρ1, s, M1, S.mono e1, R1, tl.mono _ _ _ _ (fun l M2 q2 ρ2 H2 e2 R2 => ⟨ρ2, s, M2, (S.mono e1).mono e2, R2, th.mono _ _ _ _ (fun u M3 q3 ρ3 H3 e3 R3 =>
      sl_ok R3 ((rv.mono e2).mono e3) (slF_mono (fun z qz H' w e4 R4 rw' => qz ρ3 H' w (e1.trans (e2.trans (e3.trans e4))) R4 (rw'.from fun a ha => e1.back _ (e2.back _ (e3.back _ ha)))) q3)) q2⟩) q1⟩) q⟩⟩
end
end DL

/-! DL5: calls. -/
namespace DL
open PySem L2

/-! ### built-in functions -/
structure OpN where
  f : Mem → List RV → (RV → Prop) → Prop
  mono : ∀ M rs Q Q', (∀ r, Q r → Q' r) → f M rs Q → f M rs Q'
structure OpNOk (K : PySem.W.Frag) (c : Cla) (o : OpN) (r : List V → Hp → VK → Prop) : Prop where
  ok : ∀ (ρ : List Addr) (H0 H : Hp) (M : Mem) (rs : List RV) (vs : List V) (as : List Addr) (Q : VK), Rep K c ρ H M → RVs K c H0 H ρ rs vs as →
    (o.f M rs fun z => ∀ H' u, Ext ρ H ρ H' → Rep K c ρ H' M → RVR K c H H' ρ z u → Q u H') → r vs H Q
def tBi (o : OpN) (as : TDs) : TD := ⟨fun s M Q => as.t s M fun rs M1 => o.f M1 rs fun z => Q z M1, fun _ _ _ _ h q => as.mono _ _ _ _ (fun _ _ => o.mono _ _ _ _ fun _ => h _ _) q⟩
theorem bi_imp {K : PySem.W.Frag} {c : Cla} {o : OpN} {r : List V → Hp → VK → Prop} {ts : TDs} (h : OpNOk K c o r) (σ : L2.St) (H : Hp) (Q : VK) (q : rdE K c (tBi o ts) σ H Q) : tCB r (rdA K c ts) σ H Q := by
  obtain ⟨ρ, s, M, S, R, q⟩ := q
  refine ⟨ρ, s, M, S, R, ts.mono _ _ _ _ (fun rs M1 q1 ρ1 H1 vs as e1 R1 hr => ?_) q⟩
  exact h.ok ρ1 H H1 M1 rs vs as Q R1 hr (o.mono _ _ _ _ (fun z qz H' u e2 R2 ru => qz ρ1 H' u (e1.trans e2) R2 (ru.from e1.back)) q1)
section
variable {X : Cx} {c : Cla} {x : Str} {p pos : Pos} {e : Expr} {es : List Expr} {ts : TDs} {o : OpN} {id T : String} {r : List V → Hp → VK → Prop}
theorem e_bi (hc : CallR X (.builtin id) r) (h : OpNOk X.K c o r) (hg : Gl X x) (hm : X.mg x = none) (hv : bootBuiltins x = some (.builtin id)) (ha : AOk X c (e :: es) ts) (hn : x ≠ "__name__") (hdb : (x == ("__debug__" : Str)) = false)
    (he : starEach (e :: es) X.env = (false, eval e X.env) :: starEach es X.env) (hpl : (backTo pos (starEach es X.env)).any (·.1) = false) : EOk X c (.Call (.Name x p) (e :: es) [] pos) (tBi o ts) :=
  ⟨pe_imp (pe_callB hc hg hm hv ha.pa hn hdb he hpl) (bi_imp h)⟩
theorem e_ty (hc : CallR X (.type T) r) (h : OpNOk X.K c o r) (hg : Gl X x) (hm : X.mg x = none) (hv : bootBuiltins x = some (.type T)) (ha : AOk X c (e :: es) ts) (hn : x ≠ "__name__") (hdb : (x == ("__debug__" : Str)) = false)
    (he : starEach (e :: es) X.env = (false, eval e X.env) :: starEach es X.env) (hpl : (backTo pos (starEach es X.env)).any (·.1) = false) : EOk X c (.Call (.Name x p) (e :: es) [] pos) (tBi o ts) :=
  ⟨pe_imp (pe_callTy hc hg hm hv ha.pa hn hdb he hpl) (bi_imp h)⟩
end
theorem rvs1 {K : PySem.W.Frag} {c : Cla} {H0 H : Hp} {ρ : List Addr} {r : RV} {vs : List V} {as : List Addr} (h : RVs K c H0 H ρ [r] vs as) : ∃ v, vs = [v] ∧ RVR K c H0 H ρ r v := by
  cases h with
  | d h t => cases t; exact ⟨_, rfl, .d h⟩
  | fo a b d e t => cases t; exact ⟨_, rfl, .fo a b d⟩
theorem rvs2 {K : PySem.W.Frag} {c : Cla} {H0 H : Hp} {ρ : List Addr} {r r' : RV} {vs : List V} {as : List Addr} (h : RVs K c H0 H ρ [r, r'] vs as) : ∃ v w, vs = [v, w] ∧ RVR K c H0 H ρ r v ∧ RVR K c H0 H ρ r' w := by
  cases h with
  | d h t => obtain ⟨w, rfl, h2⟩ := rvs1 t; exact ⟨_, _, rfl, .d h, h2⟩
  | fo a b d e t => obtain ⟨w, rfl, h2⟩ := rvs1 t; exact ⟨_, _, rfl, .fo a b d, h2⟩
/-- one argument -/
def on1 (f : Mem → RV → (RV → Prop) → Prop) (hf : ∀ M r Q Q', (∀ r, Q r → Q' r) → f M r Q → f M r Q') : OpN := ⟨fun M rs k => match rs with
  | [r] => f M r k
  | _ => False, fun M rs Q Q' h q => by
    split at q
    · exact hf _ _ _ _ h q
    · exact q⟩
theorem on1_ok {K : PySem.W.Frag} {c : Cla} {f : Mem → RV → (RV → Prop) → Prop} {hf : ∀ M r Q Q', (∀ r, Q r → Q' r) → f M r Q → f M r Q'} {r : List V → Hp → VK → Prop}
    (h : ∀ (ρ : List Addr) (H0 H : Hp) (M : Mem) (x : RV) (v : V) (Q : VK), Rep K c ρ H M → RVR K c H0 H ρ x v → (f M x fun z => ∀ H' u, Ext ρ H ρ H' → Rep K c ρ H' M → RVR K c H H' ρ z u → Q u H') → r [v] H Q) : OpNOk K c (on1 f hf) r :=
  ⟨fun ρ H0 H M rs vs as Q R hr q => by
    unfold on1 at q
    simp only at q
    split at q
    · obtain ⟨v, rfl, rv⟩ := rvs1 hr
      exact h ρ H0 H M _ v Q R rv q
    · exact q.elim⟩
def on2 (f : Mem → RV → RV → (RV → Prop) → Prop) (hf : ∀ M r r' Q Q', (∀ r, Q r → Q' r) → f M r r' Q → f M r r' Q') : OpN := ⟨fun M rs k => match rs with
  | [r, r'] => f M r r' k
  | _ => False, fun M rs Q Q' h q => by
    split at q
    · exact hf _ _ _ _ _ h q
    · exact q⟩
theorem on2_ok {K : PySem.W.Frag} {c : Cla} {f : Mem → RV → RV → (RV → Prop) → Prop} {hf : ∀ M r r' Q Q', (∀ r, Q r → Q' r) → f M r r' Q → f M r r' Q'} {r : List V → Hp → VK → Prop}
    (h : ∀ (ρ : List Addr) (H0 H : Hp) (M : Mem) (x y : RV) (v w : V) (Q : VK), Rep K c ρ H M → RVR K c H0 H ρ x v → RVR K c H0 H ρ y w → (f M x y fun z => ∀ H' u, Ext ρ H ρ H' → Rep K c ρ H' M → RVR K c H H' ρ z u → Q u H') → r [v, w] H Q) : OpNOk K c (on2 f hf) r :=
  ⟨fun ρ H0 H M rs vs as Q R hr q => by
    unfold on2 at q
    simp only at q
    split at q
    · obtain ⟨v, w, rfl, rv, rw'⟩ := rvs2 hr
      exact h ρ H0 H M _ _ v w Q R rv rw' q
    · exact q.elim⟩
/-- len -/
def lenF (M : Mem) (r : RV) (k : RV → Prop) : Prop := match r with
  | .d (.str l) => k (.d (.int l.length))
  | r => okO (seqOf M r) fun xs => k (.d (.int xs.length))
def oLen : OpN := on1 lenF fun M r Q Q' h q => by
  unfold lenF at q ⊢
  split at q
  · exact h _ q
  · exact okO_mono (fun _ => h _) q
theorem len_ok {K : PySem.W.Frag} {c : Cla} : OpNOk K c oLen (fun xs H Q => ∃ x n, xs = [x] ∧ LenV K x H n ∧ Q (.int n) H) := on1_ok fun ρ H0 H M x v Q R rx q => by
  unfold lenF at q
  split at q
  · cases rx with
    | d rx =>
    cases rx with
    | str g => exact ⟨_, _, rfl, ⟨line_le (by simpa [Str.length] using g.len), rfl⟩, q H _ Ext.refl R (.d (by simp [Str.length]; exact .int))⟩
  · obtain ⟨xs, hx, q⟩ := okO_get q
    obtain ⟨a, vs, rfl, hs, t⟩ := seqOf_ok R rx hx
    refine ⟨_, vs.length, rfl, hs.elim (fun h => .inl ⟨vs, h, rfl⟩) (fun h => .inr ⟨vs, h, rfl⟩), ?_⟩
    rw [← t.length]
    exact q H _ Ext.refl R (.d .int)
/-- tuple(xs), list(xs) -/
def tplF (M : Mem) (r : RV) (k : RV → Prop) : Prop := match r with
  | .d (.tup xs) => k (.d (.tup xs))
  | r => okO (lsOf M r) fun xs => k (.d (.tup xs))
def oTpl : OpN := on1 tplF fun M r Q Q' h q => by
  unfold tplF at q ⊢
  split at q
  · exact h _ q
  · exact okO_mono (fun _ => h _) q
theorem tpl_ok {K : PySem.W.Frag} {c : Cla} : OpNOk K c oTpl (fun xs H Q => ∃ p ys, xs = [.ref p] ∧ ((SqL K H p ys ∧ ∀ l, H l = none → Q (.ref l) (upd H l (.tup ys))) ∨ (SqT K H p ys ∧ Q (.ref p) H))) := on1_ok fun ρ H0 H M x v Q R rx q => by
  unfold tplF at q
  split at q
  · cases rx with
    | d rx =>
    cases rx with
    | tup s t => exact ⟨_, _, rfl, .inr ⟨.of s, q H _ Ext.refl R (.d (.tup s t))⟩⟩
  · obtain ⟨xs, hx, q⟩ := okO_get q
    obtain ⟨a, vs, rfl, hs, t⟩ := lsOf_ok R rx hx
    exact ⟨_, _, rfl, .inl ⟨hs, fun l hl => q _ _ (Ext.fresh hl) (R.fresh hl) (.d (.tup upd_same (t.mono (Ext.fresh hl))))⟩⟩
def lisF (M : Mem) (r : RV) (k : RV → Prop) : Prop := okO (seqOf M r) fun xs => k (.fo (.lst xs))
def oLis : OpN := on1 lisF fun M r Q Q' h q => okO_mono (fun _ => h _) q
theorem lis_ok {K : PySem.W.Frag} {c : Cla} : OpNOk K c oLis (fun xs H Q => ∃ p ys, xs = [.ref p] ∧ (SqL K H p ys ∨ SqT K H p ys) ∧ ∀ l, H l = none → Q (.ref l) (upd H l (.lst ys))) := on1_ok fun ρ H0 H M x v Q R rx q => by
  unfold lisF at q
  obtain ⟨xs, hx, q⟩ := okO_get q
  obtain ⟨a, vs, rfl, hs, t⟩ := seqOf_ok R rx hx
  exact ⟨_, _, rfl, hs, fun l hl => q _ _ (Ext.fresh hl) (R.fresh hl) (.fo hl (Ext.of_fresh_fo R hl) ⟨_, upd_same, t.mono (Ext.fresh hl)⟩)⟩
/-- int(n), int(flag), abs, max, min of two -/
def intF (M : Mem) (r : RV) (k : RV → Prop) : Prop := match r with
  | .d (.int i) => k (.d (.int i))
  | .d (.bl b) => k (.d (.int (if b then 1 else 0)))
  | _ => False
def oInt : OpN := on1 intF fun M r Q Q' h q => by
  unfold intF at q ⊢
  split at q
  · exact h _ q
  · exact h _ q
  · exact q
theorem int_ok {K : PySem.W.Frag} {c : Cla} : OpNOk K c oInt (fun xs H Q => (∃ i, xs = [.int i] ∧ Q (.int i) H) ∨ ∃ k, xs = [.bl k] ∧ Q (.int (if k then 1 else 0)) H) := on1_ok fun ρ H0 H M x v Q R rx q => by
  unfold intF at q
  split at q
  · cases rx with
    | d rx => cases rx; exact .inl ⟨_, rfl, q H _ Ext.refl R (.d .int)⟩
  · cases rx with
    | d rx => cases rx; exact .inr ⟨_, rfl, q H _ Ext.refl R (.d .int)⟩
  · exact q.elim
def absF (M : Mem) (r : RV) (k : RV → Prop) : Prop := match r with
  | .d (.int i) => k (.d (.int (if i < 0 then -i else i)))
  | _ => False
def oAbs : OpN := on1 absF fun M r Q Q' h q => by
  unfold absF at q ⊢
  split at q
  · exact h _ q
  · exact q
theorem abs_ok {K : PySem.W.Frag} {c : Cla} : OpNOk K c oAbs (fun xs H Q => ∃ i, xs = [.int i] ∧ Q (.int (if i < 0 then -i else i)) H) := on1_ok fun ρ H0 H M x v Q R rx q => by
  unfold absF at q
  split at q
  · cases rx with
    | d rx => cases rx; exact ⟨_, rfl, q H _ Ext.refl R (.d .int)⟩
  · exact q.elim
def int2F (g : Int → Int → Int) (M : Mem) (r r' : RV) (k : RV → Prop) : Prop := match r, r' with
  | .d (.int i), .d (.int j) => k (.d (.int (g i j)))
  | _, _ => False
theorem int2F_mono {g : Int → Int → Int} (M : Mem) (r r' : RV) (Q Q' : RV → Prop) (h : ∀ r, Q r → Q' r) (q : int2F g M r r' Q) : int2F g M r r' Q' := by
  unfold int2F at q ⊢
  split at q
  · exact h _ q
  · exact q
def oMax2 : OpN := on2 (int2F fun i j => if j > i then j else i) int2F_mono
def oMin2 : OpN := on2 (int2F fun i j => if j < i then j else i) int2F_mono
theorem int2F_ok {K : PySem.W.Frag} {c : Cla} (g : Int → Int → Int) : OpNOk K c (on2 (int2F g) int2F_mono) (fun xs H Q => ∃ i j, xs = [.int i, .int j] ∧ Q (.int (g i j)) H) := on2_ok fun ρ H0 H M x y v w Q R rx ry q => by
  unfold int2F at q
  split at q
  · cases rx with
    | d rx =>
    cases ry with
    | d ry => cases rx; cases ry; exact ⟨_, _, rfl, q H _ Ext.refl R (.d .int)⟩
  · exact q.elim
/-- isinstance(x, T), T built-in -/
inductive Kd where
  | non | bl | int | str | tup | lst | dct
def Kd.nm : Kd → String
  | .non => "NoneType" | .bl => "bool" | .int => "int" | .str => "str" | .tup => "tuple" | .lst => "list" | .dct => "dict"
def kdOf (M : Mem) : RV → Option Kd
  | .d .non => some .non
  | .d (.bl _) => some .bl
  | .d (.int _) => some .int
  | .d (.str _) => some .str
  | .d (.tup _) => some .tup
  | .d (.ref n) => match M[n]? with
    | some (.lst _) => some .lst
    | some (.dct _ _) => some .dct
    | _ => none
  | _ => none
def isT : Kd → Ty → Bool
  | .bl, .bool => true | .bl, .int => true | .int, .int => true | .str, .str => true | .tup, .tuple => true | .lst, .list => true | .dct, .dict => true
  | _, _ => false
theorem kitB_ok (k : Kd) (t : Ty) : kitB k.nm t.nm = some (isT k t) := by
  cases k <;> cases t <;> decide +kernel
def isiF (M : Mem) (r r' : RV) (k : RV → Prop) : Prop := match r' with
  | .d (.ty t) => okO (kdOf M r) fun kd => k (.d (.bl (isT kd t)))
  | _ => False
def oIsi : OpN := on2 isiF fun M r r' Q Q' h q => by
  unfold isiF at q ⊢
  split at q
  · exact okO_mono (fun _ => h _) q
  · exact q
theorem kdOf_ok {K : PySem.W.Frag} {c : Cla} {ρ : List Addr} {H0 H : Hp} {M : Mem} {r : RV} {v : V} {k : Kd} (R : Rep K c ρ H M) (h : RVR K c H0 H ρ r v) (q : kdOf M r = some k) : TyX K H v (.type k.nm) := by
  cases h with
  | fo _ _ _ => cases q
  | d h =>
    cases h with
    | non => cases q; exact .base .non
    | bl => cases q; exact .base (.bl _)
    | int => cases q; exact .base (.int _)
    | str _ => cases q; exact .base (.str _)
    | tup s _ => cases q; exact .base (.tup s)
    | ref e =>
      unfold kdOf at q
      simp only at q
      split at q
      · rename_i hm
        cases q
        obtain ⟨a', e', o⟩ := R.addr hm
        rw [e] at e'; cases e'
        obtain ⟨vs, h1, h2⟩ := o
        exact .base (.lst h1)
      · rename_i hm
        cases q
        obtain ⟨a', e', o⟩ := R.addr hm
        rw [e] at e'; cases e'
        rename_i t kvs
        cases t with
        | false => obtain ⟨vs, h1, h2⟩ := o; exact .base (.dK h1)
        | true => obtain ⟨vs, h1, h2⟩ := o; exact .base (.dT h1)
      · cases q
    | _ => cases q
theorem isi_ok {K : PySem.W.Frag} {c : Cla} : OpNOk K c oIsi (rIsi K) := on2_ok fun ρ H0 H M x y v w Q R rx ry q => by
  unfold isiF at q
  split at q
  · obtain ⟨kd, hk, q⟩ := okO_get q
    cases ry with
    | d ry =>
    cases ry with
    | ty =>
    exact ⟨_, _, _, _, _, rfl, .ty _, kdOf_ok R rx hk, kit_ty (kitB_ok _ _), q H _ Ext.refl R (.d .bl)⟩
  · exact q.elim

/-! ### own functions -/
structure Cl where
  t : List D → Mem → (RV → Mem → Prop) → Prop
  mono : ∀ ds M Q Q', (∀ r M', Q r M' → Q' r M') → t ds M Q → t ds M Q'
/-- the promise of a def of n parameters -/
def spC (K : PySem.W.Frag) (c : Cla) (g : Cl) (n : Nat) : Sp := fun vs H Q _ => vs.length = n ∧ ∃ ρ M ds, Rep K c ρ H M ∧ DRs K H ρ ds vs ∧ g.t ds M (upR K c ρ H Q)
structure FnIn (X : Cx) (c : Cla) (g : Cl) (n : Nat) (f : Addr) (lv : Nat) : Prop where
  ok : ∃ fd ps, FnOk X.prog X.w X.K X.mg X.base CX0 lv f fd ps (spC X.K c g n) ∧ Binds X.K fd ps [] ∧ PySem.W.keepIn X.K (.ref f) = true
def tCal (g : Cl) (n : Nat) (as : TDs) : TD := ⟨fun s M Q => as.t s M fun rs M1 => asDs rs M1 fun ds M2 => ds.length = n ∧ g.t ds M2 Q,
  fun _ _ _ _ h q => as.mono _ _ _ _ (fun _ _ => asDs_mono fun _ _ z => ⟨z.1, g.mono _ _ _ _ h z.2⟩) q⟩
section
variable {X : Cx} {c : Cla} {x m : Str} {p pos apos : Pos} {e o : Expr} {es : List Expr} {ts : TDs} {g : Cl} {n lv : Nat} {f : Addr} {to : TD}
theorem cal_imp {K : PySem.W.Frag} {E : XK} (σ : L2.St) (H : Hp) (Q : VK) (q : rdE K c (tCal g n ts) σ H Q) : L2.tCall (spC K c g n) [] E (rdA K c ts) σ H Q := by
  obtain ⟨ρ, s, M, S, R, q⟩ := q
  refine ⟨ρ, s, M, S, R, ts.mono _ _ _ _ (fun rs M1 q1 ρ1 H1 vs as e1 R1 hr => ?_) q⟩
  obtain ⟨t, ds, M2, ⟨hn, q⟩, R2, e2, hd⟩ := asDs_ok e1 R1 hr q1
  rw [List.append_nil]
  exact ⟨by rw [← hd.length]; exact hn, _, M2, ds, R2, hd, g.mono _ _ _ _ (fun r M3 q3 ρ3 H3 v e3 R3 rv => q3 ρ3 H3 v (e2.trans e3) R3 (rv.from e2.back)) q⟩
theorem e_call (F : FnIn X c g n f lv) (hr : Room lv X.A) (hg : Gl X x) (hm : X.mg x = some (.ref f)) (ha : AOk X c (e :: es) ts) (hdb : (x == ("__debug__" : Str)) = false)
    (he : starEach (e :: es) X.env = (false, eval e X.env) :: starEach es X.env) (hpl : (backTo pos (starEach es X.env)).any (·.1) = false) : EOk X c (.Call (.Name x p) (e :: es) [] pos) (tCal g n ts) := by
  obtain ⟨fd, ps, F, B, k⟩ := F.ok
  exact ⟨pe_imp (pe_call (E := fun _ _ _ => False) F hr hg hm k B .nil pass0 ha.pa hdb he hpl) cal_imp⟩
theorem e_call0 (F : FnIn X c g n f lv) (hr : Room lv X.A) (hg : Gl X x) (hm : X.mg x = some (.ref f)) (hdb : (x == ("__debug__" : Str)) = false) : EOk X c (.Call (.Name x p) [] [] pos) (tCal g n dsNil) := by
  obtain ⟨fd, ps, F, B, k⟩ := F.ok
  exact ⟨pe_imp (pe_call0 (E := fun _ _ _ => False) F hr hg hm k B .nil pass0 hdb) fun σ H Q q => by
    have q := cal_imp (E := fun _ _ _ => False) σ H Q q
    obtain ⟨ρ, s, M, S, R, q⟩ := q
    exact q ρ H [] [] Ext.refl R .nil⟩
end

/-! ### instances -/
structure ClaOk (K : PySem.W.Frag) (c : Cla) : Prop where
  cls : ∀ (i : Nat) (C : Addr), c.ca[i]? = some C → Cls K C
  fld : ∀ (i : Nat) (C : Addr) (f : Str), c.ca[i]? = some C → f ∈ c.fl.getD i [] → NoAttr K C f
  few : ∀ i : Nat, (c.fl.getD i []).length < 1000
  mth : ∀ (i : Nat) (m : Str), m ∈ c.ms.getD i [] → m ∉ c.fl.getD i []
theorem lookup_none_of {gs : List (Str × V)} {m : Str} (h : m ∉ gs.map (·.1)) : gs.lookup m = none := by
  induction gs with
  | nil => rfl
  | cons p r ih =>
    simp only [List.map_cons, List.mem_cons, not_or] at h
    have hb : (m == p.1) = false := beq_eq_false_iff_ne.mpr h.1
    rw [show p = (p.1, p.2) from rfl, List.lookup_cons, hb]
    exact ih h.2
theorem keys_put {f : Str} {v : V} : ∀ {gs : List (Str × V)}, (putF f v gs).map (·.1) = if f ∈ gs.map (·.1) then gs.map (·.1) else gs.map (·.1) ++ [f]
  | [] => by simp [putF]
  | (k, x) :: r => by
    have ih := keys_put (f := f) (v := v) (gs := r)
    show ((if k = f then (k, v) :: r else (k, x) :: putF f v r).map (·.1)) = _
    by_cases h : k = f
    · subst h
      simp
    · rw [if_neg h, List.map_cons, ih, List.map_cons]
      have h' : ¬ f = k := fun z => h z.symm
      by_cases h2 : f ∈ r.map (·.1)
      · rw [if_pos h2, if_pos (List.mem_cons_of_mem _ h2)]
      · rw [if_neg h2, if_neg (fun z => (List.mem_cons.mp z).elim h' h2)]; rfl
/-- o.f: ix tells for each class which of its fields it is -/
def getF (ix : List (Option Nat)) (M : Mem) (r : RV) (k : RV → Prop) : Prop := match r with
  | .d (.ref n) => match M[n]? with
    | some (.ins i fs) => okO ((ix[i]?).join) fun j => okO (sget fs j) fun d => k (.d d)
    | _ => False
  | _ => False
theorem getF_mono {ix : List (Option Nat)} {M : Mem} {r : RV} {Q Q' : RV → Prop} (h : ∀ r, Q r → Q' r) (q : getF ix M r Q) : getF ix M r Q' := by
  unfold getF at q ⊢
  split at q
  · split at q
    · exact okO_mono (fun _ => okO_mono fun _ => h _) q
    · exact q
  · exact q
def tFld (ix : List (Option Nat)) (a : TD) : TD := ⟨fun s M Q => a.t s M fun r M1 => getF ix M1 r fun z => Q z M1, fun _ _ _ _ h q => a.mono _ _ _ _ (fun _ _ => getF_mono fun _ => h _ _) q⟩
/-- which field of each class the name is -/
def fix (c : Cla) (f : Str) : List (Option Nat) := c.fl.map fun l => l.findIdx? (· == f)
theorem fix_get {c : Cla} {f : Str} {i j : Nat} (h : ((fix c f)[i]?).join = some j) : (c.fl.getD i [])[j]? = some f := by
  unfold fix at h
  rw [List.getElem?_map] at h
  cases e : c.fl[i]? with
  | none => rw [e] at h; cases h
  | some l =>
    rw [e] at h
    have h' : l.findIdx? (· == f) = some j := h
    rw [List.getD_eq_getElem?_getD, e]
    show l[j]? = some f
    obtain ⟨hl, hp, _⟩ := List.findIdx?_eq_some_iff_getElem.mp h'
    rw [List.getElem?_eq_getElem hl]
    exact congrArg some (eq_of_beq hp)
theorem ins_at {K : PySem.W.Frag} {c : Cla} {ρ : List Addr} {H0 H : Hp} {M : Mem} {n i : Nat} {fs : List (Option D)} {v : V} (R : Rep K c ρ H M) (h : RVR K c H0 H ρ (.d (.ref n)) v) (q : M[n]? = some (.ins i fs)) :
    ∃ a C dx gs, v = .ref a ∧ ρ[n]? = some a ∧ c.ca[i]? = some C ∧ H a = some (.ins C dx gs) ∧ FRs K H ρ (c.fl.getD i []) fs gs := by
  cases h with
  | d h =>
    cases h with
    | ref e =>
      obtain ⟨a', e', C, dx, gs, h1, h2, h3⟩ := R.addr q
      rw [e] at e'; cases e'
      exact ⟨_, C, dx, gs, rfl, e, h1, h2, h3⟩
section
variable {X : Cx} {c : Cla} {o e : Expr} {f : Str} {pos pos' tpos : Pos} {to tv : TD} {ix : List (Option Nat)}
theorem e_fld (CO : ClaOk X.K c) (hx : fix c f = ix) (ho : EOk X c o to) (hb : attributeBase o f X.env (eval o X.env) = eval o X.env) : EOk X c (.Attribute o f pos) (tFld ix to) :=
  ⟨pe_imp (pe_fld ho.pe hb) fun σ H Q ⟨ρ, s, M, S, R, q⟩ => ⟨ρ, s, M, S, R, to.mono _ _ _ _ (fun r M1 q1 ρ1 H1 v e1 R1 rv => by
    unfold getF at q1
    split at q1
    · split at q1
      · rename_i n i fs hm
        obtain ⟨j, hj, q1⟩ := okO_get q1
        obtain ⟨d, hd, q1⟩ := okO_get q1
        obtain ⟨a, C, dx, gs, rfl, ha, hC, hH, F⟩ := ins_at R1 rv hm
        have hf := fix_get (hx ▸ hj)
        obtain ⟨w, hw, rw'⟩ := F.at_ j f d hf hd
        exact ⟨a, C, dx, gs, w, rfl, hH, CO.cls i C hC, CO.fld i C f hC (List.mem_of_getElem? hf), hw, q1 ρ1 H1 w e1 R1 (.d rw')⟩
      · exact q1.elim
    · exact q1.elim) q⟩⟩
/-- o.f = v, by values -/
def setF (ix : List (Option Nat)) (M : Mem) (r : RV) (d : D) (k : Mem → Prop) : Prop := match r with
  | .d (.ref n) => match M[n]? with
    | some (.ins i fs) => okO ((ix[i]?).join) fun j => k (M.set n (.ins i (fs.set j (some d))))
    | _ => False
  | _ => False
theorem setF_mono {ix : List (Option Nat)} {M : Mem} {r : RV} {d : D} {Q Q' : Mem → Prop} (h : ∀ r, Q r → Q' r) (q : setF ix M r d Q) : setF ix M r d Q' := by
  unfold setF at q ⊢
  split at q
  · split at q
    · exact okO_mono (fun _ => h _) q
    · exact q
  · exact q
def sSetF (ix : List (Option Nat)) (o v : TD) : TSd := ⟨fun D s M => v.t s M fun r M1 => o.t s M1 fun ro M2 => asD r M2 fun d M3 => setF ix M3 ro d fun M4 => D.nx s M4,
  fun _ _ _ _ h q => v.mono _ _ _ _ (fun _ _ => o.mono _ _ _ _ fun _ _ => asD_mono fun _ _ => setF_mono fun _ => h.nx _ _) q⟩
theorem fields_put {K : PySem.W.Frag} {H : Hp} {ρ : List Addr} {nm : List Str} {fs : List (Option D)} {gs : List (Str × V)} {j : Nat} {f : Str} {d : D} {v : V} (F : FRs K H ρ nm fs gs) (hn : nm.Nodup) (hj : nm[j]? = some f) (r : DR K H ρ d v) :
    FRs K H ρ nm (fs.set j (some d)) (putF f v gs) := by
  refine ⟨by rw [List.length_set]; exact F.len, fun i g x e1 e2 => ?_, ?_, fun y hy => ?_⟩
  · rw [sget_set] at e2
    rw [lookup_putF]
    by_cases h : j = i ∧ j < fs.length
    · rw [if_pos h] at e2
      cases e2
      obtain ⟨rfl, _⟩ := h
      rw [hj] at e1; cases e1
      exact ⟨v, if_pos rfl, r⟩
    · rw [if_neg h] at e2
      obtain ⟨w, h1, h2⟩ := F.at_ i g x e1 e2
      refine ⟨w, ?_, h2⟩
      rw [if_neg fun z => ?_]
      · exact h1
      · subst z
        have hl : j < nm.length := (List.getElem?_eq_some_iff.mp hj).1
        have : j = i := (List.getElem?_inj hl hn).mp (hj.trans e1.symm)
        exact h ⟨this, by rw [F.len]; exact hl⟩
  · rw [keys_put]
    split
    · exact F.nd
    · rename_i h
      rw [List.nodup_append]
      refine ⟨F.nd, by simp, fun x hx y hy => ?_⟩
      have : y = f := by simpa using hy
      subst this
      rintro rfl
      exact h hx
  · rw [keys_put] at hy
    split at hy
    · exact F.sub y hy
    · rcases List.mem_append.mp hy with z | z
      · exact F.sub y z
      · have : y = f := by simpa using z
        subst this
        exact List.mem_of_getElem? hj
theorem setF_ok {K : PySem.W.Frag} {ρ : List Addr} {H0 H : Hp} {M : Mem} {r : RV} {d : D} {y vo : V} {k : Mem → Prop} (CO : ClaOk K c) (hfn : ∀ i : Nat, (c.fl.getD i []).Nodup) (hx : fix c f = ix) (R : Rep K c ρ H M) (rv : RVR K c H0 H ρ r vo) (hd : DR K H ρ d y) (q : setF ix M r d k) :
    ∃ a C dx gs M', vo = .ref a ∧ H a = some (.ins C dx gs) ∧ Cls K C ∧ NoAttr K C f ∧ gs.length < 1000 ∧ k M' ∧ Ext ρ H ρ (upd H a (.ins C dx (putF f y gs))) ∧ Rep K c ρ (upd H a (.ins C dx (putF f y gs))) M' := by
  unfold setF at q
  split at q
  · split at q
    · rename_i n i fs hm
      obtain ⟨j, hj, q⟩ := okO_get q
      obtain ⟨a, C, dx, gs, rfl, ha, hC, hH, F⟩ := ins_at R rv hm
      have hf := fix_get (hx ▸ hj)
      have hfew : gs.length < 1000 := by
        have := few_of F.nd F.sub
        rw [List.length_map] at this
        exact Nat.lt_of_le_of_lt this (CO.few i)
      have e : Ext ρ H ρ (upd H a (.ins C dx (putF f y gs))) := Ext.write hH (fun z => z) (List.mem_of_getElem? ha)
      exact ⟨a, C, dx, gs, _, rfl, hH, CO.cls i C hC, CO.fld i C f hC (List.mem_of_getElem? hf), hfew, q, e, R.write ha ⟨C, dx, _, hC, upd_same, (fields_put F (hfn i) hf hd).mono e⟩⟩
    · exact q.elim
  · exact q.elim
theorem s_setF (CO : ClaOk X.K c) (hfn : ∀ i : Nat, (c.fl.getD i []).Nodup) (hx : fix c f = ix) (ho : EOk X c o to) (hv : EOk X c e tv) (hs : swapsWith e (some (.Attribute o f pos')) pos.line X.env = pure false) : SOk X c (.Assign [.Attribute o f pos'] e pos) (sSetF ix to tv) :=
  ⟨ps_imp (ps_fld ho.pe hv.pe hs) fun D σ H ⟨ρ, s, M, S, R, q⟩ => ⟨ρ, s, M, S, R, tv.mono _ _ _ _ (fun r M1 q1 ρ1 H1 y e1 R1 ry => by
    refine ⟨ρ1, s, M1, S.mono e1, R1, to.mono _ _ _ _ (fun ro M2 q2 ρ2 H2 vo e2 R2 ro' => ?_) q1⟩
    obtain ⟨t, d, M3, q3, R3, e3, hd, _⟩ := asD_ok (e1.trans e2) R2 (ry.mono e2) q2
    have e3' : ∀ a, H2 a = none → H1 a = none := e2.back
    have ro2 : RVR X.K c H1 H2 (ρ2 ++ t) ro vo := by
      cases ro' with
      | d h => exact .d h.app
      | fo h0 hn ho =>
        -- a new thing is no instance: it is not written
        exact False.elim (by
          unfold setF at q3
          exact q3)
    obtain ⟨a, C, dx, gs, M4, rfl, hH, hc, hn, hf, q4, e4, R4⟩ := setF_ok CO hfn hx R3 ro2 hd q3
    exact ⟨a, C, dx, gs, rfl, hH, hc, hn, hf, q4 _ σ _ (e3.trans e4) ((S.mono (e1.trans e2)).app.mono e4) R4⟩) q⟩⟩
end
end DL

/-! DL6: methods, new instances, stores, what loops walk, list comprehensions. -/
namespace DL
open PySem L2

/-! ### syntax -/
def notStar : Expr → Bool
  | .Starred .. => false
  | _ => true
theorem star_plain {e : Expr} (h : notStar e = true) (es : List Expr) (env : Env) : starEach (e :: es) env = (false, eval e env) :: starEach es env := by
  cases e <;> first | rfl | (simp [notStar] at h)
theorem stars_plain {pos : Pos} {env : Env} : ∀ {es : List Expr}, es.all notStar = true → (backTo pos (starEach es env)).any (·.1) = false
  | [], _ => rfl
  | e :: es, h => by
    simp only [List.all_cons, Bool.and_eq_true] at h
    rw [star_plain h.1]
    show (false || (backTo pos (starEach es env)).any (·.1)) = false
    rw [stars_plain h.2]; rfl
theorem stars_len {pos : Pos} {env : Env} : ∀ {es : List Expr}, es.all notStar = true → (backTo pos (starEach es env)).all (fun x => !x.1) = true
  | [], _ => rfl
  | e :: es, h => by
    simp only [List.all_cons, Bool.and_eq_true] at h
    rw [star_plain h.1]
    show (true && (backTo pos (starEach es env)).all (fun x => !x.1)) = true
    rw [stars_len h.2]; rfl
/-- no call of super() -/
def attrOk : Expr → Bool
  | .Call (.Name _ _) [] [] _ => false
  | _ => true
theorem attr_base {o : Expr} (h : attrOk o = true) (f : Str) (env : Env) (w : Sem Value) : attributeBase o f env w = w := by
  cases o with
  | Call fn args kws pos =>
    cases fn with
    | Name id p =>
      cases args with
      | nil =>
        cases kws with
        | nil => simp [attrOk] at h
        | cons _ _ => rfl
      | cons _ _ => rfl
    | _ => rfl
  | _ => rfl

/-! ### own methods -/
def tMth (G : Nat → Cl) (mx : List (Option (Nat × Nat))) (o : TD) (as : TDs) : TD := ⟨fun s M Q => o.t s M fun r M1 => match r with
    | .d (.ref n) => match M1[n]? with
      | some (.ins i _) => okO ((mx[i]?).join) fun p => as.t s M1 fun rs M2 => asDs rs M2 fun ds M3 => ds.length + 1 = p.2 ∧ (G p.1).t (.ref n :: ds) M3 Q
      | _ => False
    | _ => False,
  fun s M Q Q' h q => o.mono _ _ _ _ (fun r M1 q => by
    split at q
    · split at q
      · exact okO_mono (fun p => as.mono _ _ _ _ fun _ _ => asDs_mono fun _ _ z => ⟨z.1, (G p.1).mono _ _ _ _ h z.2⟩) q
      · exact q
    · exact q) q⟩
structure MthOk (X : Cx) (c : Cla) (G : Nat → Cl) (mx : List (Option (Nat × Nat))) (m : Str) (lv : Nat) : Prop where
  ok : ∀ (i : Nat) (C : Addr) (p : Nat × Nat), c.ca[i]? = some C → (mx[i]?).join = some p → Cls X.K C ∧ m ∉ c.fl.getD i [] ∧ ∃ f, Meth X.K C m f ∧ FnIn X c (G p.1) p.2 f lv
def pleft (n : Nat) (o : Expr) (env : Env) : Sem Bool := do return (← importBound o env).getD true
theorem meth_form {o : Expr} {m : Str} {apos pos : Pos} {args : List Expr} {env : Env} (ha : attrOk o = true) (hs : args.all notStar = true) (hn : args.length < 30) (hl : (apos.endLine == pos.line) = true) :
    eval (.Call (.Attribute o m apos) args [] pos) env = (do
      let ov ← eval o env
      standAt apos.atName
      let (f, first) ← holding [ov] (getMethod ov m (do return (← importBound o env).getD true))
      callWith pos f first (backTo pos (starEach args env)) (backToKw pos (keywordEach [] env))) := by
  have e : eval (.Call (.Attribute o m apos) args [] pos) env = (do
      let ov ← attributeBase o m env (eval o env)
      standAt apos.atName
      methodCall o m apos pos env ov (args.length + 0) (backTo pos (starEach args env)) (backToKw pos (keywordEach [] env))) := rfl
  rw [e, attr_base ha]
  have f : methodCallForm (args.length + 0) (backTo pos (starEach args env)) (backToKw pos (keywordEach [] env)) = true := by
    unfold methodCallForm
    rw [stars_len hs]
    have : decide (args.length + 0 < 30) = true := decide_eq_true hn
    simpa [keywordEach, backToKw] using hn
  unfold methodCall methodCallPos calleeOf
  rw [f, hl]
  rfl
section
variable {X : Cx} {c : Cla} {m : Str} {p pos apos : Pos} {o : Expr} {es : List Expr} {ts : TDs} {to : TD} {G : Nat → Cl} {mx : List (Option (Nat × Nat))} {lv : Nat}
theorem meth_imp (mo : MthOk X c G mx m lv) {σ : L2.St} {H : Hp} {Q : VK} (q : rdE X.K c (tMth G mx to ts) σ H Q) : rdE X.K c to σ H (fun v H1 => ∃ (a dx : Addr) (gs : List (Str × V)) (i : Nat) (C : Addr) (pr : Nat × Nat), v = .ref a ∧ H1 a = some (.ins C dx gs) ∧ c.ca[i]? = some C ∧ (mx[i]?).join = some pr ∧ gs.lookup m = none ∧
      rdA X.K c ts σ H1 fun vs H2 => (spC X.K c (G pr.1) pr.2) (.ref a :: vs) H2 Q fun _ _ _ => False) := by
  obtain ⟨ρ, sl, M, S, R, q⟩ := q
  refine ⟨ρ, sl, M, S, R, to.mono _ _ _ _ (fun r M1 q1 ρ1 H1 v e1 R1 rv => ?_) q⟩
  split at q1
  · split at q1
    · rename_i n _ i fs hm
      obtain ⟨pr, hp, q1⟩ := okO_get q1
      obtain ⟨a, C, dx, gs, rfl, ha', hC, hH, F⟩ := ins_at R1 rv hm
      refine ⟨a, dx, gs, i, C, pr, rfl, hH, hC, hp, lookup_none_of fun z => (mo.ok i C pr hC hp).2.1 (F.sub _ z), ρ1, sl, M1, S.mono e1, R1, ts.mono _ _ _ _ (fun rs M2 q2 ρ2 H2 vs as e2 R2 hr2 => ?_) q1⟩
      obtain ⟨t, ds, M3, ⟨hn, q3⟩, R3, e3, hd⟩ := asDs_ok e2 R2 hr2 q2
      have ha3 : (ρ2 ++ t)[n]? = some a := Ext.get e3 ha'
      exact ⟨by rw [List.length_cons, ← hd.length]; exact hn, _, M3, _, R3, .cons (.ref ha3) hd, (G pr.1).mono _ _ _ _ (fun r M4 q4 ρ4 H4 v e4 R4 rv => q4 ρ4 H4 v (e1.trans (e3.trans e4)) R4 (rv.from fun b hb => e1.back _ (e3.back _ hb))) q3⟩
    · exact q1.elim
  · exact q1.elim
theorem e_meth (mo : MthOk X c G mx m lv) (hr : Room lv X.A) (ho : EOk X c o to) {e : Expr} (ha : AOk X c (e :: es) ts) (h1 : attrOk o = true) (h2 : (e :: es).all notStar = true) (h3 : (e :: es).length < 30) (h4 : (apos.endLine == pos.line) = true) :
    EOk X c (.Call (.Attribute o m apos) (e :: es) [] pos) (tMth G mx to ts) := ⟨⟨fun pins s σ H Q I h => by
  refine PySem.W.methodCall_KW (pl := do return (← importBound o X.env).getD true) (thn (ho.pe.run pins s σ H _ I (meth_imp mo h)) fun u s1 ⟨x, H1, I1, rx, a, dx, gs, i, C, pr, ex, ea, hC, hm, hl, q1⟩ => ?_) (meth_form h1 h2 h3 h4)
  subst ex
  obtain rfl : u = Value.ref a := rx
  obtain ⟨hc, hnf, f, MT, F⟩ := mo.ok i C pr hC hm
  obtain ⟨fd, ps, F, B, k⟩ := F.ok
  refine getmeth_ok I1 ea hc MT hl ?_
  simp only [List.all_cons, Bool.and_eq_true] at h2
  refine PySem.W.callWith_K (first := [.ref a]) (h₀ := X.base) I1.ok.mod.kin MT.kp (thn (ha.pa.run pos pins s1 σ H1 _ I1 q1) fun us s2 ⟨vs, H2, I2, r, q2⟩ => ⟨I2.kIn, ?_⟩) (star_plain h2.1 _ _) (stars_plain h2.2)
  exact run_fn (us := .ref a :: us) (vs := .ref a :: vs) F hr B .nil pass0 I2 (.cons rfl r) (by rw [List.append_nil]; exact q2)⟩⟩
theorem e_meth0 (mo : MthOk X c G mx m lv) (hr : Room lv X.A) (ho : EOk X c o to) (h1 : attrOk o = true) (h4 : (apos.endLine == pos.line) = true) :
    EOk X c (.Call (.Attribute o m apos) [] [] pos) (tMth G mx to dsNil) := ⟨⟨fun pins s σ H Q I h => by
  refine PySem.W.methodCall_KW (pl := do return (← importBound o X.env).getD true) (thn (ho.pe.run pins s σ H _ I (meth_imp mo h)) fun u s1 ⟨x, H1, I1, rx, a, dx, gs, i, C, pr, ex, ea, hC, hm, hl, q1⟩ => ?_) (meth_form h1 rfl (by decide) h4)
  subst ex
  obtain rfl : u = Value.ref a := rx
  obtain ⟨hc, hnf, f, MT, F⟩ := mo.ok i C pr hC hm
  obtain ⟨fd, ps, F, B, k⟩ := F.ok
  refine getmeth_ok I1 ea hc MT hl ?_
  obtain ⟨ρ, sl, M, S, R, q1⟩ := q1
  exact PySem.W.callWith_K0 (first := [.ref a]) I1.kIn MT.kp (run_fn (us := [.ref a]) (vs := [.ref a]) F hr B .nil pass0 I1 (.cons rfl .nil) (q1 ρ H1 [] [] Ext.refl R .nil))⟩⟩
end

/-! ### a new instance -/
def tMak (G : Nat → Cl) (ci nf ini n : Nat) (as : TDs) : TD := ⟨fun s M Q => as.t s M fun rs M1 => asDs rs M1 fun ds M2 => ds.length + 1 = n ∧ (G ini).t (.ref M2.length :: ds) (M2 ++ [.ins ci (List.replicate nf none)]) fun r M3 => match r with
    | .d .non => Q (.d (.ref M2.length)) M3
    | _ => False,
  fun s M Q Q' h q => as.mono _ _ _ _ (fun _ _ => asDs_mono fun _ _ z => ⟨z.1, (G ini).mono _ _ _ _ (fun r M3 q => by
    split at q
    · exact h _ _ q
    · exact q) z.2⟩) q⟩
section
variable {X : Cx} {c : Cla} {x : Str} {p pos : Pos} {e : Expr} {es : List Expr} {ts : TDs} {G : Nat → Cl} {ci nf ini n lv : Nat} {C f : Addr}
theorem sget_rep (n i : Nat) : sget (List.replicate n none) i = none := by
  induction n generalizing i with
  | zero => rfl
  | succ n ih => cases i with
    | zero => rfl
    | succ i => exact ih i
theorem mak_imp {K : PySem.W.Frag} {E : XK} (hC : c.ca[ci]? = some C) (hf : (c.fl.getD ci []).length = nf) (σ : L2.St) (H : Hp) (Q : VK) (q : rdE K c (tMak G ci nf ini n ts) σ H Q) : tMake C (spC K c (G ini) n) [] E (rdA K c ts) σ H Q := by
  obtain ⟨ρ, s, M, S, R, q⟩ := q
  refine ⟨ρ, s, M, S, R, ts.mono _ _ _ _ (fun rs M1 q1 ρ1 H1 vs as e1 R1 hr x dx hx hdx hne => ?_) q⟩
  obtain ⟨t, ds, M2, ⟨hn, q⟩, R2, e2, hd⟩ := asDs_ok e1 R1 hr q1
  rw [List.append_nil]
  have f1 : Ext (ρ1 ++ t) H1 (ρ1 ++ t) (upd H1 dx (.own x)) := Ext.fresh hdx
  have hx2 : upd H1 dx (.own x) x = none := by rw [upd_ne hne.symm]; exact hx
  have f2 : Ext (ρ1 ++ t) (upd H1 dx (.own x)) (ρ1 ++ t) (upd (upd H1 dx (.own x)) x (.ins C dx [])) := Ext.fresh hx2
  have R3 := (R2.fresh (o := .own x) hdx).fresh (o := .ins C dx []) hx2
  have hxn : x ∉ ρ1 ++ t := Ext.of_fresh_fo R2 hx
  have f3 : Ext (ρ1 ++ t) H1 ((ρ1 ++ t) ++ [x]) (upd (upd H1 dx (.own x)) x (.ins C dx [])) := (f1.trans f2).track hx
  have R4 := R3.track (u := .ins ci (List.replicate nf none)) hxn ⟨C, dx, [], hC, upd_same, ⟨by rw [List.length_replicate, hf], fun i f d _ h => (by rw [sget_rep] at h; cases h), by simp, by simp⟩⟩
  have hl : ((ρ1 ++ t) ++ [x])[M2.length]? = some x := by rw [← R2.len, List.getElem?_concat_length]
  refine ⟨by rw [List.length_cons, ← hd.length]; exact hn, _, _, _, R4, .cons (.ref hl) (hd.mono f3), (G ini).mono _ _ _ _ (fun r M5 q5 ρ5 H5 v e5 R5 rv => ?_) q⟩
  split at q5
  · cases rv with
    | d rv =>
    cases rv
    exact ⟨rfl, q5 ρ5 H5 _ (e2.trans (f3.trans e5)) R5 (.d (.ref (e5.get hl)))⟩
  · exact q5.elim
theorem e_make (MK : Mk X.K C f) (F : FnIn X c (G ini) n f lv) (hr : Room (lv + 1) X.A) (hC : c.ca[ci]? = some C) (hf : (c.fl.getD ci []).length = nf) (hg : Gl X x) (hm : X.mg x = some (.ref C)) (ha : AOk X c (e :: es) ts) (hdb : (x == ("__debug__" : Str)) = false)
    (h2 : (e :: es).all notStar = true) : EOk X c (.Call (.Name x p) (e :: es) [] pos) (tMak G ci nf ini n ts) := by
  obtain ⟨fd, ps, F, B, k⟩ := F.ok
  simp only [List.all_cons, Bool.and_eq_true] at h2
  exact ⟨pe_imp (pe_make (E := fun _ _ _ => False) MK F hr hg hm B .nil pass0 ha.pa hdb (star_plain h2.1 _ _) (stars_plain h2.2)) (mak_imp hC hf)⟩
theorem e_make0 (MK : Mk X.K C f) (F : FnIn X c (G ini) n f lv) (hr : Room (lv + 1) X.A) (hC : c.ca[ci]? = some C) (hf : (c.fl.getD ci []).length = nf) (hg : Gl X x) (hm : X.mg x = some (.ref C)) (hdb : (x == ("__debug__" : Str)) = false) :
    EOk X c (.Call (.Name x p) [] [] pos) (tMak G ci nf ini n dsNil) := by
  obtain ⟨fd, ps, F, B, k⟩ := F.ok
  exact ⟨pe_imp (pe_make0 (E := fun _ _ _ => False) MK F hr hg hm B .nil pass0 hdb) fun σ H Q q => by
    have q := mak_imp (E := fun _ _ _ => False) hC hf σ H Q q
    obtain ⟨ρ, s, M, S, R, q⟩ := q
    exact q ρ H [] [] Ext.refl R .nil⟩
end

/-! ### methods of built-in types -/
structure OpM where
  f : Mem → RV → List RV → (RV → Mem → Prop) → Prop
  mono : ∀ M r rs Q Q', (∀ r M, Q r M → Q' r M) → f M r rs Q → f M r rs Q'
def tyOfR (M : Mem) : RV → String
  | .d (.str _) => "str"
  | .d (.ref n) => match M[n]? with
    | some (.lst _) => "list"
    | some (.dct _ _) => "dict"
    | _ => ""
  | .fo (.lst _) => "list"
  | .fo (.dct _ _) => "dict"
  | _ => ""
def tBM (T : String) (o : OpM) (a : TD) (as : TDs) : TD := ⟨fun s M Q => a.t s M fun r M1 => tyOfR M1 r = T ∧ as.t s M1 fun rs M2 => o.f M2 r rs Q,
  fun _ _ _ _ h q => a.mono _ _ _ _ (fun _ _ z => ⟨z.1, as.mono _ _ _ _ (fun _ _ => o.mono _ _ _ _ _ h) z.2⟩) q⟩
theorem tyOfR_ok {K : PySem.W.Frag} {c : Cla} {ρ : List Addr} {H0 H : Hp} {M : Mem} {r : RV} {v : V} {T : String} (hT : T ≠ "") (R : Rep K c ρ H M) (h : RVR K c H0 H ρ r v) (q : tyOfR M r = T) : tyV K T v H := by
  cases h with
  | d h =>
    cases h with
    | str _ => exact q.symm
    | ref e =>
      unfold tyOfR at q
      simp only at q
      split at q
      · rename_i hm
        obtain ⟨a', e', o⟩ := R.addr hm
        rw [e] at e'; cases e'
        obtain ⟨vs, h1, h2⟩ := o
        exact .inl ⟨q.symm, _, .of h1⟩
      · rename_i hm
        obtain ⟨a', e', o⟩ := R.addr hm
        rw [e] at e'; cases e'
        rename_i t kvs
        cases t with
        | false => obtain ⟨vs, h1, h2⟩ := o; exact .inr (.inr (.inl ⟨q.symm, .inl ⟨_, h1⟩⟩))
        | true => obtain ⟨vs, h1, h2⟩ := o; exact .inr (.inr (.inl ⟨q.symm, .inr ⟨_, h1⟩⟩))
      · exact absurd q.symm hT
    | _ => exact absurd q.symm hT
  | fo h0 hn ho =>
    rename_i o a
    cases o with
    | lst xs => obtain ⟨vs, h1, h2⟩ := ho; exact .inl ⟨q.symm, _, .of h1⟩
    | dct t xs => cases t with
      | false => obtain ⟨vs, h1, h2⟩ := ho; exact .inr (.inr (.inl ⟨q.symm, .inl ⟨_, h1⟩⟩))
      | true => obtain ⟨vs, h1, h2⟩ := ho; exact .inr (.inr (.inl ⟨q.symm, .inr ⟨_, h1⟩⟩))
    | ins _ _ => exact absurd q.symm hT
/-- a method that may change the memory: from the state at the start (H0) -/
structure OpMOk (K : PySem.W.Frag) (c : Cla) (o : OpM) (r : V → List V → Hp → VK → Prop) : Prop where
  ok : ∀ (ρ0 ρ : List Addr) (H0 H : Hp) (M : Mem) (x : RV) (rs : List RV) (v : V) (vs : List V) (as : List Addr) (Q : VK), Ext ρ0 H0 ρ H → Rep K c ρ H M → RVs K c H0 H ρ (x :: rs) (v :: vs) as →
    (o.f M x rs fun z M' => ∀ ρ' H' u, Ext ρ0 H0 ρ' H' → Rep K c ρ' H' M' → RVR K c H0 H' ρ' z u → Q u H') → r v vs H Q
section
variable {X : Cx} {c : Cla} {name : Str} {apos cpos : Pos} {a e : Expr} {es : List Expr} {ts : TDs} {ta : TD} {o : OpM} {T id : String} {r : V → List V → Hp → VK → Prop}
theorem bm_imp {K : PySem.W.Frag} (hT : T ≠ "") (h : OpMOk K c o r) (σ : L2.St) (H : Hp) (Q : VK) (q : rdE K c (tBM T o ta ts) σ H Q) : L2.tBM K T r (rdE K c ta) (rdA K c ts) σ H Q := by
  obtain ⟨ρ, s, M, S, R, q⟩ := q
  refine ⟨ρ, s, M, S, R, ta.mono _ _ _ _ (fun x M1 q1 ρ1 H1 v e1 R1 rx => ⟨tyOfR_ok hT R1 rx q1.1, ?_⟩) q⟩
  refine ⟨ρ1, s, M1, S.mono e1, R1, ts.mono _ _ _ _ (fun rs M2 q2 ρ2 H2 vs as e2 R2 hr => ?_) q1.2⟩
  obtain ⟨as', hr'⟩ := RVs.cons rx e2 e1.back hr
  exact h.ok ρ ρ2 H H2 M2 x rs v vs as' Q (e1.trans e2) R2 hr' q2
theorem e_bm (hT : T ≠ "") (pa : PlainAttrs T) (slot : Slot T name id) (hty : typeOf (.builtin id) = pure (.type "method_descriptor")) (hm : MtR X id r) (h : OpMOk X.K c o r) (ho : EOk X c a ta) (ha : AOk X c (e :: es) ts)
    (h1 : attrOk a = true) (h2 : (e :: es).all notStar = true) (h3 : (e :: es).length < 30) (h4 : (apos.endLine == cpos.line) = true) : EOk X c (.Call (.Attribute a name apos) (e :: es) [] cpos) (tBM T o ta ts) := by
  have h2' := h2
  simp only [List.all_cons, Bool.and_eq_true] at h2'
  refine ⟨pe_imp (pe_bm pa slot hty hm ho.pe ha.pa (attr_base h1 _ _ _) ?_ h4 (star_plain h2'.1 _ _) (stars_plain h2'.2)) (bm_imp hT h)⟩
  rw [stars_len h2]
  have : decide ((e :: es).length + ([] : List Keyword).length + (if ([] : List Keyword).isEmpty then 0 else 1) < 30) = true := decide_eq_true (by simpa using h3)
  rw [this]; rfl
theorem e_bm0 (hT : T ≠ "") (pa : PlainAttrs T) (slot : Slot T name id) (hty : typeOf (.builtin id) = pure (.type "method_descriptor")) (hm : MtR X id r) (h : OpMOk X.K c o r) (ho : EOk X c a ta)
    (h1 : attrOk a = true) (h4 : (apos.endLine == cpos.line) = true) : EOk X c (.Call (.Attribute a name apos) [] [] cpos) (tBM T o ta dsNil) :=
  ⟨pe_imp (pe_bm0 pa slot hty hm ho.pe (attr_base h1 _ _ _) h4) fun σ H Q q => by
    obtain ⟨ρ, s, M, S, R, q⟩ := q
    refine ⟨ρ, s, M, S, R, ta.mono _ _ _ _ (fun x M1 q1 ρ1 H1 v e1 R1 rx => ⟨tyOfR_ok hT R1 rx q1.1, ?_⟩) q⟩
    obtain ⟨as', hr'⟩ := RVs.cons rx Ext.refl (fun a h => e1.back a h) (RVs.nil (K := X.K) (c := c) (H0 := H1) (H := H1) (ρ := ρ1))
    exact h.ok ρ ρ1 H H1 M1 x [] v [] as' Q e1 R1 hr' q1.2⟩
end
/-- where a list lies that may be changed -/
def putL (M : Mem) (r : RV) (xs : List D) : Mem := match r with
  | .d (.ref n) => M.set n (.lst xs)
  | _ => M
theorem putL_ok {K : PySem.W.Frag} {c : Cla} {ρ0 ρ : List Addr} {H0 H : Hp} {M : Mem} {r : RV} {v : V} {xs ys : List D} (E : Ext ρ0 H0 ρ H) (R : Rep K c ρ H M) (h : RVR K c H0 H ρ r v) (q : lstOf M r = some xs) :
    ∃ a vs, v = .ref a ∧ H a = some (.lst vs) ∧ DRs K H ρ xs vs ∧ ∀ ws, (∀ H', Ext ρ H ρ H' → DRs K H' ρ ys ws) → ∀ H', H' = upd H a (.lst ws) → Ext ρ0 H0 ρ H' ∧ Rep K c ρ H' (putL M r ys) ∧ ((∀ b o, H b = some o → Imm o → H' b = some o) ∧ ∀ b, H' b = none → H b = none) := by
  cases h with
  | d h =>
    cases h with
    | ref e =>
      rename_i n a
      obtain ⟨a', vs, h1, h2, h3⟩ := lstOf_ok (H0 := H0) R (.d (.ref e)) q
      cases h1
      refine ⟨a, vs, rfl, h2, h3, fun ws hw H' eH => ?_⟩
      subst eH
      have ex : Ext ρ H ρ (upd H a (.lst ws)) := Ext.write h2 (fun z => z) (List.mem_of_getElem? e)
      exact ⟨E.trans ex, R.write e ⟨ws, upd_same, hw _ ex⟩, ex.imm, ex.back⟩
    | _ => cases q
  | fo h0 hn ho =>
    rename_i o a
    cases o with
    | lst zs =>
      cases q
      obtain ⟨vs, h2, h3⟩ := ho
      refine ⟨a, vs, rfl, h2, h3, fun ws hw H' eH => ?_⟩
      subst eH
      have imm : ∀ b o, H b = some o → Imm o → upd H a (.lst ws) b = some o := fun b o e i => by
        have : b ≠ a := fun z => by subst z; rw [h2] at e; cases e; exact i
        rw [upd_ne this]; exact e
      have back : ∀ b, upd H a (.lst ws) b = none → H b = none := fun b e => by
        unfold upd at e
        split at e
        · cases e
        · exact e
      refine ⟨⟨E.pre, fun b o e n => ?_, fun b o e i => imm b o (E.imm b o e i) i, E.new, fun b e => E.back b (back b e)⟩, ?_, imm, back⟩
      · have : b ≠ a := fun z => by subst z; rw [h0] at e; cases e
        rw [upd_ne this]; exact E.frm b o e n
      · refine ⟨R.len, R.nd, fun n u b e1 e2 => (R.ok n u b e1 e2).mono' imm ?_⟩
        · intro w z
          have : b ≠ a := fun z => hn (z ▸ List.mem_of_getElem? e2)
          rw [upd_ne this]; exact z
    | _ => cases q
end DL

/-! DL7: lists' methods, dicts, stores. -/
namespace DL
open PySem L2

/-! ### lists -/
section
variable {K : PySem.W.Frag} {c : Cla} {ρ0 ρ : List Addr} {H0 H : Hp} {M : Mem}
/-- the second of two is taken into the memory, the first stays -/
theorem asD_keep {x r : RV} {v w : V} {as : List Addr} {k : D → Mem → Prop} (E : Ext ρ0 H0 ρ H) (R : Rep K c ρ H M) (h : RVs K c H0 H ρ [x, r] [v, w] as) (q : asD r M k) :
    ∃ t d M', k d M' ∧ Rep K c (ρ ++ t) H M' ∧ Ext ρ0 H0 (ρ ++ t) H ∧ DR K H (ρ ++ t) d w ∧ RVR K c H0 H (ρ ++ t) x v := by
  have hw : RVR K c H0 H ρ r w := by
    cases h with
    | d h t => exact (rvs1 t).elim fun _ z => by cases z.1; exact z.2
    | fo a b d e t => exact (rvs1 t).elim fun _ z => by cases z.1; exact z.2
  cases r with
  | d y =>
    refine ⟨[], y, M, q, by simpa using R, by simpa using E, ?_, ?_⟩
    · cases hw with | d z => simpa using z
    · rw [List.append_nil]
      cases h with
      | d h t => exact .d h
      | fo a b d e t => exact .fo a b d
  | fo o =>
    cases hw with
    | fo h0 hn ho =>
      rename_i a
      refine ⟨[a], _, _, q, R.track hn ho, E.track h0, .ref (by rw [← R.len]; simp), ?_⟩
      cases h with
      | d h t => exact .d h.app
      | fo a1 b1 d1 e1 t =>
        refine .fo a1 (fun z => ?_) d1.app
        rcases List.mem_append.mp z with z | z
        · exact b1 z
        · cases t with
          | fo _ _ _ _ t => cases t; exact e1 (by simpa using z)
end
def appF (M : Mem) (x : RV) (rs : List RV) (k : RV → Mem → Prop) : Prop := match rs with
  | [r] => asD r M fun d M1 => okO (lstOf M1 x) fun xs => xs.length < 16777216 ∧ k (.d .non) (putL M1 x (xs ++ [d]))
  | _ => False
def oApp : OpM := ⟨appF, fun M r rs Q Q' h q => by
  unfold appF at q ⊢
  split at q
  · exact asD_mono (fun _ _ => okO_mono fun _ z => ⟨z.1, h _ _ z.2⟩) q
  · exact q⟩
theorem line_lt {n : Nat} (h : n < 16777216) : n < sizeLine := by rw [sizeLine_eq]; exact h
theorem app_ok {K : PySem.W.Frag} {c : Cla} : OpMOk K c oApp rAppend := ⟨fun ρ0 ρ H0 H M x rs v vs as Q E R hr q => by
  unfold oApp at q
  dsimp only at q
  unfold appF at q
  split at q
  · rename_i r
    obtain ⟨v2, w, e, _, _⟩ := rvs2 hr
    cases e
    obtain ⟨t, d, M1, q, R1, E1, hd, hx⟩ := asD_keep E R hr q
    obtain ⟨xs, hl, hz, q⟩ := okO_get q
    obtain ⟨a, ws, rfl, hH, hws, go⟩ := putL_ok (ys := xs ++ [d]) E1 R1 hx hl
    obtain ⟨E2, R2, _⟩ := go (ws ++ [w]) (fun H' e => (hws.mono e).append (.cons (hd.mono e) .nil)) _ rfl
    exact ⟨a, ws, w, rfl, rfl, hH, line_lt (by rw [← hws.length]; exact hz), q _ _ _ E2 R2 (.d .non)⟩
  · exact q.elim⟩
def extF (M : Mem) (x : RV) (rs : List RV) (k : RV → Mem → Prop) : Prop := match rs with
  | [r] => okO (lstOf M x) fun xs => okO (lstOf M r) fun ys => xs.length + ys.length ≤ 16777216 ∧ k (.d .non) (putL M x (xs ++ ys))
  | _ => False
def oExt : OpM := ⟨extF, fun M r rs Q Q' h q => by
  unfold extF at q ⊢
  split at q
  · exact okO_mono (fun _ => okO_mono fun _ z => ⟨z.1, h _ _ z.2⟩) q
  · exact q⟩
theorem ext_ok {K : PySem.W.Frag} {c : Cla} : OpMOk K c oExt rExtend := ⟨fun ρ0 ρ H0 H M x rs v vs as Q E R hr q => by
  unfold oExt at q
  dsimp only at q
  unfold extF at q
  split at q
  · rename_i r
    obtain ⟨v2, w, e, hx, hw⟩ := rvs2 hr
    cases e
    obtain ⟨xs, hl, q⟩ := okO_get q
    obtain ⟨ys, hl2, hz, q⟩ := okO_get q
    obtain ⟨b, zs, rfl, hb, hzs⟩ := lstOf_ok R hw hl2
    obtain ⟨a, ws, rfl, hH, hws, go⟩ := putL_ok (ys := xs ++ ys) E R hx hl
    obtain ⟨E2, R2, _⟩ := go (ws ++ zs) (fun H' e => (hws.mono e).append (hzs.mono e)) _ rfl
    exact ⟨a, b, ws, zs, rfl, rfl, hH, hb, line_le (by rw [← hws.length, ← hzs.length]; exact hz), q _ _ _ E2 R2 (.d .non)⟩
  · exact q.elim⟩
theorem DR.put {K : PySem.W.Frag} {H H' : Hp} {ρ : List Addr} {d : D} {v : V} (i : (∀ b o, H b = some o → Imm o → H' b = some o) ∧ ∀ b, H' b = none → H b = none) (h : DR K H ρ d v) : DR K H' ρ d v := h.mono' i.1
def popF (M : Mem) (x : RV) (rs : List RV) (k : RV → Mem → Prop) : Prop := match rs with
  | [] => okO (lstOf M x) fun xs => okO (xs[xs.length - 1]?) fun d => k (.d d) (putL M x xs.dropLast)
  | _ => False
def oPop : OpM := ⟨popF, fun M r rs Q Q' h q => by
  unfold popF at q ⊢
  split at q
  · exact okO_mono (fun _ => okO_mono fun _ => h _ _) q
  · exact q⟩
theorem pop_ok {K : PySem.W.Frag} {c : Cla} : OpMOk K c oPop rPop := ⟨fun ρ0 ρ H0 H M x rs v vs as Q E R hr q => by
  unfold oPop at q
  dsimp only at q
  unfold popF at q
  split at q
  · obtain ⟨v2, e, hx⟩ := rvs1 hr
    cases e
    obtain ⟨xs, hl, q⟩ := okO_get q
    obtain ⟨d, hd, q⟩ := okO_get q
    obtain ⟨a, ws, rfl, hH, hws, go⟩ := putL_ok (ys := xs.dropLast) E R hx hl
    obtain ⟨E2, R2, i⟩ := go ws.dropLast (fun H' e => (hws.mono e).dropLast) _ rfl
    obtain ⟨y, hy, ry⟩ := hws.get hd
    exact ⟨a, ws, y, rfl, rfl, hH, by rw [← hws.length]; exact hy, q _ _ _ E2 R2 (.d (ry.put i))⟩
  · exact q.elim⟩
def popAtF (M : Mem) (x : RV) (rs : List RV) (k : RV → Mem → Prop) : Prop := match rs with
  | [.d (.int i)] => okO (lstOf M x) fun xs => okO (seqIndex? i xs.length) fun j => okO (xs[j]?) fun d => (-(2 ^ 63) ≤ i ∧ i < 2 ^ 63) ∧ k (.d d) (putL M x (xs.eraseIdx j))
  | _ => False
def oPopAt : OpM := ⟨popAtF, fun M r rs Q Q' h q => by
  unfold popAtF at q ⊢
  split at q
  · exact okO_mono (fun _ => okO_mono fun _ => okO_mono fun _ z => ⟨z.1, h _ _ z.2⟩) q
  · exact q⟩
theorem popAt_ok {K : PySem.W.Frag} {c : Cla} : OpMOk K c oPopAt rPopAt := ⟨fun ρ0 ρ H0 H M x rs v vs as Q E R hr q => by
  unfold oPopAt at q
  dsimp only at q
  unfold popAtF at q
  split at q
  · obtain ⟨v2, w, e, hx, hw⟩ := rvs2 hr
    cases e
    cases hw with
    | d hw =>
    cases hw
    obtain ⟨xs, hl, q⟩ := okO_get q
    obtain ⟨j, hj, q⟩ := okO_get q
    obtain ⟨d, hd, hb, q⟩ := okO_get q
    obtain ⟨a, ws, rfl, hH, hws, go⟩ := putL_ok (ys := xs.eraseIdx j) E R hx hl
    obtain ⟨E2, R2, i⟩ := go (ws.eraseIdx j) (fun H' e => (hws.mono e).eraseIdx j) _ rfl
    obtain ⟨y, hy, ry⟩ := hws.get hd
    exact ⟨a, ws, _, j, y, rfl, rfl, hH, hb.1, hb.2, by rw [← hws.length]; exact hj, hy, q _ _ _ E2 R2 (.d (ry.put i))⟩
  · exact q.elim⟩

/-! ### dicts -/
/-- two keys are the same -/
def keq (x y : D) : Bool := D.eqv x y
def dlook (kvs : List (D × D)) (x : D) : Option D := (kvs.find? fun p => keq p.1 x).map (·.2)
def dput (kvs : List (D × D)) (x d : D) : List (D × D) :=
  if (kvs.any fun p => keq p.1 x) = true then kvs.map (fun p => if keq p.1 x = true then (p.1, d) else p) else kvs ++ [(x, d)]
def ddrop (kvs : List (D × D)) (x : D) : List (D × D) := kvs.filter fun p => !keq p.1 x
theorem keq_key {x y : D} {k l : Key} (hx : keyD x = some k) (hy : keyD y = some l) : keq x y = decide (k = l) := by
  cases x <;> cases y <;> simp [keyD] at hx hy <;> subst hx <;> subst hy <;> simp [keq, D.eqv]
theorem keq_keys : ∀ {xs ys : List D} {k l : List Key}, keysD xs = some k → keysD ys = some l → D.eqvs xs ys = decide (k = l)
  | [], [], k, l, hx, hy => by simp [keysD] at hx hy; subst hx; subst hy; simp [D.eqvs]
  | [], y :: ys, k, l, hx, hy => by
    simp [keysD] at hx; subst hx
    unfold keysD at hy
    split at hy
    · cases hy; simp [D.eqvs]
    · cases hy
  | x :: xs, [], k, l, hx, hy => by
    simp [keysD] at hy; subst hy
    unfold keysD at hx
    split at hx
    · cases hx; simp [D.eqvs]
    · cases hx
  | x :: xs, y :: ys, k, l, hx, hy => by
    unfold keysD at hx hy
    split at hx
    · rename_i k1 ks1 h1 h2
      cases hx
      split at hy
      · rename_i k2 ks2 h3 h4
        cases hy
        have e1 : D.eqv x y = decide (k1 = k2) := keq_key h1 h3
        rw [D.eqvs, e1, keq_keys h2 h4]
        by_cases h : k1 = k2 <;> simp [h]
      · cases hy
    · cases hx
section
variable {K : PySem.W.Frag} {c : Cla} {ρ0 ρ : List Addr} {H0 H : Hp} {M : Mem}
theorem KRs.look {x : D} {k : Key} (hk : keyD x = some k) : ∀ {kvs : List (D × D)} {ws : List (Key × V)}, KRs K H ρ kvs ws → (∀ d, dlook kvs x = some d → ∃ v, valV ws k = some v ∧ DR K H ρ d v) ∧ (dlook kvs x = none → valV ws k = none)
  | _, _, .nil => ⟨fun d h => (nomatch h), fun _ => rfl⟩
  | _, _, .cons (x := y) (k := l) (v := v) hy r t => by
    obtain ⟨i1, i2⟩ := KRs.look hk t
    have e := keq_key hy hk
    unfold dlook
    rw [List.find?_cons]
    by_cases h : l = k
    · subst h
      rw [e, decide_eq_true rfl]
      refine ⟨fun d hd => ?_, fun hd => nomatch hd⟩
      cases hd
      exact ⟨v, valV_pos (p := (_, v)) rfl, r⟩
    · rw [e, decide_eq_false h]
      rw [valV_neg (p := (l, v)) h]
      exact ⟨i1, i2⟩
theorem KTs.look {xs : List D} {k : List Key} (hk : keysD xs = some k) : ∀ {kvs : List (D × D)} {ws : List (List Key × V)}, KTs K H ρ kvs ws → (∀ d, dlook kvs (.tup xs) = some d → ∃ v, valV ws k = some v ∧ DR K H ρ d v) ∧ (dlook kvs (.tup xs) = none → valV ws k = none)
  | _, _, .nil => ⟨fun d h => (nomatch h), fun _ => rfl⟩
  | _, _, .cons (xs := y) (k := l) (v := v) hy r t => by
    obtain ⟨i1, i2⟩ := KTs.look hk t
    have e : keq (.tup y) (.tup xs) = decide (l = k) := keq_keys hy hk
    unfold dlook
    rw [List.find?_cons]
    by_cases h : l = k
    · subst h
      rw [e, decide_eq_true rfl]
      refine ⟨fun d hd => ?_, fun hd => nomatch hd⟩
      cases hd
      exact ⟨v, valV_pos (p := (_, v)) rfl, r⟩
    · rw [e, decide_eq_false h]
      rw [valV_neg (p := (l, v)) h]
      exact ⟨i1, i2⟩
theorem KRs.anyk {x : D} {k : Key} (hk : keyD x = some k) : ∀ {kvs : List (D × D)} {ws : List (Key × V)}, KRs K H ρ kvs ws → (kvs.any fun p => keq p.1 x) = (ws.any fun p => decide (p.1 = k))
  | _, _, .nil => rfl
  | _, _, .cons hy r t => by rw [List.any_cons, List.any_cons, KRs.anyk hk t, keq_key hy hk]
theorem KTs.anyk {xs : List D} {k : List Key} (hk : keysD xs = some k) : ∀ {kvs : List (D × D)} {ws : List (List Key × V)}, KTs K H ρ kvs ws → (kvs.any fun p => keq p.1 (.tup xs)) = (ws.any fun p => decide (p.1 = k))
  | _, _, .nil => rfl
  | _, _, .cons (xs := y) hy r t => by
    have e : keq (.tup y) (.tup xs) = _ := keq_keys hy hk
    rw [List.any_cons, List.any_cons, KTs.anyk hk t, e]
theorem KRs.append : ∀ {kvs kvs' : List (D × D)} {ws ws' : List (Key × V)}, KRs K H ρ kvs ws → KRs K H ρ kvs' ws' → KRs K H ρ (kvs ++ kvs') (ws ++ ws')
  | _, _, _, _, .nil, s => s
  | _, _, _, _, .cons k r t, s => .cons k r (KRs.append t s)
theorem KTs.append : ∀ {kvs kvs' : List (D × D)} {ws ws' : List (List Key × V)}, KTs K H ρ kvs ws → KTs K H ρ kvs' ws' → KTs K H ρ (kvs ++ kvs') (ws ++ ws')
  | _, _, _, _, .nil, s => s
  | _, _, _, _, .cons k r t, s => .cons k r (KTs.append t s)
theorem KRs.put {x d : D} {k : Key} {v : V} (hk : keyD x = some k) (hd : DR K H ρ d v) {kvs : List (D × D)} {ws : List (Key × V)} (h : KRs K H ρ kvs ws) : KRs K H ρ (dput kvs x d) (putK ws k v) := by
  unfold dput putK
  rw [h.anyk hk]
  split
  · have : ∀ {kvs : List (D × D)} {ws : List (Key × V)}, KRs K H ρ kvs ws → KRs K H ρ (kvs.map fun p => if keq p.1 x = true then (p.1, d) else p) (ws.map fun p => if p.1 = k then (p.1, v) else p) := by
      intro kvs ws h
      induction h with
      | nil => exact .nil
      | @cons y e l u _ _ hy r t ih =>
        rw [List.map_cons, List.map_cons]
        by_cases hl : l = k
        · have e1 : keq y x = true := by rw [keq_key hy hk]; exact decide_eq_true hl
          simp only [e1, if_true, hl]
          exact .cons (by rw [← hl]; exact hy) hd ih
        · have e1 : ¬ keq y x = true := by rw [keq_key hy hk]; simpa using hl
          simp only [if_neg e1, if_neg hl]
          exact .cons hy r ih
    exact this h
  · exact h.append (.cons hk hd .nil)
theorem KTs.put {xs : List D} {d : D} {k : List Key} {v : V} (hk : keysD xs = some k) (hd : DR K H ρ d v) {kvs : List (D × D)} {ws : List (List Key × V)} (h : KTs K H ρ kvs ws) : KTs K H ρ (dput kvs (.tup xs) d) (putK ws k v) := by
  unfold dput putK
  rw [h.anyk hk]
  split
  · have : ∀ {kvs : List (D × D)} {ws : List (List Key × V)}, KTs K H ρ kvs ws → KTs K H ρ (kvs.map fun p => if keq p.1 (.tup xs) = true then (p.1, d) else p) (ws.map fun p => if p.1 = k then (p.1, v) else p) := by
      intro kvs ws h
      induction h with
      | nil => exact .nil
      | @cons y e l u _ _ hy r t ih =>
        rw [List.map_cons, List.map_cons]
        have e0 : keq (.tup y) (.tup xs) = decide (l = k) := keq_keys hy hk
        by_cases hl : l = k
        · have e1 : keq (.tup y) (.tup xs) = true := by rw [e0]; exact decide_eq_true hl
          simp only [e1, if_true, hl]
          exact .cons (by rw [← hl]; exact hy) hd ih
        · have e1 : ¬ keq (.tup y) (.tup xs) = true := by rw [e0]; simpa using hl
          simp only [if_neg e1, if_neg hl]
          exact .cons hy r ih
    exact this h
  · exact h.append (.cons hk hd .nil)
end
/-- a key of such a dict -/
def isKey : Bool → D → Bool
  | false, .int _ => true
  | false, .str _ => true
  | true, .tup xs => (keysD xs).isSome
  | _, _ => false
/-- the entries of a dict -/
def dctOf (M : Mem) : RV → Option (Bool × List (D × D))
  | .d (.ref n) => match M[n]? with
    | some (.dct t kvs) => some (t, kvs)
    | _ => none
  | .fo (.dct t kvs) => some (t, kvs)
  | _ => none
def KDs (K : PySem.W.Frag) (H : Hp) (ρ : List Addr) (a : Addr) (t : Bool) (kvs : List (D × D)) : Prop := match t with
  | false => ∃ ws, H a = some (.dK ws) ∧ KRs K H ρ kvs ws
  | true => ∃ ws, H a = some (.dT ws) ∧ KTs K H ρ kvs ws
section
variable {K : PySem.W.Frag} {c : Cla} {ρ0 ρ : List Addr} {H0 H : Hp} {M : Mem}
theorem dctOf_ok {r : RV} {v : V} {t : Bool} {kvs : List (D × D)} (R : Rep K c ρ H M) (h : RVR K c H0 H ρ r v) (q : dctOf M r = some (t, kvs)) : ∃ a, v = .ref a ∧ KDs K H ρ a t kvs := by
  cases h with
  | d h =>
    cases h with
    | ref e =>
      unfold dctOf at q
      simp only at q
      split at q
      · rename_i hm
        cases q
        obtain ⟨a', e', o⟩ := R.addr hm
        rw [e] at e'; cases e'
        cases t <;> exact ⟨_, rfl, o⟩
      · cases q
    | _ => cases q
  | fo h0 hn ho =>
    rename_i o a
    cases o with
    | dct _ _ => cases q; cases t <;> exact ⟨_, rfl, ho⟩
    | _ => cases q
theorem keys_V {ρ : List Addr} : ∀ {xs : List D} {k : List Key} {vs : List V}, keysD xs = some k → DRs K H ρ xs vs → vs = k.map kV
  | [], k, _, hx, .nil => by simp [keysD] at hx; subst hx; rfl
  | x :: xs, k, _, hx, .cons r t => by
    unfold keysD at hx
    split at hx
    · rename_i k1 ks h1 h2
      cases hx
      rw [List.map_cons, keys_V h2 t]
      cases r <;> simp [keyD] at h1 <;> subst h1 <;> rfl
    · cases hx
theorem key_V {x : D} {k : Key} {y : V} (h : keyD x = some k) (hx : DR K H ρ x y) : y = kV k := by
  cases hx <;> simp [keyD] at h <;> subst h <;> rfl
theorem key_of {x : D} (h : isKey false x = true) : ∃ k, keyD x = some k := by
  cases x with
  | int i => exact ⟨_, rfl⟩
  | str l => exact ⟨_, rfl⟩
  | _ => simp [isKey] at h
/-- what a dict holds -/
theorem look_ok {a : Addr} {t : Bool} {kvs : List (D × D)} {x : D} {y : V} (h : KDs K H ρ a t kvs) (hk : isKey t x = true) (hx : DR K H ρ x y) :
    ∃ o, DGet H a y o ∧ (∀ d, dlook kvs x = some d → ∃ v, o = some v ∧ DR K H ρ d v) ∧ (dlook kvs x = none → o = none) := by
  cases t with
  | false =>
    obtain ⟨ws, hH, t⟩ := h
    obtain ⟨k, hk1⟩ := key_of hk
    obtain ⟨i1, i2⟩ := t.look hk1
    exact ⟨_, key_V hk1 hx ▸ DGet.k hH, i1, i2⟩
  | true =>
    obtain ⟨ws, hH, t⟩ := h
    cases x with
    | tup xs =>
      cases hx with
      | tup s r =>
        obtain ⟨k, hk1⟩ := Option.isSome_iff_exists.mp (show (keysD xs).isSome = true from hk)
        obtain ⟨i1, i2⟩ := t.look hk1
        exact ⟨_, DGet.t hH (by rw [← keys_V hk1 r]; exact s), i1, i2⟩
    | _ => simp [isKey] at hk
/-- a dict behind a store -/
def putD (M : Mem) (r : RV) (t : Bool) (kvs : List (D × D)) : Mem := match r with
  | .d (.ref n) => M.set n (.dct t kvs)
  | _ => M
theorem putK_len {κ : Type} [DecidableEq κ] {kvs : List (κ × V)} {k : κ} {v : V} : (putK kvs k v).length ≤ kvs.length + 1 := by
  unfold putK; split <;> simp
theorem dlen_ok {a : Addr} {t : Bool} {kvs : List (D × D)} (h : KDs K H ρ a t kvs) : True := trivial
theorem KRs.length : ∀ {kvs : List (D × D)} {ws : List (Key × V)}, KRs K H ρ kvs ws → kvs.length = ws.length
  | _, _, .nil => rfl
  | _, _, .cons _ _ t => by simp [KRs.length t]
theorem KTs.length : ∀ {kvs : List (D × D)} {ws : List (List Key × V)}, KTs K H ρ kvs ws → kvs.length = ws.length
  | _, _, .nil => rfl
  | _, _, .cons _ _ t => by simp [KTs.length t]
/-- a store into a dict that stands in the memory -/
theorem put_ok {n : Nat} {t : Bool} {kvs : List (D × D)} {v y w : V} {x d : D} (R : Rep K c ρ H M) (h : DR K H ρ (.ref n) v) (hm : M[n]? = some (.dct t kvs)) (hk : isKey t x = true) (hx : DR K H ρ x y) (hd : DR K H ρ d w) (hl : kvs.length < 16777216) :
    ∃ a H', v = .ref a ∧ DPut H a y w H' ∧ Ext ρ H ρ H' ∧ Rep K c ρ H' (M.set n (.dct t (dput kvs x d))) := by
  cases h with
  | ref e =>
    rename_i a
    obtain ⟨a', e', o⟩ := R.addr hm
    rw [e] at e'; cases e'
    have hr : a ∈ ρ := List.mem_of_getElem? e
    cases t with
    | false =>
      obtain ⟨ws, hH, ht⟩ := o
      obtain ⟨k, hk1⟩ := key_of hk
      have ex : Ext ρ H ρ (upd H a (.dK (putK ws k w))) := Ext.write hH (fun z => z) hr
      refine ⟨a, _, rfl, key_V hk1 hx ▸ DPut.k hH (line_lt (by rw [← ht.length]; exact hl)), ex, R.write e ⟨_, upd_same, (ht.put hk1 hd).mono ex⟩⟩
    | true =>
      obtain ⟨ws, hH, ht⟩ := o
      cases x with
      | tup xs =>
        cases hx with
        | tup s r =>
          obtain ⟨k, hk1⟩ := Option.isSome_iff_exists.mp (show (keysD xs).isSome = true from hk)
          have ex : Ext ρ H ρ (upd H a (.dT (putK ws k w))) := Ext.write hH (fun z => z) hr
          exact ⟨a, _, rfl, DPut.t hH (by rw [← keys_V hk1 r]; exact s) (line_lt (by rw [← ht.length]; exact hl)), ex, R.write e ⟨_, upd_same, (ht.put hk1 hd).mono ex⟩⟩
      | _ => simp [isKey] at hk
end

/-! ### o[i] = v -/
def setI (M : Mem) (o i : RV) (d : D) (k : Mem → Prop) : Prop := match o, i with
  | .d (.ref n), .d x => match M[n]?, x with
    | some (.lst xs), .int j => okO (ixN xs.length j) fun j => k (M.set n (.lst (xs.set j d)))
    | some (.dct t kvs), x => (isKey t x = true ∧ kvs.length < 16777216) ∧ k (M.set n (.dct t (dput kvs x d)))
    | _, _ => False
  | _, _ => False
theorem setI_mono {M : Mem} {o i : RV} {d : D} {Q Q' : Mem → Prop} (h : ∀ r, Q r → Q' r) (q : setI M o i d Q) : setI M o i d Q' := by
  unfold setI at q ⊢
  split at q
  · split at q
    · exact okO_mono (fun _ => h _) q
    · exact ⟨q.1, h _ q.2⟩
    · exact q
  · exact q
def rSetA : V → V → V → Hp → (Hp → Prop) → Prop := fun o i v H Q => rSetL o i v H Q ∨ ∃ a H', o = .ref a ∧ DPut H a i v H' ∧ Q H'
theorem set_all {X : Cx} (hu : X.A.units + 1 < cLine) : PSet X rSetA := by
  intro pins s σ H o i v ov iv u Q I ro ri rv h
  rcases h with h | ⟨a, H', rfl, g, q⟩
  · exact set_list pins s σ H o i v ov iv u Q I ro ri rv h
  · obtain rfl : ov = Value.ref a := ro
    exact d_setItem hu I g ri rv fun s4 I4 => ⟨H', I4, q⟩
theorem setI_ok {K : PySem.W.Frag} {c : Cla} {ρ : List Addr} {H0 H : Hp} {M : Mem} {o i : RV} {d : D} {vo vi w : V} {k : Mem → Prop} {Q : Hp → Prop} (R : Rep K c ρ H M) (ro : RVR K c H0 H ρ o vo) (ri : RVR K c H0 H ρ i vi) (rd : DR K H ρ d w)
    (q : setI M o i d k) (hk : ∀ M' H', k M' → Ext ρ H ρ H' → Rep K c ρ H' M' → Q H') : rSetA vo vi w H Q := by
  unfold setI at q
  split at q
  · cases ro with
    | d ro =>
    cases ri with
    | d ri =>
    split at q
    · rename_i hm
      obtain ⟨j, hj, q⟩ := okO_get q
      cases ri
      cases ro with
      | ref e =>
      obtain ⟨a', e', vs, hH, t⟩ := R.addr hm
      rw [e] at e'; cases e'
      rename_i a
      have ex : Ext ρ H ρ (upd H a (.lst (vs.set j w))) := Ext.write hH (fun z => z) (List.mem_of_getElem? e)
      exact .inl ⟨a, vs, _, j, rfl, rfl, hH, by rw [← t.length]; exact hj, hk _ _ q ex (R.write e ⟨_, upd_same, (t.set rd j).mono ex⟩)⟩
    · rename_i hm
      obtain ⟨a, H', rfl, g, ex, R'⟩ := put_ok R ro hm q.1.1 ri rd q.1.2
      exact .inr ⟨a, H', rfl, g, hk _ _ q.2 ex R'⟩
    · exact q.elim
  · exact q.elim
def gSub (o i : TD) : TGd := ⟨fun r s M Q => asD r M fun d M1 => o.t s M1 fun ro M2 => i.t s M2 fun ri M3 => setI M3 ro ri d fun M4 => Q s M4,
  fun r s M Q Q' h q => asD_mono (fun _ _ => o.mono _ _ _ _ fun _ _ => i.mono _ _ _ _ fun _ _ => setI_mono fun _ => h _ _) q⟩
section
variable {X : Cx} {c : Cla} {o i : Expr} {pos : Pos} {to ti : TD}
theorem g_sub (hu : X.A.units + 1 < cLine) (ho : EOk X c o to) (hi : EOk X c i ti) (ha : ∀ v, assign (.Subscript o i pos) X.env v = (do
      let ov ← holding [v] (eval o X.env)
      let iv ← holding [v, ov] (eval i X.env)
      standAt pos
      holding [v, ov, iv] (setItem ov iv v)
      release [v, ov, iv] [])) : GOk X c (.Subscript o i pos) (gSub to ti) :=
  ⟨pg_imp (pg_sub ho.pe hi.pe (set_all hu) ha) fun v σ H Q ⟨ρ0, H0, ρ, s, M, r, e0, S, R, rv, q⟩ => by
    unfold gSub at q
    dsimp only at q
    obtain ⟨t, d, M1, q, R1, e1, hd, _⟩ := asD_ok e0 R rv q
    refine ⟨_, s, M1, S.app, R1, to.mono _ _ _ _ (fun ro M2 q2 ρ2 H2 vo e2 R2 rvo => ?_) q⟩
    refine ⟨ρ2, s, M2, S.app.mono e2, R2, ti.mono _ _ _ _ (fun ri M3 q3 ρ3 H3 vi e3 R3 rvi => ?_) q2⟩
    refine setI_ok R3 (rvo.mono e3) (rvi.from e2.back) (hd.mono (e2.trans e3)) q3 fun M4 H4 q4 e4 R4 => ?_
    exact q4 ρ3 σ H4 (e1.trans (e2.trans (e3.trans e4))) (S.app.mono (e2.trans (e3.trans e4))) R4⟩
end

/-! ### x op= e -/
def sAug (i : Nat) (o : Op2) (a : TD) : TSd := ⟨fun D s M => okO (sget s i) fun d => a.t s M fun r M1 => o.f M1 (.d d) r fun z => asD z M1 fun d' M2 => D.nx (s.set i (some d')) M2,
  fun _ _ _ _ h q => okO_mono (fun _ => a.mono _ _ _ _ fun _ _ => o.mono _ _ _ _ _ fun _ => asD_mono fun _ _ => h.nx _ _) q⟩
/-- the class of an instance -/
def clsR (M : Mem) : RV → Option Nat
  | .d (.ref n) => match M[n]? with
    | some (.ins i _) => some i
    | _ => none
  | _ => none
/-- o.f op= e -/
def sAugF (ix : List (Option Nat)) (o : Op2) (a e : TD) : TSd := ⟨fun D s M => a.t s M fun ro M1 => getF ix M1 ro fun x => e.t s M1 fun y M2 => o.f M2 x y fun z => asD z M2 fun d M3 => clsR M3 ro = clsR M1 ro ∧ setF ix M3 ro d fun M4 => D.nx s M4,
  fun _ _ _ _ h q => a.mono _ _ _ _ (fun _ _ => getF_mono fun _ => e.mono _ _ _ _ fun _ _ => o.mono _ _ _ _ _ fun _ => asD_mono fun _ _ z => ⟨z.1, setF_mono (fun _ => h.nx _ _) z.2⟩) q⟩
section
variable {X : Cx} {c : Cla} {e o : Expr} {x f : Str} {i : Nat} {pos pos' tpos : Pos} {te to : TD} {op : Operator} {o2 : Op2} {r : R2} {ix : List (Option Nat)}
theorem s_aug (hN : X.N.Nodup) (hi : X.N[i]? = some x) (hx : Loc X.env.scope x) (hf : X.fn x = true ∨ X.env.scope.names.lookup x = some .local) (he : EOk X c e te) (ho : OpR X (inplaceOp op) r) (h : Op2Ok X.K c o2 r) : SOk X c (.AugAssign (.Name x pos') op e pos) (sAug i o2 te) :=
  ⟨ps_imp (ps_aug hN hi hx he.pe (fun pins s σ H x y v u Q I rx ry q => ho pins s σ H x y v u Q I rx ry q) hf) fun D σ H ⟨ρ, s, M, S, R, q⟩ => by
    obtain ⟨d, hd, q⟩ := okO_get q
    obtain ⟨v, hv, rv⟩ := S.at_ i d hd
    refine ⟨v, hv, ρ, s, M, S, R, te.mono _ _ _ _ (fun r1 M1 q1 ρ1 H1 w e1 R1 rw' => ?_) q⟩
    refine h.ok ρ1 H H1 M1 (.d d) r1 v w _ R1 (.d (rv.mono e1)) rw' (o2.mono _ _ _ _ _ (fun z qz H' u e2 R2 ru => ?_) q1)
    obtain ⟨t, d', M2, q2, R3, e3, hd', _⟩ := asD_ok (e1.trans e2) R2 (ru.from e1.back) qz
    exact q2 _ _ _ e3 ((S.mono (e1.trans e2)).app.set hd') R3⟩
theorem s_augF (CO : ClaOk X.K c) (hfn : ∀ i : Nat, (c.fl.getD i []).Nodup) (hx : fix c f = ix) (ho : EOk X c o to) (he : EOk X c e te) (hop : OpR X (inplaceOp op) r) (h : Op2Ok X.K c o2 r) : SOk X c (.AugAssign (.Attribute o f tpos) op e pos) (sAugF ix o2 to te) :=
  ⟨ps_imp (ps_fldaug ho.pe he.pe (fun pins s σ H x y v u Q I rx ry q => hop pins s σ H x y v u Q I rx ry q)) fun D σ H ⟨ρ, s, M, S, R, q⟩ => ⟨ρ, s, M, S, R, to.mono _ _ _ _ (fun ro M1 q1 ρ1 H1 vo e1 R1 rvo => by
    unfold getF at q1
    split at q1
    · split at q1
      · rename_i n _ i fs hm
        obtain ⟨j, hj, q1⟩ := okO_get q1
        obtain ⟨d, hd, q1⟩ := okO_get q1
        obtain ⟨a, C, dx, gs, rfl, ha, hC, hH, F⟩ := ins_at R1 rvo hm
        have hf := fix_get (hx ▸ hj)
        obtain ⟨w, hw, rw'⟩ := F.at_ j f d hf hd
        refine ⟨a, C, dx, gs, w, rfl, hH, CO.cls i C hC, CO.fld i C f hC (List.mem_of_getElem? hf), hw, ρ1, s, M1, S.mono e1, R1, te.mono _ _ _ _ (fun y M2 q2 ρ2 H2 vy e2 R2 ry => ?_) q1⟩
        refine h.ok ρ2 H1 H2 M2 (.d d) y w vy _ R2 (.d (rw'.mono e2)) ry (o2.mono _ _ _ _ _ (fun z qz H3 u e3 R3 ru => ?_) q2)
        obtain ⟨t, d', M4, ⟨hcl, q4⟩, R4, e4, hd', _⟩ := asD_ok (e1.trans (e2.trans e3)) R3 (ru.from fun b hb => e1.back _ (e2.back _ hb)) qz
        have rvo' : RVR X.K c H1 H3 (ρ2 ++ t) (.d (.ref n)) (.ref a) := by
          cases rvo with
          | d z => exact .d ((z.mono (e2.trans e3)).app)
        have hm4 : ∃ fs', M4[n]? = some (.ins i fs') := by
          unfold clsR at hcl
          simp only at hcl
          rw [hm] at hcl
          split at hcl
          · cases hcl; exact ⟨_, by assumption⟩
          · cases hcl
        obtain ⟨fs', hm4⟩ := hm4
        obtain ⟨a', C', dx', gs', M5, ea, hH', hc', hn', hf', q5, e5, R5⟩ := setF_ok CO hfn hx R4 rvo' hd' q4
        cases ea
        obtain ⟨a2, C2, dx2, gs2, ea2, _, hC2, hH2, _⟩ := ins_at R4 rvo' hm4
        cases ea2
        rw [hC] at hC2; cases hC2
        rw [hH'] at hH2; cases hH2
        exact ⟨dx', gs', hH', hf', q5 _ σ _ (e4.trans e5) ((S.mono (e1.trans (e2.trans e3))).app.mono e5) R5⟩
      · exact q1.elim
    · exact q1.elim) q⟩⟩
end

/-! ### a[i] of a dict too -/
def rIxD : R2 := fun x y H Q => ∃ a v, x = .ref a ∧ DGet H a y (some v) ∧ Q v H
open PySem.Spec PyProof.Rows in
theorem ix_dict {X : Cx} (hu : X.A.units + 1 < cLine) : IxR X rIxD := by
  intro value slice pins s σ H x y v u Q I rx ry h hs
  obtain ⟨a, w, rfl, g, q⟩ := h
  obtain rfl : v = Value.ref a := rx
  have hT := L2.dict_typeIs I g
  unfold subscriptTail
  refine wpAny_bind ?_
  rw [getitemInPython_of_ne hT.not_modules]
  refine wpAny_bind (wpAny_specialOf hT PySem.F.slot_dict_getitem.lookup ?_)
  have h2 : wpAny (model X.prog X.w) X.A (getItem (.ref a) u) (EP X pins σ Q) X.xe s := L2.d_getItem hu I g ry fun w' s3 I3 rw' => ⟨w, H, I3, rw', q⟩
  have fin : wpAny (model X.prog X.w) X.A (subscripted slice false (.ref a) u) (fun r s₃ => wpAny (model X.prog X.w) X.A (letTemporaryGo value (.ref a) r >>= fun _ => pure r) (EP X pins σ Q) X.xe s₃) X.xe s := by
    rw [hs]
    exact wpAny_operating (wpAny_mono h2 (fun r s₃ q => wpAny_bind (wpAny_letTemporaryGo (wpAny_pure q))) fun _ _ x => x)
  first
    | exact wpAny_pure (wpAny_bind fin)
    | exact wpAny_bind (wpAny_pure (wpAny_bind fin))
    | exact wpAny_bind fin
/-- a[i]: a text, a list, a tuple by a place; a dict by a key -/
def ixAF (M : Mem) (x y : RV) (k : RV → Prop) : Prop := match y with
  | .d y => match dctOf M x with
    | some (t, kvs) => isKey t y = true ∧ okO (dlook kvs y) fun d => k (.d d)
    | none => ixF M x (.d y) k
  | _ => False
def oIxA : Op2 := ⟨ixAF, fun M x y Q Q' h q => by
  unfold ixAF at q ⊢
  split at q
  · split at q
    · exact ⟨q.1, okO_mono (fun _ => h _) q.2⟩
    · exact oIx.mono _ _ _ _ _ h q
  · exact q⟩
def rIxAll (K : PySem.W.Frag) : R2 := fun x y H Q => rIx K x y H Q ∨ rIxD x y H Q
theorem ixA_op {X : Cx} (hu : X.A.units + 1 < cLine) : IxR X (rIxAll X.K) := ix_seq.or (ix_dict hu)
theorem ixA_ok {K : PySem.W.Frag} {c : Cla} : Op2Ok K c oIxA (rIxAll K) := ⟨fun ρ H0 H M x y v w Q R rx ry q => by
  unfold oIxA at q
  dsimp only at q
  unfold ixAF at q
  split at q
  · split at q
    · rename_i t kvs hd
      obtain ⟨d, hl, q2⟩ := okO_get q.2
      obtain ⟨a, rfl, hk⟩ := dctOf_ok R rx hd
      cases ry with
      | d ry =>
      obtain ⟨o, g, h1, _⟩ := look_ok hk q.1 ry
      obtain ⟨u, rfl, ru⟩ := h1 d hl
      exact .inr ⟨a, u, rfl, g, q2 H _ Ext.refl R (.d ru)⟩
    · exact .inl (ix_ok.ok ρ H0 H M x _ v w Q R rx ry q)
  · exact q.elim⟩

/-! ### x in y -/
/-- all of them plain -/
def flatD : D → Bool
  | .non => true
  | .bl _ => true
  | .int _ => true
  | .str _ => true
  | _ => false
def inF (g : Bool → Bool) (M : Mem) (x y : RV) (k : RV → Prop) : Prop := match x with
  | .d x => match dctOf M y with
    | some (t, kvs) => isKey t x = true ∧ k (.d (.bl (g (dlook kvs x).isSome)))
    | none => match x, y with
      | .str [ch], .d (.str l) => k (.d (.bl (g (decide (ch ∈ l)))))
      | x, y => okO (seqOf M y) fun xs => (flatD x = true ∧ xs.all flatD = true) ∧ k (.d (.bl (g (xs.any fun z => D.eqv z x))))
  | _ => False
theorem inF_mono {g : Bool → Bool} (M : Mem) (x y : RV) (Q Q' : RV → Prop) (h : ∀ r, Q r → Q' r) (q : inF g M x y Q) : inF g M x y Q' := by
  unfold inF at q ⊢
  split at q
  · split at q
    · exact ⟨q.1, h _ q.2⟩
    · split at q
      · exact h _ q
      · exact okO_mono (fun _ z => ⟨z.1, h _ z.2⟩) q
  · exact q
def oIn : Op2 := ⟨inF id, inF_mono⟩
def oNin : Op2 := ⟨inF not, inF_mono⟩
def rInA (K : PySem.W.Frag) (neg : Bool) : R2 := fun x y H Q => (rIn K neg x y H Q ∨ ∃ (c : Nat) (z : Str), x = .str ⟨#[c]⟩ ∧ y = .str z ∧ Q (.bl (if neg then !decide (c ∈ z.cps.toList) else decide (c ∈ z.cps.toList))) H) ∨ ∃ a o, y = .ref a ∧ DGet H a x o ∧ Q (.bl (if neg then !o.isSome else o.isSome)) H
theorem in_op {X : Cx} (hu : X.A.units + 1 < cLine) : OpR X (compareOp .In) (rInA X.K false) := by
  intro pins s σ H x y v u Q I rx ry h
  rcases h with (h | ⟨ch, z, e1, e2, h⟩) | ⟨a, o, rfl, g, q⟩
  · exact op_in_seq pins s σ H x y v u Q I rx ry h
  · exact op_in_sign pins s σ H x y v u Q I rx ry ⟨ch, z, e1, e2, h⟩
  · obtain rfl : u = Value.ref a := ry
    exact d_in hu I g rx fun s3 I3 => ⟨.bl o.isSome, H, I3, rfl, q⟩
theorem nin_op {X : Cx} (hu : X.A.units + 1 < cLine) : OpR X (compareOp .NotIn) (rInA X.K true) := by
  intro pins s σ H x y v u Q I rx ry h
  rcases h with (h | ⟨ch, z, e1, e2, h⟩) | ⟨a, o, rfl, g, q⟩
  · exact op_notIn_seq pins s σ H x y v u Q I rx ry h
  · exact op_notIn_sign pins s σ H x y v u Q I rx ry ⟨ch, z, e1, e2, h⟩
  · obtain rfl : u = Value.ref a := ry
    exact d_notIn hu I g rx fun s3 I3 => ⟨.bl (!o.isSome), H, I3, rfl, q⟩
theorem eqV_eqv {K : PySem.W.Frag} {H : Hp} {ρ : List Addr} {a b : D} {v w : V} (ha : flatD a = true) (hb : flatD b = true) (ra : DR K H ρ a v) (rb : DR K H ρ b w) : eqV v w = D.eqv a b ∧ flatV v = true ∧ flatV w = true := by
  cases ra <;> simp [flatD] at ha <;> cases rb <;> simp [flatD] at hb <;> simp [eqV, D.eqv, flatV]
  all_goals first | exact (Bool.beq_eq_decide_eq _ _) | exact str_beq _ _ | skip
theorem inV_any {K : PySem.W.Frag} {H : Hp} {ρ : List Addr} {x : D} {v : V} (hx : flatD x = true) (rx : DR K H ρ x v) : ∀ {xs : List D} {vs : List V}, DRs K H ρ xs vs → xs.all flatD = true → inV v vs = (xs.any fun z => D.eqv z x) ∧ vs.all flatV = true
  | _, _, .nil, _ => ⟨rfl, rfl⟩
  | _, _, .cons r t, h => by
    simp only [List.all_cons, Bool.and_eq_true] at h
    obtain ⟨i1, i2⟩ := inV_any hx rx t h.2
    obtain ⟨e1, e2, _⟩ := eqV_eqv h.1 hx r rx
    constructor
    · unfold inV at i1 ⊢
      rw [List.any_cons, List.any_cons, i1, e1]
    · rw [List.all_cons, i2, e2]; rfl
theorem inA_ok {K : PySem.W.Frag} {c : Cla} {g : Bool → Bool} {neg : Bool} (hg : ∀ b, g b = if neg then !b else b) : Op2Ok K c ⟨inF g, inF_mono⟩ (rInA K neg) := ⟨fun ρ H0 H M x y v w Q R rx ry q => by
  dsimp only at q
  unfold inF at q
  split at q
  · cases rx with
    | d rx =>
    split at q
    · rename_i t kvs hd
      obtain ⟨a, rfl, hk⟩ := dctOf_ok R ry hd
      obtain ⟨o, gg, h1, h2⟩ := look_ok hk q.1 rx
      refine .inr ⟨a, o, rfl, gg, ?_⟩
      rename_i x _
      have e : (dlook kvs x).isSome = o.isSome := by
        cases hl : dlook kvs x with
        | none => rw [h2 hl]; rfl
        | some d => obtain ⟨u, rfl, _⟩ := h1 d hl; rfl
      have q2 := q.2
      rw [hg, e] at q2
      exact q2 H _ Ext.refl R (.d .bl)
    · split at q
      · cases ry with
        | d ry =>
        cases rx
        cases ry
        refine .inl (.inr ⟨_, _, rfl, rfl, ?_⟩)
        rw [hg] at q
        exact q H _ Ext.refl R (.d .bl)
      · obtain ⟨xs, hx, hf, q⟩ := okO_get q
        obtain ⟨a, vs, rfl, hs, t⟩ := seqOf_ok R ry hx
        obtain ⟨e1, e2⟩ := inV_any hf.1 rx t hf.2
        refine .inl (.inl ⟨a, vs, rfl, hs, (eqV_eqv hf.1 hf.1 rx rx).2.1, e2, ?_⟩)
        rw [e1]
        rw [hg] at q
        exact q H _ Ext.refl R (.d .bl)
  · exact q.elim⟩
end DL

/-! DL8: what loops walk, list comprehensions, chains. -/
namespace DL
open PySem L2

/-! ### what loops walk -/
def srFix (xs : List D) : Src := ⟨fun i _ => some xs[i]?⟩
def srMem (n : Nat) : Src := ⟨fun i M => match M[n]? with
  | some (.lst xs) => some xs[i]?
  | _ => none⟩
def srcOf (M : Mem) (r : RV) (k : Src → Prop) : Prop := match r with
  | .d (.tup xs) => k (srFix xs)
  | .d (.frl xs) => k (srFix xs)
  | .d (.str l) => k (srFix (l.map fun ch => .str [ch]))
  | .fo (.lst xs) => k (srFix xs)
  | .d (.ref n) => match M[n]? with
    | some (.lst _) => k (srMem n)
    | _ => False
  | _ => False
theorem srcOf_mono {M : Mem} {r : RV} {k k' : Src → Prop} (h : ∀ b, k b → k' b) : srcOf M r k → srcOf M r k' := by
  unfold srcOf
  split <;> first | exact h _ | (split <;> first | exact h _ | exact fun z => z) | exact fun z => z
def iSeq (a : TD) : TIt := ⟨fun s M Q => a.t s M fun r M1 => srcOf M1 r fun sr => Q sr M1, fun _ _ _ _ h q => a.mono _ _ _ _ (fun _ _ => srcOf_mono fun _ => h _ _) q⟩
section
variable {K : PySem.W.Frag} {c : Cla} {ρ0 : List Addr} {H0 : Hp}
/-- a list that stays -/
theorem src_list {a : Addr} {xs : List D} {vs : List V} (st : ∀ ρ H, Ext ρ0 H0 ρ H → SqL K H a vs) (t : DRs K H0 ρ0 xs vs) : SrcOk K c (Itl K a) (srFix xs) ρ0 H0 where
  stop := fun i ρ H M e R h => by
    have h : some xs[i]? = some none := h
    have h' : xs[i]? = none := by simpa using h
    exact ⟨vs, st ρ H e, by rw [← t.length]; exact List.getElem?_eq_none_iff.mp h'⟩
  go := fun i ρ H M d e R h => by
    have h : some xs[i]? = some (some d) := h
    have h' : xs[i]? = some d := by simpa using h
    obtain ⟨v, hv, rv⟩ := t.get h'
    refine ⟨⟨vs, v, st ρ H e, hv⟩, fun x H' ⟨e1, e2⟩ => ?_⟩
    subst e1
    have := e2 vs (st ρ H' e)
    rw [hv] at this; cases this
    exact ⟨M, Ext.refl, rfl, R, rv.mono e⟩
theorem src_tup {a : Addr} {xs : List D} {vs : List V} (hH : H0 a = some (.tup vs)) (t : DRs K H0 ρ0 xs vs) : SrcOk K c (Itt K a) (srFix xs) ρ0 H0 where
  stop := fun i ρ H M e R h => by
    have h : some xs[i]? = some none := h
    have h' : xs[i]? = none := by simpa using h
    exact ⟨vs, .of (e.imm _ _ hH trivial), by rw [← t.length]; exact List.getElem?_eq_none_iff.mp h'⟩
  go := fun i ρ H M d e R h => by
    have h : some xs[i]? = some (some d) := h
    have h' : xs[i]? = some d := by simpa using h
    obtain ⟨v, hv, rv⟩ := t.get h'
    refine ⟨⟨vs, v, .of (e.imm _ _ hH trivial), hv⟩, fun x H' ⟨e1, e2⟩ => ?_⟩
    subst e1
    have := e2 vs (.of (e.imm _ _ hH trivial))
    rw [hv] at this; cases this
    exact ⟨M, Ext.refl, rfl, R, rv.mono e⟩
theorem src_str {l : List Nat} (g : Good l) : SrcOk K c (Its ⟨l.toArray⟩) (srFix (l.map fun ch => .str [ch])) ρ0 H0 where
  stop := fun i ρ H M e R h => by
    have h : some (l.map fun ch => D.str [ch])[i]? = some none := h
    have h' : l.length ≤ i := by simpa using h
    simpa [Its] using h'
  go := fun i ρ H M d e R h => by
    have h : some (l.map fun ch => D.str [ch])[i]? = some (some d) := h
    have h' : (l.map fun ch => D.str [ch])[i]? = some d := by simpa using h
    rw [List.getElem?_map] at h'
    cases hl : l[i]? with
    | none => rw [hl] at h'; cases h'
    | some ch =>
      rw [hl] at h'
      have hd : D.str [ch] = d := Option.some.inj h'
      subst hd
      have hlt := (List.getElem?_eq_some_iff.mp hl).1
      refine ⟨by simpa [Its] using hlt, fun x H' ⟨e1, ch', hc, e2⟩ => ?_⟩
      subst e1 e2
      have : ch' = ch := by
        have h2 : l[i]? = some ch' := by simpa using hc
        rw [hl] at h2; cases h2; rfl
      subst this
      refine ⟨M, Ext.refl, rfl, R, .str (l := [ch']) (g.sub (fun x hx => ?_) (by simp; omega))⟩
      have : x = ch' := by simpa using hx
      subst this
      exact List.mem_of_getElem? hl
theorem src_mem {n : Nat} {a : Addr} (ha : ρ0[n]? = some a) : SrcOk K c (Itl K a) (srMem n) ρ0 H0 where
  stop := fun i ρ H M e R h => by
    unfold srMem at h
    simp only at h
    split at h
    · rename_i xs hm
      have h' : xs[i]? = none := by simpa using h
      obtain ⟨a', e', vs, hH, t⟩ := R.addr hm
      rw [e.get ha] at e'; cases e'
      exact ⟨vs, .of hH, by rw [← t.length]; exact List.getElem?_eq_none_iff.mp h'⟩
    · cases h
  go := fun i ρ H M d e R h => by
    unfold srMem at h
    simp only at h
    split at h
    · rename_i xs hm
      have h' : xs[i]? = some d := by simpa using h
      obtain ⟨a', e', vs, hH, t⟩ := R.addr hm
      rw [e.get ha] at e'; cases e'
      obtain ⟨v, hv, rv⟩ := t.get h'
      refine ⟨⟨vs, v, .of hH, hv⟩, fun x H' ⟨e1, e2⟩ => ?_⟩
      subst e1
      have := e2 vs (.of hH)
      rw [hv] at this; cases this
      exact ⟨M, Ext.refl, rfl, R, rv⟩
    · cases h
end
/-- the readings by kinds -/
def anyIt (K : PySem.W.Frag) (R : It → Hp → Prop) (v : V) (H : Hp) : Prop := (∃ a xs, v = .ref a ∧ SqL K H a xs ∧ R (Itl K a) H) ∨ (∃ a xs, v = .ref a ∧ SqT K H a xs ∧ R (Itt K a) H) ∨ ∃ z, v = .str z ∧ R (Its z) H
section
variable {X : Cx} {c : Cla} {tg e : Expr} {t : TD}
theorem run_any {pins : List (Addr × Obj)} {s1 : Shared} {σ : L2.St} {H1 : Hp} {R : It → Hp → Prop} {v : Value} {x : V} (I1 : Inv X pins σ H1 s1) (r1 : RelV x v) (q1 : anyIt X.K R x H1) : wpAny (model X.prog X.w) X.A (pyIter v) (PIE X pins σ tg R) X.xe s1 := by
  rcases q1 with ⟨a, xs, rfl, hq, q⟩ | ⟨a, xs, rfl, hq, q⟩ | ⟨z, rfl, q⟩
  · cases r1
    obtain ⟨its, rv, p, hz⟩ := I1.list hq
    refine wpAny_pyIter_list p.isList ?_
    refine ⟨s1.heap.objs.size, [s1.heap.objs.size], _, _, H1, rfl, I1.kept (t' := s1.toks) fun b o e => Heap.get?_push_of_some _ e, turn_list a _, ⟨_, Heap.get?_push_size _ rfl, rfl, rfl⟩, fun b hb => ?_, q⟩
    have e : b = s1.heap.objs.size := by simpa using hb
    subst e
    exact I1.fpOk (Nat.le_refl _) (I1.hok.fresh (Nat.le_refl _))
  · cases r1
    obtain ⟨its, rv, p, hz⟩ := I1.tuple hq
    refine wpAny_pyIter_tuple (show s1.heap.IsTuple a its.toArray from p) ?_
    refine ⟨s1.heap.objs.size, [s1.heap.objs.size], _, _, H1, rfl, I1.kept (t' := s1.toks) fun b o e => Heap.get?_push_of_some _ e, turn_tuple a _, ⟨_, Heap.get?_push_size _ rfl, rfl, rfl⟩, fun b hb => ?_, q⟩
    have e : b = s1.heap.objs.size := by simpa using hb
    subst e
    exact I1.fpOk (Nat.le_refl _) (I1.hok.fresh (Nat.le_refl _))
  · obtain ⟨t, rfl⟩ := r1
    cases ha : z.cps.all (· < 128)
    · exact wpAny_pyIter_wide ha (pi_one (tk := s1.toks) I1 _ (turn_str _ z t "str_iterator" (.inr rfl)) ⟨_, Heap.get?_push_size _ rfl, rfl, rfl⟩ q)
    · exact wpAny_pyIter_ascii ha (pi_one (tk := s1.toks) I1 _ (turn_str _ z t "str_ascii_iterator" (.inl rfl)) ⟨_, Heap.get?_push_size _ rfl, rfl, rfl⟩ q)
theorem anyIt_ok {K : PySem.W.Frag} {ρ : List Addr} {H0 H : Hp} {M : Mem} {r : RV} {v : V} {k : Src → Prop} {Q : It → Hp → Prop} (R : Rep K c ρ H M) (rv : RVR K c H0 H ρ r v) (q : srcOf M r k) (hk : ∀ sr J, k sr → SrcOk K c J sr ρ H → Q J H) : anyIt K Q v H := by
  unfold srcOf at q
  split at q
  · cases rv with
    | d rv =>
    cases rv with
    | tup s t => exact .inr (.inl ⟨_, _, rfl, .of s, hk _ _ q (src_tup s t)⟩)
  · cases rv with
    | d rv =>
    cases rv with
    | frl s t => exact .inl ⟨_, _, rfl, s.1, hk _ _ q (src_list (fun ρ' H' e => (e.frl s).1) t)⟩
  · cases rv with
    | d rv =>
    cases rv with
    | str g => exact .inr (.inr ⟨_, rfl, hk _ _ q (src_str g)⟩)
  · cases rv with
    | fo h0 hn ho =>
    obtain ⟨vs, hH, t⟩ := ho
    exact .inl ⟨_, _, rfl, .of hH, hk _ _ q (src_list (fun ρ' H' e => .of (e.frm _ _ hH hn)) t)⟩
  · split at q
    · rename_i hm
      cases rv with
      | d rv =>
      cases rv with
      | ref e =>
      obtain ⟨a', e', vs, hH, t⟩ := R.addr hm
      rw [e] at e'; cases e'
      exact .inl ⟨_, _, rfl, .of hH, hk _ _ q (src_mem e)⟩
    · exact q.elim
  · exact q.elim
theorem i_seq (h : EOk X c e t) : IOk X c tg e (iSeq t) := ⟨⟨fun pins s σ H R I ⟨ρ, sl, M, S, Rp, q⟩ => by
  refine thn (h.pe.run pins s σ H (fun v H1 => anyIt X.K R v H1) I ⟨ρ, sl, M, S, Rp, t.mono _ _ _ _ (fun r M1 q1 ρ1 H1 v e1 R1 rv => ?_) q⟩) fun v s1 ⟨x, H1, I1, r1, q1⟩ => run_any I1 r1 q1
  exact anyIt_ok R1 rv q1 fun sr J hk hs => hk ρ1 H1 J e1 R1 hs⟩⟩
end

/-! ### ranges, enumerate -/
def srRng (lo c : Int) (n : Nat) : Src := ⟨fun i _ => if i < n then some (some (.int (lo + (i : Nat) * c))) else some none⟩
theorem src_rng {K : PySem.W.Frag} {c : Cla} {ρ0 : List Addr} {H0 : Hp} {lo : Int} {n : Nat} : SrcOk K c (Itr lo n) (srRng lo 1 n) ρ0 H0 where
  stop := fun i ρ H M e R h => by
    unfold srRng at h
    simp only at h
    split at h
    · cases h
    · rename_i hn; exact Nat.le_of_not_lt hn
  go := fun i ρ H M d e R h => by
    unfold srRng at h
    simp only at h
    split at h
    · rename_i hn
      cases h
      refine ⟨hn, fun x H' ⟨e1, e2⟩ => ?_⟩
      subst e1 e2
      exact ⟨M, Ext.refl, rfl, R, by rw [Int.mul_one]; exact .int⟩
    · cases h
theorem src_rngC {K : PySem.W.Frag} {c : Cla} {ρ0 : List Addr} {H0 : Hp} {lo k : Int} {n : Nat} : SrcOk K c (Itc lo k n) (srRng lo k n) ρ0 H0 where
  stop := fun i ρ H M e R h => by
    unfold srRng at h
    simp only at h
    split at h
    · cases h
    · rename_i hn; exact Nat.le_of_not_lt hn
  go := fun i ρ H M d e R h => by
    unfold srRng at h
    simp only at h
    split at h
    · rename_i hn
      cases h
      refine ⟨hn, fun x H' ⟨e1, e2⟩ => ?_⟩
      subst e1 e2
      exact ⟨M, Ext.refl, rfl, R, .int⟩
    · cases h
def Sm (i : Int) : Prop := -(2 ^ 62) ≤ i ∧ i < 2 ^ 62
def iRg1 (as : TDs) : TIt := ⟨fun s M Q => as.t s M fun rs M1 => match rs with
    | [.d (.int j)] => Sm j ∧ Q (srRng 0 1 j.toNat) M1
    | _ => False, fun _ _ _ _ h q => as.mono _ _ _ _ (fun rs M1 q => by
    split at q
    · exact ⟨q.1, h _ _ q.2⟩
    · exact q) q⟩
def iRg2 (as : TDs) : TIt := ⟨fun s M Q => as.t s M fun rs M1 => match rs with
    | [.d (.int i), .d (.int j)] => (Sm i ∧ Sm j) ∧ Q (srRng i 1 (j - i).toNat) M1
    | _ => False, fun _ _ _ _ h q => as.mono _ _ _ _ (fun rs M1 q => by
    split at q
    · exact ⟨q.1, h _ _ q.2⟩
    · exact q) q⟩
def iRg3 (as : TDs) : TIt := ⟨fun s M Q => as.t s M fun rs M1 => match rs with
    | [.d (.int i), .d (.int j), .d (.int k)] => ∃ n, RgC i j k n ∧ Q (srRng i k n) M1
    | _ => False, fun _ _ _ _ h q => as.mono _ _ _ _ (fun rs M1 q => by
    split at q
    · exact q.elim fun n z => ⟨n, z.1, h _ _ z.2⟩
    · exact q) q⟩
theorem pi_imp {X : Cx} {tg e : Expr} {t t' : TI} (h : PI X tg e t) (i : ∀ σ H Q, t' σ H Q → t σ H Q) : PI X tg e t' := ⟨fun p s σ H Q I q => h.run p s σ H Q I (i σ H Q q)⟩
section
variable {X : Cx} {c : Cla} {tg a b d : Expr} {ts : TDs} {p pos : Pos}
theorem i_rg1 (hg : Gl X "range") (hm : X.mg "range" = none) (ha : AOk X c [a] ts) (hs : starEach [a] X.env = [(false, eval a X.env)]) : IOk X c tg (.Call (.Name "range" p) [a] [] pos) (iRg1 ts) :=
  ⟨pi_imp (pi_range1 hg hm ha.pa hs) fun σ H Q ⟨ρ, s, M, S, R, q⟩ => ⟨ρ, s, M, S, R, ts.mono _ _ _ _ (fun rs M1 q1 ρ1 H1 vs as e1 R1 hr => by
    split at q1
    · obtain ⟨v, rfl, rv⟩ := rvs1 hr
      cases rv with
      | d rv =>
      cases rv
      exact ⟨_, rfl, q1.1.1, q1.1.2, q1.2 ρ1 H1 _ e1 R1 src_rng⟩
    · exact q1.elim) q⟩⟩
theorem i_rg2 (hg : Gl X "range") (hm : X.mg "range" = none) (ha : AOk X c [a, b] ts) (hs : starEach [a, b] X.env = [(false, eval a X.env), (false, eval b X.env)]) (hs2 : starEach [b] X.env = [(false, eval b X.env)]) : IOk X c tg (.Call (.Name "range" p) [a, b] [] pos) (iRg2 ts) :=
  ⟨pi_imp (pi_range2 hg hm ha.pa hs hs2) fun σ H Q ⟨ρ, s, M, S, R, q⟩ => ⟨ρ, s, M, S, R, ts.mono _ _ _ _ (fun rs M1 q1 ρ1 H1 vs as e1 R1 hr => by
    split at q1
    · obtain ⟨v, w, rfl, rv, rw'⟩ := rvs2 hr
      cases rv with
      | d rv =>
      cases rw' with
      | d rw' =>
      cases rv
      cases rw'
      exact ⟨_, _, rfl, ⟨q1.1.1.1, q1.1.1.2, q1.1.2.1, q1.1.2.2⟩, q1.2 ρ1 H1 _ e1 R1 src_rng⟩
    · exact q1.elim) q⟩⟩
theorem i_rg3 (hg : Gl X "range") (hm : X.mg "range" = none) (ha : AOk X c [a, b, d] ts) (hs : starEach [a, b, d] X.env = (false, eval a X.env) :: starEach [b, d] X.env) (hpl : (backTo pos (starEach [b, d] X.env)).any (·.1) = false) : IOk X c tg (.Call (.Name "range" p) [a, b, d] [] pos) (iRg3 ts) :=
  ⟨pi_imp (pi_range3 hg hm ha.pa hs hpl) fun σ H Q ⟨ρ, s, M, S, R, q⟩ => ⟨ρ, s, M, S, R, ts.mono _ _ _ _ (fun rs M1 q1 ρ1 H1 vs as e1 R1 hr => by
    split at q1
    · obtain ⟨n, hc, q1⟩ := q1
      cases hr with
      | d rv hr =>
      obtain ⟨v, w, rfl, rv2, rv3⟩ := rvs2 hr
      cases rv2 with
      | d rv2 =>
      cases rv3 with
      | d rv3 =>
      cases rv
      cases rv2
      cases rv3
      exact ⟨_, _, _, n, rfl, hc, q1 ρ1 H1 _ e1 R1 src_rngC⟩
    · exact q1.elim) q⟩⟩
end
/-- (0, x), (1, y), .. of a list -/
def srEnum (sr : Src) : Src := ⟨fun i M => (sr.go i M).map fun o => o.map fun d => .tup [.int (i : Nat), d]⟩
def lsrc (M : Mem) (r : RV) (k : Src → Prop) : Prop := match r with
  | .d (.frl xs) => k (srFix xs)
  | .fo (.lst xs) => k (srFix xs)
  | .d (.ref n) => match M[n]? with
    | some (.lst _) => k (srMem n)
    | _ => False
  | _ => False
theorem lsrc_mono {M : Mem} {r : RV} {k k' : Src → Prop} (h : ∀ b, k b → k' b) : lsrc M r k → lsrc M r k' := by
  unfold lsrc
  split <;> first | exact h _ | (split <;> first | exact h _ | exact fun z => z) | exact fun z => z
theorem src_enum {K : PySem.W.Frag} {c : Cla} {ρ0 : List Addr} {H0 : Hp} {a : Addr} {sr : Src} (h : SrcOk K c (Itl K a) sr ρ0 H0) : SrcOk K c (Ite K a) (srEnum sr) ρ0 H0 where
  stop := fun i ρ H M e R q => by
    unfold srEnum at q
    simp only at q
    cases hg : sr.go i M with
    | none => rw [hg] at q; cases q
    | some o => cases o with
      | none => exact h.stop i ρ H M e R hg
      | some d => rw [hg] at q; cases q
  go := fun i ρ H M d e R q => by
    unfold srEnum at q
    simp only at q
    cases hg : sr.go i M with
    | none => rw [hg] at q; cases q
    | some o => cases o with
      | none => rw [hg] at q; cases q
      | some d' =>
        rw [hg] at q
        cases q
        obtain ⟨h1, h2⟩ := h.go i ρ H M d' e R hg
        refine ⟨h1, ?_⟩
        rintro x H' ⟨T, y, rfl, hT, rfl, hy⟩
        obtain ⟨M', e2, rfl, R2, hd⟩ := h2 y H ⟨rfl, hy⟩
        have ef : Ext ρ H ρ (upd H T (.tup [.int (i : Nat), y])) := Ext.fresh hT
        exact ⟨_, ef, rfl, R.fresh hT, .tup upd_same (.cons .int (.cons (hd.mono ef) .nil))⟩
def iEnu (as : TDs) : TIt := ⟨fun s M Q => as.t s M fun rs M1 => match rs with
    | [r] => lsrc M1 r fun sr => Q (srEnum sr) M1
    | _ => False, fun _ _ _ _ h q => as.mono _ _ _ _ (fun rs M1 q => by
    split at q
    · exact lsrc_mono (fun _ => h _ _) q
    · exact q) q⟩
section
variable {X : Cx} {c : Cla} {a : Expr} {ts : TDs} {p pos tpos : Pos} {elts : List Expr} {kk : Nat}
theorem lsrc_ok {K : PySem.W.Frag} {ρ : List Addr} {H0 H : Hp} {M : Mem} {r : RV} {v : V} {k : Src → Prop} (R : Rep K c ρ H M) (rv : RVR K c H0 H ρ r v) (q : lsrc M r k) : ∃ a xs sr, v = .ref a ∧ SqL K H a xs ∧ k sr ∧ SrcOk K c (Itl K a) sr ρ H := by
  unfold lsrc at q
  split at q
  · cases rv with
    | d rv =>
    cases rv with
    | frl s t => exact ⟨_, _, _, rfl, s.1, q, src_list (fun ρ' H' e => (e.frl s).1) t⟩
  · cases rv with
    | fo h0 hn ho =>
    obtain ⟨vs, hH, t⟩ := ho
    exact ⟨_, _, _, rfl, .of hH, q, src_list (fun ρ' H' e => .of (e.frm _ _ hH hn)) t⟩
  · split at q
    · rename_i hm
      cases rv with
      | d rv =>
      cases rv with
      | ref e =>
      obtain ⟨a', e', vs, hH, t⟩ := R.addr hm
      rw [e] at e'; cases e'
      exact ⟨_, _, _, rfl, .of hH, q, src_mem e⟩
    · exact q.elim
  · exact q.elim
theorem i_enu (hg : Gl X "enumerate") (hm : X.mg "enumerate" = none) (ha : AOk X c [a] ts) (hs : starEach [a] X.env = [(false, eval a X.env)]) : IOk X c (.Tuple elts kk tpos) (.Call (.Name "enumerate" p) [a] [] pos) (iEnu ts) :=
  ⟨pi_imp (pi_enum hg hm ha.pa hs) fun σ H Q ⟨ρ, s, M, S, R, q⟩ => ⟨ρ, s, M, S, R, ts.mono _ _ _ _ (fun rs M1 q1 ρ1 H1 vs as e1 R1 hr => by
    split at q1
    · obtain ⟨v, rfl, rv⟩ := rvs1 hr
      obtain ⟨b, xs, sr, rfl, hs, hk, so⟩ := lsrc_ok R1 rv q1
      exact ⟨b, xs, rfl, hs, hk ρ1 H1 _ e1 R1 (src_enum so)⟩
    · exact q1.elim) q⟩⟩
end

/-! ### list comprehensions -/
/-- a comprehension's targets: a name, a tuple of names -/
inductive NT where
  | nm (i : Nat) | tp (is : List Nat)
def ntSets : List Nat → List D → Slots → Option Slots
  | [], [], s => some s
  | i :: is, d :: ds, s => ntSets is ds (s.set i (some d))
  | _, _, _ => none
def ntSet : NT → D → Slots → Option Slots
  | .nm i, d, s => some (s.set i (some d))
  | .tp is, .tup ds, s => ntSets is ds s
  | .tp _, _, _ => none
def NT.is : NT → List Nat
  | .nm i => [i]
  | .tp is => is
def gNs : List Nat → L2.TGs
  | [] => L2.gNil
  | i :: is => L2.gCons (L2.gName i) (gNs is)
def gNt (K : PySem.W.Frag) : NT → TG
  | .nm i => L2.gName i
  | .tp is => L2.gTup K is.length (gNs is)
theorem wipe_set {σ : L2.St} {v : Option V} {i : Nat} : ∀ {vs : List Nat}, i ∈ vs → wipe (σ.set i v) vs = wipe σ vs
  | [], h => by simp at h
  | j :: vs, h => by
    unfold wipe
    by_cases hj : i ∈ vs
    · rw [wipe_set hj]
    · have : i = j := by
        rcases List.mem_cons.mp h with z | z
        · exact z
        · exact absurd z hj
      subst this
      have key : ∀ (vs : List Nat), i ∉ vs → wipe (σ.set i v) vs = (wipe σ vs).set i v := by
        intro vs
        induction vs with
        | nil => intro _; rfl
        | cons j vs ih =>
          intro hn
          simp only [List.mem_cons, not_or] at hn
          unfold wipe
          rw [ih hn.2, List.set_comm _ _ hn.1]
      rw [key vs hj, List.set_set]
theorem ntSets_ok {K : PySem.W.Frag} {H : Hp} {ρ : List Addr} {vs : List Nat} : ∀ {is : List Nat} {ds : List D} {xs : List V} {s s' : Slots} {σ : L2.St} {Q : L2.St → Hp → Prop}, (∀ i ∈ is, i ∈ vs) → SlR K H ρ s σ → DRs K H ρ ds xs → ntSets is ds s = some s' →
    (∀ σ', SlR K H ρ s' σ' → wipe σ' vs = wipe σ vs → Q σ' H) → gNs is xs σ H Q
  | [], [], _, s, s', σ, Q, hv, S, .nil, h, q => by
    cases h
    exact ⟨rfl, q σ S rfl⟩
  | i :: is, d :: ds, _, s, s', σ, Q, hv, S, .cons r t, h, q => by
    refine ⟨_, _, rfl, ?_⟩
    show gNs is _ (σ.set i _) H Q
    refine ntSets_ok (fun j hj => hv j (List.mem_cons_of_mem _ hj)) (S.set r) t h fun σ' S' w => q σ' S' ?_
    rw [w, wipe_set (hv i List.mem_cons_self)]
  | [], _ :: _, _, _, _, _, _, _, _, _, h, _ => by simp [ntSets] at h
  | _ :: _, [], _, _, _, _, _, _, _, _, h, _ => by simp [ntSets] at h
theorem ntSets_len : ∀ {is : List Nat} {ds : List D} {s s' : Slots}, ntSets is ds s = some s' → ds.length = is.length
  | [], [], _, _, _ => rfl
  | _ :: is, _ :: ds, _, _, h => by simp [ntSets_len (show ntSets is ds _ = some _ from h)]
  | [], _ :: _, _, _, h => by simp [ntSets] at h
  | _ :: _, [], _, _, h => by simp [ntSets] at h
theorem ntSet_ok {K : PySem.W.Frag} {H : Hp} {ρ : List Addr} {vs : List Nat} {nt : NT} {d : D} {x : V} {s s' : Slots} {σ : L2.St} {Q : L2.St → Hp → Prop} (hv : ∀ i ∈ nt.is, i ∈ vs) (S : SlR K H ρ s σ) (r : DR K H ρ d x) (h : ntSet nt d s = some s')
    (q : ∀ σ', SlR K H ρ s' σ' → wipe σ' vs = wipe σ vs → Q σ' H) : gNt K nt x σ H Q := by
  cases nt with
  | nm i =>
    cases h
    exact q _ (S.set r) (wipe_set (hv i (by simp [NT.is])))
  | tp is =>
    cases d with
    | tup ds =>
      cases r with
      | tup hs t =>
        exact ⟨_, _, rfl, .of hs, by rw [← t.length]; exact ntSets_len h, ntSets_ok hv S t h q⟩
    | _ => simp [ntSet] at h
def lcN (src : Src) (nt : NT) (p : TB) (e : TD) (s : Slots) (Q : List D → Mem → Prop) : Nat → Nat → List D → Mem → Prop
  | 0, _, _, _ => False
  | n + 1, i, acc, M => match src.go i M with
    | none => False
    | some none => Q acc M
    | some (some d) => okO (ntSet nt d s) fun s1 => p.t s1 M fun b M1 => if b = true then e.t s1 M1 fun r M2 => asD r M2 fun x M3 => acc.length < 16777216 ∧ lcN src nt p e s Q n (i + 1) (acc ++ [x]) M3 else lcN src nt p e s Q n (i + 1) acc M1
theorem lcN_mono {src : Src} {nt : NT} {p : TB} {e : TD} {s : Slots} {Q Q' : List D → Mem → Prop} (h : ∀ a M, Q a M → Q' a M) : ∀ (n i : Nat) (acc : List D) (M : Mem), lcN src nt p e s Q n i acc M → lcN src nt p e s Q' n i acc M
  | 0, _, _, _, q => q
  | n + 1, i, acc, M, q => by
    unfold lcN at q ⊢
    split at q
    · exact q
    · exact h _ _ q
    · refine okO_mono (fun s1 => p.mono _ _ _ _ fun b M1 q1 => ?_) q
      split at q1
      · rename_i hb
        rw [if_pos hb]
        exact e.mono _ _ _ _ (fun _ _ => asD_mono fun _ _ z => ⟨z.1, lcN_mono h n _ _ _ z.2⟩) q1
      · rename_i hb
        rw [if_neg hb]
        exact lcN_mono h n _ _ _ q1
def bYes : TB := ⟨fun _ M Q => Q true M, fun _ _ _ _ h q => h _ _ q⟩
def tLC (it : TIt) (nt : NT) (p : TB) (e : TD) (vs : List Nat) : TD := ⟨fun s M Q => it.t s M fun src M1 => ∃ n, lcN src nt p e (skill vs s) (fun acc M2 => Q (.fo (.lst acc)) M2) n 0 [] M1,
  fun _ _ _ _ h q => it.mono _ _ _ _ (fun _ _ ⟨n, q⟩ => ⟨n, lcN_mono (fun _ _ => h _ _) n _ _ _ q⟩) q⟩
theorem SlR.wipe {K : PySem.W.Frag} {H : Hp} {ρ : List Addr} {σ : L2.St} : ∀ {vs : List Nat} {s : Slots}, SlR K H ρ s σ → SlR K H ρ (skill vs s) (L2.wipe σ vs) := by
  intro vs
  have key : ∀ (vs : List Nat) (s : Slots) (j : Nat), j ∈ vs → sget (skill vs s) j = none := by
    intro vs
    induction vs with
    | nil => intro s j h; simp at h
    | cons i vs ih =>
      intro s j h
      rw [skill_cons]
      by_cases hj : j ∈ vs
      · exact ih _ j hj
      · have : j = i := by
          rcases List.mem_cons.mp h with z | z
          · exact z
          · exact absurd z hj
        subst this
        have k2 : ∀ (vs : List Nat) (s : Slots), sget s j = none → sget (skill vs s) j = none := by
          intro vs
          induction vs with
          | nil => intro s h; exact h
          | cons i vs ih2 =>
            intro s h
            rw [skill_cons]
            refine ih2 _ ?_
            rw [sget_set]
            split
            · rfl
            · exact h
        refine k2 vs _ ?_
        rw [sget_set]
        by_cases hl : j < s.length
        · rw [if_pos ⟨rfl, hl⟩]
        · rw [if_neg (fun z => hl z.2)]
          have k3 : ∀ (s : Slots) (j : Nat), s.length ≤ j → sget s j = none := by
            intro s
            induction s with
            | nil => intro j _; rfl
            | cons x s ih => intro j h; cases j with
              | zero => simp at h
              | succ j => exact ih j (by simpa using h)
          exact k3 s j (Nat.le_of_not_lt hl)
  intro s S
  have S2 := S.kill (is := vs)
  refine ⟨by rw [wipe_length]; exact S2.len, fun j d e => ?_⟩
  obtain ⟨v, h1, h2⟩ := S2.at_ j d e
  refine ⟨v, ?_, h2⟩
  have hj : j ∉ vs := fun z => by rw [key vs s j z] at e; cases e
  rw [wipe_out hj]; exact h1
theorem wipe_get (σ : L2.St) : ∀ (vs : List Nat) (i : Nat), (L2.wipe σ vs)[i]? = if i ∈ vs ∧ i < σ.length then some none else σ[i]?
  | [], i => by simp [L2.wipe]
  | v :: vs, i => by
    unfold L2.wipe
    by_cases h : v = i
    · subst h
      by_cases hl : v < σ.length
      · rw [List.getElem?_set_self (by rw [wipe_length]; exact hl), if_pos ⟨List.mem_cons_self, hl⟩]
      · rw [List.getElem?_eq_none (by simp [wipe_length]; omega), if_neg (fun z => hl z.2), List.getElem?_eq_none (by omega)]
    · rw [List.getElem?_set_ne h, wipe_get σ vs i]
      have : (i ∈ v :: vs ∧ i < σ.length) ↔ (i ∈ vs ∧ i < σ.length) := by
        simp only [List.mem_cons]
        constructor
        · rintro ⟨z | z, w⟩
          · exact absurd z.symm h
          · exact ⟨z, w⟩
        · rintro ⟨z, w⟩
          exact ⟨.inr z, w⟩
      by_cases h2 : i ∈ vs ∧ i < σ.length
      · rw [if_pos h2, if_pos (this.mpr h2)]
      · rw [if_neg h2, if_neg (fun z => h2 (this.mp z))]
theorem wipe_idem {σ : L2.St} {vs : List Nat} : L2.wipe (L2.wipe σ vs) vs = L2.wipe σ vs := by
  apply List.ext_getElem?
  intro i
  rw [wipe_get, wipe_get, wipe_length]
  split <;> rfl
structure PsOk (X : Cx) (c : Cla) (ifs : List Expr) (t : TB) : Prop where
  pts : PTs X ifs (rdB X.K c t)
theorem ps_nil {X : Cx} {c : Cla} : PsOk X c [] bYes := ⟨⟨fun pins s σ H Q I ⟨ρ, sl, M, S, R, q⟩ => pts_nil.run pins s σ H Q I (q ρ H Ext.refl R)⟩⟩
theorem ps_one {X : Cx} {c : Cla} {e : Expr} {t : TB} (h : BOk X c e t) : PsOk X c [e] t := ⟨pts_one h.pt⟩
section
variable {X : Cx} {c : Cla} {elt tg iter : Expr} {ifs : List Expr} {scope : Scope} {own : List (Str × Nat)} {pos spos py : Pos} {it : TIt} {nt : NT} {p : TB} {e : TD} {i : Nat} {y : Str}
theorem lc_imp {K : PySem.W.Frag} (hv : ∀ i ∈ nt.is, i ∈ own.map (·.2)) (σ : L2.St) (H : Hp) (Q : VK) (q : rdE K c (tLC it nt p e (own.map (·.2))) σ H Q) :
    tLc (rdI K c it) (gNt K nt) (rdB K c p) (rdE K c e) (own.map (·.2)) σ H Q := by
  obtain ⟨ρ, s, M, S, R, q⟩ := q
  refine ⟨ρ, s, M, S, R, it.mono _ _ _ _ (fun src M1 ⟨n0, q1⟩ ρ1 H1 J e1 R1 hJ => ?_) q⟩
  intro D hD
  refine ⟨fun i m H' => ∃ ρ' M' acc vs, Ext ρ1 H1 ρ' H' ∧ Rep K c ρ' H' M' ∧ H' D = some (.lst vs) ∧ D ∉ ρ' ∧ DRs K H' ρ' acc vs ∧ lcN src nt p e (skill (own.map (·.2)) s) (fun acc M2 => ∀ ρ' H' v, Ext ρ H ρ' H' → Rep K c ρ' H' M2 → RVR K c H H' ρ' (.fo (.lst acc)) v → Q v H') m i acc M',
    ⟨n0, ρ1, M1, [], [], Ext.fresh hD, R1.fresh hD, upd_same, Ext.of_fresh_fo R1 hD, .nil, q1⟩, ?_⟩
  rintro i m H' ⟨ρ', M', acc, vs, e', R', hD', hDn, hacc, q'⟩
  cases m with
  | zero => exact q'.elim
  | succ m =>
    unfold lcN at q'
    split at q'
    · exact q'.elim
    · rename_i hgo
      refine .inl ⟨hJ.stop i ρ' H' M' e' R' hgo, q' ρ' H' _ (e1.trans e') R' (.fo (e1.back _ hD) hDn ⟨vs, hD', hacc⟩)⟩
    · rename_i d hgo
      obtain ⟨h1, h2⟩ := hJ.go i ρ' H' M' d e' R' hgo
      refine .inr ⟨h1, fun H2 => ∃ ρ' M' acc vs, Ext ρ1 H1 ρ' H2 ∧ Rep K c ρ' H2 M' ∧ H2 D = some (.lst vs) ∧ D ∉ ρ' ∧ DRs K H2 ρ' acc vs ∧ lcN src nt p e (skill (own.map (·.2)) s) (fun acc M2 => ∀ ρ' H' v, Ext ρ H ρ' H' → Rep K c ρ' H' M2 → RVR K c H H' ρ' (.fo (.lst acc)) v → Q v H') m (i + 1) acc M',
        fun H2 z => ⟨m, Nat.lt_succ_self _, z⟩, fun x H2 hy => ?_⟩
      obtain ⟨M2, e2, hM, R2, hd⟩ := h2 x H2 hy
      rw [hM] at R2
      obtain ⟨s1, hs1, q2⟩ := okO_get q'
      have e12 : Ext ρ H ρ' H2 := e1.trans (e'.trans e2)
      refine ntSet_ok hv ((S.mono e12).wipe (vs := own.map (·.2))) hd hs1 fun σ2 S2 hw => ⟨by rw [hw]; exact wipe_idem, ρ', s1, M', S2, R2, p.mono _ _ _ _ (fun b M3 q3 ρ3 H3 e3 R3 => ?_) q2⟩
      have keepD : ∀ {ρ4 H4}, Ext ρ' H2 ρ4 H4 → H4 D = some (.lst vs) ∧ D ∉ ρ4 := fun {ρ4 H4} e4 =>
        ⟨e4.frm _ _ (e2.frm _ _ hD' hDn) hDn, e4.nin (by rw [e2.frm _ _ hD' hDn]; exact fun z => nomatch z) hDn⟩
      cases b with
      | false => exact ⟨ρ3, M3, acc, vs, e'.trans (e2.trans e3), R3, (keepD e3).1, (keepD e3).2, hacc.mono (e2.trans e3), q3⟩
      | true =>
        refine ⟨ρ3, s1, M3, S2.mono e3, R3, e.mono _ _ _ _ (fun r M4 q4 ρ4 H4 y e4 R4 rv => ?_) q3⟩
        have e34 := e3.trans e4
        obtain ⟨t, x', M5, ⟨hz, q5⟩, R5, e5, hx, ht⟩ := asD_ok (ρ0 := ρ3) (H0 := H3) e4 R4 rv q4
        have hD4 := keepD e34
        have hD5 : D ∉ ρ4 ++ t := fun z => by
          rcases List.mem_append.mp z with z | z
          · exact hD4.2 z
          · have := (ht D z).1
            rw [(keepD e3).1] at this; cases this
        refine ⟨vs, hD4.1, line_lt (by rw [← hacc.length]; exact hz), ρ4 ++ t, M5, acc ++ [x'], vs ++ [y], ?_, ?_, upd_same, hD5, ?_, q5⟩
        · have E := e'.trans (e2.trans (e3.trans e5))
          refine ⟨E.pre, fun b o hb hn => ?_, fun b o hb hi => ?_, E.new, fun b hb => ?_⟩
          · have : b ≠ D := fun z => by subst z; rw [hD] at hb; cases hb
            rw [upd_ne this]; exact E.frm b o hb hn
          · have : b ≠ D := fun z => by subst z; rw [hD] at hb; cases hb
            rw [upd_ne this]; exact E.imm b o hb hi
          · unfold upd at hb
            split at hb
            · cases hb
            · exact E.back b hb
        · refine ⟨R5.len, R5.nd, fun n u b e1 e2 => (R5.ok n u b e1 e2).mono' (fun b o hb hi => ?_) fun w z => ?_⟩
          · have : b ≠ D := fun z => by subst z; rw [hD4.1] at hb; cases hb; exact hi
            rw [upd_ne this]; exact hb
          · have : b ≠ D := fun z => hD5 (z ▸ List.mem_of_getElem? e2)
            rw [upd_ne this]; exact z
        · have im : ∀ b o, H4 b = some o → Imm o → upd H4 D (.lst (vs ++ [y])) b = some o := fun b o hb hi => by
            have : b ≠ D := fun z => by subst z; rw [hD4.1] at hb; cases hb; exact hi
            rw [upd_ne this]; exact hb
          exact ((hacc.mono (e2.trans e34)).app.mono' im).append (.cons (hx.mono' im) .nil)
theorem e_lc (hc : X.calm = true) (hN : X.N.Nodup) (hi : IOk X c tg iter it) (ok : BlkOk X.N X.env.scope scope own) (hv : ∀ i ∈ nt.is, i ∈ own.map (·.2))
    (hg : ∀ (s : Shared) (H : Hp) (C : Addr) (cl : List (Str × Addr)) (fp : List Addr), PG (X.blk s H scope (compEnvC scope cl C X.env) fp) tg (gNt X.K nt)) (ht : ∀ (s : Shared) (H : Hp) (C : Addr) (cl : List (Str × Addr)) (fp : List Addr), PsOk (X.blk s H scope (compEnvC scope cl C X.env) fp) c ifs p)
    (he : ∀ (s : Shared) (H : Hp) (C : Addr) (cl : List (Str × Addr)) (fp : List Addr), EOk (X.blk s H scope (compEnvC scope cl C X.env) fp) c elt e) (hs : ∀ x, foldedSetIterable iter X.env x = pure x) :
    EOk X c (.ListComp elt [⟨tg, iter, ifs, 0⟩] scope pos) (tLC it nt p e (own.map (·.2))) :=
  ⟨pe_imp (pe_lc hc hN hi.pi ok hg (fun s H C cl fp => (ht s H C cl fp).pts) (fun s H C cl fp => (he s H C cl fp).pe) hs) (lc_imp hv)⟩
theorem s_lc (hc : X.calm = true) (hN : X.N.Nodup) (hy : X.N[i]? = some y) (hyl : X.env.scope.names.lookup y = some .local) (hsw : swapsWith (.ListComp elt [⟨tg, iter, ifs, 0⟩] scope pos) (some (.Name y py)) spos.line X.env = pure true)
    (hi : IOk X c tg iter it) (ok : BlkOk X.N X.env.scope scope own) (hv : ∀ i ∈ nt.is, i ∈ own.map (·.2))
    (hg : ∀ (s : Shared) (H : Hp) (C : Addr) (cl : List (Str × Addr)) (fp : List Addr), PG (X.blk s H scope (compEnvC scope cl C X.env) fp) tg (gNt X.K nt)) (ht : ∀ (s : Shared) (H : Hp) (C : Addr) (cl : List (Str × Addr)) (fp : List Addr), PsOk (X.blk s H scope (compEnvC scope cl C X.env) fp) c ifs p)
    (he : ∀ (s : Shared) (H : Hp) (C : Addr) (cl : List (Str × Addr)) (fp : List Addr), EOk (X.blk s H scope (compEnvC scope cl C X.env) fp) c elt e) (hs : ∀ x, foldedSetIterable iter X.env x = pure x) :
    SOk X c (.Assign [.Name y py] (.ListComp elt [⟨tg, iter, ifs, 0⟩] scope pos) spos) (sAsg (tLC it nt p e (own.map (·.2))) (gNm i)) :=
  ⟨ps_imp (ps_setLc hc hN hy hyl hsw hi.pi ok hg (fun s H C cl fp => (ht s H C cl fp).pts) (fun s H C cl fp => (he s H C cl fp).pe) hs) fun D σ H ⟨ρ, s, M, S, R, q⟩ => by
    unfold sAsg at q
    dsimp only at q
    have q0 : rdE X.K c (tLC it nt p e (own.map (·.2))) σ H (fun v H1 => L2.gName i v σ H1 D.nx) := by
      refine ⟨ρ, s, M, S, R, (tLC it nt p e (own.map (·.2))).mono _ _ _ _ ?_ q⟩
      intro r M1 q1 ρ1 H1 v e1 R1 rv
      unfold gNm at q1
      dsimp only at q1
      obtain ⟨t, d, M', q2, R', e', hd, _⟩ := asD_ok e1 R1 rv q1
      exact q2 _ _ _ e' ((S.mono e1).app.set hd) R'
    exact lc_imp hv σ H _ q0⟩
end

/-! ### chains of comparisons -/
def tChn (o1 o2 : Op2) (a b c : TD) : TD := ⟨fun s M Q => a.t s M fun x M1 => b.t s M1 fun y M2 => o1.f M2 x y fun z => match z with
    | .d (.bl k) => if k = true then c.t s M2 fun w M3 => o2.f M3 y w fun z => Q z M3 else Q (.d (.bl false)) M2
    | _ => False,
  fun s M Q Q' h q => a.mono _ _ _ _ (fun _ _ => b.mono _ _ _ _ fun _ _ => o1.mono _ _ _ _ _ fun z q => by
    split at q
    · split at q
      · rename_i hk; rw [if_pos hk]; exact c.mono _ _ _ _ (fun _ _ => o2.mono _ _ _ _ _ fun _ => h _ _) q
      · rename_i hk; rw [if_neg hk]; exact h _ _ q
    · exact q) q⟩
section
variable {X : Cx} {c : Cla} {a b d : Expr} {op op' : CmpOp} {pos : Pos} {ta tb td : TD} {o1 o2 : Op2} {r r' : R2}
theorem chn_imp {K : PySem.W.Frag} (h1 : Op2Ok K c o1 r) (h2 : Op2Ok K c o2 r') (σ : L2.St) (H : Hp) (Q : VK) (q : rdE K c (tChn o1 o2 ta tb td) σ H Q) : tChain r r' (rdE K c ta) (rdE K c tb) (rdE K c td) σ H Q := by
  obtain ⟨ρ, s, M, S, R, q⟩ := q
  refine two S R q fun x y M2 ρ2 H2 v w as q2 e2 R2 rx ry _ => ?_
  refine h1.ok ρ2 H H2 M2 x y v w _ R2 rx ry (o1.mono _ _ _ _ _ (fun z qz H' u e R' ru => ?_) q2)
  split at qz
  · rename_i k
    cases ru with
    | d ru =>
    cases ru
    refine ⟨k, rfl, ?_⟩
    by_cases hk : k = true
    · rw [if_pos hk] at qz ⊢
      refine ⟨ρ2, s, M2, (S.mono e2).mono e, R', td.mono _ _ _ _ (fun w2 M3 q3 ρ3 H3 u3 e3 R3 r3 => ?_) qz⟩
      refine h2.ok ρ3 H H3 M3 y w2 w u3 Q R3 ((ry.mono e).mono e3) (r3.from fun b hb => e2.back _ (e.back _ hb)) (o2.mono _ _ _ _ _ (fun z qz H4 u4 e4 R4 r4 => ?_) q3)
      exact qz ρ3 H4 u4 (e2.trans (e.trans (e3.trans e4))) R4 (r4.from fun b hb => e2.back _ (e.back _ (e3.back _ hb)))
    · rw [if_neg hk] at qz ⊢
      exact qz ρ2 H' _ (e2.trans e) R' (.d .bl)
  · exact qz.elim
theorem e_chn (ho : OpR X (compareOp op) r) (ho' : OpR X (compareOp op') r') (h1 : Op2Ok X.K c o1 r) (h2 : Op2Ok X.K c o2 r') (ha : EOk X c a ta) (hb : EOk X c b tb) (hd : EOk X c d td) (hm : lastMarks [op, op'] [b, d] = false) :
    EOk X c (.Compare a [op, op'] [b, d] pos) (tChn o1 o2 ta tb td) := ⟨pe_imp (pe_chain ho ho' ha.pe hb.pe hd.pe hm) (chn_imp h1 h2)⟩
theorem b_chn (ho : OpR X (compareOp op) r) (ho' : OpR X (compareOp op') r') (h1 : Op2Ok X.K c o1 r) (h2 : Op2Ok X.K c o2 r') (ha : EOk X c a ta) (hb : EOk X c b tb) (hd : EOk X c d td) (hm : lastMarks [op, op'] [b, d] = false) :
    BOk X c (.Compare a [op, op'] [b, d] pos) (bVal (tChn o1 o2 ta tb td)) := ⟨pt_imp (pt_chain ho ho' ha.pe hb.pe hd.pe hm) fun σ H Q q => chn_imp h1 h2 σ H _ (by
      obtain ⟨ρ, s, M, S, R, q⟩ := q
      refine ⟨ρ, s, M, S, R, (tChn o1 o2 ta tb td).mono _ _ _ _ (fun r M1 q1 ρ1 H1 v e1 R1 rv => ?_) q⟩
      split at q1
      · cases rv with
        | d h => cases h; exact ⟨_, rfl, q1 ρ1 H1 e1 R1⟩
      · exact q1.elim)⟩
theorem b_cmp {o : Op2} (ho : OpR X (compareOp op) r) (h : Op2Ok X.K c o r) (ha : EOk X c a ta) (hb : EOk X c b tb) (hm : behindInMarks op b = false) : BOk X c (.Compare a [op] [b] pos) (bVal (tBin o ta tb)) :=
  ⟨pt_imp (pt_cmpR ho ha.pe hb.pe hm) fun σ H Q q => bin_imp h σ H _ (by
      obtain ⟨ρ, s, M, S, R, q⟩ := q
      refine ⟨ρ, s, M, S, R, (tBin o ta tb).mono _ _ _ _ (fun r M1 q1 ρ1 H1 v e1 R1 rv => ?_) q⟩
      split at q1
      · cases rv with
        | d h => cases h; exact ⟨_, rfl, q1 ρ1 H1 e1 R1⟩
      · exact q1.elim)⟩
end
end DL

/-! DL8b: methods of texts. -/
namespace DL
open PySem L2
def strsOf : List D → Option (List (List Nat))
  | [] => some []
  | .str l :: r => (strsOf r).map (l :: ·)
  | _ => none
theorem strs_V {K : PySem.W.Frag} {H : Hp} {ρ : List Addr} : ∀ {xs : List D} {ys : List (List Nat)} {vs : List V}, strsOf xs = some ys → DRs K H ρ xs vs → vs = (ys.map SX.S).map V.str ∧ ∀ y ∈ ys, Good y
  | [], _, _, h, .nil => by cases h; exact ⟨rfl, fun _ z => nomatch z⟩
  | .str l :: r, _, _, h, .cons a t => by
    cases hr : strsOf r with
    | none => simp [strsOf, hr] at h
    | some zs =>
      simp only [strsOf, hr, Option.map_some, Option.some.injEq] at h
      subst h
      obtain ⟨e1, e2⟩ := strs_V hr t
      cases a with
      | str g => exact ⟨by rw [e1]; rfl, fun y hy => (List.mem_cons.mp hy).elim (fun z => z ▸ g) (e2 y)⟩
  | .non :: _, _, _, h, _ => by simp [strsOf] at h
  | .bl _ :: _, _, _, h, _ => by simp [strsOf] at h
  | .int _ :: _, _, _, h, _ => by simp [strsOf] at h
  | .tup _ :: _, _, _, h, _ => by simp [strsOf] at h
  | .frl _ :: _, _, _, h, _ => by simp [strsOf] at h
  | .ref _ :: _, _, _, h, _ => by simp [strsOf] at h
  | .ty _ :: _, _, _, h, _ => by simp [strsOf] at h
theorem joinL_len (S : List Nat) : ∀ ps : List (List Nat), (TL.joinL S ps).length ≤ (ps.map (·.length)).sum + ps.length * S.length
  | [] => by simp [TL.joinL]
  | [p] => by simp [TL.joinL]
  | p :: q :: r => by
    have ih := joinL_len S (q :: r)
    simp only [TL.joinL, List.length_append, List.map_cons, List.sum_cons, List.length_cons] at ih ⊢
    rw [Nat.succ_mul]
    omega
theorem joinL_ok (S : List Nat) (hS : ∀ x ∈ S, x < 1114112) : ∀ ps : List (List Nat), (∀ p ∈ ps, ∀ x ∈ p, x < 1114112) → ∀ x ∈ TL.joinL S ps, x < 1114112
  | [], _ => by simp [TL.joinL]
  | [p], h => by simpa [TL.joinL] using h p
  | p :: q :: r, h => by
    have ih := joinL_ok S hS (q :: r) fun p hp => h p (List.mem_cons_of_mem _ hp)
    intro x hx
    simp only [TL.joinL, List.mem_append] at hx
    rcases hx with z | z | z
    · exact h p List.mem_cons_self x z
    · exact hS x z
    · exact ih x z
def joinF (M : Mem) (x : RV) (rs : List RV) (k : RV → Mem → Prop) : Prop := match x, rs with
  | .d (.str a), [r] => okO (seqOf M r) fun xs => okO (strsOf xs) fun ys => (ys.map (·.length)).sum + ys.length * a.length ≤ 16777216 ∧ k (.d (.str (TL.joinL a ys))) M
  | _, _ => False
def oJoin : OpM := ⟨joinF, fun M r rs Q Q' h q => by
  unfold joinF at q ⊢
  split at q
  · exact okO_mono (fun _ => okO_mono fun _ z => ⟨z.1, h _ _ z.2⟩) q
  · exact q⟩
theorem join_ok {K : PySem.W.Frag} {c : Cla} : OpMOk K c oJoin (fun x xs H Q => ∃ a p, ∃ ys : List Str, x = .str a ∧ xs = [.ref p] ∧ (SqL K H p (ys.map V.str) ∨ SqT K H p (ys.map V.str)) ∧
    (ys.map (·.length)).sum + ys.length * a.length ≤ 16777216 ∧ Q (.str (Txt.join a ys)) H) := ⟨fun ρ0 ρ H0 H M x rs v vs as Q E R hr q => by
  unfold oJoin at q
  dsimp only at q
  unfold joinF at q
  split at q
  · rename_i a r
    obtain ⟨v1, v2, e, rx, ry⟩ := rvs2 hr
    cases e
    cases rx with
    | d rx =>
    cases rx with
    | str ga =>
    obtain ⟨xs, hx, q⟩ := okO_get q
    obtain ⟨ys, hy, hz, q⟩ := okO_get q
    obtain ⟨p, ws, rfl, hs, t⟩ := seqOf_ok R ry hx
    obtain ⟨e1, e2⟩ := strs_V hy t
    subst e1
    refine ⟨_, p, ys.map SX.S, rfl, rfl, hs, ?_, ?_⟩
    · rw [SX.lens, List.length_map]
      exact hz
    · have e3 := SX.join_S a ys
      have g : Good (TL.joinL a ys) := ⟨Nat.le_trans (joinL_len a ys) hz, joinL_ok a ga.ok ys fun p hp => (e2 p hp).ok⟩
      have := q _ H (.str (Txt.join (SX.S a) (ys.map SX.S))) E R (.d (by rw [e3]; exact .str g))
      exact this
  · exact q.elim⟩
end DL

/-! DL9: from syntax to the data level's transformers, and that this is right. -/
namespace DL
open PySem L2

/-! ### what the text tells -/
structure Top where
  fns : List (Str × Nat × Nat)
  cls : List (Str × Nat × Nat × Nat × Nat)
  mts : List (Str × List (Option (Nat × Nat)))
  fl : List (List Str)
  bls : List Str
structure Gam where
  N : List Str
  sc : Scope
  blk : Option (List (Str × NameKind))
def gfix (T : Top) (f : Str) : List (Option Nat) := T.fl.map fun l => l.findIdx? (· == f)
def idx? (x : Str) : List Str → Option Nat
  | [] => none
  | y :: r => if y = x then some 0 else (idx? x r).map (· + 1)
theorem idx_ok {x : Str} : ∀ {N : List Str} {i : Nat}, idx? x N = some i → N[i]? = some x
  | [], _, h => nomatch h
  | y :: r, i, h => by
    unfold idx? at h
    split at h
    · rename_i e; cases h; subst e; rfl
    · cases hr : idx? x r with
      | none => rw [hr] at h; cases h
      | some j =>
        rw [hr] at h
        cases h
        show r[j]? = some x
        exact idx_ok hr
def Gam.vis (Γ : Gam) (x : Str) : Option Nat := match Γ.sc.names.lookup x with
  | some .local => idx? x Γ.N
  | some .cell => idx? x Γ.N
  | some .free => idx? x Γ.N
  | _ => none
def Gam.glb (Γ : Gam) (x : Str) : Bool := decide (Γ.sc.names.lookup x = some .globalImplicit)
/-- a name that may be stored -/
def Gam.sto (Γ : Gam) (x : Str) : Option Nat := match Γ.sc.names.lookup x, Γ.blk with
  | some .local, _ => idx? x Γ.N
  | some .cell, none => idx? x Γ.N
  | some .cell, some names => if names.lookup x = some .cell then idx? x Γ.N else none
  | _, _ => none
def nodbg (x : Str) : Bool := !(x == ("__debug__" : Str)) && !(x == ("__classdict__" : Str)) && !decide (x = "__name__")

structure Glob (X : Cx) (c : Cla) (G : Nat → Cl) (T : Top) (lv : Nat) : Prop where
  room : Room (lv + 1) X.A
  fns : ∀ (x : Str) (i n : Nat), T.fns.lookup x = some (i, n) → ∃ f, X.mg x = some (.ref f) ∧ FnIn X c (G i) n f lv
  cls : ∀ (x : Str) (ci nf ini n : Nat), T.cls.lookup x = some (ci, nf, ini, n) → ∃ C f, c.ca[ci]? = some C ∧ (c.fl.getD ci []).length = nf ∧ X.mg x = some (.ref C) ∧ Mk X.K C f ∧ FnIn X c (G ini) n f lv
  mts : ∀ (m : Str) (mx : List (Option (Nat × Nat))), T.mts.lookup m = some mx → MthOk X c G mx m lv
  fl : c.fl = T.fl
  cla : ClaOk X.K c
  fnd : ∀ i : Nat, (c.fl.getD i []).Nodup
  blt : ∀ x ∈ T.bls, X.mg x = none
structure Fit (Γ : Gam) (X : Cx) (c : Cla) (G : Nat → Cl) (T : Top) (lv : Nat) : Prop where
  N : X.N = Γ.N
  nd : X.N.Nodup
  sc : X.env.scope = Γ.sc
  calm : X.calm = true
  sto : ∀ x, Loc X.env.scope x → (Γ.blk = none ∨ ∃ names, Γ.blk = some names ∧ (X.env.scope.names.lookup x = some .cell → names.lookup x = some .cell → X.fn x = true)) ∧ (Γ.blk = none → X.fn x = true)
  g : Glob X c G T lv

structure Cs where
  e : Gam → Expr → Option TD
  b : Gam → Expr → Option TB
  w : Gam → Expr → Option TB
  a : Gam → List Expr → Option TDs
  i : Gam → Expr → Expr → Option TIt
  o : Gam → Option Expr → Option TO
structure CsOk (cs : Cs) (c : Cla) (G : Nat → Cl) (T : Top) (lv : Nat) : Prop where
  e : ∀ {Γ X e t}, Fit Γ X c G T lv → cs.e Γ e = some t → EOk X c e t
  b : ∀ {Γ X e t}, Fit Γ X c G T lv → cs.b Γ e = some t → BOk X c e t
  w : ∀ {Γ X e t}, Fit Γ X c G T lv → cs.w Γ e = some t → WOk X c e t
  a : ∀ {Γ X es t}, Fit Γ X c G T lv → cs.a Γ es = some t → AOk X c es t ∧ es.all notStar = true
  i : ∀ {Γ X tg e t}, Fit Γ X c G T lv → cs.i Γ tg e = some t → IOk X c tg e t
  o : ∀ {Γ X e t}, Fit Γ X c G T lv → cs.o Γ e = some t → OOk X c e t
def csNone : Cs := ⟨fun _ _ => none, fun _ _ => none, fun _ _ => none, fun _ _ => none, fun _ _ _ => none, fun _ _ => none⟩

section
variable {X : Cx} {c : Cla} {G : Nat → Cl} {T : Top} {lv : Nat} {Γ : Gam}
theorem Fit.vis_ok (F : Fit Γ X c G T lv) {x : Str} {i : Nat} (h : Γ.vis x = some i) : X.N[i]? = some x ∧ Vis X.env.scope x := by
  unfold Gam.vis at h
  rw [← F.sc, ← F.N] at h
  split at h
  · exact ⟨idx_ok h, .inl (by assumption)⟩
  · exact ⟨idx_ok h, .inr (.inl (by assumption))⟩
  · exact ⟨idx_ok h, .inr (.inr (by assumption))⟩
  · cases h
theorem Fit.sto_ok (F : Fit Γ X c G T lv) {x : Str} {i : Nat} (h : Γ.sto x = some i) : X.N[i]? = some x ∧ Loc X.env.scope x ∧ (X.fn x = true ∨ X.env.scope.names.lookup x = some .local) := by
  unfold Gam.sto at h
  rw [← F.sc, ← F.N] at h
  split at h
  · rename_i hl; exact ⟨idx_ok h, .inl hl, .inr hl⟩
  · rename_i hl hb; exact ⟨idx_ok h, .inr hl, .inl ((F.sto x (.inr hl)).2 hb)⟩
  · rename_i hl hb
    split at h
    · rename_i hn
      refine ⟨idx_ok h, .inr hl, .inl ?_⟩
      rcases (F.sto x (.inr hl)).1 with z | ⟨names, z, k⟩
      · rw [hb] at z; cases z
      · rw [hb] at z; cases z; exact k hl hn
    · cases h
  · cases h
theorem Fit.glb_ok (F : Fit Γ X c G T lv) {x : Str} (h : Γ.glb x = true) : Gl X x := by
  unfold Gam.glb at h
  rw [← F.sc] at h
  have h' : X.env.scope.names.lookup x = some .globalImplicit := by simpa using h
  exact h'
theorem nodbg_ok {x : Str} (h : nodbg x = true) : (x == ("__debug__" : Str)) = false ∧ (x == ("__classdict__" : Str)) = false ∧ x ≠ "__name__" := by
  unfold nodbg at h
  simp only [Bool.and_eq_true, Bool.not_eq_true', decide_eq_false_iff_not] at h
  exact ⟨h.1.1, h.1.2, h.2⟩
theorem Fit.room (F : Fit Γ X c G T lv) : Room lv X.A := F.g.room.mono (Nat.le_succ _)
theorem Fit.units (F : Fit Γ X c G T lv) : X.A.units + 64 < cLine := F.g.room.units
theorem Fit.unit1 (F : Fit Γ X c G T lv) : X.A.units + 1 < cLine := by have := F.units; omega

/-! ### names, constants -/
def tyName (x : Str) : Option Ty :=
  if x = "tuple" then some .tuple else if x = "bool" then some .bool else if x = "int" then some .int else if x = "str" then some .str else if x = "list" then some .list else if x = "dict" then some .dict else none
theorem tyName_ok {x : Str} {t : Ty} (h : tyName x = some t) : bootBuiltins x = some (.type t.nm) := by
  unfold tyName at h
  repeat (split at h; · (rename_i e; subst e; cases h; decide +kernel))
  cases h
def cName (T : Top) (Γ : Gam) (x : Str) : Option TD := match Γ.vis x with
  | some i => if nodbg x then some (tVar i) else none
  | none => if Γ.glb x && T.bls.contains x && nodbg x then (tyName x).map fun t => tLit (.ty t) else none
theorem cName_ok (F : Fit Γ X c G T lv) {x : Str} {pos : Pos} {t : TD} (h : cName T Γ x = some t) : EOk X c (.Name x pos) t := by
  unfold cName at h
  split at h
  · rename_i i hi
    split at h
    · rename_i hd
      cases h
      obtain ⟨h1, h2⟩ := F.vis_ok hi
      exact e_var (pe_var h1 h2 (nodbg_ok hd).1 (nodbg_ok hd).2.1)
    · cases h
  · split at h
    · rename_i hc
      simp only [Bool.and_eq_true] at hc
      cases ht : tyName x with
      | none => rw [ht] at h; cases h
      | some ty =>
        rw [ht] at h; cases h
        exact e_lit (pe_bltn (v := .ty ty.nm) (F.glb_ok hc.1.1) (F.g.blt x (by simpa using hc.1.2)) (tyName_ok ht) rfl (nodbg_ok hc.2).2.2 (nodbg_ok hc.2).1) fun _ _ => .ty
    · cases h
def goodB (x : Str) : Bool := decide (x.cps.toList.length ≤ 16777216) && x.cps.toList.all fun n => decide (n < 1114112)
def cConst : Const → Option TD
  | .int i => some (tLit (.int i))
  | .bool b => some (tLit (.bl b))
  | .none => some (tLit .non)
  | .str x => if goodB x then some (tLit (.str x.cps.toList)) else none
  | _ => none
theorem cConst_ok {k : Const} {j : Nat} {pos : Pos} {t : TD} (h : cConst k = some t) : EOk X c (.Constant k j pos) t := by
  cases k with
  | int i => cases h; exact e_lit pe_int fun _ _ => .int
  | bool b => cases h; exact e_lit pe_bl fun _ _ => .bl
  | none => cases h; exact e_lit pe_non fun _ _ => .non
  | str x =>
    simp only [cConst] at h
    split at h
    · rename_i hg
      cases h
      simp only [goodB, Bool.and_eq_true, decide_eq_true_eq, List.all_eq_true] at hg
      refine e_lit (pe_str (x := x)) fun H ρ => ?_
      have := DR.str (K := X.K) (H := H) (ρ := ρ) (l := x.cps.toList) ⟨hg.1, hg.2⟩
      simpa using this
    · cases h
  | _ => simp [cConst] at h

/-! ### operators -/
def cBop : Operator → Option Op2
  | .Add => some oAdd | .Sub => some oSub | .Mult => some oMul | .FloorDiv => some oDiv | .Mod => some oMod | .Pow => some oPow
  | _ => none
theorem cBop_ok {op : Operator} {o : Op2} (h : cBop op = some o) : ∃ r, OpR X (binaryOp op) r ∧ Op2Ok X.K c o r := by
  cases op <;> simp [cBop] at h <;> subst h
  · exact ⟨_, add_op, add_ok⟩
  · exact ⟨_, op_sub, int2_ok0 fun _ _ _ _ => .int⟩
  · exact ⟨_, mul_op, mul_ok⟩
  · exact ⟨_, op_mod, int2_ok fun _ _ _ _ => .int⟩
  · exact ⟨_, op_pow, int2_ok fun _ _ _ _ => .int⟩
  · exact ⟨_, op_fdiv, int2_ok fun _ _ _ _ => .int⟩
def cCop : CmpOp → Option Op2
  | .Eq => some oEq | .NotEq => some oNe | .Lt => some oLt | .LtE => some oLe | .Gt => some oGt | .GtE => some oGe | .Is => some oIs | .IsNot => some oIsNot | .In => some oIn | .NotIn => some oNin
theorem cCop_ok (F : Fit Γ X c G T lv) {op : CmpOp} {o : Op2} (h : cCop op = some o) : ∃ r, OpR X (compareOp op) r ∧ Op2Ok X.K c o r := by
  cases op <;> simp [cCop] at h <;> subst h
  · exact ⟨_, op_eqD F.units, eq_ok⟩
  · exact ⟨_, op_neD F.units, ne_ok⟩
  · exact ⟨_, op_lt, int2_ok0 fun _ _ _ _ => .bl⟩
  · exact ⟨_, op_le, int2_ok0 fun _ _ _ _ => .bl⟩
  · exact ⟨_, op_gt, int2_ok0 fun _ _ _ _ => .bl⟩
  · exact ⟨_, op_ge, int2_ok0 fun _ _ _ _ => .bl⟩
  · exact ⟨_, is_op, isB_ok⟩
  · exact ⟨_, isnot_op, isnotB_ok⟩
  · exact ⟨_, in_op F.unit1, inA_ok (g := id) (neg := false) fun b => by simp⟩
  · exact ⟨_, nin_op F.unit1, inA_ok (g := not) (neg := true) fun b => by simp⟩
def notSet : Expr → Bool
  | .Set .. => false
  | _ => true
theorem notSet_mark {e : Expr} (h : notSet e = true) (op : CmpOp) : behindInMarks op e = false := by
  cases e <;> first | rfl | (simp [notSet] at h)

/-! ### calls -/
def cBi (x : Str) (n : Nat) : Option OpN :=
  if x = "len" ∧ n = 1 then some oLen else if x = "isinstance" ∧ n = 2 then some oIsi else if x = "abs" ∧ n = 1 then some oAbs else if x = "max" ∧ n = 2 then some oMax2 else if x = "min" ∧ n = 2 then some oMin2 else none
def cTy (x : Str) (n : Nat) : Option OpN :=
  if x = "tuple" ∧ n = 1 then some oTpl else if x = "list" ∧ n = 1 then some oLis else if x = "int" ∧ n = 1 then some oInt else none
theorem cBi_ok (hc : X.calm = true) {x : Str} {n : Nat} {o : OpN} (h : cBi x n = some o) : ∃ id r, bootBuiltins x = some (.builtin id) ∧ CallR X (.builtin id) r ∧ OpNOk X.K c o r := by
  unfold cBi at h
  split at h
  · rename_i e; obtain ⟨rfl, _⟩ := e; cases h; exact ⟨_, _, by decide +kernel, call_len, len_ok⟩
  split at h
  · rename_i e; obtain ⟨rfl, _⟩ := e; cases h; exact ⟨_, _, by decide +kernel, call_isi, isi_ok⟩
  split at h
  · rename_i e; obtain ⟨rfl, _⟩ := e; cases h; exact ⟨_, _, by decide +kernel, call_abs, abs_ok⟩
  split at h
  · rename_i e; obtain ⟨rfl, _⟩ := e; cases h; exact ⟨_, _, by decide +kernel, call_max2 hc, int2F_ok _⟩
  split at h
  · rename_i e; obtain ⟨rfl, _⟩ := e; cases h; exact ⟨_, _, by decide +kernel, call_min2 hc, int2F_ok _⟩
  cases h
theorem cTy_ok (hc : X.calm = true) {x : Str} {n : Nat} {o : OpN} (h : cTy x n = some o) : ∃ T r, bootBuiltins x = some (.type T) ∧ CallR X (.type T) r ∧ OpNOk X.K c o r := by
  unfold cTy at h
  split at h
  · rename_i e; obtain ⟨rfl, _⟩ := e; cases h; exact ⟨_, _, by decide +kernel, call_tuple_of, tpl_ok⟩
  split at h
  · rename_i e; obtain ⟨rfl, _⟩ := e; cases h; exact ⟨_, _, by decide +kernel, call_list_of, lis_ok⟩
  split at h
  · rename_i e; obtain ⟨rfl, _⟩ := e; cases h; exact ⟨_, _, by decide +kernel, call_int1, int_ok⟩
  cases h
/-- f(args), by f's name -/
def cCallN (T : Top) (G : Nat → Cl) (r : Cs) (Γ : Gam) (x : Str) (es : List Expr) : Option TD :=
  if Γ.glb x && nodbg x then match r.a Γ es with
    | none => none
    | some ts => match T.fns.lookup x with
      | some (i, n) => some (tCal (G i) n ts)
      | none => match T.cls.lookup x with
        | some (ci, nf, ini, n) => some (tMak G ci nf ini n ts)
        | none => if T.bls.contains x then match es with
          | [] => none
          | _ :: _ => match cBi x es.length with
            | some o => some (tBi o ts)
            | none => (cTy x es.length).map fun o => tBi o ts
          else none
  else none
theorem a_nil_ts {r : Cs} (R : CsOk r c G T lv) : True := trivial
theorem cCallN_ok {r : Cs} (R : CsOk r c G T lv) (F : Fit Γ X c G T lv) (hnil : ∀ ts, r.a Γ [] = some ts → ts = dsNil) {x : Str} {p pos : Pos} {es : List Expr} {t : TD} (h : cCallN T G r Γ x es = some t) : EOk X c (.Call (.Name x p) es [] pos) t := by
  unfold cCallN at h
  split at h
  · rename_i hx
    simp only [Bool.and_eq_true] at hx
    have hg := F.glb_ok hx.1
    obtain ⟨d1, d2, d3⟩ := nodbg_ok hx.2
    split at h
    · cases h
    · rename_i ts ha
      obtain ⟨A, hs⟩ := R.a F ha
      split at h
      · rename_i i n hf
        cases h
        obtain ⟨f, hm, FI⟩ := F.g.fns x i n hf
        cases es with
        | nil => rw [hnil ts ha]; exact e_call0 FI F.room hg hm d1
        | cons e es =>
          simp only [List.all_cons, Bool.and_eq_true] at hs
          exact e_call FI F.room hg hm A d1 (star_plain hs.1 _ _) (stars_plain hs.2)
      · split at h
        · rename_i ci nf ini n hf
          cases h
          obtain ⟨C, f, hC, hnf, hm, MK, FI⟩ := F.g.cls x ci nf ini n hf
          cases es with
          | nil => rw [hnil ts ha]; exact e_make0 MK FI F.g.room hC hnf hg hm d1
          | cons e es => exact e_make MK FI F.g.room hC hnf hg hm A d1 hs
        · split at h
          · rename_i hb
            have hm := F.g.blt x (by simpa using hb)
            split at h
            · cases h
            · rename_i e es
              simp only [List.all_cons, Bool.and_eq_true] at hs
              split at h
              · rename_i o ho
                cases h
                obtain ⟨id, rr, h1, h2, h3⟩ := cBi_ok F.calm ho
                exact e_bi h2 h3 hg hm h1 A d3 d1 (star_plain hs.1 _ _) (stars_plain hs.2)
              · cases ho : cTy x (e :: es).length with
                | none => rw [ho] at h; cases h
                | some o =>
                  rw [ho] at h; cases h
                  obtain ⟨T', rr, h1, h2, h3⟩ := cTy_ok F.calm ho
                  exact e_ty h2 h3 hg hm h1 A d3 d1 (star_plain hs.1 _ _) (stars_plain hs.2)
          · cases h
  · cases h
/-- methods of built-in types -/
def cBm (m : Str) (n : Nat) : Option (String × OpM) :=
  if m = "append" ∧ n = 1 then some ("list", oApp) else if m = "extend" ∧ n = 1 then some ("list", oExt) else if m = "pop" ∧ n = 0 then some ("list", oPop) else if m = "pop" ∧ n = 1 then some ("list", oPopAt) else if m = "join" ∧ n = 1 then some ("str", oJoin) else none
theorem cBm_ok {m : Str} {n : Nat} {Ty : String} {o : OpM} (h : cBm m n = some (Ty, o)) : Ty ≠ "" ∧ ∃ id r, PlainAttrs Ty ∧ Slot Ty m id ∧ typeOf (.builtin id) = pure (.type "method_descriptor") ∧ MtR X id r ∧ OpMOk X.K c o r := by
  unfold cBm at h
  split at h
  · rename_i e; obtain ⟨rfl, _⟩ := e; cases h; exact ⟨by decide, _, _, PySem.F.plainAttrs_list, PySem.F.slot_list_append, PySem.F.type_list_append, mt_append, app_ok⟩
  split at h
  · rename_i e; obtain ⟨rfl, _⟩ := e; cases h; exact ⟨by decide, _, _, PySem.F.plainAttrs_list, PySem.F.slot_list_extend, PySem.F.type_list_extend, mt_extend, ext_ok⟩
  split at h
  · rename_i e; obtain ⟨rfl, _⟩ := e; cases h; exact ⟨by decide, _, _, PySem.F.plainAttrs_list, PySem.F.slot_list_pop, PySem.F.type_list_pop, mt_pop, pop_ok⟩
  split at h
  · rename_i e; obtain ⟨rfl, _⟩ := e; cases h; exact ⟨by decide, _, _, PySem.F.plainAttrs_list, PySem.F.slot_list_pop, PySem.F.type_list_pop, mt_popAt, popAt_ok⟩
  split at h
  · rename_i e; obtain ⟨rfl, _⟩ := e; cases h; exact ⟨by decide, _, _, PySem.F.plainAttrs_str, PySem.F.slot_str_join, PySem.F.type_str_join, mt_join, join_ok⟩
  cases h
def cCallM (T : Top) (G : Nat → Cl) (r : Cs) (Γ : Gam) (o : Expr) (m : Str) (apos : Pos) (es : List Expr) (pos : Pos) : Option TD :=
  if attrOk o && (apos.endLine == pos.line) && decide (es.length < 30) then match r.e Γ o, r.a Γ es with
    | some to, some ts => match T.mts.lookup m with
      | some mx => some (tMth G mx to ts)
      | none => (cBm m es.length).map fun p => tBM p.1 p.2 to ts
    | _, _ => none
  else none
theorem cCallM_ok {r : Cs} (R : CsOk r c G T lv) (F : Fit Γ X c G T lv) (hnil : ∀ ts, r.a Γ [] = some ts → ts = dsNil) {o : Expr} {m : Str} {apos pos : Pos} {es : List Expr} {t : TD} (h : cCallM T G r Γ o m apos es pos = some t) : EOk X c (.Call (.Attribute o m apos) es [] pos) t := by
  unfold cCallM at h
  split at h
  · rename_i hx
    simp only [Bool.and_eq_true, decide_eq_true_eq] at hx
    split at h
    · rename_i to ts ho ha
      have O := R.e F ho
      obtain ⟨A, hs⟩ := R.a F ha
      split at h
      · rename_i mx hm
        cases h
        cases es with
        | nil => rw [hnil ts ha]; exact e_meth0 (F.g.mts m mx hm) F.room O hx.1.1 hx.1.2
        | cons e es => exact e_meth (F.g.mts m mx hm) F.room O A hx.1.1 hs hx.2 hx.1.2
      · cases hb : cBm m es.length with
        | none => rw [hb] at h; cases h
        | some p =>
          rw [hb] at h; cases h
          obtain ⟨h0, id, rr, h1, h2, h3, h4, h5⟩ := cBm_ok (X := X) (c := c) (show cBm m es.length = some (p.1, p.2) from hb)
          cases es with
          | nil => rw [hnil ts ha]; exact e_bm0 h0 h1 h2 h3 h4 h5 O hx.1.1 hx.1.2
          | cons e es => exact e_bm h0 h1 h2 h3 h4 h5 O A hx.1.1 hs hx.2 hx.1.2
    · cases h
  · cases h

/-! ### comprehensions -/
def ownOf (N : List Str) (scope : Scope) : List (Str × Nat) := scope.names.filterMap fun y => match y.2 with
  | .local => (idx? y.1 N).map fun i => (y.1, i)
  | .cell => (idx? y.1 N).map fun i => (y.1, i)
  | _ => none
def Gam.inner (Γ : Gam) (scope : Scope) : Gam := ⟨Γ.N, relS scope Γ.sc, some scope.names⟩
def ntNm (Γ : Gam) (own : List (Str × Nat)) : Expr → Option Nat
  | .Name x _ => match Γ.sto x with
    | some i => if (own.map (·.2)).contains i then some i else none
    | none => none
  | _ => none
def ntNs (Γ : Gam) (own : List (Str × Nat)) : List Expr → Option (List Nat)
  | [] => some []
  | e :: es => match ntNm Γ own e, ntNs Γ own es with
    | some i, some is => some (i :: is)
    | _, _ => none
def ntOf (Γ : Gam) (own : List (Str × Nat)) : Expr → Option NT
  | .Tuple es _ _ => (ntNs Γ own es).map .tp
  | e => (ntNm Γ own e).map .nm
theorem ntNm_ok (F : Fit Γ X c G T lv) {own : List (Str × Nat)} {e : Expr} {i : Nat} (h : ntNm Γ own e = some i) : PG X e (L2.gName i) ∧ i ∈ own.map (·.2) ∧ ∃ x p, e = .Name x p := by
  cases e with
  | Name x p =>
    simp only [ntNm] at h
    split at h
    · rename_i j hj
      split at h
      · rename_i hc
        cases h
        obtain ⟨h1, h2, h3⟩ := F.sto_ok hj
        exact ⟨pg_name F.nd h1 h2 h3, by simpa using hc, _, _, rfl⟩
      · cases h
    · cases h
  | _ => simp [ntNm] at h
theorem ntNs_ok (F : Fit Γ X c G T lv) {own : List (Str × Nat)} : ∀ {es : List Expr} {is : List Nat}, ntNs Γ own es = some is → PGs X es (gNs is) ∧ (∀ i ∈ is, i ∈ own.map (·.2)) ∧ (assignEach es X.env).length = is.length ∧ (assignEach es X.env).findIdx? (·.1) = none
  | [], is, h => by
    cases h
    exact ⟨pgs_nil, by simp, rfl, rfl⟩
  | e :: es, is, h => by
    unfold ntNs at h
    split at h
    · rename_i i js h1 h2
      cases h
      obtain ⟨p1, m1, x, p, rfl⟩ := ntNm_ok F h1
      obtain ⟨p2, m2, l2, f2⟩ := ntNs_ok F h2
      refine ⟨pgs_cons p1 p2 rfl, fun j hj => ?_, ?_, ?_⟩
      · rcases List.mem_cons.mp hj with rfl | hj
        · exact m1
        · exact m2 j hj
      · show ((false, assign (.Name x p) X.env) :: assignEach es X.env).length = _
        simp [l2]
      · show ((false, assign (.Name x p) X.env) :: assignEach es X.env).findIdx? (·.1) = none
        rw [List.findIdx?_cons]
        simp [f2]
    · cases h
theorem ntOf_ok (F : Fit Γ X c G T lv) {own : List (Str × Nat)} {e : Expr} {nt : NT} (h : ntOf Γ own e = some nt) : PG X e (gNt X.K nt) ∧ ∀ i ∈ nt.is, i ∈ own.map (·.2) := by
  unfold ntOf at h
  split at h
  · rename_i es k p
    cases hn : ntNs Γ own es with
    | none => rw [hn] at h; cases h
    | some is =>
      rw [hn] at h; cases h
      obtain ⟨h1, h2, h3, h4⟩ := ntNs_ok F hn
      exact ⟨pg_tup F.calm h1 h3 h4, h2⟩
  · cases hn : ntNm Γ own e with
    | none => rw [hn] at h; cases h
    | some i =>
      rw [hn] at h; cases h
      obtain ⟨h1, h2, _⟩ := ntNm_ok F hn
      exact ⟨h1, fun j hj => by
        have : j = i := by simpa [NT.is] using hj
        rw [this]; exact h2⟩
theorem ntNm_is {own : List (Str × Nat)} {e : Expr} {i : Nat} (h : ntNm Γ own e = some i) : i ∈ own.map (·.2) := by
  cases e with
  | Name x p =>
    simp only [ntNm] at h
    split at h
    · split at h
      · rename_i hc
        cases h
        simpa using hc
      · cases h
    · cases h
  | _ => simp [ntNm] at h
theorem ntNs_is {own : List (Str × Nat)} : ∀ {es : List Expr} {is : List Nat}, ntNs Γ own es = some is → ∀ i ∈ is, i ∈ own.map (·.2)
  | [], is, h => by cases h; simp
  | e :: es, is, h => by
    unfold ntNs at h
    split at h
    · rename_i i js h1 h2
      cases h
      intro j hj
      rcases List.mem_cons.mp hj with rfl | hj
      · exact ntNm_is h1
      · exact ntNs_is h2 j hj
    · cases h
theorem ntOf_is {own : List (Str × Nat)} {e : Expr} {nt : NT} (h : ntOf Γ own e = some nt) : ∀ i ∈ nt.is, i ∈ own.map (·.2) := by
  unfold ntOf at h
  split at h
  · rename_i es k p
    cases hn : ntNs Γ own es with
    | none => rw [hn] at h; cases h
    | some is => rw [hn] at h; cases h; exact ntNs_is hn
  · cases hn : ntNm Γ own e with
    | none => rw [hn] at h; cases h
    | some i =>
      rw [hn] at h; cases h
      intro j hj
      have : j = i := by simpa [NT.is] using hj
      rw [this]; exact ntNm_is hn
theorem FnIn.blk {g : Cl} {n : Nat} {f : Addr} (h : FnIn X c g n f lv) (s : Shared) (H : Hp) (scope : Scope) (ce : Env) (fp : List Addr) : FnIn (X.blk s H scope ce fp) c g n f lv := ⟨h.ok⟩
theorem MthOk.blk {m : Str} {mx : List (Option (Nat × Nat))} (h : MthOk X c G mx m lv) (s : Shared) (H : Hp) (scope : Scope) (ce : Env) (fp : List Addr) : MthOk (X.blk s H scope ce fp) c G mx m lv :=
  ⟨fun i C p h1 h2 => let ⟨a, b, f, d, e⟩ := h.ok i C p h1 h2; ⟨a, b, f, d, ⟨e.ok⟩⟩⟩
theorem Glob.blk (h : Glob X c G T lv) (s : Shared) (H : Hp) (scope : Scope) (ce : Env) (fp : List Addr) : Glob (X.blk s H scope ce fp) c G T lv :=
  ⟨h.room, fun x i n e => let ⟨f, a, b⟩ := h.fns x i n e; ⟨f, a, ⟨b.ok⟩⟩, fun x ci nf ini n e => let ⟨C, f, a, b, d, k, g⟩ := h.cls x ci nf ini n e; ⟨C, f, a, b, d, k, ⟨g.ok⟩⟩, fun m mx e => (h.mts m mx e).blk s H scope ce fp, h.fl, h.cla, h.fnd, h.blt⟩
theorem Fit.blk (F : Fit Γ X c G T lv) (scope : Scope) (s : Shared) (H : Hp) (C : Addr) (cl : List (Str × Addr)) (fp : List Addr) : Fit (Γ.inner scope) (X.blk s H scope (compEnvC scope cl C X.env) fp) c G T lv where
  N := F.N
  nd := F.nd
  sc := by show relS scope X.env.scope = _; rw [F.sc]; rfl
  calm := F.calm
  sto := fun x hl => ⟨.inr ⟨scope.names, rfl, fun _ h => by
    show (scope.names.lookup x == some .cell) = true
    rw [h]; rfl⟩, fun h => nomatch h⟩
  g := F.g.blk s H scope _ fp
def cLC (r : Cs) (Γ : Gam) (elt : Expr) (gens : List Comprehension) (scope : Scope) : Option TD := match gens with
  | [⟨tg, iter, ifs, k⟩] =>
    if decide (k = 0) && notSet iter && blkC Γ.N Γ.sc scope (ownOf Γ.N scope) then
      match r.i Γ tg iter, ntOf (Γ.inner scope) (ownOf Γ.N scope) tg, r.e (Γ.inner scope) elt with
      | some it, some nt, some e => match ifs with
        | [] => some (tLC it nt bYes e ((ownOf Γ.N scope).map (·.2)))
        | [f] => (r.b (Γ.inner scope) f).map fun p => tLC it nt p e ((ownOf Γ.N scope).map (·.2))
        | _ => none
      | _, _, _ => none
    else none
  | _ => none
theorem notSet_fold {e : Expr} (h : notSet e = true) (env : Env) (x : Value) : foldedSetIterable e env x = pure x := by
  cases e <;> first | rfl | (simp [notSet] at h)
structure LCOk (X : Cx) (c : Cla) (elt tg iter : Expr) (ifs : List Expr) (scope : Scope) (own : List (Str × Nat)) (it : TIt) (nt : NT) (p : TB) (e : TD) : Prop where
  hi : IOk X c tg iter it
  ok : BlkOk X.N X.env.scope scope own
  hv : ∀ i ∈ nt.is, i ∈ own.map (·.2)
  hg : ∀ (s : Shared) (H : Hp) (C : Addr) (cl : List (Str × Addr)) (fp : List Addr), PG (X.blk s H scope (compEnvC scope cl C X.env) fp) tg (gNt X.K nt)
  ht : ∀ (s : Shared) (H : Hp) (C : Addr) (cl : List (Str × Addr)) (fp : List Addr), PsOk (X.blk s H scope (compEnvC scope cl C X.env) fp) c ifs p
  he : ∀ (s : Shared) (H : Hp) (C : Addr) (cl : List (Str × Addr)) (fp : List Addr), EOk (X.blk s H scope (compEnvC scope cl C X.env) fp) c elt e
  hs : ∀ x, foldedSetIterable iter X.env x = pure x
theorem cLC_ok {r : Cs} (R : CsOk r c G T lv) (F : Fit Γ X c G T lv) {elt : Expr} {gens : List Comprehension} {scope : Scope} {t : TD} (h : cLC r Γ elt gens scope = some t) :
    ∃ tg iter ifs it nt p e, gens = [⟨tg, iter, ifs, 0⟩] ∧ t = tLC it nt p e ((ownOf Γ.N scope).map (·.2)) ∧ LCOk X c elt tg iter ifs scope (ownOf Γ.N scope) it nt p e := by
  unfold cLC at h
  split at h
  · rename_i tg iter ifs k
    split at h
    · rename_i hk
      simp only [Bool.and_eq_true, decide_eq_true_eq] at hk
      obtain ⟨⟨rfl, hns⟩, hb⟩ := hk
      split at h
      · rename_i it nt e h1 h2 h3
        have hi := R.i F h1
        have ok : BlkOk X.N X.env.scope scope (ownOf Γ.N scope) := by rw [F.N, F.sc]; exact blkOk_by hb
        have hE := fun s H C cl fp => R.e (F.blk scope s H C cl fp) h3
        have hG := fun s H C cl fp => ntOf_ok (F.blk scope s H C cl fp) h2
        split at h
        · cases h
          exact ⟨tg, iter, [], it, nt, bYes, e, rfl, rfl, hi, ok, ntOf_is h2, fun s H C cl fp => (hG s H C cl fp).1, fun _ _ _ _ _ => ps_nil, hE, notSet_fold hns _⟩
        · rename_i f
          cases hp : r.b (Γ.inner scope) f with
          | none => rw [hp] at h; cases h
          | some p =>
            rw [hp] at h; cases h
            exact ⟨tg, iter, [f], it, nt, p, e, rfl, rfl, hi, ok, ntOf_is h2, fun s H C cl fp => (hG s H C cl fp).1, fun s H C cl fp => ps_one (R.b (F.blk scope s H C cl fp) hp), hE, notSet_fold hns _⟩
        · cases h
      · cases h
    · cases h
  · cases h
end
end DL

/-! DL10: from syntax to transformers: the steps, statements, defs. -/
namespace DL
open PySem L2

/-- {}: of either kind -/
def tDict0 : TD := ⟨fun _ M Q => Q (.fo (.dct false [])) M ∨ Q (.fo (.dct true [])) M, fun _ _ _ _ h q => q.elim (fun z => .inl (h _ _ z)) fun z => .inr (h _ _ z)⟩
theorem e_dict0 {X : Cx} {c : Cla} {pos : Pos} : EOk X c (.Dict [] [] pos) tDict0 := ⟨⟨fun pins s σ H Q I ⟨ρ, sl, M, S, R, q⟩ => by
  have q : _ ∨ _ := q
  rcases q with q | q
  · exact pe_dnewK.run pins s σ H Q I fun p hp => q ρ _ _ (Ext.fresh hp) (R.fresh hp) (.fo hp (Ext.of_fresh_fo R hp) ⟨_, upd_same, .nil⟩)
  · exact pe_dnewT.run pins s σ H Q I fun p hp => q ρ _ _ (Ext.fresh hp) (R.fresh hp) (.fo hp (Ext.of_fresh_fo R hp) ⟨_, upd_same, .nil⟩)⟩⟩
def notSli : Expr → Bool
  | .Slice .. => false
  | _ => true
theorem notSli_ix {e : Expr} (h : notSli e = true) : PlainIx e := by
  cases e <;> first | (intro _ _; rfl) | (simp [notSli] at h)
def stepE (T : Top) (G : Nat → Cl) (r : Cs) (Γ : Gam) : Expr → Option TD
  | .Constant k _ _ => cConst k
  | .Name x _ => cName T Γ x
  | .BinOp a op b _ => match r.e Γ a, r.e Γ b, cBop op with
    | some ta, some tb, some o => some (tBin o ta tb)
    | _, _, _ => none
  | .UnaryOp .USub a _ => (r.e Γ a).map (tUno oNeg)
  | .UnaryOp .Not a _ => (r.e Γ a).map tNotT
  | .Compare a [op] [b] _ => match r.e Γ a, r.e Γ b, cCop op with
    | some ta, some tb, some o => if notSet b then some (tBin o ta tb) else none
    | _, _, _ => none
  | .Compare a [op, op'] [b, d] _ => match r.e Γ a, r.e Γ b, r.e Γ d, cCop op, cCop op' with
    | some ta, some tb, some td, some o, some o' => if notSet d then some (tChn o o' ta tb td) else none
    | _, _, _, _, _ => none
  | .BoolOp _ [a] _ => r.e Γ a
  | .BoolOp .And (a :: b :: rest) pos => match r.e Γ a, r.e Γ (.BoolOp .And (b :: rest) pos) with
    | some ta, some tb => some (tAndV ta tb)
    | _, _ => none
  | .BoolOp .Or (a :: b :: rest) pos => match r.e Γ a, r.e Γ (.BoolOp .Or (b :: rest) pos) with
    | some ta, some tb => some (tOrV ta tb)
    | _, _ => none
  | .IfExp f a b _ => match r.b Γ f, r.e Γ a, r.e Γ b with
    | some p, some ta, some tb => some (tIfE p ta tb)
    | _, _, _ => none
  | .Tuple es _ _ => (r.a Γ es).map tTup
  | .List es _ => (r.a Γ es).map tLst
  | .Attribute o f _ => if attrOk o then (r.e Γ o).map (tFld (gfix T f)) else none
  | .Subscript a (.Slice lo hi none _) _ => match r.e Γ a, r.o Γ lo, r.o Γ hi with
    | some ta, some tl, some th => some (tSli ta tl th)
    | _, _, _ => none
  | .Subscript a b _ => if notSli b then match r.e Γ a, r.e Γ b with
    | some ta, some tb => some (tBin oIxA ta tb)
    | _, _ => none
    else none
  | .Call (.Name x _) es [] _ => cCallN T G r Γ x es
  | .Call (.Attribute o m apos) es [] pos => cCallM T G r Γ o m apos es pos
  | .ListComp elt gens scope _ => cLC r Γ elt gens scope
  | .Dict [] [] _ => some tDict0
  | _ => none
def stepB (r : Cs) (Γ : Gam) : Expr → Option TB
  | .UnaryOp .Not a _ => (r.b Γ a).map bNot
  | .BoolOp op vs pos => r.w Γ (.BoolOp op vs pos)
  | .Compare a [op] [b] _ => match r.e Γ a, r.e Γ b, cCop op with
    | some ta, some tb, some o => if notSet b then some (bVal (tBin o ta tb)) else none
    | _, _, _ => none
  | .Compare a [op, op'] [b, d] _ => match r.e Γ a, r.e Γ b, r.e Γ d, cCop op, cCop op' with
    | some ta, some tb, some td, some o, some o' => if notSet d then some (bVal (tChn o o' ta tb td)) else none
    | _, _, _, _, _ => none
  | e => if plainTest e then (r.e Γ e).map bTru else none
def stepW (r : Cs) (Γ : Gam) : Expr → Option TB
  | .BoolOp .And [a] _ => r.b Γ a
  | .BoolOp .Or [a] _ => r.b Γ a
  | .BoolOp .And (a :: b :: rest) pos => match r.b Γ a, r.w Γ (.BoolOp .And (b :: rest) pos) with
    | some p, some q => some (bAnd p q)
    | _, _ => none
  | .BoolOp .Or (a :: b :: rest) pos => match r.b Γ a, r.w Γ (.BoolOp .Or (b :: rest) pos) with
    | some p, some q => some (bOr p q)
    | _, _ => none
  | _ => none
def stepA (r : Cs) (Γ : Gam) : List Expr → Option TDs
  | [] => some dsNil
  | e :: es => if notStar e then match r.e Γ e, r.a Γ es with
    | some t, some ts => some (dsCons t ts)
    | _, _ => none
    else none
def isTup : Expr → Bool
  | .Tuple .. => true
  | _ => false
def stepI (T : Top) (r : Cs) (Γ : Gam) (tg : Expr) : Expr → Option TIt
  | .Call (.Name x p) es [] pos => if x = "range" then
      if Γ.glb x && T.bls.contains x then match es, r.a Γ es with
        | [_], some ts => some (iRg1 ts)
        | [_, _], some ts => some (iRg2 ts)
        | [_, _, _], some ts => some (iRg3 ts)
        | _, _ => none
      else none
    else if x = "enumerate" then
      if Γ.glb x && T.bls.contains x && isTup tg then match es, r.a Γ es with
        | [_], some ts => some (iEnu ts)
        | _, _ => none
      else none
    else (r.e Γ (.Call (.Name x p) es [] pos)).map iSeq
  | e => (r.e Γ e).map iSeq
def stepO (r : Cs) (Γ : Gam) : Option Expr → Option TO
  | none => some oNo
  | some e => (r.e Γ e).map oPt
def cs (T : Top) (G : Nat → Cl) : Nat → Cs
  | 0 => csNone
  | n + 1 => ⟨stepE T G (cs T G n), stepB (cs T G n), stepW (cs T G n), stepA (cs T G n), stepI T (cs T G n), stepO (cs T G n)⟩
section
variable {X : Cx} {c : Cla} {G : Nat → Cl} {T : Top} {lv : Nat} {Γ : Gam} {r : Cs}
theorem stepE_ok (R : CsOk r c G T lv) (hnil : ∀ Γ ts, r.a Γ [] = some ts → ts = dsNil) (F : Fit Γ X c G T lv) {e : Expr} {t : TD} (h : stepE T G r Γ e = some t) : EOk X c e t := by
  unfold stepE at h
  split at h
  · exact cConst_ok h
  · exact cName_ok F h
  · split at h
    · rename_i h1 h2 h3
      cases h
      obtain ⟨rr, k1, k2⟩ := cBop_ok (X := X) (c := c) h3
      exact e_bin k1 k2 (R.e F h1) (R.e F h2)
    · cases h
  · rename_i a p
    cases h1 : r.e Γ a with
    | none => rw [h1] at h; cases h
    | some ta => rw [h1] at h; cases h; exact e_un un_neg neg_ok (R.e F h1)
  · rename_i a p
    cases h1 : r.e Γ a with
    | none => rw [h1] at h; cases h
    | some ta => rw [h1] at h; cases h; exact e_not (R.e F h1)
  · split at h
    · rename_i h1 h2 h3
      split at h
      · rename_i hs
        cases h
        obtain ⟨rr, k1, k2⟩ := cCop_ok F h3
        exact e_cmp k1 k2 (R.e F h1) (R.e F h2) (notSet_mark hs _)
      · cases h
    · cases h
  · split at h
    · rename_i h1 h2 h3 h4 h5
      split at h
      · rename_i hs
        cases h
        obtain ⟨rr, k1, k2⟩ := cCop_ok F h4
        obtain ⟨rr', k3, k4⟩ := cCop_ok F h5
        exact e_chn k1 k3 k2 k4 (R.e F h1) (R.e F h2) (R.e F h3) (notSet_mark hs _)
      · cases h
    · cases h
  · exact e_one (R.e F h)
  · split at h
    · rename_i h1 h2; cases h; exact e_and (R.e F h1) (R.e F h2)
    · cases h
  · split at h
    · rename_i h1 h2; cases h; exact e_or (R.e F h1) (R.e F h2)
    · cases h
  · split at h
    · rename_i h1 h2 h3; cases h; exact e_ife (R.b F h1) (R.e F h2) (R.e F h3)
    · cases h
  · rename_i es k p
    cases h1 : r.a Γ es with
    | none => rw [h1] at h; cases h
    | some ts => rw [h1] at h; cases h; exact e_tup (R.a F h1).1
  · rename_i es p
    cases h1 : r.a Γ es with
    | none => rw [h1] at h; cases h
    | some ts => rw [h1] at h; cases h; exact e_lst (R.a F h1).1
  · rename_i o f p
    split at h
    · rename_i ha
      cases h1 : r.e Γ o with
      | none => rw [h1] at h; cases h
      | some to => rw [h1] at h; cases h; exact e_fld F.g.cla (by unfold fix gfix; rw [F.g.fl]) (R.e F h1) (attr_base ha _ _ _)
    · cases h
  · split at h
    · rename_i h1 h2 h3; cases h; exact e_sli (R.e F h1) (R.o F h2) (R.o F h3)
    · cases h
  · split at h
    · rename_i hs
      split at h
      · rename_i h1 h2; cases h; exact e_ix (ixA_op F.unit1) ixA_ok (R.e F h1) (R.e F h2) (notSli_ix hs)
      · cases h
    · cases h
  · exact cCallN_ok R F (hnil Γ) h
  · exact cCallM_ok R F (hnil Γ) h
  · obtain ⟨tg, iter, ifs, it, nt, p, e, rfl, rfl, L⟩ := cLC_ok R F h
    exact e_lc F.calm F.nd L.hi L.ok L.hv L.hg L.ht L.he L.hs
  · cases h; exact e_dict0
  · cases h
theorem stepB_ok (R : CsOk r c G T lv) (F : Fit Γ X c G T lv) {e : Expr} {t : TB} (h : stepB r Γ e = some t) : BOk X c e t := by
  unfold stepB at h
  split at h
  · rename_i a p
    cases h1 : r.b Γ a with
    | none => rw [h1] at h; cases h
    | some ta => rw [h1] at h; cases h; exact b_not (R.b F h1)
  · exact b_of_w (R.w F h)
  · split at h
    · rename_i h1 h2 h3
      split at h
      · rename_i hs
        cases h
        obtain ⟨rr, k1, k2⟩ := cCop_ok F h3
        exact b_cmp k1 k2 (R.e F h1) (R.e F h2) (notSet_mark hs _)
      · cases h
    · cases h
  · split at h
    · rename_i h1 h2 h3 h4 h5
      split at h
      · rename_i hs
        cases h
        obtain ⟨rr, k1, k2⟩ := cCop_ok F h4
        obtain ⟨rr', k3, k4⟩ := cCop_ok F h5
        exact b_chn k1 k3 k2 k4 (R.e F h1) (R.e F h2) (R.e F h3) (notSet_mark hs _)
      · cases h
    · cases h
  · split at h
    · rename_i hp
      cases h1 : r.e Γ e with
      | none => rw [h1] at h; cases h
      | some ta => rw [h1] at h; cases h; exact b_tru (R.e F h1) hp
    · cases h
theorem stepW_ok (R : CsOk r c G T lv) (F : Fit Γ X c G T lv) {e : Expr} {t : TB} (h : stepW r Γ e = some t) : WOk X c e t := by
  unfold stepW at h
  split at h
  · exact w_and1 (R.b F h)
  · exact w_or1 (R.b F h)
  · split at h
    · rename_i h1 h2; cases h; exact w_and (R.b F h1) (R.w F h2)
    · cases h
  · split at h
    · rename_i h1 h2; cases h; exact w_or (R.b F h1) (R.w F h2)
    · cases h
  · cases h
theorem stepA_ok (R : CsOk r c G T lv) (F : Fit Γ X c G T lv) {es : List Expr} {t : TDs} (h : stepA r Γ es = some t) : AOk X c es t ∧ es.all notStar = true := by
  unfold stepA at h
  split at h
  · cases h; exact ⟨a_nil, rfl⟩
  · split at h
    · rename_i hs
      split at h
      · rename_i h1 h2
        cases h
        obtain ⟨A, hA⟩ := R.a F h2
        exact ⟨a_cons (R.e F h1) A (star_plain hs _ _), by rw [List.all_cons, hs, hA]; rfl⟩
      · cases h
    · cases h
theorem stepI_ok (R : CsOk r c G T lv) (F : Fit Γ X c G T lv) {tg e : Expr} {t : TIt} (h : stepI T r Γ tg e = some t) : IOk X c tg e t := by
  unfold stepI at h
  split at h
  · rename_i x p es pos
    split at h
    · rename_i hx
      subst hx
      split at h
      · rename_i hb
        simp only [Bool.and_eq_true] at hb
        have hg := F.glb_ok hb.1
        have hm := F.g.blt _ (show ("range" : Str) ∈ T.bls by simpa using hb.2)
        split at h
        · rename_i a ts h1
          cases h
          obtain ⟨A, hA⟩ := R.a F h1
          simp only [List.all_cons, Bool.and_eq_true] at hA
          exact i_rg1 hg hm A (star_plain hA.1 _ _)
        · rename_i a b ts h1
          cases h
          obtain ⟨A, hA⟩ := R.a F h1
          simp only [List.all_cons, Bool.and_eq_true] at hA
          exact i_rg2 hg hm A (by rw [star_plain hA.1, star_plain hA.2.1]; rfl) (star_plain hA.2.1 _ _)
        · rename_i a b d ts h1
          cases h
          obtain ⟨A, hA⟩ := R.a F h1
          simp only [List.all_cons, Bool.and_eq_true] at hA
          exact i_rg3 hg hm A (star_plain hA.1 _ _) (stars_plain (by simp [hA.2.1, hA.2.2.1]))
        · cases h
      · cases h
    · split at h
      · rename_i hx
        subst hx
        split at h
        · rename_i hb
          simp only [Bool.and_eq_true] at hb
          have hg := F.glb_ok hb.1.1
          have hm := F.g.blt _ (show ("enumerate" : Str) ∈ T.bls by simpa using hb.1.2)
          split at h
          · rename_i a ts h1
            cases h
            obtain ⟨A, hA⟩ := R.a F h1
            simp only [List.all_cons, Bool.and_eq_true] at hA
            cases tg with
            | Tuple elts kk tpos => exact i_enu hg hm A (star_plain hA.1 _ _)
            | _ => simp [isTup] at hb
          · cases h
        · cases h
      · cases h1 : r.e Γ (.Call (.Name x p) es [] pos) with
        | none => rw [h1] at h; cases h
        | some ta => rw [h1] at h; cases h; exact i_seq (R.e F h1)
  · cases h1 : r.e Γ e with
    | none => rw [h1] at h; cases h
    | some ta => rw [h1] at h; cases h; exact i_seq (R.e F h1)
theorem stepO_ok (R : CsOk r c G T lv) (F : Fit Γ X c G T lv) {e : Option Expr} {t : TO} (h : stepO r Γ e = some t) : OOk X c e t := by
  unfold stepO at h
  split at h
  · cases h; exact o_no
  · rename_i e
    cases h1 : r.e Γ e with
    | none => rw [h1] at h; cases h
    | some ta => rw [h1] at h; cases h; exact o_pt (R.e F h1)
theorem cs_nil : ∀ (n : Nat) (Γ : Gam) (ts : TDs), (cs T G n).a Γ [] = some ts → ts = dsNil
  | 0, _, _, h => nomatch h
  | _ + 1, _, _, h => by cases h; rfl
theorem cs_ok : ∀ n : Nat, CsOk (cs T G n) c G T lv
  | 0 => ⟨fun _ h => (nomatch h), fun _ h => (nomatch h), fun _ h => (nomatch h), fun _ h => (nomatch h), fun _ h => (nomatch h), fun _ h => (nomatch h)⟩
  | n + 1 => ⟨fun F h => stepE_ok (cs_ok n) (cs_nil n) F h, fun F h => stepB_ok (cs_ok n) F h, fun F h => stepW_ok (cs_ok n) F h, fun F h => stepA_ok (cs_ok n) F h, fun F h => stepI_ok (cs_ok n) F h, fun F h => stepO_ok (cs_ok n) F h⟩
end

/-! ### statements -/
def notComp : Expr → Bool
  | .ListComp .. => false
  | .SetComp .. => false
  | .DictComp .. => false
  | _ => true
theorem notComp_sw {e : Expr} (h : notComp e = true) (t : Option Expr) (l : Nat) (env : Env) : swapsWith e t l env = pure false := by
  cases e <;> first | rfl | (simp [notComp] at h)
def isName : Expr → Bool
  | .Name .. => true
  | _ => false
theorem notName_sw {t : Expr} (h : isName t = false) (e : Expr) (l : Nat) (env : Env) : swapsWith e (some t) l env = pure false := by
  cases e <;> first | rfl | (cases t <;> first | rfl | (simp [isName] at h))
/-- no pair of stores that go from the right -/
def noPar : Expr → Expr → Bool
  | .Tuple .., .Tuple .. => false
  | .List .., .Tuple .. => false
  | _, _ => true
theorem noPar_sw {t e : Expr} (h : noPar t e = true) (env : Env) : swappedStores [t] e env = pure none := by
  cases t <;> first | rfl | (cases e <;> first | rfl | (simp [noPar] at h))
def cG (r : Cs) : Nat → Gam → Expr → Option TGd
  | 0, _, _ => none
  | _ + 1, Γ, .Name x _ => (Γ.sto x).map gNm
  | n + 1, Γ, .Tuple es _ _ => (go n Γ es).map (gTp es.length)
  | _ + 1, Γ, .Subscript o i _ => if notSli i then match r.e Γ o, r.e Γ i with
    | some to, some ti => some (gSub to ti)
    | _, _ => none
    else none
  | _, _, _ => none
where go : Nat → Gam → List Expr → Option TGs
  | 0, _, _ => none
  | _ + 1, _, [] => some gsNil
  | n + 1, Γ, e :: es => if notStar e then match cG r n Γ e, go n Γ es with
    | some g, some gs => some (gsCons g gs)
    | _, _ => none
    else none
/-- x += e: ints, texts -/
def oIAdd : Op2 := ⟨fun _ x y k => match x, y with
    | .d (.int a), .d (.int b) => k (.d (.int (a + b)))
    | .d (.str a), .d (.str b) => a.length + b.length ≤ 16777216 ∧ k (.d (.str (a ++ b)))
    | _, _ => False, fun M x y Q Q' h q => by
      split at q
      · exact h _ q
      · exact ⟨q.1, h _ q.2⟩
      · exact q⟩
def oIMul : Op2 := int2 CMul fun i j => .int (i * j)
theorem iadd_ok {K : PySem.W.Frag} {c : Cla} : Op2Ok K c oIAdd (fun x y H Q => (rI0 fun i j => .int (i + j)) x y H Q ∨ ∃ i j, x = .str i ∧ y = .str j ∧ i.length + j.length ≤ sizeLine ∧ Q (.str (i ++ j)) H) := ⟨fun ρ H0 H M x y v w Q R rx ry q => by
  unfold oIAdd at q
  dsimp only at q
  split at q
  · cases rx with
    | d rx =>
    cases ry with
    | d ry =>
    cases rx; cases ry
    exact .inl ⟨_, _, rfl, rfl, q H _ Ext.refl R (.d .int)⟩
  · cases rx with
    | d rx =>
    cases ry with
    | d ry =>
    cases rx with
    | str g1 =>
    cases ry with
    | str g2 =>
    refine .inr ⟨_, _, rfl, rfl, line_le (by simpa [Str.length] using q.1), ?_⟩
    rw [str_app]
    exact q.2 H _ Ext.refl R (.d (.str (g1.append g2 q.1)))
  · exact q.elim⟩
def cIop : Operator → Option Op2
  | .Add => some oIAdd | .Sub => some oSub | .Mult => some oIMul | .FloorDiv => some oDiv
  | _ => none
theorem cIop_ok {X : Cx} {c : Cla} {op : Operator} {o : Op2} (h : cIop op = some o) : ∃ r, OpR X (inplaceOp op) r ∧ Op2Ok X.K c o r := by
  cases op <;> simp [cIop] at h <;> subst h
  · exact ⟨_, iop_add.or iop_add_str, iadd_ok⟩
  · exact ⟨_, iop_sub, int2_ok0 fun _ _ _ _ => .int⟩
  · exact ⟨_, iop_mul, int2_ok fun _ _ _ _ => .int⟩
  · exact ⟨_, iop_fdiv, int2_ok fun _ _ _ _ => .int⟩
/-- x = y = e -/
def sAsg2 (a : TD) (g1 g2 : TGd) : TSd := ⟨fun D s M => a.t s M fun r M1 => asD r M1 fun d M2 => g1.t (.d d) s M2 fun s1 M3 => g2.t (.d d) s1 M3 D.nx,
  fun _ _ _ _ h q => a.mono _ _ _ _ (fun _ _ => asD_mono fun _ _ => g1.mono _ _ _ _ _ fun _ _ => g2.mono _ _ _ _ _ h.nx) q⟩
theorem asg2_imp {K : PySem.W.Frag} {c : Cla} {t : TD} {g1 g2 : TGd} (D : Ends) (σ : L2.St) (H : Hp) (z : rdS K c (sAsg2 t g1 g2) D σ H) : L2.tAsg2 (rdE K c t) (rdG K c g1) (rdG K c g2) D σ H := by
  obtain ⟨ρ, s, M, S, R, q⟩ := z
  refine ⟨ρ, s, M, S, R, t.mono _ _ _ _ (fun r M1 q1 ρ1 H1 v e1 R1 rv => ?_) q⟩
  obtain ⟨tt, d, M2, q2, R2, e2, hd, _⟩ := asD_ok e1 R1 rv q1
  refine ⟨_, _, _, s, M2, .d d, Ext.refl, (S.mono e1).app, R2, .d hd, g1.mono _ _ _ _ _ (fun s1 M3 q3 ρ3 σ3 H3 e3 S3 R3 => ?_) q2⟩
  exact ⟨ρ, H, ρ3, s1, M3, .d d, e2.trans e3, S3, R3, .d (hd.mono e3), q3⟩

/-! ### the statements' steps -/
/-- the store of a comprehension into a name: stored within the comprehension's frame or behind it -/
def swB (sc : Scope) (y : Str) (py pos : Pos) (scope : Scope) : Bool :=
  (match sc.kind with | .function => true | _ => false) && decide (sc.names.lookup y = some .local) && (py.line == pos.line) && !scope.names.any fun (n, k) => n == y && (k == .local || k == .cell)
theorem sw_lc {elt : Expr} {gens : List Comprehension} {scope : Scope} {pos py : Pos} {y : Str} {l : Nat} {env : Env} (hk : env.scope.kind = .function) :
    swapsWith (.ListComp elt gens scope pos) (some (.Name y py)) l env = pure (swB env.scope y py pos scope) := by
  show (pure (env.blockKind == ScopeKind.function && env.kindOf y == some NameKind.local && py.line == pos.line && !scope.names.any fun (n, k) => n == y && (k == NameKind.local || k == NameKind.cell)) : Sem Bool) = _
  congr 1
  unfold swB
  rw [hk]
  have h1 : env.blockKind = .function := by unfold Env.blockKind; rw [hk]; rfl
  rw [h1]
  have h2 : (env.kindOf y == some NameKind.local) = decide (env.scope.names.lookup y = some .local) := by
    unfold Env.kindOf
    cases h : env.scope.names.lookup y with
    | none => rfl
    | some k => cases k <;> rfl
  rw [h2]
  rfl
structure Ks where
  s : Gam → Stmt → Option TSd
  ss : Gam → List Stmt → Option TSd
def stepS (T : Top) (G : Nat → Cl) (r : Cs) (m : Nat) (k : Ks) (Γ : Gam) : Stmt → Option TSd
  | .Pass _ => some sNx
  | .Break _ => some sBk
  | .Continue _ => some sCt
  | .Expr e _ => if notComp e then (r.e Γ e).map sExp else none
  | .Return (some e) _ => (r.e Γ e).map sRet
  | .Return none _ => some sRetN
  | .If t a b _ => match r.b Γ t, k.ss Γ a, k.ss Γ b with
    | some p, some x, some y => some (sIf p x y)
    | _, _, _ => none
  | .While t a [] _ => match r.b Γ t, k.ss Γ a with
    | some p, some x => some (sWhl p x)
    | _, _ => none
  | .For tg iter a [] _ => if notSet iter then match r.i Γ tg iter, cG r m Γ tg, k.ss Γ a with
      | some it, some g, some x => some (sFor it g x)
      | _, _, _ => none
    else none
  | .Assign [.Attribute o f _] e _ => if attrOk o then match r.e Γ o, r.e Γ e with
      | some to, some te => some (sSetF (gfix T f) to te)
      | _, _ => none
    else none
  | .Assign [.Name y py] (.ListComp elt gens scope lpos) _ => match Γ.sto y, cLC r Γ elt gens scope with
    | some i, some t => if Γ.blk.isNone then some (sAsg t (gNm i)) else none
    | _, _ => none
  | .Assign [tg] e _ => if (notComp e || !isName tg) && noPar tg e && notStar tg then match r.e Γ e, cG r m Γ tg with
      | some te, some g => some (sAsg te g)
      | _, _ => none
    else none
  | .Assign [t1, t2] e _ => if noPar t1 e && notStar t1 && notStar t2 && notComp e then match r.e Γ e, cG r m Γ t1, cG r m Γ t2 with
      | some te, some g1, some g2 => some (sAsg2 te g1 g2)
      | _, _, _ => none
    else none
  | .AugAssign (.Name x _) op e _ => match Γ.sto x, r.e Γ e, cIop op with
    | some i, some te, some o => some (sAug i o te)
    | _, _, _ => none
  | .AugAssign (.Attribute o f _) op e _ => match r.e Γ o, r.e Γ e, cIop op with
    | some to, some te, some o2 => some (sAugF (gfix T f) o2 to te)
    | _, _, _ => none
  | _ => none
def stepSs (k : Ks) (Γ : Gam) : List Stmt → Option TSd
  | [] => some sNx
  | [st] => k.s Γ st
  | st :: rest => match k.s Γ st, k.ss Γ rest with
    | some a, some b => some (sSeq a b)
    | _, _ => none
def ks (T : Top) (G : Nat → Cl) (m : Nat) : Nat → Ks
  | 0 => ⟨fun _ _ => none, fun _ _ => none⟩
  | n + 1 => ⟨stepS T G (cs T G m) m (ks T G m n), stepSs (ks T G m n)⟩
structure KsOk (k : Ks) (c : Cla) (G : Nat → Cl) (T : Top) (lv : Nat) : Prop where
  s : ∀ {Γ X st t}, Fit Γ X c G T lv → PassesOwn (model X.prog X.w) X.A X.env X.xe → X.env.scope.kind = .function → k.s Γ st = some t → SOk X c st t
  ss : ∀ {Γ X st t}, Fit Γ X c G T lv → PassesOwn (model X.prog X.w) X.A X.env X.xe → X.env.scope.kind = .function → k.ss Γ st = some t → SsOk X c st t
section
variable {X : Cx} {c : Cla} {G : Nat → Cl} {T : Top} {lv : Nat} {Γ : Gam} {r : Cs} {k : Ks} {m : Nat}
theorem cG_both (R : CsOk r c G T lv) (F : Fit Γ X c G T lv) : ∀ n : Nat, (∀ {e g}, cG r n Γ e = some g → GOk X c e g) ∧ (∀ {es gs}, cG.go r n Γ es = some gs → GsOk X c es gs ∧ (assignEach es X.env).length = es.length ∧ (assignEach es X.env).findIdx? (·.1) = none)
  | 0 => ⟨fun h => by simp [cG] at h, fun h => by simp [cG.go] at h⟩
  | n + 1 => by
    obtain ⟨i1, i2⟩ := cG_both R F n
    refine ⟨fun {e g} h => ?_, fun {es gs} h => ?_⟩
    · cases e with
      | Name x p =>
        simp only [cG] at h
        cases hs : Γ.sto x with
        | none => rw [hs] at h; cases h
        | some i =>
          rw [hs] at h; cases h
          obtain ⟨h1, h2, h3⟩ := F.sto_ok hs
          exact g_nm F.nd h1 h2 h3
      | Tuple es kk p =>
        simp only [cG] at h
        cases hs : cG.go r n Γ es with
        | none => rw [hs] at h; cases h
        | some gs =>
          rw [hs] at h; cases h
          obtain ⟨h1, h2, h3⟩ := i2 hs
          exact g_tp F.calm h1 h2 h3
      | Subscript o i p =>
        simp only [cG] at h
        split at h
        · rename_i hn
          split at h
          · rename_i h1 h2
            cases h
            refine g_sub F.unit1 (R.e F h1) (R.e F h2) fun v => ?_
            cases i <;> first | rfl | (simp [notSli] at hn)
          · cases h
        · cases h
      | _ => simp [cG] at h
    · cases es with
      | nil =>
        simp only [cG.go] at h
        cases h
        exact ⟨gs_nil, rfl, rfl⟩
      | cons e es =>
        simp only [cG.go] at h
        split at h
        · rename_i hs
          split at h
          · rename_i g gs' h1 h2
            cases h
            obtain ⟨p1, p2, p3⟩ := i2 h2
            have ea : assignEach (e :: es) X.env = (false, assign e X.env) :: assignEach es X.env := by
              cases e <;> first | rfl | (simp [notStar] at hs)
            refine ⟨gs_cons (i1 h1) p1 (by rw [ea]; rfl), by rw [ea]; simp [p2], ?_⟩
            rw [ea, List.findIdx?_cons]
            simp [p3]
          · cases h
        · cases h
theorem cG_ok (R : CsOk r c G T lv) (F : Fit Γ X c G T lv) {n : Nat} {e : Expr} {g : TGd} (h : cG r n Γ e = some g) : GOk X c e g := (cG_both R F n).1 h
theorem assign_one {tg : Expr} (h : notStar tg = true) (env : Env) : (assignEach [tg] env).map (·.2) = [assign tg env] := by
  cases tg <;> first | rfl | (simp [notStar] at h)
theorem stepS_ok (R : CsOk r c G T lv) (Kk : KsOk k c G T lv) (F : Fit Γ X c G T lv) (hp : PassesOwn (model X.prog X.w) X.A X.env X.xe) (hf : X.env.scope.kind = .function) {st : Stmt} {t : TSd} (h : stepS T G r m k Γ st = some t) : SOk X c st t := by
  unfold stepS at h
  split at h
  · cases h; exact s_pass
  · cases h; exact s_break
  · cases h; exact s_continue
  · rename_i e p
    split at h
    · rename_i hn
      cases h1 : r.e Γ e with
      | none => rw [h1] at h; cases h
      | some ta => rw [h1] at h; cases h; exact s_exp (R.e F h1) (notComp_sw hn _ _ _)
    · cases h
  · rename_i e p
    cases h1 : r.e Γ e with
    | none => rw [h1] at h; cases h
    | some ta => rw [h1] at h; cases h; exact s_ret (R.e F h1)
  · cases h; exact s_retN
  · split at h
    · rename_i h1 h2 h3; cases h; exact s_if (R.b F h1) (Kk.ss F hp hf h2) (Kk.ss F hp hf h3)
    · cases h
  · split at h
    · rename_i h1 h2; cases h; exact s_while hp (R.b F h1) (Kk.ss F hp hf h2)
    · cases h
  · split at h
    · rename_i hn
      split at h
      · rename_i h1 h2 h3; cases h; exact s_for hp F.calm (R.i F h1) (cG_ok R F h2) (Kk.ss F hp hf h3) (notSet_fold hn _)
      · cases h
    · cases h
  · rename_i o f p e p2
    split at h
    · split at h
      · rename_i h1 h2
        cases h
        exact s_setF F.g.cla F.g.fnd (by unfold fix gfix; rw [F.g.fl]) (R.e F h1) (R.e F h2) (notName_sw rfl _ _ _)
      · cases h
    · cases h
  · rename_i y py elt gens scope lpos spos
    split at h
    · rename_i i t' h1 h2
      split at h
      · cases h
        obtain ⟨tg, iter, ifs, it, nt, p, e, rfl, rfl, L⟩ := cLC_ok R F h2
        obtain ⟨k1, k2, k3⟩ := F.sto_ok h1
        have hsw := sw_lc (elt := elt) (gens := [⟨tg, iter, ifs, 0⟩]) (scope := scope) (pos := lpos) (py := py) (y := y) (l := spos.line) hf
        cases hb : swB X.env.scope y py lpos scope with
        | true =>
          rw [hb] at hsw
          have hl : X.env.scope.names.lookup y = some .local := by
            unfold swB at hb
            simp only [Bool.and_eq_true, decide_eq_true_eq] at hb
            exact hb.1.1.2
          exact s_lc F.calm F.nd k1 hl hsw L.hi L.ok L.hv L.hg L.ht L.he L.hs
        | false =>
          rw [hb] at hsw
          exact s_asg (e_lc F.calm F.nd L.hi L.ok L.hv L.hg L.ht L.he L.hs) (g_nm F.nd k1 k2 k3) hsw rfl rfl
      · cases h
    · cases h
  · rename_i tg e p _ _
    split at h
    · rename_i hc
      simp only [Bool.and_eq_true, Bool.or_eq_true, Bool.not_eq_true'] at hc
      split at h
      · rename_i h1 h2
        cases h
        refine s_asg (R.e F h1) (cG_ok R F h2) ?_ (noPar_sw hc.1.2 _) (assign_one hc.2 _)
        rcases hc.1.1 with z | z
        · exact notComp_sw z _ _ _
        · exact notName_sw z _ _ _
      · cases h
    · cases h
  · rename_i t1 t2 e p
    split at h
    · rename_i hc
      simp only [Bool.and_eq_true] at hc
      split at h
      · rename_i h1 h2 h3
        cases h
        refine ⟨ps_imp (ps_asg2 (R.e F h1).pe (cG_ok R F h2).pg (cG_ok R F h3).pg ?_ ?_) asg2_imp⟩
        · have e1 : notStar t1 = true := hc.1.1.2
          have e2 : notStar t2 = true := hc.1.2
          cases t1 <;> first | (simp [notStar] at e1; done) | (cases t2 <;> first | (simp [notStar] at e2; done) | rfl)
        · cases t1 <;> rfl
      · cases h
    · cases h
  · split at h
    · rename_i h1 h2 h3
      cases h
      obtain ⟨k1, k2, k3⟩ := F.sto_ok h1
      obtain ⟨rr, k4, k5⟩ := cIop_ok (X := X) (c := c) h3
      exact s_aug F.nd k1 k2 k3 (R.e F h2) k4 k5
    · cases h
  · split at h
    · rename_i h1 h2 h3
      cases h
      obtain ⟨rr, k4, k5⟩ := cIop_ok (X := X) (c := c) h3
      exact s_augF F.g.cla F.g.fnd (by unfold fix gfix; rw [F.g.fl]) (R.e F h1) (R.e F h2) k4 k5
    · cases h
  · cases h
theorem stepSs_ok (Kk : KsOk k c G T lv) (F : Fit Γ X c G T lv) (hp : PassesOwn (model X.prog X.w) X.A X.env X.xe) (hf : X.env.scope.kind = .function) {st : List Stmt} {t : TSd} (h : stepSs k Γ st = some t) : SsOk X c st t := by
  unfold stepSs at h
  split at h
  · cases h; exact ss_nil
  · exact ss_one (Kk.s F hp hf h)
  · split at h
    · rename_i h1 h2; cases h; exact ss_cons (Kk.s F hp hf h1) (Kk.ss F hp hf h2)
    · cases h
theorem ks_ok : ∀ n : Nat, KsOk (ks T G m n) c G T lv
  | 0 => ⟨fun _ _ _ h => (nomatch h), fun _ _ _ h => (nomatch h)⟩
  | n + 1 => ⟨fun F hp hf h => stepS_ok (cs_ok m) (ks_ok n) F hp hf h, fun F hp hf h => stepSs_ok (ks_ok n) F hp hf h⟩
end
end DL

/-! DL11: defs, programs. -/
namespace DL
open PySem L2

/-! ### what only a call has made is let go behind it -/
mutual
/-- its numbers are below n -/
def D.bel (n : Nat) : D → Bool
  | .ref m => decide (m < n)
  | .tup xs => D.bels n xs
  | .frl xs => D.bels n xs
  | _ => true
def D.bels (n : Nat) : List D → Bool
  | [] => true
  | x :: xs => D.bel n x && D.bels n xs
end
def MO.bel (n : Nat) : MO → Bool
  | .lst xs => D.bels n xs
  | .dct _ kvs => kvs.all fun p => D.bel n p.2
  | .ins _ fs => fs.all fun o => match o with
    | some d => D.bel n d
    | none => true
def RV.bel (n : Nat) : RV → Bool
  | .d x => D.bel n x
  | .fo o => MO.bel n o
section
variable {K : PySem.W.Frag} {c : Cla} {ρ : List Addr} {H : Hp} {n : Nat}
mutual
theorem DR.trim : ∀ {d : D} {v : V}, D.bel n d = true → DR K H ρ d v → DR K H (ρ.take n) d v
  | _, _, _, .non => .non
  | _, _, _, .bl => .bl
  | _, _, _, .int => .int
  | _, _, _, .str g => .str g
  | _, _, h, .tup s r => .tup s (DRs.trim (by simpa [D.bel] using h) r)
  | _, _, h, .frl s r => .frl s (DRs.trim (by simpa [D.bel] using h) r)
  | .ref m, _, h, .ref e => .ref (by
    have h' : m < n := by simpa [D.bel] using h
    rw [List.getElem?_take_of_lt h']; exact e)
  | _, _, _, .ty => .ty
theorem DRs.trim : ∀ {ds : List D} {vs : List V}, D.bels n ds = true → DRs K H ρ ds vs → DRs K H (ρ.take n) ds vs
  | _, _, _, .nil => .nil
  | _, _, h, .cons r t => by
    simp only [D.bels, Bool.and_eq_true] at h
    exact .cons (DR.trim h.1 r) (DRs.trim h.2 t)
end
mutual
theorem DR.bel : ∀ {d : D} {v : V}, DR K H ρ d v → D.bel ρ.length d = true
  | _, _, .non => rfl
  | _, _, .bl => rfl
  | _, _, .int => rfl
  | _, _, .str g => rfl
  | _, _, .tup s r => by simpa [D.bel] using DRs.bel r
  | _, _, .frl s r => by simpa [D.bel] using DRs.bel r
  | _, _, .ref e => by simpa [D.bel] using (List.getElem?_eq_some_iff.mp e).1
  | _, _, .ty => rfl
theorem DRs.bel : ∀ {ds : List D} {vs : List V}, DRs K H ρ ds vs → D.bels ρ.length ds = true
  | _, _, .nil => rfl
  | _, _, .cons r t => by simp [D.bels, DR.bel r, DRs.bel t]
end
mutual
theorem D.bel_mono {m : Nat} (h : n ≤ m) : ∀ d : D, D.bel n d = true → D.bel m d = true
  | .non, _ => rfl
  | .bl _, _ => rfl
  | .int _, _ => rfl
  | .str _, _ => rfl
  | .tup xs, q => by simpa [D.bel] using D.bels_mono h xs (by simpa [D.bel] using q)
  | .frl xs, q => by simpa [D.bel] using D.bels_mono h xs (by simpa [D.bel] using q)
  | .ref k, q => by
    have : k < n := by simpa [D.bel] using q
    simpa [D.bel] using Nat.lt_of_lt_of_le this h
  | .ty _, _ => rfl
theorem D.bels_mono {m : Nat} (h : n ≤ m) : ∀ ds : List D, D.bels n ds = true → D.bels m ds = true
  | [], _ => rfl
  | x :: xs, q => by
    simp only [D.bels, Bool.and_eq_true] at q ⊢
    exact ⟨D.bel_mono h x q.1, D.bels_mono h xs q.2⟩
end
theorem KRs.trim : ∀ {kvs : List (D × D)} {ws : List (Key × V)}, (kvs.all fun p => D.bel n p.2) = true → KRs K H ρ kvs ws → KRs K H (ρ.take n) kvs ws
  | _, _, _, .nil => .nil
  | _, _, h, .cons k r t => by
    simp only [List.all_cons, Bool.and_eq_true] at h
    exact .cons k (r.trim h.1) (KRs.trim h.2 t)
theorem KTs.trim : ∀ {kvs : List (D × D)} {ws : List (List Key × V)}, (kvs.all fun p => D.bel n p.2) = true → KTs K H ρ kvs ws → KTs K H (ρ.take n) kvs ws
  | _, _, _, .nil => .nil
  | _, _, h, .cons k r t => by
    simp only [List.all_cons, Bool.and_eq_true] at h
    exact .cons k (r.trim h.1) (KTs.trim h.2 t)
theorem sget_mem {d : D} : ∀ {fs : List (Option D)} {i : Nat}, sget fs i = some d → some d ∈ fs
  | [], _, h => nomatch h
  | x :: r, 0, h => by
    have : x = some d := h
    subst this; exact List.mem_cons_self
  | x :: r, i + 1, h => List.mem_cons_of_mem _ (sget_mem (show sget r i = some d from h))
theorem OR.trim {o : MO} {a : Addr} (hb : MO.bel n o = true) (h : OR K c H ρ o a) : OR K c H (ρ.take n) o a := by
  cases o with
  | lst ds => obtain ⟨vs, h1, h2⟩ := h; exact ⟨vs, h1, h2.trim hb⟩
  | dct t kvs => cases t with
    | false => obtain ⟨ws, h1, h2⟩ := h; exact ⟨ws, h1, h2.trim hb⟩
    | true => obtain ⟨ws, h1, h2⟩ := h; exact ⟨ws, h1, h2.trim hb⟩
  | ins i fs =>
    obtain ⟨C, dx, gs, h0, h1, h2⟩ := h
    refine ⟨C, dx, gs, h0, h1, h2.len, fun i f d e1 e2 => ?_, h2.nd, h2.sub⟩
    obtain ⟨v, k1, k2⟩ := h2.at_ i f d e1 e2
    have hd := List.all_eq_true.mp (show (fs.all fun o => match o with | some d => D.bel n d | none => true) = true from hb) _ (sget_mem e2)
    exact ⟨v, k1, k2.trim hd⟩
theorem KRs.bel : ∀ {kvs : List (D × D)} {ws : List (Key × V)}, KRs K H ρ kvs ws → (kvs.all fun p => D.bel ρ.length p.2) = true
  | _, _, .nil => rfl
  | _, _, .cons k r t => by simp only [List.all_cons, r.bel, KRs.bel t, Bool.and_self]
theorem KTs.bel : ∀ {kvs : List (D × D)} {ws : List (List Key × V)}, KTs K H ρ kvs ws → (kvs.all fun p => D.bel ρ.length p.2) = true
  | _, _, .nil => rfl
  | _, _, .cons k r t => by simp only [List.all_cons, r.bel, KTs.bel t, Bool.and_self]
theorem mem_sget {d : D} : ∀ {fs : List (Option D)}, some d ∈ fs → ∃ i, i < fs.length ∧ sget fs i = some d
  | [], h => by simp at h
  | x :: r, h => by
    rcases List.mem_cons.mp h with z | z
    · exact ⟨0, by simp, by rw [← z]; rfl⟩
    · obtain ⟨i, h1, h2⟩ := mem_sget z
      exact ⟨i + 1, by simpa using h1, h2⟩
theorem OR.bel {o : MO} {a : Addr} (h : OR K c H ρ o a) : MO.bel ρ.length o = true := by
  cases o with
  | lst ds => obtain ⟨vs, h1, h2⟩ := h; exact h2.bel
  | dct t kvs => cases t with
    | false => obtain ⟨ws, h1, h2⟩ := h; exact h2.bel
    | true => obtain ⟨ws, h1, h2⟩ := h; exact h2.bel
  | ins i fs =>
    obtain ⟨C, dx, gs, h0, h1, h2⟩ := h
    refine List.all_eq_true.mpr fun o ho => ?_
    cases o with
    | none => rfl
    | some d =>
      obtain ⟨j, hl, hj⟩ := mem_sget ho
      have hn : j < (c.fl.getD i []).length := by rw [← h2.len]; exact hl
      obtain ⟨v, _, k2⟩ := h2.at_ j _ d (List.getElem?_eq_getElem hn) hj
      exact k2.bel
theorem MO.bel_mono {m : Nat} (h : n ≤ m) {o : MO} (q : MO.bel n o = true) : MO.bel m o = true := by
  cases o with
  | lst ds => exact D.bels_mono h ds q
  | dct t kvs => exact List.all_eq_true.mpr fun p hp => D.bel_mono h p.2 (List.all_eq_true.mp q p hp)
  | ins i fs =>
    refine List.all_eq_true.mpr fun o ho => ?_
    have := List.all_eq_true.mp q o ho
    cases o with
    | none => rfl
    | some d => exact D.bel_mono h d this
end
/-- the memory behind a call: what stood at first, and what the answer holds -/
structure Gc (M0 : Mem) (n : Nat) (r : RV) (M : Mem) : Prop where
  le : M0.length ≤ n
  old : ∀ i o, i < n → M[i]? = some o → M0[i]? = some o ∨ MO.bel n o = true
  rv : RV.bel n r = true
inductive fin (M0 : Mem) (Q : RV → Mem → Prop) (r : RV) (M : Mem) : Prop
  | inl : Q r M → fin M0 Q r M
  | inr : (∃ n, Gc M0 n r M ∧ Q r (M.take n)) → fin M0 Q r M
theorem fin.elim {M0 : Mem} {Q : RV → Mem → Prop} {r : RV} {M : Mem} {p : Prop} (z : fin M0 Q r M) (a : Q r M → p) (b : (∃ n, Gc M0 n r M ∧ Q r (M.take n)) → p) : p := by
  cases z with
  | inl h => exact a h
  | inr h => exact b h
theorem gc_ok {K : PySem.W.Frag} {c : Cla} {ρ0 ρ : List Addr} {H0 H : Hp} {M0 M : Mem} {n : Nat} {r : RV} {v : V} (R0 : Rep K c ρ0 H0 M0) (E : Ext ρ0 H0 ρ H) (R : Rep K c ρ H M) (rv : RVR K c H0 H ρ r v) (g : Gc M0 n r M) :
    Ext ρ0 H0 (ρ.take n) H ∧ Rep K c (ρ.take n) H (M.take n) ∧ RVR K c H0 H (ρ.take n) r v := by
  obtain ⟨t, e⟩ := E.pre
  have hle : ρ0.length ≤ n := by rw [R0.len]; exact g.le
  refine ⟨⟨⟨t.take (n - ρ0.length), by rw [e, List.take_append, List.take_of_length_le hle]⟩, E.frm, E.imm, fun a h hn => E.new a (List.mem_of_mem_take h) hn, E.back⟩, ⟨by rw [List.length_take, List.length_take, R.len], R.nd.sublist (List.take_sublist _ _), fun i o a e1 e2 => ?_⟩, ?_⟩
  · have hi : i < n := by
      have := (List.getElem?_eq_some_iff.mp e1).1
      rw [List.length_take] at this; omega
    rw [List.getElem?_take_of_lt hi] at e1 e2
    refine (R.ok i o a e1 e2).trim ?_
    rcases g.old i o hi e1 with z | z
    · obtain ⟨a0, ha0, o0⟩ := R0.addr z
      exact MO.bel_mono hle o0.bel
    · exact z
  · cases rv with
    | d h => exact .d (h.trim g.rv)
    | fo h0 hn ho => exact .fo h0 (fun z => hn (List.mem_of_mem_take z)) (ho.trim g.rv)

/-! ### defs -/
def Cl.bot : Cl := ⟨fun _ _ _ => False, fun _ _ _ _ _ q => q⟩
def startD (n : Nat) (ds : List D) : Slots := ds.map some ++ List.replicate (n - ds.length) none
def bodyCl (b : TSd) (n : Nat) : Cl := ⟨fun ds M Q => b.t ⟨fun _ M' => fin M Q (.d .non) M', fun r M' => fin M Q r M', fun _ _ => False, fun _ _ => False⟩ (startD n ds) M, fun ds M Q Q' h q =>
  TSd.le (a := b) q ⟨fun _ M' z => z.elim (fun z => .inl (h _ _ z)) fun ⟨n, g, z⟩ => .inr ⟨n, g, h _ _ z⟩, fun _ M' z => z.elim (fun z => .inl (h _ _ z)) fun ⟨n, g, z⟩ => .inr ⟨n, g, h _ _ z⟩, fun _ _ z => z, fun _ _ z => z⟩⟩
def callG (bs : List (((Nat → Cl) → TSd) × Nat)) : Nat → Nat → Cl
  | 0, _ => Cl.bot
  | k + 1, i => match bs[i]? with
    | some (b, n) => bodyCl (b (callG bs k)) n
    | none => Cl.bot
theorem sget_startD {n : Nat} {ds : List D} {i : Nat} {d : D} (h : sget (startD n ds) i = some d) : ds[i]? = some d := by
  unfold startD at h
  induction ds generalizing i n with
  | nil =>
    have h' : sget (List.replicate (n - 0) none) i = some d := h
    rw [sget_rep] at h'; cases h'
  | cons x xs ih =>
    cases i with
    | zero => exact h
    | succ i =>
      have h' : sget (xs.map some ++ List.replicate (n - (xs.length + 1)) none) i = some d := h
      have e : n - (xs.length + 1) = (n - 1) - xs.length := by omega
      rw [e] at h'
      exact ih h'
theorem start_sl {K : PySem.W.Frag} {H : Hp} {ρ : List Addr} {N : List Str} {ds : List D} {vs : List V} (t : DRs K H ρ ds vs) : SlR K H ρ (startD N.length ds) (L2.start N vs) := by
  refine ⟨by simp [startD, L2.start, t.length], fun i d e => ?_⟩
  obtain ⟨v, hv, r⟩ := t.get (sget_startD e)
  refine ⟨v, ?_, r⟩
  unfold L2.start
  have hl : i < vs.length := (List.getElem?_eq_some_iff.mp hv).1
  rw [List.getElem?_append_left (by rw [List.length_map]; exact hl), List.getElem?_map, hv]
  rfl
/-- one def of the text: where it stands, its names, what it comes to -/
structure FnRec where
  f : Addr
  x : Str
  qual : Str
  st : Stmt
  N : List Str
  ps : List Str
  b : (Nat → Cl) → TSd
/-- how deep syntax is gone through -/
abbrev fuel : Nat := 60
structure FnFact (K : PySem.W.Frag) (T : Top) (r : FnRec) : Prop where
  F : ∃ fd, Fun K r.x r.qual r.st r.f fd ∧ Binds K fd r.ps []
  S : FnScope r.N r.ps (defScope r.st)
  C : ∀ G : Nat → Cl, (ks T G fuel fuel).ss ⟨r.N, defScope r.st, none⟩ (defBody r.st) = some (r.b G)
/-- the whole text -/
structure Pg (K : PySem.W.Frag) (mg : Str → Option Value) (c : Cla) (T : Top) (rs : List FnRec) : Prop where
  fns : ∀ (x : Str) (i n : Nat), T.fns.lookup x = some (i, n) → ∃ r, rs[i]? = some r ∧ mg x = some (.ref r.f) ∧ r.ps.length = n
  cls : ∀ (x : Str) (ci nf ini n : Nat), T.cls.lookup x = some (ci, nf, ini, n) → ∃ C r, c.ca[ci]? = some C ∧ (c.fl.getD ci []).length = nf ∧ mg x = some (.ref C) ∧ rs[ini]? = some r ∧ Mk K C r.f ∧ r.ps.length = n
  mts : ∀ (m : Str) (mx : List (Option (Nat × Nat))), T.mts.lookup m = some mx → ∀ (i : Nat) (C : Addr) (p : Nat × Nat), c.ca[i]? = some C → (mx[i]?).join = some p → Cls K C ∧ m ∉ c.fl.getD i [] ∧ ∃ r, rs[p.1]? = some r ∧ Meth K C m r.f ∧ r.ps.length = p.2
  fl : c.fl = T.fl
  cla : ClaOk K c
  fnd : ∀ i : Nat, (c.fl.getD i []).Nodup
  blt : ∀ x ∈ T.bls, mg x = none
  fn : ∀ (i : Nat) (r : FnRec), rs[i]? = some r → FnFact K T r
def bodies (rs : List FnRec) : List (((Nat → Cl) → TSd) × Nat) := rs.map fun r => (r.b, r.N.length)
theorem spC_bot {K : PySem.W.Frag} {c : Cla} {n : Nat} {vs : List V} {H : Hp} {Q : VK} {E : XK} (h : spC K c Cl.bot n vs H Q E) : False := h.2.elim fun _ h => h.elim fun _ h => h.elim fun _ h => h.2.2
section
variable {P : Program} {w : World} {K : PySem.W.Frag} {mg : Str → Option Value} {base : Heap} {c : Cla} {T : Top} {rs : List FnRec}
theorem all_fns (pg : Pg K mg c T rs) : ∀ (k i : Nat) (r : FnRec), rs[i]? = some r → ∃ fd, FnOk P w K mg base CX0 (2 * k) r.f fd r.ps (spC K c (callG (bodies rs) k i) r.ps.length) ∧ Binds K fd r.ps [] ∧ PySem.W.keepIn K (.ref r.f) = true ∧ Fun K r.x r.qual r.st r.f fd
  | 0, i, r, hr => by
    obtain ⟨⟨fd, F, B⟩, S, C⟩ := pg.fn i r hr
    exact ⟨fd, ⟨fun vs H Q E h => (spC_bot h).elim, fun A outer s H args us vs Q E _ _ _ _ h => (spC_bot h).elim⟩, B, F.kp, F⟩
  | k + 1, i, r, hr => by
    obtain ⟨⟨fd, F, B⟩, S, C⟩ := pg.fn i r hr
    refine ⟨fd, ?_, B, F.kp, F⟩
    have ih := all_fns pg k
    refine F.ok (k := 2 * k + 1) S (fun vs H Q E h => h.1) fun cdv A outer s H vs Q E room h => ?_
    obtain ⟨hl, ρ, M, ds, R, hd, q⟩ := h
    have hb : (bodies rs)[i]? = some (r.b, r.N.length) := by unfold bodies; rw [List.getElem?_map, hr]; rfl
    have eG : callG (bodies rs) (k + 1) i = bodyCl (r.b (callG (bodies rs) k)) r.N.length := by
      show (match (bodies rs)[i]? with | some (b, n) => bodyCl (b (callG (bodies rs) k)) n | none => Cl.bot) = _
      rw [hb]
    rw [eG] at q
    let X : Cx := (cxOf CX0 P w K mg base r.N r.qual (defScope r.st) r.f cdv A outer s H E).nox
    have fnin : ∀ j rj, rs[j]? = some rj → FnIn X c (callG (bodies rs) k j) rj.ps.length rj.f (2 * k) := fun j rj hj => by
      obtain ⟨fd', h1, h2, h3, _⟩ := ih j rj hj
      exact ⟨⟨fd', rj.ps, h1, h2, h3⟩⟩
    have gl : Glob X c (callG (bodies rs) k) T (2 * k) := {
      room := room
      fns := fun x i n e => by
        obtain ⟨rj, h1, h2, h3⟩ := pg.fns x i n e
        exact ⟨rj.f, h2, h3 ▸ fnin i rj h1⟩
      cls := fun x ci nf ini n e => by
        obtain ⟨C', rj, h1, h2, h3, h4, h5, h6⟩ := pg.cls x ci nf ini n e
        exact ⟨C', rj.f, h1, h2, h3, h5, h6 ▸ fnin ini rj h4⟩
      mts := fun m mx e => ⟨fun i C' p h1 h2 => by
        obtain ⟨k1, k2, rj, k3, k4, k5⟩ := pg.mts m mx e i C' p h1 h2
        exact ⟨k1, k2, rj.f, k4, k5 ▸ fnin p.1 rj k3⟩⟩
      fl := pg.fl
      cla := pg.cla
      fnd := pg.fnd
      blt := pg.blt }
    have fit : Fit ⟨r.N, defScope r.st, none⟩ X c (callG (bodies rs) k) T (2 * k) := {
      N := rfl
      nd := S.nd
      sc := rfl
      calm := rfl
      sto := fun x hl => ⟨.inl rfl, fun _ => rfl⟩
      g := gl }
    have so := (ks_ok (m := fuel) fuel).ss fit PassesOwn.never S.kind (C (callG (bodies rs) k))
    refine ⟨_, so.ps, ρ, startD r.N.length ds, M, start_sl hd, R, ?_⟩
    have fin_ok : ∀ (r1 : RV) (M1 : Mem) ρ1 H1 v, Ext ρ H ρ1 H1 → Rep K c ρ1 H1 M1 → RVR K c H H1 ρ1 r1 v → fin M (upR K c ρ H Q) r1 M1 → Q v H1 := fun r1 M1 ρ1 H1 v e1 R1 rv z => by
      rcases z with z | ⟨n, g, z⟩
      · exact z ρ1 H1 v e1 R1 rv
      · obtain ⟨a, b, d⟩ := gc_ok R e1 R1 rv g
        exact z _ _ _ a b d
    refine TSd.le (a := r.b (callG (bodies rs) k)) q ⟨fun s1 M1 z ρ1 σ1 H1 e1 S1 R1 => ?_, fun r1 M1 z ρ1 H1 v e1 R1 rv => ?_, fun _ _ z => z.elim, fun _ _ z => z.elim⟩
    · exact fin_ok _ _ ρ1 H1 _ e1 R1 (.d .non) z
    · exact fin_ok _ _ ρ1 H1 _ e1 R1 rv z
end

theorem lk_mem {α : Type} {x : Str} {v : α} : ∀ {l : List (Str × α)}, l.lookup x = some v → (x, v) ∈ l
  | [], h => nomatch h
  | (y, u) :: r, h => by
    rw [List.lookup_cons] at h
    cases hb : x == y with
    | true =>
      rw [hb] at h
      cases h
      rw [eq_of_beq hb]; exact List.mem_cons_self
    | false =>
      rw [hb] at h
      exact List.mem_cons_of_mem _ (lk_mem h)
/-! ### the law -/
def spLaw (K : PySem.W.Frag) (n : Nat) : Sp := fun vs H Q _ => ∃ (a : Addr) (ns : List Int), vs = [.ref a] ∧ SqL K H a (ns.map V.int) ∧ ns.length ≤ n ∧ Only H ∧ ∀ H', Q (.bl true) H'
theorem Fun.uniq {K : PySem.W.Frag} {x qual : Str} {st : Stmt} {f : Addr} {fd fd' : FuncData} (F : Fun K x qual st f fd) (F' : Fun K x qual st f fd') : fd = fd' := by
  obtain ⟨oc, od, kV, doc, pm, an, cdv, ct, osl, e, lk, _⟩ := F.ex
  obtain ⟨oc', od', kV', doc', pm', an', cdv', ct', osl', e', lk', _⟩ := F'.ex
  rw [lk] at lk'
  cases lk'
  rfl
theorem drs_ints {K : PySem.W.Frag} {H : Hp} {ρ : List Addr} : ∀ ns : List Int, DRs K H ρ (ns.map .int) (ns.map V.int)
  | [] => .nil
  | _ :: ns => .cons .int (drs_ints ns)
/-- the law's promise, from its callable at the data level -/
theorem law_of {l : PySem.W.OpenLaw} {q : Program} {loose : List Str} {XP : (Str → Option Value) → Heap → Prop} {YP : World → Heap → Prop} {d : DefRec} {K : Params → PySem.W.Frag} {n k : Nat} {bs : List (((Nat → Cl) → TSd) × Nat)} {li : Nat}
    (hn : l.most = some n) (hn2 : n ≤ sizeLine) (hdf : d.params.defaults = []) (hr : Room (2 * k) callerA) (hY : ∀ (w : World) (h : Heap), YP w h → (K w.params).In h)
    (F : ∀ (w : World) (mg : Str → Option Value) (fa : Addr) (h : Heap), (K w.params).In h → h.Ns mainGlobals mg → mg d.name = some (.ref fa) →
      ∃ (fd : FuncData) (c : Cla) (T : Top) (rs : List FnRec) (r : FnRec), (∀ (s : Shared) (u : Value), BindsTo s fd ⟨[u], []⟩ [("script", u)]) ∧ Pg (K w.params) mg c T rs ∧ bodies rs = bs ∧ rs[li]? = some r ∧ r.f = fa ∧ r.ps = ([("script" : Str)] : List Str) ∧ Fun (K w.params) r.x r.qual r.st r.f fd)
    (law : ∀ ns : List Int, ns.length ≤ n → (callG bs k li).t [.frl (ns.map .int)] [] (fun r _ => r = .d (.bl true))) :
    PySem.W.WalkO q loose XP YP l.row.toRowW d [] (fun f vs => PySem.call f vs) := by
  refine L2.walk_of (n := n) (k := 2 * k) (x := "script") (CX := fun _ => CX0) (sp := fun w => spLaw (K w.params) n) hn hn2 hdf hr hY (fun w mg fa h KX G hfa => ?_) (fun w H a ns hl hO hS => ⟨a, ns, rfl, hS, hl, hO, fun _ => rfl⟩) fun _ _ _ _ _ z => z
  obtain ⟨fd, c, T, rs, r, hb, pg, hbs, hr, rfl, hps, hF⟩ := F w mg fa h KX G hfa
  refine ⟨fd, hb, fun base _ _ => ?_⟩
  obtain ⟨fd', h1, _, _, hF'⟩ := all_fns (P := l.prog) (w := w) (base := base) pg k li r hr
  cases Fun.uniq hF hF'
  rw [hps] at h1
  refine h1.imp ?_
  rintro vs H Q E ⟨a, ns, rfl, hS, hl, hO, hQ⟩
  refine ⟨rfl, [], [], [.frl (ns.map .int)], ⟨rfl, List.nodup_nil, fun i o a e _ => by simp at e⟩, .cons (.frl ⟨hS, fun H' st => ?_⟩ (drs_ints ns)) .nil, ?_⟩
  · rcases hS with (z | ⟨o, z⟩) | z
    · rcases hO a with y | ⟨o, xs, y⟩
      · rw [z] at y; cases y
      · rw [z] at y; cases y
    · exact .inl (.inr ⟨o, st o _ z⟩)
    · exact .inr z
  · rw [hbs]
    refine (callG bs k li).mono _ _ _ _ (fun r M e => ?_) (law ns hl)
    subst e
    intro ρ' H' v _ _ rv
    cases rv with
    | d h => cases h; exact hQ H'
end DL

/-! DM1: reasoning at the data level. -/
namespace DL
open PySem L2

/-! ### memories -/
section
variable {M M0 t : Mem} {n m w : Nat} {o x : MO}
theorem g_lt (h : M[n]? = some o) : n < M.length := (List.getElem?_eq_some_iff.mp h).1
theorem g_l (h : n < M.length) : (M ++ t)[n]? = M[n]? := List.getElem?_append_left h
theorem g_r (h : M.length ≤ n) : (M ++ t)[n]? = t[n - M.length]? := List.getElem?_append_right h
theorem g_at : (M ++ [o])[M.length]? = some o := by simp
theorem g_eq (h : n < M.length) : (M.set n x)[n]? = some x := List.getElem?_set_self h
theorem g_eq' (e : m = n) (h : n < M.length) : (M.set n x)[m]? = some x := by subst e; exact List.getElem?_set_self h
theorem g_ne (h : n ≠ m) : (M.set n x)[m]? = M[m]? := List.getElem?_set_ne h
/-- what stood at first stands -/
def Pre (M0 M : Mem) : Prop := ∀ (i : Nat) (o : MO), M0[i]? = some o → M[i]? = some o
theorem Pre.refl : Pre M M := fun _ _ h => h
theorem Pre.app (h : Pre M0 M) : Pre M0 (M ++ t) := fun i o e => by rw [g_l (g_lt (h i o e))]; exact h i o e
theorem Pre.set (h : Pre M0 M) (hw : M0.length ≤ w) : Pre M0 (M.set w x) := fun i o e => by
  have := g_lt e
  rw [g_ne (by omega)]; exact h i o e
theorem Pre.len (h : Pre M0 M) : M0.length ≤ M.length := by
  cases hl : M0.length with
  | zero => exact Nat.zero_le _
  | succ n =>
    have : n < M0.length := by omega
    exact g_lt (h n _ (List.getElem?_eq_getElem this))
theorem Pre.take (h : Pre M0 M) : M.take M0.length = M0 := by
  apply List.ext_getElem?
  intro i
  by_cases hi : i < M0.length
  · rw [List.getElem?_take_of_lt hi, List.getElem?_eq_getElem hi]
    exact h i _ (List.getElem?_eq_getElem hi)
  · rw [List.getElem?_eq_none (by rw [List.length_take]; omega), List.getElem?_eq_none (by omega)]
theorem Pre.fin {Q : RV → Mem → Prop} {r : RV} (h : Pre M0 M) (hr : RV.bel M0.length r = true) (q : Q r M0) : fin M0 Q r M :=
  .inr ⟨M0.length, ⟨Nat.le_refl _, fun i o hi e => by
    rw [← h.take, List.getElem?_take_of_lt hi]; exact .inl e, hr⟩, by rw [h.take]; exact q⟩
theorem fin_here {Q : RV → Mem → Prop} {r : RV} (q : Q r M) : fin M0 Q r M := .inl q
end

/-! ### places -/
section
variable {α : Type} {xs : List α} {a b : α}
theorem ixN_nat {n i : Nat} (h : i < n) : ixN n (i : Int) = some i := by
  unfold ixN
  rw [if_pos (by omega), if_pos (by omega)]
  simp
theorem ixN_int {n : Nat} {i : Int} (h : 0 ≤ i) (h2 : i < n) : ixN n i = some i.toNat := by
  unfold ixN
  rw [if_pos h, if_pos h2]
theorem atI_nat {i : Nat} : atI xs (i : Int) = xs[i]? := by
  unfold atI
  by_cases h : i < xs.length
  · rw [ixN_nat h]; rfl
  · unfold ixN
    rw [if_pos (by omega), if_neg (by omega), List.getElem?_eq_none (by omega)]; rfl
theorem atI_int {i : Int} (h : 0 ≤ i) : atI xs i = xs[i.toNat]? := by
  have := atI_nat (xs := xs) (i := i.toNat)
  rw [Int.toNat_of_nonneg h] at this
  exact this
theorem atI_0 : atI (a :: xs) 0 = some a := atI_nat (i := 0)
theorem atI_1 : atI (a :: b :: xs) 1 = some b := atI_nat (i := 1)
theorem sIx_nat {n d i : Nat} : HT.sIx n d (some (i : Int)) = min i n := by
  show (if (i : Int) < 0 then ((i : Int) + (n : Nat)).toNat else min (i : Int).toNat n) = _
  rw [if_neg (by omega)]
  simp
theorem cut_to {i : Nat} : cutL xs none (some (i : Int)) = xs.take i := by
  unfold cutL
  rw [sIx_nat]
  simp [HT.sIx, List.take_eq_take_iff]
theorem cut_from {i : Nat} : cutL xs (some (i : Int)) none = xs.drop i := by
  unfold cutL
  rw [sIx_nat]
  simp only [HT.sIx]
  by_cases h : i ≤ xs.length
  · rw [Nat.min_eq_left h]
    exact List.take_of_length_le (by simp)
  · rw [Nat.min_eq_right (by omega)]
    simp; omega
theorem cut_toI {i : Int} (h : 0 ≤ i) : cutL xs none (some i) = xs.take i.toNat := by
  have := cut_to (xs := xs) (i := i.toNat)
  rw [Int.toNat_of_nonneg h] at this
  exact this
theorem cut_fromI {i : Int} (h : 0 ≤ i) : cutL xs (some i) none = xs.drop i.toNat := by
  have := cut_from (xs := xs) (i := i.toNat)
  rw [Int.toNat_of_nonneg h] at this
  exact this
theorem tn2 {a b : Nat} : ((a : Int) + (b : Int)).toNat = a + b := by omega
theorem cut_mid {a m : Nat} (h : a + m ≤ xs.length) : cutL xs (some (a : Int)) (some ((a : Int) + (m : Int))) = (xs.drop a).take m := by
  unfold cutL
  rw [← Int.natCast_add, sIx_nat, sIx_nat, Nat.min_eq_left h, Nat.min_eq_left (by omega)]
  congr 1; omega
theorem nc0 : ((0 : Nat) : Int) = 0 := rfl
theorem tn1 {n : Nat} : ((n : Int) + 1).toNat = n + 1 := by omega
theorem cut_all : cutL xs none none = xs := by simp [cutL, HT.sIx]
end

/-! ### loops -/
section
variable {xs : List D} {g : TGd} {b : TSd} {D : En} {s : Slots} {M : Mem}
theorem for_go {src : Src} {N : Nat} {item : Nat → _root_.DL.D} (I : Nat → Slots → Mem → Prop)
    (hgo : ∀ i s M, i < N → I i s M → src.go i M = some (some (item i))) (hst : ∀ s M, I N s M → src.go N M = some none)
    (hb : ∀ i s M, i < N → I i s M → g.t (.d (item i)) s M fun s1 M1 => b.t { nx := I (i + 1), ct := I (i + 1), bk := D.nx, rt := D.rt } s1 M1)
    (he : ∀ s M, I N s M → D.nx s M) (h0 : I 0 s M) : ∃ n, forN src g b D n 0 s M := by
  refine ⟨N + 1, ?_⟩
  have key : ∀ k i s M, i + k = N → I i s M → forN src g b D (k + 1) i s M := by
    intro k
    induction k with
    | zero =>
      intro i s M hi h
      have : i = N := by omega
      subst this
      unfold forN
      rw [hst s M h]
      exact he s M h
    | succ k ih =>
      intro i s M hi h
      unfold forN
      rw [hgo i s M (by omega) h]
      refine g.mono _ _ _ _ _ (fun s1 M1 q => ?_) (hb i s M (by omega) h)
      exact TSd.le (a := b) q ⟨fun s2 M2 z => ih (i + 1) s2 M2 (by omega) z, fun _ _ z => z, fun _ _ z => z, fun s2 M2 z => ih (i + 1) s2 M2 (by omega) z⟩
  exact key N 0 s M (by omega) h0
theorem for_fix (I : Nat → Slots → Mem → Prop) (h0 : I 0 s M)
    (hb : ∀ i (h : i < xs.length) s M, I i s M → g.t (.d xs[i]) s M fun s1 M1 => b.t { nx := I (i + 1), ct := I (i + 1), bk := D.nx, rt := D.rt } s1 M1)
    (he : ∀ s M, I xs.length s M → D.nx s M) : ∃ n, forN (srFix xs) g b D n 0 s M := by
  refine for_go (N := xs.length) (item := fun i => (xs[i]?).getD .non) I (fun i s M hi h => ?_) (fun s M h => ?_) (fun i s M hi h => ?_) he h0
  · show some xs[i]? = _
    rw [List.getElem?_eq_getElem hi]; rfl
  · show some xs[xs.length]? = _
    rw [List.getElem?_eq_none (Nat.le_refl _)]
  · simp only [List.getElem?_eq_getElem hi, Option.getD_some]
    exact hb i hi s M h
theorem for_mem {n : Nat} (I : Nat → Slots → Mem → Prop) (h0 : I 0 s M) (hm : ∀ i s M, I i s M → M[n]? = some (.lst xs))
    (hb : ∀ i (h : i < xs.length) s M, I i s M → g.t (.d xs[i]) s M fun s1 M1 => b.t { nx := I (i + 1), ct := I (i + 1), bk := D.nx, rt := D.rt } s1 M1)
    (he : ∀ s M, I xs.length s M → D.nx s M) : ∃ k, forN (srMem n) g b D k 0 s M := by
  refine for_go (N := xs.length) (item := fun i => (xs[i]?).getD .non) I (fun i s M hi h => ?_) (fun s M h => ?_) (fun i s M hi h => ?_) he h0
  · simp only [srMem, hm _ _ _ h, List.getElem?_eq_getElem hi]; rfl
  · simp only [srMem, hm _ _ _ h, List.getElem?_eq_none (Nat.le_refl _)]
  · simp only [List.getElem?_eq_getElem hi, Option.getD_some]
    exact hb i hi s M h
theorem for_rng {lo c : Int} {N : Nat} (I : Nat → Slots → Mem → Prop) (h0 : I 0 s M)
    (hb : ∀ i, i < N → ∀ s M, I i s M → g.t (.d (.int (lo + (i : Nat) * c))) s M fun s1 M1 => b.t { nx := I (i + 1), ct := I (i + 1), bk := D.nx, rt := D.rt } s1 M1)
    (he : ∀ s M, I N s M → D.nx s M) : ∃ n, forN (srRng lo c N) g b D n 0 s M := by
  refine for_go (N := N) (item := fun i => .int (lo + (i : Nat) * c)) I (fun i s M hi h => ?_) (fun s M h => ?_) (fun i s M hi h => hb i hi s M h) he h0
  · simp only [srRng, if_pos hi]
  · simp only [srRng, Nat.lt_irrefl, if_false]
theorem for_rng1 {lo : Int} {N : Nat} (I : Nat → Slots → Mem → Prop) (h0 : I 0 s M)
    (hb : ∀ i, i < N → ∀ s M, I i s M → g.t (.d (.int (lo + (i : Nat)))) s M fun s1 M1 => b.t { nx := I (i + 1), ct := I (i + 1), bk := D.nx, rt := D.rt } s1 M1)
    (he : ∀ s M, I N s M → D.nx s M) : ∃ n, forN (srRng lo 1 N) g b D n 0 s M :=
  for_rng I h0 (fun i hi s M h => by rw [Int.mul_one]; exact hb i hi s M h) he
theorem for_rng0 {N : Nat} (I : Nat → Slots → Mem → Prop) (h0 : I 0 s M)
    (hb : ∀ i, i < N → ∀ s M, I i s M → g.t (.d (.int (i : Nat))) s M fun s1 M1 => b.t { nx := I (i + 1), ct := I (i + 1), bk := D.nx, rt := D.rt } s1 M1)
    (he : ∀ s M, I N s M → D.nx s M) : ∃ n, forN (srRng 0 1 N) g b D n 0 s M :=
  for_rng I h0 (fun i hi s M h => by rw [Int.mul_one, Int.zero_add]; exact hb i hi s M h) he
/-- loops that nothing breaks -/
theorem for_rng0N {N : Nat} (I : Nat → Slots → Mem → Prop) (h0 : I 0 s M)
    (hb : ∀ i, i < N → ∀ s M, I i s M → g.t (.d (.int (i : Nat))) s M fun s1 M1 => b.t { nx := I (i + 1), ct := I (i + 1), bk := fun _ _ => False, rt := D.rt } s1 M1)
    (he : ∀ s M, I N s M → D.nx s M) : ∃ n, forN (srRng 0 1 N) g b D n 0 s M := by
  refine for_rng0 I h0 (fun i hi s M h => ?_) he
  have q := hb i hi s M h
  refine g.mono _ _ _ _ _ (fun s1 M1 z => ?_) q
  exact TSd.le (a := b) z ⟨fun _ _ z => z, fun _ _ z => z, fun _ _ z => z.elim, fun _ _ z => z⟩
theorem for_fixN (I : Nat → Slots → Mem → Prop) (h0 : I 0 s M)
    (hb : ∀ i (h : i < xs.length) s M, I i s M → g.t (.d xs[i]) s M fun s1 M1 => b.t { nx := I (i + 1), ct := I (i + 1), bk := fun _ _ => False, rt := D.rt } s1 M1)
    (he : ∀ s M, I xs.length s M → D.nx s M) : ∃ n, forN (srFix xs) g b D n 0 s M := by
  refine for_fix I h0 (fun i hi s M h => ?_) he
  have q := hb i hi s M h
  refine g.mono _ _ _ _ _ (fun s1 M1 z => ?_) q
  exact TSd.le (a := b) z ⟨fun _ _ z => z, fun _ _ z => z, fun _ _ z => z.elim, fun _ _ z => z⟩
theorem for_memN {n : Nat} (I : Nat → Slots → Mem → Prop) (h0 : I 0 s M) (hm : ∀ i s M, I i s M → M[n]? = some (.lst xs))
    (hb : ∀ i (h : i < xs.length) s M, I i s M → g.t (.d xs[i]) s M fun s1 M1 => b.t { nx := I (i + 1), ct := I (i + 1), bk := fun _ _ => False, rt := D.rt } s1 M1)
    (he : ∀ s M, I xs.length s M → D.nx s M) : ∃ k, forN (srMem n) g b D k 0 s M := by
  refine for_mem I h0 hm (fun i hi s M h => ?_) he
  have q := hb i hi s M h
  refine g.mono _ _ _ _ _ (fun s1 M1 z => ?_) q
  exact TSd.le (a := b) z ⟨fun _ _ z => z, fun _ _ z => z, fun _ _ z => z.elim, fun _ _ z => z⟩
/-- with one promise for the end and for break -/
theorem for_rng0P {N : Nat} (I : Nat → Slots → Mem → Prop) (P : Slots → Mem → Prop) (h0 : I 0 s M)
    (hb : ∀ i, i < N → ∀ s M, I i s M → g.t (.d (.int (i : Nat))) s M fun s1 M1 => b.t { nx := I (i + 1), ct := I (i + 1), bk := P, rt := D.rt } s1 M1)
    (he : ∀ s M, I N s M → P s M) (hp : ∀ s M, P s M → D.nx s M) : ∃ n, forN (srRng 0 1 N) g b D n 0 s M := by
  refine for_rng0 I h0 (fun i hi s M h => ?_) fun s M h => hp s M (he s M h)
  have q := hb i hi s M h
  refine g.mono _ _ _ _ _ (fun s1 M1 z => ?_) q
  exact TSd.le (a := b) z ⟨fun _ _ z => z, fun _ _ z => z, hp, fun _ _ z => z⟩
/-- comprehensions -/
theorem lc_go {src : Src} {N : Nat} {item : Nat → _root_.DL.D} {nt : NT} {p : TB} {e : TD} {Q : List _root_.DL.D → Mem → Prop} (I : Nat → List _root_.DL.D → Mem → Prop)
    (hgo : ∀ i a M, i < N → I i a M → src.go i M = some (some (item i))) (hst : ∀ a M, I N a M → src.go N M = some none)
    (hb : ∀ i acc M, i < N → I i acc M → okO (ntSet nt (item i) s) fun s1 => p.t s1 M fun b M1 => if b = true then e.t s1 M1 fun r M2 => asD r M2 fun x M3 => acc.length < 16777216 ∧ I (i + 1) (acc ++ [x]) M3 else I (i + 1) acc M1)
    (he : ∀ a M, I N a M → Q a M) (h0 : I 0 [] M) : ∃ n, lcN src nt p e s Q n 0 [] M := by
  refine ⟨N + 1, ?_⟩
  have key : ∀ k i acc M, i + k = N → I i acc M → lcN src nt p e s Q (k + 1) i acc M := by
    intro k
    induction k with
    | zero =>
      intro i acc M hi h
      have : i = N := by omega
      subst this
      unfold lcN
      rw [hst acc M h]
      exact he acc M h
    | succ k ih =>
      intro i acc M hi h
      unfold lcN
      rw [hgo i acc M (by omega) h]
      refine okO_mono (fun s1 => p.mono _ _ _ _ fun b M1 q1 => ?_) (hb i acc M (by omega) h)
      split at q1
      · rename_i hb
        rw [if_pos hb]
        exact e.mono _ _ _ _ (fun _ _ => asD_mono fun _ _ z => ⟨z.1, ih (i + 1) _ _ (by omega) z.2⟩) q1
      · rename_i hb
        rw [if_neg hb]
        exact ih (i + 1) _ _ (by omega) q1
  exact key N 0 [] M (by omega) h0
/-- a comprehension that changes nothing: what it keeps -/
theorem lc_map {src : Src} {N : Nat} {item : Nat → _root_.DL.D} {nt : NT} {p : TB} {e : TD} {Q : List _root_.DL.D → Mem → Prop} (f : _root_.DL.D → Option _root_.DL.D)
    (hgo : ∀ i, i < N → src.go i M = some (some (item i))) (hst : src.go N M = some none) (hN : N ≤ 16777216)
    (hb : ∀ i, i < N → okO (ntSet nt (item i) s) fun s1 => p.t s1 M fun b M1 => if b = true then e.t s1 M1 fun r M2 => asD r M2 fun x M3 => f (item i) = some x ∧ M3 = M else (f (item i) = none ∧ M1 = M))
    (he : Q (((List.range N).map item).filterMap f) M) : ∃ n, lcN src nt p e s Q n 0 [] M := by
  refine lc_go (N := N) (item := item) (fun i acc M' => M' = M ∧ acc = (((List.range i).map item).filterMap f) ∧ acc.length ≤ i) (fun i a M' hi h => ?_) (fun a M' h => ?_) (fun i acc M' hi h => ?_) (fun a M' h => ?_) ⟨rfl, rfl, Nat.le_refl _⟩
  · rw [h.1]; exact hgo i hi
  · rw [h.1]; exact hst
  · obtain ⟨rfl, h1, h2⟩ := h
    refine okO_mono (fun s1 => p.mono _ _ _ _ fun b M1 q1 => ?_) (hb i hi)
    split at q1
    · rename_i hb
      rw [if_pos hb]
      refine e.mono _ _ _ _ (fun _ _ => asD_mono fun x _ z => ⟨by omega, z.2, ?_, by simp; omega⟩) q1
      rw [List.range_succ, List.map_append, List.filterMap_append, ← h1]
      simp [z.1]
    · rename_i hb
      rw [if_neg hb]
      refine ⟨q1.2, ?_, by omega⟩
      rw [List.range_succ, List.map_append, List.filterMap_append, ← h1]
      simp [q1.1]
  · obtain ⟨rfl, h1, h2⟩ := h
    rw [h1]; exact he
end
theorem map_range_get {xs : List D} : (List.range xs.length).map (fun i => (xs[i]?).getD .non) = xs := by
  apply List.ext_getElem
  · simp
  · intro i h1 h2
    simp [List.getElem?_eq_getElem h2]
section
variable {xs : List D} {s : Slots} {M : Mem} {nt : NT} {p : TB} {e : TD} {Q : List D → Mem → Prop}
theorem lc_fix (f : D → Option D) (hN : xs.length ≤ 16777216)
    (hb : ∀ d ∈ xs, okO (ntSet nt d s) fun s1 => p.t s1 M fun b M1 => if b = true then e.t s1 M1 fun r M2 => asD r M2 fun x M3 => f d = some x ∧ M3 = M else (f d = none ∧ M1 = M))
    (he : Q (xs.filterMap f) M) : ∃ n, lcN (srFix xs) nt p e s Q n 0 [] M := by
  refine lc_map (N := xs.length) (item := fun i => (xs[i]?).getD .non) f (fun i hi => ?_) ?_ hN (fun i hi => ?_) (by rw [map_range_get]; exact he)
  · show some xs[i]? = _
    rw [List.getElem?_eq_getElem hi]; rfl
  · show some xs[xs.length]? = _
    rw [List.getElem?_eq_none (Nat.le_refl _)]
  · simp only [List.getElem?_eq_getElem hi, Option.getD_some]
    exact hb _ (List.getElem_mem hi)
theorem lc_fixm (f : D → D) (hN : xs.length ≤ 16777216)
    (hb : ∀ d ∈ xs, okO (ntSet nt d s) fun s1 => p.t s1 M fun b M1 => b = true ∧ e.t s1 M1 fun r M2 => asD r M2 fun x M3 => x = f d ∧ M3 = M)
    (he : Q (xs.map f) M) : ∃ n, lcN (srFix xs) nt p e s Q n 0 [] M := by
  refine lc_fix (fun d => some (f d)) hN (fun d hd => ?_) (by rw [List.filterMap_eq_map']; exact he)
  refine okO_mono (fun s1 => p.mono _ _ _ _ fun b M1 q1 => ?_) (hb d hd)
  rw [if_pos q1.1]
  exact e.mono _ _ _ _ (fun _ _ => asD_mono fun x _ z => ⟨by rw [z.1], z.2⟩) q1.2
theorem lc_mem {n : Nat} (f : D → Option D) (hm : M[n]? = some (.lst xs)) (hN : xs.length ≤ 16777216)
    (hb : ∀ d ∈ xs, okO (ntSet nt d s) fun s1 => p.t s1 M fun b M1 => if b = true then e.t s1 M1 fun r M2 => asD r M2 fun x M3 => f d = some x ∧ M3 = M else (f d = none ∧ M1 = M))
    (he : Q (xs.filterMap f) M) : ∃ k, lcN (srMem n) nt p e s Q k 0 [] M := by
  refine lc_map (N := xs.length) (item := fun i => (xs[i]?).getD .non) f (fun i hi => ?_) ?_ hN (fun i hi => ?_) (by rw [map_range_get]; exact he)
  · simp only [srMem, hm, List.getElem?_eq_getElem hi]; rfl
  · simp only [srMem, hm, List.getElem?_eq_none (Nat.le_refl _)]
  · simp only [List.getElem?_eq_getElem hi, Option.getD_some]
    exact hb _ (List.getElem_mem hi)
end

/-- one level of calls -/
def Lev (bs : List (((Nat → Cl) → TSd) × Nat)) (G G' : Nat → Cl) : Prop := ∀ i, G i = match bs[i]? with
  | some (b, n) => bodyCl (b G') n
  | none => Cl.bot
theorem lev_up {bs : List (((Nat → Cl) → TSd) × Nat)} {k : Nat} : Lev bs (callG bs (k + 1)) (callG bs k) := fun _ => rfl

theorem lc_rng0 {N : Nat} {s : Slots} {M : Mem} {nt : NT} {p : TB} {e : TD} {Q : List D → Mem → Prop} (I : Nat → List D → Mem → Prop) (h0 : I 0 [] M)
    (hb : ∀ i acc M, i < N → I i acc M → okO (ntSet nt (.int (i : Nat)) s) fun s1 => p.t s1 M fun b M1 => if b = true then e.t s1 M1 fun r M2 => asD r M2 fun x M3 => acc.length < 16777216 ∧ I (i + 1) (acc ++ [x]) M3 else I (i + 1) acc M1)
    (he : ∀ a M, I N a M → Q a M) : ∃ n, lcN (srRng 0 1 N) nt p e s Q n 0 [] M := by
  refine lc_go (N := N) (item := fun i => .int (i : Nat)) I (fun i a M hi h => ?_) (fun a M h => ?_) (fun i acc M hi h => hb i acc M hi h) he h0
  · simp only [srRng, if_pos hi, Int.mul_one, Int.zero_add]
  · simp only [srRng, Nat.lt_irrefl, if_false]
theorem at_lst {α : Type} {xs : List α} {a : α} : atI (xs ++ [a]) (-1) = some a := by
  unfold atI ixN
  rw [if_neg (by omega), if_pos (by simp; omega)]
  have : ((-1 : Int) + ((xs ++ [a]).length : Nat)).toNat = xs.length := by simp; omega
  simp only [Option.bind_some, this]
  simp
theorem lst_pop {α : Type} {xs : List α} {a : α} : (xs ++ [a])[(xs ++ [a]).length - 1]? = some a := by simp
theorem ix_lst {α : Type} {xs : List α} {a : α} : ixN (xs ++ [a]).length (-1) = some xs.length := by
  unfold ixN
  rw [if_neg (by omega), if_pos (by simp; omega)]
  simp; omega

/-! ### the helpers of every law -/
local macro_rules | `(tactic| walk_at "dis") => `(tactic| first | exact True.intro | assumption | omega | (simp only [CDiv, CMul, Sm, CPow, List.length_cons, List.length_nil, List.length_append, List.length_take, List.length_set, List.length_map, List.length_drop, List.length_range]; omega) | exact ⟨rfl, rfl⟩ | rfl | decide)
local macro_rules | `(tactic| walk_at "at") => `(tactic| simp (disch := ((try simp only [List.length_append, List.length_set, List.length_cons, List.length_nil]); omega)) only [dctOf, lstOf, lsOf, seqOf, kdOf, tyOfR, clsR, putL, g_l, g_r, g_at, g_eq, g_ne, atI_0, atI_1, at_lst, ix_lst, atI_int, ixN_int, cut_to, cut_from, cut_toI, cut_fromI, tn1, tn2, cut_mid, cut_all, Nat.sub_self, List.getElem?_cons_zero, List.getElem?_cons_succ, Int.toNat_one, Int.toNat_zero, Int.toNat_natCast, List.set_cons_zero, List.set_cons_succ, lst_pop, List.dropLast_concat, *])
local macro_rules | `(tactic| walk_at "go") => `(tactic| ((conv => whnf); repeat ((first | refine And.intro (by walk_at "dis") ?_ | walk_at "at"); (conv => whnf))))
theorem br {p A B : Prop} {d : Decidable p} (h1 : p → A) (h2 : ¬ p → B) : @Decidable.rec p (fun _ => Prop) (fun _ => B) (fun _ => A) d := by
  cases d with
  | isTrue h => exact h1 h
  | isFalse h => exact h2 h
theorem br_d {c A B : Prop} {i : Decidable c} {d : Decidable (decide c = true)} (h1 : c → A) (h2 : ¬ c → B) : @Decidable.rec (decide c = true) (fun _ => Prop) (fun _ => B) (fun _ => A) d :=
  br (fun h => h1 (of_decide_eq_true h)) fun h => h2 fun z => h (decide_eq_true z)
theorem br_nd {c A B : Prop} {i : Decidable c} {d : Decidable ((!decide c) = true)} (h1 : ¬ c → A) (h2 : c → B) : @Decidable.rec ((!decide c) = true) (fun _ => Prop) (fun _ => B) (fun _ => A) d :=
  br (fun h => h1 (by simpa using h)) fun h => h2 (by simpa using h)
theorem br_ne {x : Int} {A B : Prop} {d : Decidable ((x != 0) = true)} (h1 : x ≠ 0 → A) (h2 : x = 0 → B) : @Decidable.rec ((x != 0) = true) (fun _ => Prop) (fun _ => B) (fun _ => A) d :=
  br (fun h => h1 (by simpa using h)) fun h => h2 (by simpa using h)
/-- a draw -/
def gDraw : TSd := (sSeq (sAsg (tBin oIxA (tVar 0) (tLit (.int 1))) (gNm 2))
  (sSeq (sAsg (tBin oAdd (tVar 2) (tLit (.int 1))) (gSub (tVar 0) (tLit (.int 1))))
  (sSeq (sIf (bVal (tBin oLt (tVar 2) (tBi oLen (dsCons (tBin oIxA (tVar 0) (tLit (.int 0))) dsNil))))
  (sRet (tBin oMod (tBi oInt (dsCons (tBin oIxA (tBin oIxA (tVar 0) (tLit (.int 0))) (tVar 2)) dsNil)) (tVar 1)))
  sNx)
  (sRet (tLit (.int 0))))))
def Ints (ds : List D) : Prop := ∀ d ∈ ds, ∃ i, d = .int i
theorem Ints.get {ds : List D} (h : Ints ds) {n : Nat} (hn : n < ds.length) : ∃ i, ds[n]? = some (.int i) := by
  obtain ⟨i, e⟩ := h _ (List.getElem_mem hn)
  exact ⟨i, by rw [List.getElem?_eq_getElem hn, e]⟩
theorem draw_spec {M : Mem} {b d : Nat} {many i : Int} {rest ds : List D} {Q : RV → Mem → Prop}
    (h1 : M[b]? = some (.lst (.ref d :: .int i :: rest))) (h2 : M[d]? = some (.lst ds)) (hd : Ints ds) (hbd : b ≠ d) (hi : 0 ≤ i) (hm : 0 < many)
    (q : ∀ r, 0 ≤ r → r < many → Q (.d (.int r)) (M.set b (.lst (.ref d :: .int (i + 1) :: rest)))) : (bodyCl gDraw 3).t [.ref b, .int many] M Q := by
  have l1 := g_lt h1
  have l2 := g_lt h2
  walk_at "go"
  refine br_d (fun h => ?_) (fun h => ?_)
  · obtain ⟨v, hv⟩ := hd.get (n := i.toNat) (by omega)
    walk_at "go"
    exact fin_here (q _ (Int.emod_nonneg _ (by omega)) (Int.emod_lt_of_pos _ hm))
  · walk_at "go"
    exact fin_here (q _ (by omega) hm)

/-- same -/
def gSame_l (g : Cl) : TSd := (sIf (bNot (bTru (tCal g 2 (dsCons (tBin oIxA (tVar 0) (tVar 2)) (dsCons (tBin oIxA (tVar 1) (tVar 2)) dsNil)))))
  (sRet (tLit (.bl false)))
  sNx)
def gSame (g : Cl) : TSd := (sSeq (sIf (bTru (tBi oIsi (dsCons (tVar 1) (dsCons (tLit (.ty .tuple)) dsNil))))
  (sSeq (sIf (bOr (bNot (bTru (tBi oIsi (dsCons (tVar 0) (dsCons (tLit (.ty .tuple)) dsNil))))) (bVal (tBin oNe (tBi oLen (dsCons (tVar 0) dsNil)) (tBi oLen (dsCons (tVar 1) dsNil)))))
  (sRet (tLit (.bl false)))
  sNx)
  (sSeq (sFor (iRg1 (dsCons (tBi oLen (dsCons (tVar 1) dsNil)) dsNil)) (gNm 2) (gSame_l g))
  (sRet (tLit (.bl true)))))
  sNx)
  (sSeq (sIf (bVal (tBin oIs (tVar 1) (tLit .non)))
  (sRet (tBin oIs (tVar 0) (tLit .non)))
  sNx)
  (sSeq (sIf (bTru (tBi oIsi (dsCons (tVar 1) (dsCons (tLit (.ty .bool)) dsNil))))
  (sRet (tAndV (tBi oIsi (dsCons (tVar 0) (dsCons (tLit (.ty .bool)) dsNil))) (tBin oEq (tVar 0) (tVar 1))))
  sNx)
  (sSeq (sIf (bTru (tBi oIsi (dsCons (tVar 1) (dsCons (tLit (.ty .int)) dsNil))))
  (sRet (tAndV (tBi oIsi (dsCons (tVar 0) (dsCons (tLit (.ty .int)) dsNil))) (tAndV (tNotT (tBi oIsi (dsCons (tVar 0) (dsCons (tLit (.ty .bool)) dsNil)))) (tBin oEq (tVar 0) (tVar 1)))))
  sNx)
  (sRet (tAndV (tBi oIsi (dsCons (tVar 0) (dsCons (tLit (.ty .str)) dsNil))) (tBin oEq (tVar 0) (tVar 1))))))))
mutual
/-- plain data, at most so deep -/
def D.pl : Nat → D → Bool
  | _, .non => true
  | _, .bl _ => true
  | _, .int _ => true
  | _, .str _ => true
  | 0, .tup _ => false
  | n + 1, .tup xs => decide (xs.length ≤ 16777216) && D.pls n xs
  | _, .frl _ => false
  | _, .ref _ => false
  | _, .ty _ => false
def D.pls : Nat → List D → Bool
  | _, [] => true
  | n, x :: xs => D.pl n x && D.pls n xs
end
theorem pls_get : ∀ {xs : List D} {n i : Nat} (h : D.pls n xs = true) (hi : i < xs.length), D.pl n xs[i] = true
  | x :: xs, n, 0, h, _ => by simp only [D.pls, Bool.and_eq_true] at h; exact h.1
  | x :: xs, n, i + 1, h, hi => by
    simp only [D.pls, Bool.and_eq_true] at h
    exact pls_get (xs := xs) h.2 (by simpa using hi)
mutual
theorem pl_eqv : ∀ {n : Nat} {d : D}, D.pl n d = true → D.eqv d d = true
  | _, .non, _ => rfl
  | _, .bl b, _ => by simp [D.eqv]
  | _, .int i, _ => by simp [D.eqv]
  | _, .str s, _ => by simp [D.eqv]
  | n + 1, .tup xs, h => by
    simp only [D.pl, Bool.and_eq_true] at h
    simp only [D.eqv]
    exact pls_eqv h.2
  | 0, .tup xs, h => by simp [D.pl] at h
  | n, .frl xs, h => by cases n <;> simp [D.pl] at h
  | n, .ref xs, h => by cases n <;> simp [D.pl] at h
  | n, .ty xs, h => by cases n <;> simp [D.pl] at h
theorem pls_eqv : ∀ {n : Nat} {d : List D}, D.pls n d = true → D.eqvs d d = true
  | _, [], _ => rfl
  | n, x :: xs, h => by
    simp only [D.pls, Bool.and_eq_true] at h
    simp only [D.eqvs, Bool.and_eq_true]
    exact ⟨pl_eqv h.1, pls_eqv h.2⟩
end
mutual
theorem pl_fit : ∀ {n m : Nat} {d : D}, n ≤ m → D.pl n d = true → D.fit m d = true
  | _, m, .non, _, _ => by cases m <;> rfl
  | _, m, .bl b, _, _ => by cases m <;> rfl
  | _, m, .int i, _, _ => by cases m <;> rfl
  | _, m, .str s, _, _ => by cases m <;> rfl
  | n + 1, m + 1, .tup xs, l, h => by
    simp only [D.pl, Bool.and_eq_true] at h
    simp only [D.fit]
    exact pls_fit (by omega) h.2
  | n + 1, 0, .tup xs, l, h => by omega
  | 0, _, .tup xs, _, h => by simp [D.pl] at h
  | n, _, .frl xs, _, h => by cases n <;> simp [D.pl] at h
  | n, _, .ref xs, _, h => by cases n <;> simp [D.pl] at h
  | n, _, .ty xs, _, h => by cases n <;> simp [D.pl] at h
theorem pls_fit : ∀ {n m : Nat} {d : List D}, n ≤ m → D.pls n d = true → D.fits m d = true
  | _, m, [], _, _ => by cases m <;> rfl
  | n, m, x :: xs, l, h => by
    simp only [D.pls, Bool.and_eq_true] at h
    simp only [D.fits, Bool.and_eq_true]
    exact ⟨pl_fit l h.1, pls_fit l h.2⟩
end
theorem same_spec {g : Nat → Cl} (hg : ∀ k, g (k + 1) = bodyCl (gSame (g k)) 3) : ∀ (n k : Nat) {M : Mem} {d : D} {Q : RV → Mem → Prop}, n < k → D.pl n d = true → Q (.d (.bl true)) M → (g k).t [d, d] M Q := by
  intro n
  induction n using Nat.strongRecOn with
  | ind n ih =>
  intro k M d Q hk hd q
  obtain ⟨k, rfl⟩ : ∃ k', k = k' + 1 := ⟨k - 1, by omega⟩
  rw [hg]
  cases d with
  | non => walk_at "go"; exact fin_here q
  | bl b => cases b <;> (walk_at "go"; exact fin_here q)
  | int i =>
    walk_at "go"
    refine fin_here ?_
    show Q (.d (.bl (id (decide (i = i))))) M
    rw [decide_eq_true rfl]; exact q
  | str s =>
    walk_at "go"
    refine fin_here ?_
    show Q (.d (.bl (id (decide (s = s))))) M
    rw [decide_eq_true rfl]; exact q
  | tup xs =>
    have hx : xs.length ≤ 16777216 := by
      cases n with
      | zero => simp [D.pl] at hd
      | succ n => simp only [D.pl, Bool.and_eq_true, decide_eq_true_eq] at hd; exact hd.1
    walk_at "go"
    refine br (fun h => by simp [D.eqv] at h) (fun _ => ?_)
    walk_at "go"
    refine for_rng0 (fun i s M' => M' = M ∧ ∃ o, s = [some (.tup xs), some (.tup xs), o]) ⟨rfl, none, rfl⟩ (fun i hi s M' => ?_) (fun s M' => ?_)
    · rintro ⟨rfl, o, rfl⟩
      have hxi := List.getElem?_eq_getElem hi
      walk_at "go"
      cases n with
      | zero => simp [D.pl] at hd
      | succ n =>
        simp only [D.pl, Bool.and_eq_true] at hd
        refine ih n (by omega) k (by omega) (pls_get hd.2 hi) ?_
        walk_at "go"
        exact ⟨_, rfl⟩
    · rintro ⟨rfl, o, rfl⟩
      walk_at "go"
      exact fin_here q
  | frl xs => cases n <;> simp [D.pl] at hd
  | ref m => cases n <;> simp [D.pl] at hd
  | ty m => cases n <;> simp [D.pl] at hd

/-- a cell -/
def gCell : TSd := (sSeq (sIf (bVal (tBin oLt (tVar 1) (tBi oLen (dsCons (tVar 0) dsNil))))
  (sRet (tBin oIxA (tVar 0) (tVar 1)))
  sNx)
  (sRet (tLit (.int 0))))
theorem cell_spec {M : Mem} {k : Nat} {ns : List Int} {Q : RV → Mem → Prop} (q : ∀ i, Q (.d (.int i)) M) : (bodyCl gCell 2).t [.frl (ns.map .int), .int (k : Nat)] M Q := by
  walk_at "go"
  refine br_d (fun h => ?_) (fun h => ?_)
  · have h1 : k < (ns.map D.int).length := by omega
    have h2 := List.getElem?_eq_getElem h1
    rw [List.getElem_map] at h2
    walk_at "go"
    exact fin_here (q _)
  · walk_at "go"
    exact fin_here (q _)
/-- digits -/
def gDig_l2 : TSd := (sSeq (sAsg (tBin oMod (tBi oInt (dsCons (tBin oAdd (tBin oAdd (tBin oMul (tVar 7) (tLit (.int 16807))) (tBin oMul (tLit (.int 7)) (tVar 6))) (tLit (.int 1))) dsNil)) (tLit (.int 2147483647))) (gNm 7))
  (sExp (tBM "list" oApp (tVar 3) (dsCons (tBin oMod (tBi oInt (dsCons (tBin oDiv (tVar 7) (tLit (.int 997))) dsNil)) (tLit (.int 1000))) dsNil))))
def gDig_l1 : TSd := (sIf (bVal (tBin oGt (tVar 5) (tLit (.int 0))))
  (sSeq (sExp (tBM "list" oApp (tVar 3) (dsCons (tBin oMod (tBi oInt (dsCons (tVar 5) dsNil)) (tLit (.int 1000))) dsNil)))
  (sAsg (tBin oDiv (tVar 5) (tLit (.int 1000))) (gNm 5)))
  sNx)
def gDig_l0 (g : Cl) : TSd := (sSeq (sAsg (tCal g 2 (dsCons (tVar 0) (dsCons (tVar 4) dsNil))) (gNm 5))
  (sSeq (sIf (bVal (tBin oLt (tVar 5) (tLit (.int 0))))
  (sAsg (tBin oSub (tLit (.int 1)) (tBin oMul (tLit (.int 2)) (tVar 5))) (gNm 5))
  sNx)
  (sIf (bVal (tBin oGe (tVar 5) (tBin oPow (tLit (.int 10)) (tLit (.int 18)))))
  (sFor (iRg1 (dsCons (tLit (.int 60)) dsNil)) (gNm 6) gDig_l1)
  (sSeq (sAsg (tBin oMod (tBi oInt (dsCons (tBin oAdd (tBin oAdd (tBin oMul (tVar 5) (tLit (.int 48271))) (tBin oMul (tVar 4) (tLit (.int 69621)))) (tLit (.int 11))) dsNil)) (tLit (.int 2147483647))) (gNm 7))
  (sFor (iRg1 (dsCons (tLit (.int 12)) dsNil)) (gNm 6) gDig_l2)))))
def gDig (g : Cl) : TSd := (sSeq (sAsg (tLst dsNil) (gNm 3))
  (sSeq (sFor (iRg2 (dsCons (tVar 1) (dsCons (tVar 2) dsNil))) (gNm 4) (gDig_l0 g))
  (sRet (tVar 3))))
theorem Ints.nil : Ints [] := fun _ h => nomatch h
theorem Ints.snoc {ds : List D} {i : Int} (h : Ints ds) : Ints (ds ++ [.int i]) := fun d hd => (List.mem_append.mp hd).elim (h d) fun z => ⟨i, by simpa using z⟩
theorem set_last {M : Mem} {x y : MO} : (M ++ [x]).set M.length y = M ++ [y] := by simp
theorem dig_spec {g : Cl} {M : Mem} {a b : Nat} {ns : List Int} {Q : RV → Mem → Prop} (hg : ∀ (M : Mem) (k : Nat) (Q : RV → Mem → Prop), (∀ i, Q (.d (.int i)) M) → g.t [.frl (ns.map .int), .int (k : Nat)] M Q)
    (hb : a ≤ b) (hb2 : b ≤ 1000) (q : ∀ ds, Ints ds → Q (.d (.ref M.length)) (M ++ [.lst ds])) : (bodyCl (gDig g) 8).t [.frl (ns.map .int), .int (a : Nat), .int (b : Nat)] M Q := by
  walk_at "go"
  refine for_rng1 (fun i s M' => ∃ ds o4 o5 o6 o7, s = [some (.frl (ns.map .int)), some (.int a), some (.int b), some (.ref M.length), o4, o5, o6, o7] ∧ M' = M ++ [.lst ds] ∧ Ints ds ∧ ds.length ≤ 60 * i) ⟨[], _, _, _, _, rfl, rfl, Ints.nil, Nat.zero_le _⟩ (fun i hi s M' => ?_) (fun s M' => ?_)
  · rintro ⟨ds, o4, o5, o6, o7, rfl, rfl, hds, hl⟩
    walk_at "go"
    rw [← Int.natCast_add]
    refine hg _ _ _ fun v => ?_
    walk_at "go"
    refine br_d (fun h => ?_) (fun h => ?_) <;> walk_at "go" <;> refine br_d (fun h => ?_) (fun h => ?_) <;> walk_at "go"
    · refine for_rng0 (fun j s M' => ∃ ds w o6, s = [some (.frl (ns.map .int)), some (.int a), some (.int b), some (.ref M.length), some (.int ((a + i : Nat) : Int)), some (.int w), o6, o7] ∧ M' = M ++ [.lst ds] ∧ Ints ds ∧ ds.length ≤ 60 * i + j) ⟨ds, _, _, rfl, rfl, hds, hl⟩ (fun j hj s M' => ?_) (fun s M' => ?_)
      · rintro ⟨ds, w, o6, rfl, rfl, hds, hl⟩
        have hj' : j < 60 := hj
        walk_at "go"
        refine br_d (fun h => ?_) (fun h => ?_)
        · walk_at "go"
          exact ⟨_, _, _, rfl, set_last, hds.snoc, by simp; omega⟩
        · walk_at "go"
          exact ⟨_, _, _, rfl, rfl, hds, by omega⟩
      · rintro ⟨ds, w, o6, rfl, rfl, hds, hl⟩
        have hl' : ds.length ≤ 60 * i + 60 := hl
        walk_at "go"
        exact ⟨_, _, _, _, _, rfl, rfl, hds, by omega⟩
    · refine for_rng0 (fun j s M' => ∃ ds w o6, s = [some (.frl (ns.map .int)), some (.int a), some (.int b), some (.ref M.length), some (.int ((a + i : Nat) : Int)), some (.int (1 - 2 * v)), o6, some (.int w)] ∧ M' = M ++ [.lst ds] ∧ Ints ds ∧ ds.length ≤ 60 * i + j) ⟨ds, _, _, rfl, rfl, hds, hl⟩ (fun j hj s M' => ?_) (fun s M' => ?_)
      · rintro ⟨ds, w, o6, rfl, rfl, hds, hl⟩
        have hj' : j < 12 := hj
        walk_at "go"
        exact ⟨_, _, _, rfl, set_last, hds.snoc, by simp; omega⟩
      · rintro ⟨ds, w, o6, rfl, rfl, hds, hl⟩
        have hl' : ds.length ≤ 60 * i + 12 := hl
        walk_at "go"
        exact ⟨_, _, _, _, _, rfl, rfl, hds, by omega⟩
    · refine for_rng0 (fun j s M' => ∃ ds w o6, s = [some (.frl (ns.map .int)), some (.int a), some (.int b), some (.ref M.length), some (.int ((a + i : Nat) : Int)), some (.int w), o6, o7] ∧ M' = M ++ [.lst ds] ∧ Ints ds ∧ ds.length ≤ 60 * i + j) ⟨ds, _, _, rfl, rfl, hds, hl⟩ (fun j hj s M' => ?_) (fun s M' => ?_)
      · rintro ⟨ds, w, o6, rfl, rfl, hds, hl⟩
        have hj' : j < 60 := hj
        walk_at "go"
        refine br_d (fun h => ?_) (fun h => ?_)
        · walk_at "go"
          exact ⟨_, _, _, rfl, set_last, hds.snoc, by simp; omega⟩
        · walk_at "go"
          exact ⟨_, _, _, rfl, rfl, hds, by omega⟩
      · rintro ⟨ds, w, o6, rfl, rfl, hds, hl⟩
        have hl' : ds.length ≤ 60 * i + 60 := hl
        walk_at "go"
        exact ⟨_, _, _, _, _, rfl, rfl, hds, by omega⟩
    · refine for_rng0 (fun j s M' => ∃ ds w o6, s = [some (.frl (ns.map .int)), some (.int a), some (.int b), some (.ref M.length), some (.int ((a + i : Nat) : Int)), some (.int v), o6, some (.int w)] ∧ M' = M ++ [.lst ds] ∧ Ints ds ∧ ds.length ≤ 60 * i + j) ⟨ds, _, _, rfl, rfl, hds, hl⟩ (fun j hj s M' => ?_) (fun s M' => ?_)
      · rintro ⟨ds, w, o6, rfl, rfl, hds, hl⟩
        have hj' : j < 12 := hj
        walk_at "go"
        exact ⟨_, _, _, rfl, set_last, hds.snoc, by simp; omega⟩
      · rintro ⟨ds, w, o6, rfl, rfl, hds, hl⟩
        have hl' : ds.length ≤ 60 * i + 12 := hl
        walk_at "go"
        exact ⟨_, _, _, _, _, rfl, rfl, hds, by omega⟩
  · rintro ⟨ds, o4, o5, o6, o7, rfl, rfl, hds, hl⟩
    walk_at "go"
    exact fin_here (q _ hds)
/-- the box -/
def gBox (g : Cl) : TSd := (sRet (tLst (dsCons (tCal g 3 (dsCons (tVar 0) (dsCons (tVar 1) (dsCons (tVar 2) dsNil)))) (dsCons (tLit (.int 0)) (dsCons (tLit (.int 0)) (dsCons (tLit (.int 0)) (dsCons (tLit (.int 0)) (dsCons (tLst dsNil) dsNil))))))))
theorem box_spec {g : Cl} {M : Mem} {a b : Nat} {ns : List Int} {Q : RV → Mem → Prop} (hg : ∀ (Q : RV → Mem → Prop), (∀ ds, Ints ds → Q (.d (.ref M.length)) (M ++ [.lst ds])) → g.t [.frl (ns.map .int), .int (a : Nat), .int (b : Nat)] M Q)
    (q : ∀ ds, Ints ds → Q (.fo (.lst [.ref M.length, .int 0, .int 0, .int 0, .int 0, .ref (M.length + 1)])) (M ++ [.lst ds, .lst []])) : (bodyCl (gBox g) 3).t [.frl (ns.map .int), .int (a : Nat), .int (b : Nat)] M Q := by
  walk_at "go"
  refine hg _ fun ds hds => ?_
  walk_at "go"
  refine fin_here ?_
  have := q ds hds
  simpa using this
end DL

/-! printed by gen.py from the linked text: the defs at the data level -/
namespace Nk57
open PySem L2 DL
def top (i : Nat) : Stmt := PySem.Challenge.pw_pagehouse_k57_undoing.main.body.getD i (.Pass ⟨0, 0, 0, 0⟩)
/- 0: Undo.__init__ 0=self 1=text -/
def f0 (G : Nat → Cl) : TSd := (sSeq (sSetF [some 0] (tVar 0) (tVar 1))
  (sSeq (sSetF [some 1] (tVar 0) (tLst dsNil))
  (sSetF [some 2] (tVar 0) (tLst dsNil))))
/- 1: Undo.change 0=self 1=place 2=many 3=put 4=group -/
def f1 (G : Nat → Cl) : TSd := (sSeq (sIf (bVal (tBin oGt (tBin oAdd (tVar 1) (tVar 2)) (tBi oLen (dsCons (tFld [some 0] (tVar 0)) dsNil))))
  (sRet (tLit (.bl false)))
  sNx)
  (sSeq (sExp (tBM "list" oApp (tFld [some 1] (tVar 0)) (dsCons (tTup (dsCons (tVar 1) (dsCons (tSli (tFld [some 0] (tVar 0)) (oPt (tVar 1)) (oPt (tBin oAdd (tVar 1) (tVar 2)))) (dsCons (tVar 3) (dsCons (tVar 4) dsNil))))) dsNil)))
  (sSeq (sSetF [some 0] (tVar 0) (tBin oAdd (tBin oAdd (tSli (tFld [some 0] (tVar 0)) oNo (oPt (tVar 1))) (tVar 3)) (tSli (tFld [some 0] (tVar 0)) (oPt (tBin oAdd (tVar 1) (tVar 2))) oNo)))
  (sSeq (sSetF [some 2] (tVar 0) (tLst dsNil))
  (sRet (tLit (.bl true)))))))
/- 2: Undo.undo 0=self 1=many 2=place 3=taken 4=put 5=group -/
def f2_l0 (G : Nat → Cl) : TSd := (sSeq (sAsg (tBM "list" oPop (tFld [some 1] (tVar 0)) dsNil) (gTp 4 (gsCons (gNm 2) (gsCons (gNm 3) (gsCons (gNm 4) (gsCons (gNm 5) gsNil))))))
  (sSeq (sSetF [some 0] (tVar 0) (tBin oAdd (tBin oAdd (tSli (tFld [some 0] (tVar 0)) oNo (oPt (tVar 2))) (tVar 3)) (tSli (tFld [some 0] (tVar 0)) (oPt (tBin oAdd (tVar 2) (tBi oLen (dsCons (tVar 4) dsNil)))) oNo)))
  (sSeq (sExp (tBM "list" oApp (tFld [some 2] (tVar 0)) (dsCons (tTup (dsCons (tVar 2) (dsCons (tVar 3) (dsCons (tVar 4) (dsCons (tVar 5) dsNil))))) dsNil)))
  (sAug 1 oIAdd (tLit (.int 1))))))
def f2 (G : Nat → Cl) : TSd := (sSeq (sAsg (tLit (.int 0)) (gNm 1))
  (sSeq (sWhl (bAnd (bTru (tFld [some 1] (tVar 0))) (bOr (bVal (tBin oEq (tVar 1) (tLit (.int 0)))) (bTru (tCal (G 4) 2 (dsCons (tBin oIxA (tFld [some 1] (tVar 0)) (tUno oNeg (tLit (.int 1)))) (dsCons (tBin oIxA (tFld [some 2] (tVar 0)) (tUno oNeg (tLit (.int 1)))) dsNil)))))) (f2_l0 G))
  (sRet (tVar 1))))
/- 3: Undo.redo 0=self 1=many 2=place 3=taken 4=put 5=group -/
def f3_l0 (G : Nat → Cl) : TSd := (sSeq (sAsg (tBM "list" oPop (tFld [some 2] (tVar 0)) dsNil) (gTp 4 (gsCons (gNm 2) (gsCons (gNm 3) (gsCons (gNm 4) (gsCons (gNm 5) gsNil))))))
  (sSeq (sSetF [some 0] (tVar 0) (tBin oAdd (tBin oAdd (tSli (tFld [some 0] (tVar 0)) oNo (oPt (tVar 2))) (tVar 4)) (tSli (tFld [some 0] (tVar 0)) (oPt (tBin oAdd (tVar 2) (tBi oLen (dsCons (tVar 3) dsNil)))) oNo)))
  (sSeq (sExp (tBM "list" oApp (tFld [some 1] (tVar 0)) (dsCons (tTup (dsCons (tVar 2) (dsCons (tVar 3) (dsCons (tVar 4) (dsCons (tVar 5) dsNil))))) dsNil)))
  (sAug 1 oIAdd (tLit (.int 1))))))
def f3 (G : Nat → Cl) : TSd := (sSeq (sAsg (tLit (.int 0)) (gNm 1))
  (sSeq (sWhl (bAnd (bTru (tFld [some 2] (tVar 0))) (bOr (bVal (tBin oEq (tVar 1) (tLit (.int 0)))) (bTru (tCal (G 4) 2 (dsCons (tBin oIxA (tFld [some 2] (tVar 0)) (tUno oNeg (tLit (.int 1)))) (dsCons (tBin oIxA (tFld [some 1] (tVar 0)) (tUno oNeg (tLit (.int 1)))) dsNil)))))) (f3_l0 G))
  (sRet (tVar 1))))
/- 4: same_group 0=one 1=two -/
def f4 (G : Nat → Cl) : TSd := (sRet (tAndV (tBin oIsNot (tBin oIxA (tVar 0) (tLit (.int 3))) (tLit .non)) (tBin oEq (tBin oIxA (tVar 0) (tLit (.int 3))) (tBin oIxA (tVar 1) (tLit (.int 3))))))
/- 5: typed 0=changes 1=found 2=place 3=taken 4=put 5=group 6=first 7=_ 8=before -/
def f5_l0 (G : Nat → Cl) : TSd := (sSeq (sIf (bAnd (bTru (tVar 1)) (bAnd (bVal (tBin oEq (tVar 3) (tLit (.str [])))) (bAnd (bVal (tBin oEq (tBin oIxA (tBin oIxA (tVar 1) (tUno oNeg (tLit (.int 1)))) (tLit (.int 1))) (tLit (.str [])))) (bTru (tCal (G 4) 2 (dsCons (tBin oIxA (tVar 1) (tUno oNeg (tLit (.int 1)))) (dsCons (tTup (dsCons (tVar 2) (dsCons (tVar 3) (dsCons (tVar 4) (dsCons (tVar 5) dsNil))))) dsNil)))))))
  (sSeq (sAsg (tBin oIxA (tVar 1) (tUno oNeg (tLit (.int 1)))) (gTp 4 (gsCons (gNm 6) (gsCons (gNm 7) (gsCons (gNm 8) (gsCons (gNm 7) gsNil))))))
  (sIf (bVal (tBin oEq (tVar 2) (tBin oAdd (tVar 6) (tBi oLen (dsCons (tVar 8) dsNil)))))
  (sSeq (sAsg (tTup (dsCons (tVar 6) (dsCons (tLit (.str [])) (dsCons (tBin oAdd (tVar 8) (tVar 4)) (dsCons (tVar 5) dsNil))))) (gSub (tVar 1) (tUno oNeg (tLit (.int 1)))))
  sCt)
  sNx))
  sNx)
  (sExp (tBM "list" oApp (tVar 1) (dsCons (tTup (dsCons (tVar 2) (dsCons (tVar 3) (dsCons (tVar 4) (dsCons (tVar 5) dsNil))))) dsNil))))
def f5 (G : Nat → Cl) : TSd := (sSeq (sAsg (tLst dsNil) (gNm 1))
  (sSeq (sFor (iSeq (tVar 0)) (gTp 4 (gsCons (gNm 2) (gsCons (gNm 3) (gsCons (gNm 4) (gsCons (gNm 5) gsNil))))) (f5_l0 G))
  (sRet (tBi oTpl (dsCons (tVar 1) dsNil)))))
/- 6: _law_box 0=script 1=first 2=last -/
def f6 (G : Nat → Cl) : TSd := (sRet (tLst (dsCons (tCal (G 7) 3 (dsCons (tVar 0) (dsCons (tVar 1) (dsCons (tVar 2) dsNil)))) (dsCons (tLit (.int 0)) (dsCons (tLit (.int 0)) (dsCons (tLit (.int 0)) (dsCons (tLit (.int 0)) (dsCons (tLst dsNil) dsNil))))))))
/- 7: _law_digits 0=script 1=first 2=last 3=digits 4=k 5=cell 6=turn 7=seed -/
def f7_l2 (G : Nat → Cl) : TSd := (sSeq (sAsg (tBin oMod (tBi oInt (dsCons (tBin oAdd (tBin oAdd (tBin oMul (tVar 7) (tLit (.int 16807))) (tBin oMul (tLit (.int 7)) (tVar 6))) (tLit (.int 1))) dsNil)) (tLit (.int 2147483647))) (gNm 7))
  (sExp (tBM "list" oApp (tVar 3) (dsCons (tBin oMod (tBi oInt (dsCons (tBin oDiv (tVar 7) (tLit (.int 997))) dsNil)) (tLit (.int 1000))) dsNil))))
def f7_l1 (G : Nat → Cl) : TSd := (sIf (bVal (tBin oGt (tVar 5) (tLit (.int 0))))
  (sSeq (sExp (tBM "list" oApp (tVar 3) (dsCons (tBin oMod (tBi oInt (dsCons (tVar 5) dsNil)) (tLit (.int 1000))) dsNil)))
  (sAsg (tBin oDiv (tVar 5) (tLit (.int 1000))) (gNm 5)))
  sNx)
def f7_l0 (G : Nat → Cl) : TSd := (sSeq (sAsg (tCal (G 8) 2 (dsCons (tVar 0) (dsCons (tVar 4) dsNil))) (gNm 5))
  (sSeq (sIf (bVal (tBin oLt (tVar 5) (tLit (.int 0))))
  (sAsg (tBin oSub (tLit (.int 1)) (tBin oMul (tLit (.int 2)) (tVar 5))) (gNm 5))
  sNx)
  (sIf (bVal (tBin oGe (tVar 5) (tBin oPow (tLit (.int 10)) (tLit (.int 18)))))
  (sFor (iRg1 (dsCons (tLit (.int 60)) dsNil)) (gNm 6) (f7_l1 G))
  (sSeq (sAsg (tBin oMod (tBi oInt (dsCons (tBin oAdd (tBin oAdd (tBin oMul (tVar 5) (tLit (.int 48271))) (tBin oMul (tVar 4) (tLit (.int 69621)))) (tLit (.int 11))) dsNil)) (tLit (.int 2147483647))) (gNm 7))
  (sFor (iRg1 (dsCons (tLit (.int 12)) dsNil)) (gNm 6) (f7_l2 G))))))
def f7 (G : Nat → Cl) : TSd := (sSeq (sAsg (tLst dsNil) (gNm 3))
  (sSeq (sFor (iRg2 (dsCons (tVar 1) (dsCons (tVar 2) dsNil))) (gNm 4) (f7_l0 G))
  (sRet (tVar 3))))
/- 8: _law_cell 0=script 1=k -/
def f8 (G : Nat → Cl) : TSd := (sSeq (sIf (bVal (tBin oLt (tVar 1) (tBi oLen (dsCons (tVar 0) dsNil))))
  (sRet (tBin oIxA (tVar 0) (tVar 1)))
  sNx)
  (sRet (tLit (.int 0))))
/- 9: _law_text_of 0=box 1=signs 2=most 3=k -/
def f9 (G : Nat → Cl) : TSd := (sRet (tBM "str" oJoin (tLit (.str [])) (dsCons (tLC (iRg1 (dsCons (tCal (G 10) 2 (dsCons (tVar 0) (dsCons (tBin oAdd (tVar 2) (tLit (.int 1))) dsNil))) dsNil)) (.nm 3) bYes (tBin oIxA (tVar 1) (tBin oMod (tBi oInt (dsCons (tCal (G 10) 2 (dsCons (tVar 0) (dsCons (tLit (.int 1000)) dsNil))) dsNil)) (tBi oLen (dsCons (tVar 1) dsNil)))) [3]) dsNil)))
/- 10: _law_draw 0=box 1=many 2=at -/
def f10 (G : Nat → Cl) : TSd := (sSeq (sAsg (tBin oIxA (tVar 0) (tLit (.int 1))) (gNm 2))
  (sSeq (sAsg (tBin oAdd (tVar 2) (tLit (.int 1))) (gSub (tVar 0) (tLit (.int 1))))
  (sSeq (sIf (bVal (tBin oLt (tVar 2) (tBi oLen (dsCons (tBin oIxA (tVar 0) (tLit (.int 0))) dsNil))))
  (sRet (tBin oMod (tBi oInt (dsCons (tBin oIxA (tBin oIxA (tVar 0) (tLit (.int 0))) (tVar 2)) dsNil)) (tVar 1)))
  sNx)
  (sRet (tLit (.int 0))))))
/- 11: _law_same 0=actual 1=expected 2=k -/
def f11_l0 (G : Nat → Cl) : TSd := (sIf (bNot (bTru (tCal (G 11) 2 (dsCons (tBin oIxA (tVar 0) (tVar 2)) (dsCons (tBin oIxA (tVar 1) (tVar 2)) dsNil)))))
  (sRet (tLit (.bl false)))
  sNx)
def f11 (G : Nat → Cl) : TSd := (sSeq (sIf (bTru (tBi oIsi (dsCons (tVar 1) (dsCons (tLit (.ty .tuple)) dsNil))))
  (sSeq (sIf (bOr (bNot (bTru (tBi oIsi (dsCons (tVar 0) (dsCons (tLit (.ty .tuple)) dsNil))))) (bVal (tBin oNe (tBi oLen (dsCons (tVar 0) dsNil)) (tBi oLen (dsCons (tVar 1) dsNil)))))
  (sRet (tLit (.bl false)))
  sNx)
  (sSeq (sFor (iRg1 (dsCons (tBi oLen (dsCons (tVar 1) dsNil)) dsNil)) (gNm 2) (f11_l0 G))
  (sRet (tLit (.bl true)))))
  sNx)
  (sSeq (sIf (bVal (tBin oIs (tVar 1) (tLit .non)))
  (sRet (tBin oIs (tVar 0) (tLit .non)))
  sNx)
  (sSeq (sIf (bTru (tBi oIsi (dsCons (tVar 1) (dsCons (tLit (.ty .bool)) dsNil))))
  (sRet (tAndV (tBi oIsi (dsCons (tVar 0) (dsCons (tLit (.ty .bool)) dsNil))) (tBin oEq (tVar 0) (tVar 1))))
  sNx)
  (sSeq (sIf (bTru (tBi oIsi (dsCons (tVar 1) (dsCons (tLit (.ty .int)) dsNil))))
  (sRet (tAndV (tBi oIsi (dsCons (tVar 0) (dsCons (tLit (.ty .int)) dsNil))) (tAndV (tNotT (tBi oIsi (dsCons (tVar 0) (dsCons (tLit (.ty .bool)) dsNil)))) (tBin oEq (tVar 0) (tVar 1)))))
  sNx)
  (sRet (tAndV (tBi oIsi (dsCons (tVar 0) (dsCons (tLit (.ty .str)) dsNil))) (tBin oEq (tVar 0) (tVar 1))))))))
/- 12: law 0=script 1=box 2=text 3=work 4=done 5=undone 6=turn 7=changes 8=k 9=due 10=kind 11=place 12=taken 13=put 14=group 15=joins 16=many 17=fits 18=count 19=last 20=before 21=behind -/
def f12_l4 (G : Nat → Cl) : TSd := (sSeq (sAsg (tAndV (tBin oGt (tBi oLen (dsCons (tVar 9) dsNil)) (tLit (.int 0))) (tAndV (tBin oIsNot (tVar 14) (tLit .non)) (tAndV (tBin oEq (tBin oIxA (tBin oIxA (tVar 9) (tUno oNeg (tLit (.int 1)))) (tLit (.int 3))) (tVar 14)) (tAndV (tBin oEq (tVar 12) (tLit (.str []))) (tBin oEq (tBin oIxA (tBin oIxA (tVar 9) (tUno oNeg (tLit (.int 1)))) (tLit (.int 1))) (tLit (.str []))))))) (gNm 15))
  (sIf (bAnd (bTru (tVar 15)) (bVal (tBin oEq (tVar 11) (tBin oAdd (tBin oIxA (tBin oIxA (tVar 9) (tUno oNeg (tLit (.int 1)))) (tLit (.int 0))) (tBi oLen (dsCons (tBin oIxA (tBin oIxA (tVar 9) (tUno oNeg (tLit (.int 1)))) (tLit (.int 2))) dsNil))))))
  (sAsg (tTup (dsCons (tBin oIxA (tBin oIxA (tVar 9) (tUno oNeg (tLit (.int 1)))) (tLit (.int 0))) (dsCons (tLit (.str [])) (dsCons (tBin oAdd (tBin oIxA (tBin oIxA (tVar 9) (tUno oNeg (tLit (.int 1)))) (tLit (.int 2))) (tVar 13)) (dsCons (tVar 14) dsNil))))) (gSub (tVar 9) (tUno oNeg (tLit (.int 1)))))
  (sExp (tBM "list" oApp (tVar 9) (dsCons (tTup (dsCons (tVar 11) (dsCons (tVar 12) (dsCons (tVar 13) (dsCons (tVar 14) dsNil))))) dsNil)))))
def f12_l3 (G : Nat → Cl) : TSd := (sExp (tBM "list" oApp (tVar 7) (dsCons (tTup (dsCons (tCal (G 10) 2 (dsCons (tVar 1) (dsCons (tLit (.int 4)) dsNil))) (dsCons (tBin oIxA (tLst (dsCons (tLit (.str [])) (dsCons (tLit (.str [])) (dsCons (tLit (.str [116])) dsNil)))) (tCal (G 10) 2 (dsCons (tVar 1) (dsCons (tLit (.int 3)) dsNil)))) (dsCons (tSli (tLit (.str [112, 113])) oNo (oPt (tBin oAdd (tLit (.int 1)) (tCal (G 10) 2 (dsCons (tVar 1) (dsCons (tLit (.int 2)) dsNil)))))) (dsCons (tBin oIxA (tLst (dsCons (tLit .non) (dsCons (tLit (.int 1)) (dsCons (tLit (.int 1)) dsNil)))) (tCal (G 10) 2 (dsCons (tVar 1) (dsCons (tLit (.int 3)) dsNil)))) dsNil))))) dsNil)))
def f12_l2 (G : Nat → Cl) : TSd := (sIf (bAnd (bVal (tBin oGt (tBi oLen (dsCons (tVar 5) dsNil)) (tLit (.int 0)))) (bOr (bVal (tBin oEq (tVar 18) (tLit (.int 0)))) (bAnd (bVal (tBin oIsNot (tBin oIxA (tBin oIxA (tVar 5) (tUno oNeg (tLit (.int 1)))) (tLit (.int 1))) (tLit .non))) (bVal (tBin oEq (tBin oIxA (tBin oIxA (tVar 5) (tUno oNeg (tLit (.int 1)))) (tLit (.int 1))) (tVar 19))))))
  (sSeq (sAsg (tBM "list" oPop (tVar 5) dsNil) (gTp 2 (gsCons (gNm 21) (gsCons (gNm 19) gsNil))))
  (sSeq (sExp (tBM "list" oApp (tVar 4) (dsCons (tTup (dsCons (tVar 2) (dsCons (tVar 19) dsNil))) dsNil)))
  (sSeq (sAsg (tVar 21) (gNm 2))
  (sAsg (tBin oAdd (tVar 18) (tLit (.int 1))) (gNm 18)))))
  sBk)
def f12_l1 (G : Nat → Cl) : TSd := (sIf (bAnd (bVal (tBin oGt (tBi oLen (dsCons (tVar 4) dsNil)) (tLit (.int 0)))) (bOr (bVal (tBin oEq (tVar 18) (tLit (.int 0)))) (bAnd (bVal (tBin oIsNot (tBin oIxA (tBin oIxA (tVar 4) (tUno oNeg (tLit (.int 1)))) (tLit (.int 1))) (tLit .non))) (bVal (tBin oEq (tBin oIxA (tBin oIxA (tVar 4) (tUno oNeg (tLit (.int 1)))) (tLit (.int 1))) (tVar 19))))))
  (sSeq (sAsg (tBM "list" oPop (tVar 4) dsNil) (gTp 2 (gsCons (gNm 20) (gsCons (gNm 19) gsNil))))
  (sSeq (sExp (tBM "list" oApp (tVar 5) (dsCons (tTup (dsCons (tVar 2) (dsCons (tVar 19) dsNil))) dsNil)))
  (sSeq (sAsg (tVar 20) (gNm 2))
  (sAsg (tBin oAdd (tVar 18) (tLit (.int 1))) (gNm 18)))))
  sBk)
def f12_l0 (G : Nat → Cl) : TSd := (sSeq (sAsg (tCal (G 10) 2 (dsCons (tVar 1) (dsCons (tLit (.int 4)) dsNil))) (gNm 10))
  (sSeq (sIf (bVal (tBin oLt (tVar 10) (tLit (.int 2))))
  (sSeq (sAsg (tCal (G 10) 2 (dsCons (tVar 1) (dsCons (tBin oAdd (tBi oLen (dsCons (tVar 2) dsNil)) (tLit (.int 2))) dsNil))) (gNm 11))
  (sSeq (sAsg (tCal (G 10) 2 (dsCons (tVar 1) (dsCons (tLit (.int 3)) dsNil))) (gNm 16))
  (sSeq (sAsg (tCal (G 9) 3 (dsCons (tVar 1) (dsCons (tLit (.str [120, 121, 122])) (dsCons (tLit (.int 2)) dsNil)))) (gNm 13))
  (sSeq (sAsg (tBin oIxA (tLst (dsCons (tLit .non) (dsCons (tLit .non) (dsCons (tLit (.int 1)) (dsCons (tLit (.int 2)) dsNil))))) (tCal (G 10) 2 (dsCons (tVar 1) (dsCons (tLit (.int 4)) dsNil)))) (gNm 14))
  (sSeq (sAsg (tBin oLe (tBin oAdd (tVar 11) (tVar 16)) (tBi oLen (dsCons (tVar 2) dsNil))) (gNm 17))
  (sSeq (sIf (bNot (bTru (tCal (G 11) 2 (dsCons (tMth G [some (1, 5)] (tVar 3) (dsCons (tVar 11) (dsCons (tVar 16) (dsCons (tVar 13) (dsCons (tVar 14) dsNil))))) (dsCons (tVar 17) dsNil)))))
  (sRet (tLit (.bl false)))
  sNx)
  (sIf (bTru (tVar 17))
  (sSeq (sExp (tBM "list" oApp (tVar 4) (dsCons (tTup (dsCons (tVar 2) (dsCons (tVar 14) dsNil))) dsNil)))
  (sSeq (sAsg (tBin oAdd (tBin oAdd (tSli (tVar 2) oNo (oPt (tVar 11))) (tVar 13)) (tSli (tVar 2) (oPt (tBin oAdd (tVar 11) (tVar 16))) oNo)) (gNm 2))
  (sAsg (tLst dsNil) (gNm 5))))
  sNx)))))))
  (sIf (bVal (tBin oEq (tVar 10) (tLit (.int 2))))
  (sSeq (sAsg (tLit (.int 0)) (gNm 18))
  (sSeq (sAsg (tLit .non) (gNm 19))
  (sSeq (sFor (iRg1 (dsCons (tBi oLen (dsCons (tVar 4) dsNil)) dsNil)) (gNm 8) (f12_l1 G))
  (sIf (bNot (bTru (tCal (G 11) 2 (dsCons (tMth G [some (2, 1)] (tVar 3) dsNil) (dsCons (tVar 18) dsNil)))))
  (sRet (tLit (.bl false)))
  sNx))))
  (sSeq (sAsg (tLit (.int 0)) (gNm 18))
  (sSeq (sAsg (tLit .non) (gNm 19))
  (sSeq (sFor (iRg1 (dsCons (tBi oLen (dsCons (tVar 5) dsNil)) dsNil)) (gNm 8) (f12_l2 G))
  (sIf (bNot (bTru (tCal (G 11) 2 (dsCons (tMth G [some (3, 1)] (tVar 3) dsNil) (dsCons (tVar 18) dsNil)))))
  (sRet (tLit (.bl false)))
  sNx))))))
  (sIf (bVal (tBin oNe (tFld [some 0] (tVar 3)) (tVar 2)))
  (sRet (tLit (.bl false)))
  sNx)))
def f12 (G : Nat → Cl) : TSd := (sSeq (sAsg (tCal (G 6) 3 (dsCons (tVar 0) (dsCons (tLit (.int 0)) (dsCons (tLit (.int 62)) dsNil)))) (gNm 1))
  (sSeq (sAsg (tCal (G 9) 3 (dsCons (tVar 1) (dsCons (tLit (.str [97, 98, 99])) (dsCons (tLit (.int 8)) dsNil)))) (gNm 2))
  (sSeq (sAsg (tMak G 0 3 0 2 (dsCons (tVar 2) dsNil)) (gNm 3))
  (sSeq (sAsg (tLst dsNil) (gNm 4))
  (sSeq (sAsg (tLst dsNil) (gNm 5))
  (sSeq (sFor (iRg1 (dsCons (tCal (G 10) 2 (dsCons (tVar 1) (dsCons (tLit (.int 13)) dsNil))) dsNil)) (gNm 6) (f12_l0 G))
  (sSeq (sAsg (tLst dsNil) (gNm 7))
  (sSeq (sFor (iRg1 (dsCons (tCal (G 10) 2 (dsCons (tVar 1) (dsCons (tLit (.int 6)) dsNil))) dsNil)) (gNm 8) (f12_l3 G))
  (sSeq (sAsg (tLst dsNil) (gNm 9))
  (sSeq (sFor (iSeq (tVar 7)) (gTp 4 (gsCons (gNm 11) (gsCons (gNm 12) (gsCons (gNm 13) (gsCons (gNm 14) gsNil))))) (f12_l4 G))
  (sRet (tCal (G 11) 2 (dsCons (tCal (G 5) 1 (dsCons (tBi oTpl (dsCons (tVar 7) dsNil)) dsNil)) (dsCons (tBi oTpl (dsCons (tVar 9) dsNil)) dsNil))))))))))))))
def T : Top where
  fns := [("same_group", 4, 2), ("typed", 5, 1), ("_law_box", 6, 3), ("_law_digits", 7, 3), ("_law_cell", 8, 2), ("_law_text_of", 9, 3), ("_law_draw", 10, 2), ("_law_same", 11, 2), ("law", 12, 1)]
  cls := [("Undo", 0, 3, 0, 2)]
  mts := [("change", [some (1, 5)]), ("undo", [some (2, 1)]), ("redo", [some (3, 1)])]
  fl := [["text", "done", "undone"]]
  bls := ["bool", "int", "isinstance", "len", "range", "str", "tuple"]
def bs : List (((Nat → Cl) → TSd) × Nat) := [(f0, 2), (f1, 5), (f2, 6), (f3, 6), (f4, 2), (f5, 9), (f6, 3), (f7, 8), (f8, 2), (f9, 4), (f10, 3), (f11, 3), (f12, 22)]
abbrev st0 : Stmt := (inClass (top 1) 0)
abbrev nm0 : List Str := ["self", "text"]
abbrev ps0 : List Str := ["self", "text"]
theorem c0 (G : Nat → Cl) : (ks T G fuel fuel).ss ⟨nm0, defScope st0, none⟩ (defBody st0) = some (f0 G) := by kernel_rfl
theorem sc0 : FnScope nm0 ps0 (defScope st0) := ⟨rfl, rfl, rfl, by decide +kernel, rfl, by decide +kernel, by decide +kernel⟩
abbrev st1 : Stmt := (inClass (top 1) 1)
abbrev nm1 : List Str := ["self", "place", "many", "put", "group"]
abbrev ps1 : List Str := ["self", "place", "many", "put", "group"]
theorem c1 (G : Nat → Cl) : (ks T G fuel fuel).ss ⟨nm1, defScope st1, none⟩ (defBody st1) = some (f1 G) := by kernel_rfl
theorem sc1 : FnScope nm1 ps1 (defScope st1) := ⟨rfl, rfl, rfl, by decide +kernel, rfl, by decide +kernel, by decide +kernel⟩
abbrev st2 : Stmt := (inClass (top 1) 2)
abbrev nm2 : List Str := ["self", "many", "place", "taken", "put", "group"]
abbrev ps2 : List Str := ["self"]
theorem c2 (G : Nat → Cl) : (ks T G fuel fuel).ss ⟨nm2, defScope st2, none⟩ (defBody st2) = some (f2 G) := by kernel_rfl
theorem sc2 : FnScope nm2 ps2 (defScope st2) := ⟨rfl, rfl, rfl, by decide +kernel, rfl, by decide +kernel, by decide +kernel⟩
abbrev st3 : Stmt := (inClass (top 1) 3)
abbrev nm3 : List Str := ["self", "many", "place", "taken", "put", "group"]
abbrev ps3 : List Str := ["self"]
theorem c3 (G : Nat → Cl) : (ks T G fuel fuel).ss ⟨nm3, defScope st3, none⟩ (defBody st3) = some (f3 G) := by kernel_rfl
theorem sc3 : FnScope nm3 ps3 (defScope st3) := ⟨rfl, rfl, rfl, by decide +kernel, rfl, by decide +kernel, by decide +kernel⟩
abbrev st4 : Stmt := (top 2)
abbrev nm4 : List Str := ["one", "two"]
abbrev ps4 : List Str := ["one", "two"]
theorem c4 (G : Nat → Cl) : (ks T G fuel fuel).ss ⟨nm4, defScope st4, none⟩ (defBody st4) = some (f4 G) := by kernel_rfl
theorem sc4 : FnScope nm4 ps4 (defScope st4) := ⟨rfl, rfl, rfl, by decide +kernel, rfl, by decide +kernel, by decide +kernel⟩
abbrev st5 : Stmt := (top 3)
abbrev nm5 : List Str := ["changes", "found", "place", "taken", "put", "group", "first", "_", "before"]
abbrev ps5 : List Str := ["changes"]
theorem c5 (G : Nat → Cl) : (ks T G fuel fuel).ss ⟨nm5, defScope st5, none⟩ (defBody st5) = some (f5 G) := by kernel_rfl
theorem sc5 : FnScope nm5 ps5 (defScope st5) := ⟨rfl, rfl, rfl, by decide +kernel, rfl, by decide +kernel, by decide +kernel⟩
abbrev st6 : Stmt := (top 5)
abbrev nm6 : List Str := ["script", "first", "last"]
abbrev ps6 : List Str := ["script", "first", "last"]
theorem c6 (G : Nat → Cl) : (ks T G fuel fuel).ss ⟨nm6, defScope st6, none⟩ (defBody st6) = some (f6 G) := by kernel_rfl
theorem sc6 : FnScope nm6 ps6 (defScope st6) := ⟨rfl, rfl, rfl, by decide +kernel, rfl, by decide +kernel, by decide +kernel⟩
abbrev st7 : Stmt := (top 6)
abbrev nm7 : List Str := ["script", "first", "last", "digits", "k", "cell", "turn", "seed"]
abbrev ps7 : List Str := ["script", "first", "last"]
theorem c7 (G : Nat → Cl) : (ks T G fuel fuel).ss ⟨nm7, defScope st7, none⟩ (defBody st7) = some (f7 G) := by kernel_rfl
theorem sc7 : FnScope nm7 ps7 (defScope st7) := ⟨rfl, rfl, rfl, by decide +kernel, rfl, by decide +kernel, by decide +kernel⟩
abbrev st8 : Stmt := (top 7)
abbrev nm8 : List Str := ["script", "k"]
abbrev ps8 : List Str := ["script", "k"]
theorem c8 (G : Nat → Cl) : (ks T G fuel fuel).ss ⟨nm8, defScope st8, none⟩ (defBody st8) = some (f8 G) := by kernel_rfl
theorem sc8 : FnScope nm8 ps8 (defScope st8) := ⟨rfl, rfl, rfl, by decide +kernel, rfl, by decide +kernel, by decide +kernel⟩
abbrev st9 : Stmt := (top 8)
abbrev nm9 : List Str := ["box", "signs", "most", "k"]
abbrev ps9 : List Str := ["box", "signs", "most"]
theorem c9 (G : Nat → Cl) : (ks T G fuel fuel).ss ⟨nm9, defScope st9, none⟩ (defBody st9) = some (f9 G) := by kernel_rfl
theorem sc9 : FnScope nm9 ps9 (defScope st9) := ⟨rfl, rfl, rfl, by decide +kernel, rfl, by decide +kernel, by decide +kernel⟩
abbrev st10 : Stmt := (top 9)
abbrev nm10 : List Str := ["box", "many", "at"]
abbrev ps10 : List Str := ["box", "many"]
theorem c10 (G : Nat → Cl) : (ks T G fuel fuel).ss ⟨nm10, defScope st10, none⟩ (defBody st10) = some (f10 G) := by kernel_rfl
theorem sc10 : FnScope nm10 ps10 (defScope st10) := ⟨rfl, rfl, rfl, by decide +kernel, rfl, by decide +kernel, by decide +kernel⟩
abbrev st11 : Stmt := (top 10)
abbrev nm11 : List Str := ["actual", "expected", "k"]
abbrev ps11 : List Str := ["actual", "expected"]
theorem c11 (G : Nat → Cl) : (ks T G fuel fuel).ss ⟨nm11, defScope st11, none⟩ (defBody st11) = some (f11 G) := by kernel_rfl
theorem sc11 : FnScope nm11 ps11 (defScope st11) := ⟨rfl, rfl, rfl, by decide +kernel, rfl, by decide +kernel, by decide +kernel⟩
abbrev st12 : Stmt := (top 11)
abbrev nm12 : List Str := ["script", "box", "text", "work", "done", "undone", "turn", "changes", "k", "due", "kind", "place", "taken", "put", "group", "joins", "many", "fits", "count", "last", "before", "behind"]
abbrev ps12 : List Str := ["script"]
theorem c12 (G : Nat → Cl) : (ks T G fuel fuel).ss ⟨nm12, defScope st12, none⟩ (defBody st12) = some (f12 G) := by kernel_rfl
theorem sc12 : FnScope nm12 ps12 (defScope st12) := ⟨rfl, rfl, rfl, by decide +kernel, rfl, by decide +kernel, by decide +kernel⟩
section
variable {K : PySem.W.Frag} {h : Heap} {mg : Str → Option Value}
theorem all_mk {fa : Addr} (X : K.In h) (GG : h.Ns mainGlobals mg) (hfa : mg "law" = some (.ref fa)) {a0 a1 a2 a3 a4 a5 a6 a7 a8 a9 a10 a11 a12 C0 : Addr} {od0 an0 : Option Addr} {sl0 : Array (Option Value)} {oc0 kV0 dc0 pm0 cd0 ct0 : Value} {od1 an1 : Option Addr} {sl1 : Array (Option Value)} {oc1 kV1 dc1 pm1 cd1 ct1 : Value} {od2 an2 : Option Addr} {sl2 : Array (Option Value)} {oc2 kV2 dc2 pm2 cd2 ct2 : Value} {od3 an3 : Option Addr} {sl3 : Array (Option Value)} {oc3 kV3 dc3 pm3 cd3 ct3 : Value} {od4 an4 : Option Addr} {sl4 : Array (Option Value)} {oc4 kV4 dc4 pm4 cd4 ct4 : Value} {od5 an5 : Option Addr} {sl5 : Array (Option Value)} {oc5 kV5 dc5 pm5 cd5 ct5 : Value} {od6 an6 : Option Addr} {sl6 : Array (Option Value)} {oc6 kV6 dc6 pm6 cd6 ct6 : Value} {od7 an7 : Option Addr} {sl7 : Array (Option Value)} {oc7 kV7 dc7 pm7 cd7 ct7 : Value} {od8 an8 : Option Addr} {sl8 : Array (Option Value)} {oc8 kV8 dc8 pm8 cd8 ct8 : Value} {od9 an9 : Option Addr} {sl9 : Array (Option Value)} {oc9 kV9 dc9 pm9 cd9 ct9 : Value} {od10 an10 : Option Addr} {sl10 : Array (Option Value)} {oc10 kV10 dc10 pm10 cd10 ct10 : Value} {od11 an11 : Option Addr} {sl11 : Array (Option Value)} {oc11 kV11 dc11 pm11 cd11 ct11 : Value} {od12 an12 : Option Addr} {sl12 : Array (Option Value)} {oc12 kV12 dc12 pm12 cd12 ct12 : Value}
    (gC0 : PySem.W.nsIn K mainGlobals "Undo" = some (some (.ref C0)))
    (g0 : PySem.W.findIn K (.ref C0) "__init__" = some (some (.ref a0)))
    (i0 : PySem.W.isFn K (.ref a0) = true)
    (l0 : K.lookup a0 = some ⟨oc0, od0, .func (PySem.W.fnOf "__init__" "Undo.__init__" (defArgs st0) (defBody st0) (defScope st0) .none kV0 dc0 pm0 an0 cd0 ct0), sl0⟩)
    (d0 : PySem.W.codeIn K cd0 "Undo.__init__" = true)
    (k0 : PySem.W.keepIn K (.ref a0) = true)
    (g1 : PySem.W.findIn K (.ref C0) "change" = some (some (.ref a1)))
    (i1 : PySem.W.isFn K (.ref a1) = true)
    (l1 : K.lookup a1 = some ⟨oc1, od1, .func (PySem.W.fnOf "change" "Undo.change" (defArgs st1) (defBody st1) (defScope st1) .none kV1 dc1 pm1 an1 cd1 ct1), sl1⟩)
    (d1 : PySem.W.codeIn K cd1 "Undo.change" = true)
    (k1 : PySem.W.keepIn K (.ref a1) = true)
    (g2 : PySem.W.findIn K (.ref C0) "undo" = some (some (.ref a2)))
    (i2 : PySem.W.isFn K (.ref a2) = true)
    (l2 : K.lookup a2 = some ⟨oc2, od2, .func (PySem.W.fnOf "undo" "Undo.undo" (defArgs st2) (defBody st2) (defScope st2) .none kV2 dc2 pm2 an2 cd2 ct2), sl2⟩)
    (d2 : PySem.W.codeIn K cd2 "Undo.undo" = true)
    (k2 : PySem.W.keepIn K (.ref a2) = true)
    (g3 : PySem.W.findIn K (.ref C0) "redo" = some (some (.ref a3)))
    (i3 : PySem.W.isFn K (.ref a3) = true)
    (l3 : K.lookup a3 = some ⟨oc3, od3, .func (PySem.W.fnOf "redo" "Undo.redo" (defArgs st3) (defBody st3) (defScope st3) .none kV3 dc3 pm3 an3 cd3 ct3), sl3⟩)
    (d3 : PySem.W.codeIn K cd3 "Undo.redo" = true)
    (k3 : PySem.W.keepIn K (.ref a3) = true)
    (g4 : PySem.W.nsIn K mainGlobals "same_group" = some (some (.ref a4)))
    (l4 : K.lookup a4 = some ⟨oc4, od4, .func (PySem.W.fnOf "same_group" "same_group" (defArgs st4) (defBody st4) (defScope st4) .none kV4 dc4 pm4 an4 cd4 ct4), sl4⟩)
    (d4 : PySem.W.codeIn K cd4 "same_group" = true)
    (k4 : PySem.W.keepIn K (.ref a4) = true)
    (g5 : PySem.W.nsIn K mainGlobals "typed" = some (some (.ref a5)))
    (l5 : K.lookup a5 = some ⟨oc5, od5, .func (PySem.W.fnOf "typed" "typed" (defArgs st5) (defBody st5) (defScope st5) .none kV5 dc5 pm5 an5 cd5 ct5), sl5⟩)
    (d5 : PySem.W.codeIn K cd5 "typed" = true)
    (k5 : PySem.W.keepIn K (.ref a5) = true)
    (g6 : PySem.W.nsIn K mainGlobals "_law_box" = some (some (.ref a6)))
    (l6 : K.lookup a6 = some ⟨oc6, od6, .func (PySem.W.fnOf "_law_box" "_law_box" (defArgs st6) (defBody st6) (defScope st6) .none kV6 dc6 pm6 an6 cd6 ct6), sl6⟩)
    (d6 : PySem.W.codeIn K cd6 "_law_box" = true)
    (k6 : PySem.W.keepIn K (.ref a6) = true)
    (g7 : PySem.W.nsIn K mainGlobals "_law_digits" = some (some (.ref a7)))
    (l7 : K.lookup a7 = some ⟨oc7, od7, .func (PySem.W.fnOf "_law_digits" "_law_digits" (defArgs st7) (defBody st7) (defScope st7) .none kV7 dc7 pm7 an7 cd7 ct7), sl7⟩)
    (d7 : PySem.W.codeIn K cd7 "_law_digits" = true)
    (k7 : PySem.W.keepIn K (.ref a7) = true)
    (g8 : PySem.W.nsIn K mainGlobals "_law_cell" = some (some (.ref a8)))
    (l8 : K.lookup a8 = some ⟨oc8, od8, .func (PySem.W.fnOf "_law_cell" "_law_cell" (defArgs st8) (defBody st8) (defScope st8) .none kV8 dc8 pm8 an8 cd8 ct8), sl8⟩)
    (d8 : PySem.W.codeIn K cd8 "_law_cell" = true)
    (k8 : PySem.W.keepIn K (.ref a8) = true)
    (g9 : PySem.W.nsIn K mainGlobals "_law_text_of" = some (some (.ref a9)))
    (l9 : K.lookup a9 = some ⟨oc9, od9, .func (PySem.W.fnOf "_law_text_of" "_law_text_of" (defArgs st9) (defBody st9) (defScope st9) .none kV9 dc9 pm9 an9 cd9 ct9), sl9⟩)
    (d9 : PySem.W.codeIn K cd9 "_law_text_of" = true)
    (k9 : PySem.W.keepIn K (.ref a9) = true)
    (g10 : PySem.W.nsIn K mainGlobals "_law_draw" = some (some (.ref a10)))
    (l10 : K.lookup a10 = some ⟨oc10, od10, .func (PySem.W.fnOf "_law_draw" "_law_draw" (defArgs st10) (defBody st10) (defScope st10) .none kV10 dc10 pm10 an10 cd10 ct10), sl10⟩)
    (d10 : PySem.W.codeIn K cd10 "_law_draw" = true)
    (k10 : PySem.W.keepIn K (.ref a10) = true)
    (g11 : PySem.W.nsIn K mainGlobals "_law_same" = some (some (.ref a11)))
    (l11 : K.lookup a11 = some ⟨oc11, od11, .func (PySem.W.fnOf "_law_same" "_law_same" (defArgs st11) (defBody st11) (defScope st11) .none kV11 dc11 pm11 an11 cd11 ct11), sl11⟩)
    (d11 : PySem.W.codeIn K cd11 "_law_same" = true)
    (k11 : PySem.W.keepIn K (.ref a11) = true)
    (g12 : PySem.W.nsIn K mainGlobals "law" = some (some (.ref a12)))
    (l12 : K.lookup a12 = some ⟨oc12, od12, .func (PySem.W.fnOf "law" "law" (defArgs st12) (defBody st12) (defScope st12) .none kV12 dc12 pm12 an12 cd12 ct12), sl12⟩)
    (d12 : PySem.W.codeIn K cd12 "law" = true)
    (k12 : PySem.W.keepIn K (.ref a12) = true)
    (pg0 : PySem.W.plainGet K C0 Str.empty = true)
    (hd0 : PySem.W.hasDictIn K C0 = true)
    (po0 : PySem.W.plainOver K C0 = true)
    (sa0 : PySem.W.findIn K (.ref C0) "__setattr__" = some (some (.builtin "object.__setattr__")))
    (mk0 : PySem.W.makesIn K C0 = true)
    (kc0 : PySem.W.keepIn K (.ref C0) = true)
    (n0_0 : PySem.W.findIn K (.ref C0) "text" = some none)
    (n0_1 : PySem.W.findIn K (.ref C0) "done" = some none)
    (n0_2 : PySem.W.findIn K (.ref C0) "undone" = some none)
    (z0 : PySem.W.nsIn K mainGlobals "bool" = some none)
    (z1 : PySem.W.nsIn K mainGlobals "int" = some none)
    (z2 : PySem.W.nsIn K mainGlobals "isinstance" = some none)
    (z3 : PySem.W.nsIn K mainGlobals "len" = some none)
    (z4 : PySem.W.nsIn K mainGlobals "range" = some none)
    (z5 : PySem.W.nsIn K mainGlobals "str" = some none)
    (z6 : PySem.W.nsIn K mainGlobals "tuple" = some none) :
    ∃ (fd : FuncData) (c : Cla) (TT : Top) (rs : List FnRec) (r : FnRec), (∀ (s : Shared) (u : Value), BindsTo s fd ⟨[u], []⟩ [("script", u)]) ∧ Pg K mg c TT rs ∧ bodies rs = bs ∧ rs[12]? = some r ∧ r.f = fa ∧ r.ps = ([("script" : Str)] : List Str) ∧ Fun K r.x r.qual r.st r.f fd := by
  have e := hfa.symm.trans (PySem.W.mg_of X GG g12)
  cases e
  have F0 := fun_mk (st := st0) l0 d0 k0
  have b0 := F0.binds (ps := ps0) fun _ _ _ _ _ _ us hl => match us, hl with | [_, _], _ => rfl
  have F1 := fun_mk (st := st1) l1 d1 k1
  have b1 := F1.binds (ps := ps1) fun _ _ _ _ _ _ us hl => match us, hl with | [_, _, _, _, _], _ => rfl
  have F2 := fun_mk (st := st2) l2 d2 k2
  have b2 := F2.binds (ps := ps2) fun _ _ _ _ _ _ us hl => match us, hl with | [_], _ => rfl
  have F3 := fun_mk (st := st3) l3 d3 k3
  have b3 := F3.binds (ps := ps3) fun _ _ _ _ _ _ us hl => match us, hl with | [_], _ => rfl
  have F4 := fun_mk (st := st4) l4 d4 k4
  have b4 := F4.binds (ps := ps4) fun _ _ _ _ _ _ us hl => match us, hl with | [_, _], _ => rfl
  have F5 := fun_mk (st := st5) l5 d5 k5
  have b5 := F5.binds (ps := ps5) fun _ _ _ _ _ _ us hl => match us, hl with | [_], _ => rfl
  have F6 := fun_mk (st := st6) l6 d6 k6
  have b6 := F6.binds (ps := ps6) fun _ _ _ _ _ _ us hl => match us, hl with | [_, _, _], _ => rfl
  have F7 := fun_mk (st := st7) l7 d7 k7
  have b7 := F7.binds (ps := ps7) fun _ _ _ _ _ _ us hl => match us, hl with | [_, _, _], _ => rfl
  have F8 := fun_mk (st := st8) l8 d8 k8
  have b8 := F8.binds (ps := ps8) fun _ _ _ _ _ _ us hl => match us, hl with | [_, _], _ => rfl
  have F9 := fun_mk (st := st9) l9 d9 k9
  have b9 := F9.binds (ps := ps9) fun _ _ _ _ _ _ us hl => match us, hl with | [_, _, _], _ => rfl
  have F10 := fun_mk (st := st10) l10 d10 k10
  have b10 := F10.binds (ps := ps10) fun _ _ _ _ _ _ us hl => match us, hl with | [_, _], _ => rfl
  have F11 := fun_mk (st := st11) l11 d11 k11
  have b11 := F11.binds (ps := ps11) fun _ _ _ _ _ _ us hl => match us, hl with | [_, _], _ => rfl
  have F12 := fun_mk (st := st12) l12 d12 k12
  have b12 := F12.binds (ps := ps12) fun _ _ _ _ _ _ us hl => match us, hl with | [_], _ => rfl
  have cl0 : Cls K C0 := ⟨pg0, hd0, po0, sa0⟩
  have fct : ∀ (i : Nat) (r : FnRec), ([⟨a0, "__init__", "Undo.__init__", st0, nm0, ps0, f0⟩, ⟨a1, "change", "Undo.change", st1, nm1, ps1, f1⟩, ⟨a2, "undo", "Undo.undo", st2, nm2, ps2, f2⟩, ⟨a3, "redo", "Undo.redo", st3, nm3, ps3, f3⟩, ⟨a4, "same_group", "same_group", st4, nm4, ps4, f4⟩, ⟨a5, "typed", "typed", st5, nm5, ps5, f5⟩, ⟨a6, "_law_box", "_law_box", st6, nm6, ps6, f6⟩, ⟨a7, "_law_digits", "_law_digits", st7, nm7, ps7, f7⟩, ⟨a8, "_law_cell", "_law_cell", st8, nm8, ps8, f8⟩, ⟨a9, "_law_text_of", "_law_text_of", st9, nm9, ps9, f9⟩, ⟨a10, "_law_draw", "_law_draw", st10, nm10, ps10, f10⟩, ⟨a11, "_law_same", "_law_same", st11, nm11, ps11, f11⟩, ⟨fa, "law", "law", st12, nm12, ps12, f12⟩] : List FnRec)[i]? = some r → FnFact K T r := by
    intro i r hr
    match i, hr with
    | 0, hr => cases hr; exact ⟨⟨_, F0, b0⟩, sc0, c0⟩
    | 1, hr => cases hr; exact ⟨⟨_, F1, b1⟩, sc1, c1⟩
    | 2, hr => cases hr; exact ⟨⟨_, F2, b2⟩, sc2, c2⟩
    | 3, hr => cases hr; exact ⟨⟨_, F3, b3⟩, sc3, c3⟩
    | 4, hr => cases hr; exact ⟨⟨_, F4, b4⟩, sc4, c4⟩
    | 5, hr => cases hr; exact ⟨⟨_, F5, b5⟩, sc5, c5⟩
    | 6, hr => cases hr; exact ⟨⟨_, F6, b6⟩, sc6, c6⟩
    | 7, hr => cases hr; exact ⟨⟨_, F7, b7⟩, sc7, c7⟩
    | 8, hr => cases hr; exact ⟨⟨_, F8, b8⟩, sc8, c8⟩
    | 9, hr => cases hr; exact ⟨⟨_, F9, b9⟩, sc9, c9⟩
    | 10, hr => cases hr; exact ⟨⟨_, F10, b10⟩, sc10, c10⟩
    | 11, hr => cases hr; exact ⟨⟨_, F11, b11⟩, sc11, c11⟩
    | 12, hr => cases hr; exact ⟨⟨_, F12, b12⟩, sc12, c12⟩
  refine ⟨_, ⟨[C0], [], [["text", "done", "undone"]]⟩, T, [⟨a0, "__init__", "Undo.__init__", st0, nm0, ps0, f0⟩, ⟨a1, "change", "Undo.change", st1, nm1, ps1, f1⟩, ⟨a2, "undo", "Undo.undo", st2, nm2, ps2, f2⟩, ⟨a3, "redo", "Undo.redo", st3, nm3, ps3, f3⟩, ⟨a4, "same_group", "same_group", st4, nm4, ps4, f4⟩, ⟨a5, "typed", "typed", st5, nm5, ps5, f5⟩, ⟨a6, "_law_box", "_law_box", st6, nm6, ps6, f6⟩, ⟨a7, "_law_digits", "_law_digits", st7, nm7, ps7, f7⟩, ⟨a8, "_law_cell", "_law_cell", st8, nm8, ps8, f8⟩, ⟨a9, "_law_text_of", "_law_text_of", st9, nm9, ps9, f9⟩, ⟨a10, "_law_draw", "_law_draw", st10, nm10, ps10, f10⟩, ⟨a11, "_law_same", "_law_same", st11, nm11, ps11, f11⟩, ⟨fa, "law", "law", st12, nm12, ps12, f12⟩], ⟨fa, "law", "law", st12, nm12, ps12, f12⟩, fun s u => .of_eq rfl, ?_, rfl, rfl, rfl, rfl, F12⟩
  refine ⟨fun x i n hx => ?_, fun x ci nf ini n hx => ?_, fun m mx hx => ?_, rfl, ⟨fun i C hC => ?_, fun i C f hC hf => ?_, fun i => ?_, fun _ _ hm => (by simp at hm)⟩, fun i => ?_, fun x hx => ?_, fct⟩
  · replace hx := lk_mem hx
    simp only [T, List.mem_cons, List.not_mem_nil, or_false, Prod.mk.injEq] at hx
    rcases hx with ⟨rfl, rfl, rfl⟩ | ⟨rfl, rfl, rfl⟩ | ⟨rfl, rfl, rfl⟩ | ⟨rfl, rfl, rfl⟩ | ⟨rfl, rfl, rfl⟩ | ⟨rfl, rfl, rfl⟩ | ⟨rfl, rfl, rfl⟩ | ⟨rfl, rfl, rfl⟩ | ⟨rfl, rfl, rfl⟩
    · exact ⟨_, rfl, PySem.W.mg_of X GG g4, rfl⟩
    · exact ⟨_, rfl, PySem.W.mg_of X GG g5, rfl⟩
    · exact ⟨_, rfl, PySem.W.mg_of X GG g6, rfl⟩
    · exact ⟨_, rfl, PySem.W.mg_of X GG g7, rfl⟩
    · exact ⟨_, rfl, PySem.W.mg_of X GG g8, rfl⟩
    · exact ⟨_, rfl, PySem.W.mg_of X GG g9, rfl⟩
    · exact ⟨_, rfl, PySem.W.mg_of X GG g10, rfl⟩
    · exact ⟨_, rfl, PySem.W.mg_of X GG g11, rfl⟩
    · exact ⟨_, rfl, PySem.W.mg_of X GG g12, rfl⟩
  · replace hx := lk_mem hx
    simp only [T, List.mem_cons, List.not_mem_nil, or_false, Prod.mk.injEq] at hx
    rcases hx with ⟨rfl, rfl, rfl, rfl, rfl⟩
    · exact ⟨C0, _, rfl, rfl, PySem.W.mg_of X GG gC0, rfl, ⟨mk0, g0, i0, kc0⟩, rfl⟩
  · replace hx := lk_mem hx
    simp only [T, List.mem_cons, List.not_mem_nil, or_false, Prod.mk.injEq] at hx
    rcases hx with ⟨rfl, rfl⟩ | ⟨rfl, rfl⟩ | ⟨rfl, rfl⟩
    · intro i C p hC hp
      match i, hC, hp with
      | 0, hC, hp => cases hC; cases hp; exact ⟨cl0, (by show ¬ ("change" : Str) ∈ (["text", "done", "undone"] : List Str); decide +kernel), _, rfl, ⟨g1, i1, k1⟩, rfl⟩
      | n + 1, hC, hp => simp at hC
    · intro i C p hC hp
      match i, hC, hp with
      | 0, hC, hp => cases hC; cases hp; exact ⟨cl0, (by show ¬ ("undo" : Str) ∈ (["text", "done", "undone"] : List Str); decide +kernel), _, rfl, ⟨g2, i2, k2⟩, rfl⟩
      | n + 1, hC, hp => simp at hC
    · intro i C p hC hp
      match i, hC, hp with
      | 0, hC, hp => cases hC; cases hp; exact ⟨cl0, (by show ¬ ("redo" : Str) ∈ (["text", "done", "undone"] : List Str); decide +kernel), _, rfl, ⟨g3, i3, k3⟩, rfl⟩
      | n + 1, hC, hp => simp at hC
  · match i, hC with
    | 0, hC => cases hC; exact cl0
    | n + 1, hC => simp at hC
  · match i, hC, hf with
    | 0, hC, hf =>
      cases hC
      have hf : f ∈ (["text", "done", "undone"] : List Str) := hf
      simp only [List.mem_cons, List.not_mem_nil, or_false] at hf
      rcases hf with rfl | rfl | rfl
      · exact n0_0
      · exact n0_1
      · exact n0_2
    | n + 1, hC, hf => simp at hC
  · match i with
    | 0 => show 3 < 1000; decide
    | n + 1 => show 0 < 1000; decide
  · match i with
    | 0 => show (["text", "done", "undone"] : List Str).Nodup; decide +kernel
    | n + 1 => show ([] : List Str).Nodup; decide +kernel
  · simp only [T, List.mem_cons, List.not_mem_nil, or_false] at hx
    rcases hx with rfl | rfl | rfl | rfl | rfl | rfl | rfl
    · exact PySem.W.mg_none_of X GG z0
    · exact PySem.W.mg_none_of X GG z1
    · exact PySem.W.mg_none_of X GG z2
    · exact PySem.W.mg_none_of X GG z3
    · exact PySem.W.mg_none_of X GG z4
    · exact PySem.W.mg_none_of X GG z5
    · exact PySem.W.mg_none_of X GG z6
end
end Nk57

namespace Nk57
open PySem L2 DL
local macro_rules | `(tactic| walk_at "dis") => `(tactic| first | exact True.intro | assumption | omega | (simp only [CDiv, CMul, Sm, CPow, List.length_cons, List.length_nil, List.length_append, List.length_take, List.length_set, List.length_map, List.length_drop, List.length_range]; omega) | exact ⟨rfl, rfl⟩ | rfl | decide)
local macro_rules | `(tactic| walk_at "at") => `(tactic| simp (disch := ((try simp only [List.length_append, List.length_set, List.length_cons, List.length_nil]); omega)) only [dctOf, lstOf, lsOf, seqOf, kdOf, tyOfR, clsR, putL, g_l, g_r, g_at, g_eq, g_ne, atI_0, atI_1, at_lst, ix_lst, atI_int, ixN_int, cut_to, cut_from, cut_toI, cut_fromI, tn1, tn2, cut_mid, cut_all, Nat.sub_self, List.getElem?_cons_zero, List.getElem?_cons_succ, Int.toNat_one, Int.toNat_zero, Int.toNat_natCast, List.set_cons_zero, List.set_cons_succ, List.drop_succ_cons, List.drop_zero, List.map_append, List.map_cons, List.map_nil, lst_pop, List.dropLast_concat, *])
local macro_rules | `(tactic| walk_at "go") => `(tactic| ((conv => whnf); repeat ((first | refine And.intro (by walk_at "dis") ?_ | ((fail_if_success refine Exists.intro ?_ ?_); walk_at "at")); (conv => whnf))))
local macro_rules | `(tactic| walk_at "len") => `(tactic| first | omega | (simp only [List.length_cons, List.length_nil, List.length_append, List.length_take, List.length_set, List.length_map, List.length_drop, List.length_range]; omega))
local macro_rules | `(tactic| walk_at "mem") => `(tactic| first | assumption | (simp (disch := ((try simp only [List.length_append, List.length_set, List.length_cons, List.length_nil]); omega)) only [g_l, g_r, g_at, g_eq, g_ne, List.length_append, List.length_set, List.length_cons, List.length_nil, Nat.sub_self, Nat.add_sub_cancel_left, List.getElem?_cons_zero, List.getElem?_cons_succ, List.cons_append, List.nil_append, nc0, Int.toNat_natCast, List.map_append, List.map_cons, List.map_nil, *]; done))
local macro_rules | `(tactic| walk_at "pre") => `(tactic| repeat (first | assumption | refine Pre.app ?_ | refine Pre.set ?_ (by (try simp only [List.length_append, List.length_set, List.length_cons, List.length_nil]); omega)))
local macro_rules | `(tactic| walk_at "norm") => `(tactic| simp only [startD, List.map_cons, List.map_nil, List.length_cons, List.length_nil, List.replicate_succ, List.replicate_zero, List.set_cons_zero, List.set_cons_succ, List.cons_append, List.nil_append, List.length_append, List.length_set, Nat.reduceAdd, Nat.reduceSub, Nat.zero_add, Nat.add_assoc, List.append_assoc])
local macro_rules | `(tactic| walk_at "T") => `(tactic| (refine br (fun _ => ?_) (fun h => absurd ?_ h); rotate_left; (first | rfl | assumption | (simp only [decide_eq_true_eq]; omega) | (simp; done) | (simp [*]; done) | (simp; omega))))
local macro_rules | `(tactic| walk_at "F") => `(tactic| (refine br (fun h => absurd h ?_) (fun _ => ?_); (first | (simp only [decide_eq_true_eq]; omega) | (simp; done) | (simp [*]; done) | (simp; omega))))
section
variable {G G1 G2 G3 : Nat → Cl} {M : Mem} {Q : RV → Mem → Prop}
theorem box_ok (e : Lev bs G G1) (e1 : Lev bs G1 G2) (e2 : Lev bs G2 G3) {ns : List Int}
    (q : ∀ ds, Ints ds → Q (.fo (.lst [.ref M.length, .int 0, .int 0, .int 0, .int 0, .ref (M.length + 1)])) (M ++ [.lst ds, .lst []])) : (G 6).t [.frl (ns.map .int), .int 0, .int 62] M Q := by
  rw [e 6]
  exact box_spec (a := 0) (b := 62) (fun Q h => by
    rw [e1 7]
    exact dig_spec (a := 0) (b := 62) (fun M k Q h => by rw [e2 8]; exact cell_spec h) (by omega) (by omega) h) q
theorem draw_ok (e : Lev bs G G1) {b d : Nat} {many i : Int} {rest ds : List D}
    (h1 : M[b]? = some (.lst (.ref d :: .int i :: rest))) (h2 : M[d]? = some (.lst ds)) (hd : Ints ds) (hbd : b ≠ d) (hi : 0 ≤ i) (hm : 0 < many)
    (q : ∀ r, 0 ≤ r → r < many → Q (.d (.int r)) (M.set b (.lst (.ref d :: .int (i + 1) :: rest)))) : (G 10).t [.ref b, .int many] M Q := by
  rw [e 10]
  exact draw_spec h1 h2 hd hbd hi hm q
theorem strs_snoc : ∀ {acc : List D} {ys : List (List Nat)} {s : List Nat}, strsOf acc = some ys → strsOf (acc ++ [.str s]) = some (ys ++ [s])
  | [], _, _, h => by cases h; rfl
  | .str l :: r, ys, s, h => by
    cases hr : strsOf r with
    | none => simp [strsOf, hr] at h
    | some zs =>
      simp only [strsOf, hr, Option.map_some, Option.some.injEq] at h
      subst h
      simp [strsOf, strs_snoc hr]
  | .non :: _, _, _, h => by simp [strsOf] at h
  | .bl _ :: _, _, _, h => by simp [strsOf] at h
  | .int _ :: _, _, _, h => by simp [strsOf] at h
  | .tup _ :: _, _, _, h => by simp [strsOf] at h
  | .frl _ :: _, _, _, h => by simp [strsOf] at h
  | .ref _ :: _, _, _, h => by simp [strsOf] at h
  | .ty _ :: _, _, _, h => by simp [strsOf] at h
theorem sum_ones : ∀ {ys : List (List Nat)}, (∀ y ∈ ys, y.length = 1) → (ys.map (·.length)).sum = ys.length
  | [], _ => rfl
  | y :: ys, h => by
    rw [List.map_cons, List.sum_cons, sum_ones fun z hz => h z (List.mem_cons_of_mem _ hz), h y List.mem_cons_self]
    simp; omega
theorem text_ok (e : Lev bs G G1) (e1 : Lev bs G1 G2) {b d : Nat} {i : Int} {rest ds : List D} {signs : List Nat} {most : Nat}
    (h1 : M[b]? = some (.lst (.ref d :: .int i :: rest))) (h2 : M[d]? = some (.lst ds)) (hd : Ints ds) (hbd : b ≠ d) (hi : 0 ≤ i) (hs : signs ≠ []) (hs2 : signs.length < 100) (hm : most < 1000)
    (q : ∀ s i', s.length ≤ most → 0 ≤ i' → Q (.d (.str s)) (M.set b (MO.lst (.ref d :: .int i' :: rest)))) : (G 9).t [.ref b, .str signs, .int most] M Q := by
  have l1 := g_lt h1
  have l2 := g_lt h2
  have hs3 : 0 < signs.length := by cases signs <;> simp at hs ⊢
  rw [e 9]
  show (bodyCl (f9 G1) 4).t _ _ _
  walk_at "go"
  refine draw_ok e1 h1 h2 hd hbd hi (by omega) fun n hn hn2 => ?_
  walk_at "go"
  refine lc_rng0 (fun j acc M' => ∃ i' ys, M' = M.set b (MO.lst (.ref d :: .int i' :: rest)) ∧ 0 ≤ i' ∧ strsOf acc = some ys ∧ (∀ y ∈ ys, y.length = 1) ∧ ys.length = j ∧ acc.length = j) ⟨_, [], rfl, by omega, rfl, by simp, rfl, rfl⟩ (fun j acc M' hj => ?_) (fun acc M' => ?_)
  · rintro ⟨i', ys, rfl, hi', h3, h4, h5, h6⟩
    walk_at "go"
    refine draw_ok e1 (i := i') (rest := rest) (ds := ds) (by walk_at "mem") (by walk_at "mem") hd hbd hi' (by omega) fun r hr hr2 => ?_
    have hr3 : (r % (signs.length : Int)).toNat < signs.length := by
      have h7 := Int.emod_nonneg r (show (signs.length : Int) ≠ 0 by omega)
      have h8 := Int.emod_lt_of_pos r (show (0 : Int) < signs.length by omega)
      omega
    have hr4 : 0 ≤ r % (signs.length : Int) := Int.emod_nonneg r (by omega)
    have hr5 := List.getElem?_eq_getElem hr3
    walk_at "go"
    have e3 : strsOf (acc ++ [D.str [signs[(r % (signs.length : Int)).toNat]]]) = some (ys ++ [[signs[(r % (signs.length : Int)).toNat]]]) := strs_snoc h3
    exact ⟨_, _, List.set_set _, by omega, e3, fun y hy => (List.mem_append.mp hy).elim (h4 y) fun z => by rw [List.mem_singleton.mp z]; rfl, by simp [h5], by simp [h6]⟩
  · rintro ⟨i', ys, rfl, hi', h3, h4, h5, h6⟩
    have hsum : (ys.map (·.length)).sum = ys.length := sum_ones h4
    have hn3 : n.toNat ≤ most := by omega
    rw [h5] at hsum
    walk_at "go"
    have hj := joinL_len [] ys
    rw [hsum] at hj
    simp only [List.length_nil, Nat.mul_zero, Nat.add_zero] at hj
    exact fin_here (q _ _ (by omega) hi')
end
/-! ### what is kept -/
structure E where
  p : Nat
  tk : List Nat
  pt : List Nat
  g : Option Int
def gD : Option Int → D
  | none => .non
  | some i => .int i
def E.d (e : E) : D := .tup [.int e.p, .str e.tk, .str e.pt, gD e.g]
def app (e : E) (t : List Nat) : List Nat := t.take e.p ++ e.pt ++ t.drop (e.p + e.tk.length)
def una (e : E) (t : List Nat) : List Nat := t.take e.p ++ e.tk ++ t.drop (e.p + e.pt.length)
structure Ok (n : Nat) (e : E) (t : List Nat) : Prop where
  le : e.p + e.tk.length ≤ t.length
  tk : (t.drop e.p).take e.tk.length = e.tk
  l1 : t.length ≤ n
  l2 : (app e t).length ≤ n
theorem tk3 {A B C : List Nat} {p : Nat} (h : A.length = p) : (A ++ B ++ C).take p = A := by
  subst h; rw [List.append_assoc]; exact List.take_left
theorem dr3 {A B C : List Nat} {p : Nat} (h : A.length = p) : (A ++ B ++ C).drop (p + B.length) = C := by
  subst h; rw [← List.length_append]; exact List.drop_left
theorem una_app {n : Nat} {e : E} {t : List Nat} (h : Ok n e t) : una e (app e t) = t := by
  have h1 : (t.take e.p).length = e.p := by have := h.le; simp; omega
  unfold una
  rw [show app e t = t.take e.p ++ e.pt ++ t.drop (e.p + e.tk.length) from rfl, tk3 h1, dr3 h1]
  have h2 := h.tk
  rw [← List.drop_drop, List.append_assoc]
  conv => lhs; rw [← h2]
  rw [List.length_take, List.length_drop, Nat.min_eq_left (by have := h.le; omega), List.take_append_drop, List.take_append_drop]
def gLast (us : List E) : Option Int := (us.getLast?).bind (·.g)
def sg : Option Int → Option Int → Bool
  | some i, some j => decide (i = j)
  | _, _ => false
theorem gLast_snoc {us : List E} {e : E} : gLast (us ++ [e]) = e.g := by simp [gLast]
/-- a run of steps back (or on): from t, src, dst to the end -/
inductive Un (f : E → List Nat → List Nat) : List Nat → List E → List E → Nat → List Nat → List E → List E → Nat → Prop
  | stop {t : List Nat} {ds us : List E} {c : Nat} : (ds = [] ∨ ∃ ds0 x us0 y, ds = ds0 ++ [x] ∧ us = us0 ++ [y] ∧ c ≠ 0 ∧ sg x.g y.g = false) → Un f t ds us c t ds us c
  | step {t : List Nat} {ds us : List E} {e : E} {c : Nat} {t' : List Nat} {ds' us' : List E} {c' : Nat} : (c = 0 ∨ ∃ us0 y, us = us0 ++ [y] ∧ c ≠ 0 ∧ sg e.g y.g = true) → t.length ≤ 10000 → (f e t).length ≤ 10000 → e.tk.length ≤ 10000 → e.pt.length ≤ 10000 → us.length < 10000 →
    Un f (f e t) ds (us ++ [e]) (c + 1) t' ds' us' c' → Un f t (ds ++ [e]) us c t' ds' us' c'
inductive Ch (n : Nat) : List Nat → List E → List (List Nat × Option Int) → Prop
  | nil {t : List Nat} : Ch n t [] []
  | snoc {t : List Nat} {e : E} {ds : List E} {ld : List (List Nat × Option Int)} : Ok n e t → Ch n t ds ld → Ch n (app e t) (ds ++ [e]) (ld ++ [(t, e.g)])
inductive Cu (n : Nat) : List Nat → List E → List (List Nat × Option Int) → Prop
  | nil {t : List Nat} : Cu n t [] []
  | snoc {t : List Nat} {e : E} {us : List E} {lu : List (List Nat × Option Int)} : Ok n e t → Cu n (app e t) us lu → Cu n t (us ++ [e]) (lu ++ [(app e t, e.g)])
theorem Ok.up {n m : Nat} {e : E} {t : List Nat} (h : Ok n e t) (l : n ≤ m) : Ok m e t := ⟨h.le, h.tk, Nat.le_trans h.l1 l, Nat.le_trans h.l2 l⟩
theorem Ch.up {n m : Nat} {t : List Nat} {ds : List E} {ld : List (List Nat × Option Int)} (h : Ch n t ds ld) (l : n ≤ m) : Ch m t ds ld := by
  induction h with
  | nil => exact .nil
  | snoc o _ ih => exact .snoc (o.up l) ih
theorem Cu.up {n m : Nat} {t : List Nat} {ds : List E} {ld : List (List Nat × Option Int)} (h : Cu n t ds ld) (l : n ≤ m) : Cu m t ds ld := by
  induction h with
  | nil => exact .nil
  | snoc o _ ih => exact .snoc (o.up l) ih
theorem Ch.len {n : Nat} {t : List Nat} {ds : List E} {ld : List (List Nat × Option Int)} (h : Ch n t ds ld) : ds.length = ld.length := by
  induction h with
  | nil => rfl
  | snoc _ _ ih => simp [ih]
theorem Cu.len {n : Nat} {t : List Nat} {ds : List E} {ld : List (List Nat × Option Int)} (h : Cu n t ds ld) : ds.length = ld.length := by
  induction h with
  | nil => rfl
  | snoc _ _ ih => simp [ih]
theorem Ch.back {n : Nat} {t : List Nat} {ds : List E} {e : E} {ld : List (List Nat × Option Int)} (h : Ch n t (ds ++ [e]) ld) : ∃ t0 ld0, t = app e t0 ∧ ld = ld0 ++ [(t0, e.g)] ∧ Ok n e t0 ∧ Ch n t0 ds ld0 := by
  generalize hx : ds ++ [e] = x at h
  cases h with
  | nil => simp at hx
  | snoc o c =>
    obtain ⟨rfl, h2⟩ := List.append_inj' hx rfl
    cases h2
    exact ⟨_, _, rfl, rfl, o, c⟩
theorem Cu.back {n : Nat} {t : List Nat} {us : List E} {e : E} {lu : List (List Nat × Option Int)} (h : Cu n t (us ++ [e]) lu) : ∃ lu0, lu = lu0 ++ [(app e t, e.g)] ∧ Ok n e t ∧ Cu n (app e t) us lu0 := by
  generalize hx : us ++ [e] = x at h
  cases h with
  | nil => simp at hx
  | snoc o c =>
    obtain ⟨rfl, h2⟩ := List.append_inj' hx rfl
    cases h2
    exact ⟨_, rfl, o, c⟩
theorem Ok.lens {n : Nat} {e : E} {t : List Nat} (o : Ok n e t) : e.tk.length ≤ n ∧ e.pt.length ≤ n := by
  have h1 := o.le
  have h2 := o.l1
  have h3 := o.l2
  unfold app at h3
  simp only [List.length_append] at h3
  exact ⟨by omega, by omega⟩
theorem un_total {n : Nat} (hn : n ≤ 1000) : ∀ (k : Nat) {t : List Nat} {ds us : List E} {c : Nat} {ld : List (List Nat × Option Int)}, ds.length = k → Ch n t ds ld → ds.length + us.length ≤ 1000 → (c ≠ 0 → us ≠ []) → ∃ t' ds' us' c', Un una t ds us c t' ds' us' c'
  | 0, t, ds, us, c, ld, hk, h, hl, hcu => ⟨_, _, _, _, .stop (.inl (List.eq_nil_of_length_eq_zero hk))⟩
  | k + 1, t, ds, us, c, ld, hk, h, hl, hcu => by
    obtain rfl | ⟨ds0, e, rfl⟩ := List.eq_nil_or_concat ds
    · simp at hk
    rw [List.concat_eq_append] at *
    by_cases hc : c = 0 ∨ ∃ us0 y, us = us0 ++ [y] ∧ c ≠ 0 ∧ sg e.g y.g = true
    · obtain ⟨t0, ld0, rfl, rfl, o, ch⟩ := h.back
      obtain ⟨t', ds', us', c', hu⟩ := un_total hn k (us := us ++ [e]) (c := c + 1) (by simpa using hk) ch (by simp at hl ⊢; omega) (by simp)
      have := o.lens
      have := o.l1
      have := o.l2
      refine ⟨t', ds', us', c', .step hc (by omega) (by rw [una_app o]; omega) (by omega) (by omega) (by omega) ?_⟩
      rw [una_app o]; exact hu
    · have hc0 : c ≠ 0 := fun z => hc (.inl z)
      obtain rfl | ⟨us0, y, rfl⟩ := List.eq_nil_or_concat us
      · exact absurd rfl (hcu hc0)
      rw [List.concat_eq_append] at *
      refine ⟨_, _, _, _, .stop (.inr ⟨ds0, e, us0, y, rfl, rfl, hc0, ?_⟩)⟩
      cases hs : sg e.g y.g with
      | false => rfl
      | true => exact absurd (.inr ⟨_, _, rfl, hc0, hs⟩) hc
theorem re_total {n : Nat} (hn : n ≤ 1000) : ∀ (k : Nat) {t : List Nat} {ds us : List E} {c : Nat} {ld : List (List Nat × Option Int)}, ds.length = k → Cu n t ds ld → ds.length + us.length ≤ 1000 → (c ≠ 0 → us ≠ []) → ∃ t' ds' us' c', Un app t ds us c t' ds' us' c'
  | 0, t, ds, us, c, ld, hk, h, hl, hcu => ⟨_, _, _, _, .stop (.inl (List.eq_nil_of_length_eq_zero hk))⟩
  | k + 1, t, ds, us, c, ld, hk, h, hl, hcu => by
    obtain rfl | ⟨ds0, e, rfl⟩ := List.eq_nil_or_concat ds
    · simp at hk
    rw [List.concat_eq_append] at *
    by_cases hc : c = 0 ∨ ∃ us0 y, us = us0 ++ [y] ∧ c ≠ 0 ∧ sg e.g y.g = true
    · obtain ⟨ld0, rfl, o, ch⟩ := h.back
      obtain ⟨t', ds', us', c', hu⟩ := re_total hn k (us := us ++ [e]) (c := c + 1) (by simpa using hk) ch (by simp at hl ⊢; omega) (by simp)
      have := o.lens
      have := o.l1
      have := o.l2
      exact ⟨t', ds', us', c', .step hc (by omega) (by omega) (by omega) (by omega) (by omega) hu⟩
    · have hc0 : c ≠ 0 := fun z => hc (.inl z)
      obtain rfl | ⟨us0, y, rfl⟩ := List.eq_nil_or_concat us
      · exact absurd rfl (hcu hc0)
      rw [List.concat_eq_append] at *
      refine ⟨_, _, _, _, .stop (.inr ⟨ds0, e, us0, y, rfl, rfl, hc0, ?_⟩)⟩
      cases hs : sg e.g y.g with
      | false => rfl
      | true => exact absurd (.inr ⟨_, _, rfl, hc0, hs⟩) hc
end Nk57

namespace Nk57
open PySem L2 DL
local macro_rules | `(tactic| walk_at "dis") => `(tactic| first | exact True.intro | assumption | omega | (simp only [CDiv, CMul, Sm, CPow, List.length_cons, List.length_nil, List.length_append, List.length_take, List.length_set, List.length_map, List.length_drop, List.length_range]; omega) | exact ⟨rfl, rfl⟩ | rfl | decide)
local macro_rules | `(tactic| walk_at "at") => `(tactic| simp (disch := ((try simp only [List.length_append, List.length_set, List.length_cons, List.length_nil]); omega)) only [dctOf, lstOf, lsOf, seqOf, kdOf, tyOfR, clsR, putL, g_l, g_r, g_at, g_eq, g_ne, atI_0, atI_1, at_lst, ix_lst, atI_int, ixN_int, cut_to, cut_from, cut_toI, cut_fromI, tn1, tn2, cut_mid, cut_all, Nat.sub_self, List.getElem?_cons_zero, List.getElem?_cons_succ, Int.toNat_one, Int.toNat_zero, Int.toNat_natCast, List.set_cons_zero, List.set_cons_succ, List.drop_succ_cons, List.drop_zero, List.map_append, List.map_cons, List.map_nil, lst_pop, List.dropLast_concat, *])
local macro_rules | `(tactic| walk_at "go") => `(tactic| ((conv => whnf); repeat ((first | refine And.intro (by walk_at "dis") ?_ | ((fail_if_success refine Exists.intro ?_ ?_); walk_at "at")); (conv => whnf))))
local macro_rules | `(tactic| walk_at "len") => `(tactic| first | omega | (simp only [List.length_cons, List.length_nil, List.length_append, List.length_take, List.length_set, List.length_map, List.length_drop, List.length_range]; omega))
local macro_rules | `(tactic| walk_at "mem") => `(tactic| first | assumption | (simp (disch := ((try simp only [List.length_append, List.length_set, List.length_cons, List.length_nil]); omega)) only [g_l, g_r, g_at, g_eq, g_ne, List.length_append, List.length_set, List.length_cons, List.length_nil, Nat.sub_self, Nat.add_sub_cancel_left, List.getElem?_cons_zero, List.getElem?_cons_succ, List.cons_append, List.nil_append, nc0, Int.toNat_natCast, List.map_append, List.map_cons, List.map_nil, *]; done))
local macro_rules | `(tactic| walk_at "pre") => `(tactic| repeat (first | assumption | refine Pre.app ?_ | refine Pre.set ?_ (by (try simp only [List.length_append, List.length_set, List.length_cons, List.length_nil]); omega)))
local macro_rules | `(tactic| walk_at "norm") => `(tactic| simp only [startD, List.map_cons, List.map_nil, List.length_cons, List.length_nil, List.replicate_succ, List.replicate_zero, List.set_cons_zero, List.set_cons_succ, List.cons_append, List.nil_append, List.length_append, List.length_set, Nat.reduceAdd, Nat.reduceSub, Nat.zero_add, Nat.add_assoc, List.append_assoc])
local macro_rules | `(tactic| walk_at "T") => `(tactic| (refine br (fun _ => ?_) (fun h => absurd ?_ h); rotate_left; (first | rfl | assumption | (simp only [decide_eq_true_eq]; omega) | (simp; done) | (simp [*]; done) | (simp; omega))))
local macro_rules | `(tactic| walk_at "F") => `(tactic| (refine br (fun h => absurd h ?_) (fun _ => ?_); (first | (simp only [decide_eq_true_eq]; omega) | (simp; done) | (simp [*]; done) | (simp; omega))))
section
variable {G G1 G2 : Nat → Cl} (e : Lev bs G G1) {M : Mem} {Q : RV → Mem → Prop} {w dn un : Nat} {t : List Nat} {ds us : List E}
include e
theorem init_ok {o1 o2 o3 : Option D} (h : M[w]? = some (.ins 0 [o1, o2, o3]))
    (hq : ∀ M', M'[w]? = some (MO.ins 0 [some (.str t), some (.ref M.length), some (.ref (M.length + 1))]) → M'[M.length]? = some (.lst []) → M'[M.length + 1]? = some (.lst []) → M'.length = M.length + 2 → (∀ i, i ≠ w → i < M.length → M'[i]? = M[i]?) → Q (.d .non) M') : (G 0).t [.ref w, .str t] M Q := by
  have l := g_lt h
  rw [e 0]
  show (bodyCl (f0 G1) 2).t _ _ _
  walk_at "go"
  refine fin_here ?_
  refine hq _ ?_ ?_ ?_ ?_ ?_
  · walk_at "mem"
  · walk_at "mem"
  · walk_at "mem"
  · simp
  · intro i h1 h2
    walk_at "mem"
theorem same_group_ok {a b c a' b' c' : D} {x y : Option Int} (hq : Q (.d (.bl (sg x y))) M) : (G 4).t [.tup [a, b, c, gD x], .tup [a', b', c', gD y]] M Q := by
  rw [e 4]
  show (bodyCl (f4 G1) 2).t _ _ _
  cases x with
  | none => 
    walk_at "go"
    exact fin_here hq
  | some i =>
    cases y with
    | none =>
      walk_at "go"
      exact fin_here hq
    | some j =>
      walk_at "go"
      exact fin_here hq
theorem change_ok {p m : Nat} {pt : List Nat} {g : Option Int} (h : M[w]? = some (MO.ins 0 [some (.str t), some (.ref dn), some (.ref un)])) (h1 : M[dn]? = some (.lst (ds.map E.d))) (hw : w ≠ dn)
    (hl : ds.length < 1000) (ht : t.length ≤ 1000) (hpt : pt.length ≤ 1000) (hm : m ≤ 1000)
    (hq : p + m ≤ t.length → ∀ M', M'[w]? = some (MO.ins 0 [some (.str (app (E.mk p ((t.drop p).take m) pt g) t)), some (.ref dn), some (.ref M.length)]) → M'[dn]? = some (.lst ((ds ++ [E.mk p ((t.drop p).take m) pt g]).map E.d)) → M'[M.length]? = some (.lst []) → M'.length = M.length + 1 → (∀ i, i ≠ w → i ≠ dn → i < M.length → M'[i]? = M[i]?) → Q (.d (.bl true)) M')
    (hn : ¬ p + m ≤ t.length → Q (.d (.bl false)) M) : (G 1).t [.ref w, .int p, .int m, .str pt, gD g] M Q := by
  have l := g_lt h
  have l1 := g_lt h1
  rw [e 1]
  show (bodyCl (f1 G1) 5).t _ _ _
  walk_at "go"
  refine br_d (fun hz => ?_) (fun hz => ?_)
  · walk_at "go"
    exact fin_here (hn (by omega))
  · have hz' : p + m ≤ t.length := by omega
    walk_at "go"
    have htk : ((t.drop p).take m).length = m := by rw [List.length_take, List.length_drop]; omega
    have hap : app (E.mk p ((t.drop p).take m) pt g) t = t.take p ++ pt ++ t.drop (p + m) := by
      show t.take p ++ pt ++ t.drop (p + ((t.drop p).take m).length) = _
      rw [htk]
    rw [hap, List.map_append] at hq
    simp only [List.map_cons, List.map_nil, E.d] at hq
    clear hap
    refine fin_here ?_
    refine hq hz' _ ?_ ?_ ?_ ?_ ?_
    · walk_at "mem"
    · walk_at "mem"
    · walk_at "mem"
    · simp
    · intro i h1 h2 h3
      walk_at "mem"
/-- steps back -/
theorem undo_ok {G2 : Nat → Cl} (e1 : Lev bs G1 G2) {t' : List Nat} {ds' us' : List E} {c' : Nat} (h : M[w]? = some (MO.ins 0 [some (.str t), some (.ref dn), some (.ref un)])) (h1 : M[dn]? = some (.lst (ds.map E.d))) (h2 : M[un]? = some (.lst (us.map E.d))) (hw : w ≠ dn) (hw2 : w ≠ un) (hw3 : dn ≠ un)
    (hU : Un una t ds us 0 t' ds' us' c')
    (hq : ∀ M', M'[w]? = some (MO.ins 0 [some (.str t'), some (.ref dn), some (.ref un)]) → M'[dn]? = some (.lst (ds'.map E.d)) → M'[un]? = some (.lst (us'.map E.d)) → M'.length = M.length → (∀ i, i ≠ w → i ≠ dn → i ≠ un → M'[i]? = M[i]?) → Q (.d (.int c')) M') : (G 2).t [.ref w] M Q := by
  rw [e 2]
  show (bodyCl (f2 G1) 6).t _ _ _
  walk_at "go"
  refine ⟨fun m s M' => ∃ t ds us c o2 o3 o4 o5, m = ds.length ∧ s = [some (.ref w), some (.int (c : Nat)), o2, o3, o4, o5] ∧ M'[w]? = some (MO.ins 0 [some (.str t), some (.ref dn), some (.ref un)]) ∧ M'[dn]? = some (.lst (ds.map E.d)) ∧ M'[un]? = some (.lst (us.map E.d)) ∧ Un una t ds us c t' ds' us' c' ∧ M'.length = M.length ∧ (∀ i, i ≠ w → i ≠ dn → i ≠ un → M'[i]? = M[i]?), ⟨_, t, ds, us, 0, _, _, _, _, rfl, rfl, h, h1, h2, hU, rfl, fun _ _ _ _ => rfl⟩, ?_⟩
  clear h h1 h2 hU
  rintro m s M' ⟨t, ds, us, c, o2, o3, o4, o5, rfl, rfl, h, h1, h2, hU, hl, hf⟩
  have l := g_lt h
  have l1 := g_lt h1
  have l2 := g_lt h2
  cases hU with
  | stop hs =>
    rcases hs with rfl | ⟨ds0, x, us0, y, rfl, rfl, hc, hs⟩
    · walk_at "go"
      exact fin_here (hq _ h h1 h2 hl hf)
    · walk_at "go"
      refine br (fun _ => ?_) (fun h => absurd (by simp) h)
      walk_at "go"
      refine br (fun h => absurd (show (c' : Int) = 0 by simpa [D.eqv] using h) (by omega)) (fun _ => ?_)
      walk_at "go"
      refine same_group_ok e1 (x := x.g) (y := y.g) ?_
      rw [hs]
      walk_at "go"
      exact fin_here (hq _ h h1 h2 hl hf)
  | step hc b1 b2 b3 b4 b5 hU =>
    rename_i ds x
    have hx : x.d = .tup [.int x.p, .str x.tk, .str x.pt, gD x.g] := rfl
    have hu : una x t = t.take x.p ++ x.tk ++ t.drop (x.p + x.pt.length) := rfl
    walk_at "go"
    refine br (fun _ => ?_) (fun h => absurd (by simp) h)
    walk_at "go"
    refine br (fun h0 => ?_) (fun h0 => ?_)
    · walk_at "go"
      exact ⟨ds.length, by simp, una x t, ds, us ++ [x], c + 1, _, _, _, _, rfl, rfl, by walk_at "mem", by walk_at "mem", by walk_at "mem", hU, by simp [hl], fun i i1 i2 i3 => by walk_at "mem"⟩
    · obtain ⟨us0, y, rfl, hc0, hs⟩ := hc.resolve_left (fun z => h0 (by simp [z, D.eqv]))
      walk_at "go"
      refine same_group_ok e1 (x := x.g) (y := y.g) ?_
      rw [hs]
      have b6 := b5
      simp only [List.length_append, List.length_cons, List.length_nil] at b6
      walk_at "go"
      exact ⟨ds.length, by simp, una x t, ds, us0 ++ [y] ++ [x], c + 1, _, _, _, _, rfl, rfl, by walk_at "mem", by walk_at "mem", by walk_at "mem", hU, by simp [hl], fun i i1 i2 i3 => by walk_at "mem"⟩
/-- steps on -/
theorem redo_ok {G2 : Nat → Cl} (e1 : Lev bs G1 G2) {t' : List Nat} {ds' us' : List E} {c' : Nat} (h : M[w]? = some (MO.ins 0 [some (.str t), some (.ref un), some (.ref dn)])) (h1 : M[dn]? = some (.lst (ds.map E.d))) (h2 : M[un]? = some (.lst (us.map E.d))) (hw : w ≠ dn) (hw2 : w ≠ un) (hw3 : dn ≠ un)
    (hU : Un app t ds us 0 t' ds' us' c')
    (hq : ∀ M', M'[w]? = some (MO.ins 0 [some (.str t'), some (.ref un), some (.ref dn)]) → M'[dn]? = some (.lst (ds'.map E.d)) → M'[un]? = some (.lst (us'.map E.d)) → M'.length = M.length → (∀ i, i ≠ w → i ≠ dn → i ≠ un → M'[i]? = M[i]?) → Q (.d (.int c')) M') : (G 3).t [.ref w] M Q := by
  rw [e 3]
  show (bodyCl (f3 G1) 6).t _ _ _
  walk_at "go"
  refine ⟨fun m s M' => ∃ t ds us c o2 o3 o4 o5, m = ds.length ∧ s = [some (.ref w), some (.int (c : Nat)), o2, o3, o4, o5] ∧ M'[w]? = some (MO.ins 0 [some (.str t), some (.ref un), some (.ref dn)]) ∧ M'[dn]? = some (.lst (ds.map E.d)) ∧ M'[un]? = some (.lst (us.map E.d)) ∧ Un app t ds us c t' ds' us' c' ∧ M'.length = M.length ∧ (∀ i, i ≠ w → i ≠ dn → i ≠ un → M'[i]? = M[i]?), ⟨_, t, ds, us, 0, _, _, _, _, rfl, rfl, h, h1, h2, hU, rfl, fun _ _ _ _ => rfl⟩, ?_⟩
  clear h h1 h2 hU
  rintro m s M' ⟨t, ds, us, c, o2, o3, o4, o5, rfl, rfl, h, h1, h2, hU, hl, hf⟩
  have l := g_lt h
  have l1 := g_lt h1
  have l2 := g_lt h2
  cases hU with
  | stop hs =>
    rcases hs with rfl | ⟨ds0, x, us0, y, rfl, rfl, hc, hs⟩
    · walk_at "go"
      exact fin_here (hq _ h h1 h2 hl hf)
    · walk_at "go"
      refine br (fun _ => ?_) (fun h => absurd (by simp) h)
      walk_at "go"
      refine br (fun h => absurd (show (c' : Int) = 0 by simpa [D.eqv] using h) (by omega)) (fun _ => ?_)
      walk_at "go"
      refine same_group_ok e1 (x := x.g) (y := y.g) ?_
      rw [hs]
      walk_at "go"
      exact fin_here (hq _ h h1 h2 hl hf)
  | step hc b1 b2 b3 b4 b5 hU =>
    rename_i ds x
    have hx : x.d = .tup [.int x.p, .str x.tk, .str x.pt, gD x.g] := rfl
    have hu : app x t = t.take x.p ++ x.pt ++ t.drop (x.p + x.tk.length) := rfl
    walk_at "go"
    refine br (fun _ => ?_) (fun h => absurd (by simp) h)
    walk_at "go"
    refine br (fun h0 => ?_) (fun h0 => ?_)
    · walk_at "go"
      exact ⟨ds.length, by simp, app x t, ds, us ++ [x], c + 1, _, _, _, _, rfl, rfl, by walk_at "mem", by walk_at "mem", by walk_at "mem", hU, by simp [hl], fun i i1 i2 i3 => by walk_at "mem"⟩
    · obtain ⟨us0, y, rfl, hc0, hs⟩ := hc.resolve_left (fun z => h0 (by simp [z, D.eqv]))
      walk_at "go"
      refine same_group_ok e1 (x := x.g) (y := y.g) ?_
      rw [hs]
      have b6 := b5
      simp only [List.length_append, List.length_cons, List.length_nil] at b6
      walk_at "go"
      exact ⟨ds.length, by simp, app x t, ds, us0 ++ [y] ++ [x], c + 1, _, _, _, _, rfl, rfl, by walk_at "mem", by walk_at "mem", by walk_at "mem", hU, by simp [hl], fun i i1 i2 i3 => by walk_at "mem"⟩
end
end Nk57

namespace Nk57
open PySem L2 DL
local macro_rules | `(tactic| walk_at "dis") => `(tactic| first | exact True.intro | assumption | omega | (simp only [CDiv, CMul, Sm, CPow, List.length_cons, List.length_nil, List.length_append, List.length_take, List.length_set, List.length_map, List.length_drop, List.length_range]; omega) | exact ⟨rfl, rfl⟩ | rfl | decide)
local macro_rules | `(tactic| walk_at "at") => `(tactic| simp (disch := ((try simp only [List.length_append, List.length_set, List.length_cons, List.length_nil]); omega)) only [dctOf, lstOf, lsOf, seqOf, kdOf, tyOfR, clsR, putL, g_l, g_r, g_at, g_eq, g_ne, atI_0, atI_1, at_lst, ix_lst, atI_int, ixN_int, cut_to, cut_from, cut_toI, cut_fromI, tn1, tn2, cut_mid, cut_all, Nat.sub_self, List.getElem?_cons_zero, List.getElem?_cons_succ, Int.toNat_one, Int.toNat_zero, Int.toNat_natCast, List.set_cons_zero, List.set_cons_succ, List.drop_succ_cons, List.drop_zero, List.map_append, List.map_cons, List.map_nil, lst_pop, List.dropLast_concat, *])
local macro_rules | `(tactic| walk_at "go") => `(tactic| ((conv => whnf); repeat ((first | refine And.intro (by walk_at "dis") ?_ | ((fail_if_success refine Exists.intro ?_ ?_); walk_at "at")); (conv => whnf))))
local macro_rules | `(tactic| walk_at "len") => `(tactic| first | omega | (simp only [List.length_cons, List.length_nil, List.length_append, List.length_take, List.length_set, List.length_map, List.length_drop, List.length_range]; omega))
local macro_rules | `(tactic| walk_at "mem") => `(tactic| first | assumption | (simp (disch := ((try simp only [List.length_append, List.length_set, List.length_cons, List.length_nil]); omega)) only [g_l, g_r, g_at, g_eq, g_ne, List.length_append, List.length_set, List.length_cons, List.length_nil, Nat.sub_self, Nat.add_sub_cancel_left, List.getElem?_cons_zero, List.getElem?_cons_succ, List.cons_append, List.nil_append, nc0, Int.toNat_natCast, List.map_append, List.map_cons, List.map_nil, *]; done))
local macro_rules | `(tactic| walk_at "pre") => `(tactic| repeat (first | assumption | refine Pre.app ?_ | refine Pre.set ?_ (by (try simp only [List.length_append, List.length_set, List.length_cons, List.length_nil]); omega)))
local macro_rules | `(tactic| walk_at "norm") => `(tactic| simp only [startD, List.map_cons, List.map_nil, List.length_cons, List.length_nil, List.replicate_succ, List.replicate_zero, List.set_cons_zero, List.set_cons_succ, List.cons_append, List.nil_append, List.length_append, List.length_set, Nat.reduceAdd, Nat.reduceSub, Nat.zero_add, Nat.add_assoc, List.append_assoc])
local macro_rules | `(tactic| walk_at "T") => `(tactic| (refine br (fun _ => ?_) (fun h => absurd ?_ h); rotate_left; (first | rfl | assumption | (simp only [decide_eq_true_eq]; omega) | (simp; done) | (simp [*]; done) | (simp; omega))))
local macro_rules | `(tactic| walk_at "F") => `(tactic| (refine br (fun h => absurd h ?_) (fun _ => ?_); (first | (simp only [decide_eq_true_eq]; omega) | (simp; done) | (simp [*]; done) | (simp; omega))))
def jn (l e : E) : Bool := decide (e.tk = []) && decide (l.tk = []) && sg l.g e.g && decide (e.p = l.p + l.pt.length)
def tyS (fs : List E) (e : E) : List E := match fs.getLast? with
  | some l => if jn l e = true then fs.dropLast ++ [E.mk l.p [] (l.pt ++ e.pt) e.g] else fs ++ [e]
  | none => fs ++ [e]
theorem tyS_nil {e : E} : tyS [] e = [e] := rfl
theorem tyS_snoc {fs : List E} {l e : E} : tyS (fs ++ [l]) e = if jn l e = true then fs ++ [E.mk l.p [] (l.pt ++ e.pt) e.g] else fs ++ [l] ++ [e] := by
  simp [tyS]
def tyR (cs : List E) (i : Nat) : List E := (cs.take i).foldl tyS []
theorem tyR_succ {cs : List E} {i : Nat} (h : i < cs.length) : tyR cs (i + 1) = tyS (tyR cs i) cs[i] := by
  unfold tyR
  rw [List.take_succ_eq_append_getElem h, List.foldl_append]; rfl
structure Lim (c : E) : Prop where
  tk : c.tk.length ≤ 2
  pt : c.pt.length ≤ 2
theorem tyR_lim {cs : List E} (hc : ∀ c ∈ cs, Lim c) : ∀ {i : Nat}, i ≤ cs.length → (tyR cs i).length ≤ i ∧ ∀ x ∈ tyR cs i, x.pt.length ≤ 2 * i ∧ x.tk.length ≤ 2
  | 0, _ => ⟨Nat.le_refl _, fun _ h => nomatch h⟩
  | i + 1, h => by
    obtain ⟨h1, h2⟩ := tyR_lim hc (i := i) (by omega)
    rw [tyR_succ (by omega)]
    have hl := hc cs[i] (List.getElem_mem _)
    generalize cs[i] = c at hl
    generalize tyR cs i = fs at h1 h2
    obtain rfl | ⟨fs, l, rfl⟩ := List.eq_nil_or_concat fs
    · rw [tyS_nil]
      refine ⟨by simp, fun x hx => ?_⟩
      have : x = c := by simpa using hx
      subst this
      exact ⟨by have := hl.pt; omega, hl.tk⟩
    · rw [List.concat_eq_append] at *
      rw [tyS_snoc]
      have hl2 := h2 l (by simp)
      split
      · refine ⟨by simp at h1 ⊢; omega, fun x hx => ?_⟩
        rcases List.mem_append.mp hx with z | z
        · have := h2 x (by simp [z]); exact ⟨by omega, this.2⟩
        · have : x = _ := List.mem_singleton.mp z
          subst this
          have := hl.pt
          exact ⟨by simp; omega, by simp⟩
      · refine ⟨by simp at h1 ⊢; omega, fun x hx => ?_⟩
        rcases List.mem_append.mp hx with z | z
        · have := h2 x z; exact ⟨by omega, this.2⟩
        · have : x = c := List.mem_singleton.mp z
          subst this
          exact ⟨by have := hl.pt; omega, hl.tk⟩
theorem sgf {x y : Option Int} (h : sg x y = false) : True := trivial
theorem ed_bel {fs : List E} {n : Nat} : RV.bel n (.d (.tup (fs.map E.d))) = true := by
  show D.bels _ _ = true
  induction fs with
  | nil => rfl
  | cons e fs ih =>
    rw [List.map_cons]
    simp only [D.bels, Bool.and_eq_true]
    refine ⟨?_, ih⟩
    cases e with
    | mk p tk pt g => cases g <;> rfl
theorem typed_ok {G G1 G2 : Nat → Cl} (e : Lev bs G G1) (e1 : Lev bs G1 G2) {M : Mem} {Q : RV → Mem → Prop} {cs : List E} (hc : ∀ c ∈ cs, Lim c) (hl : cs.length ≤ 10) (hq : Q (.d (.tup ((tyR cs cs.length).map E.d))) M) : (G 5).t [.tup (cs.map E.d)] M Q := by
  rw [e 5]
  show (bodyCl (f5 G1) 9).t _ _ _
  walk_at "go"
  refine for_fix (fun i s M' => ∃ o2 o3 o4 o5 o6 o7 o8, s = [some (.tup (cs.map E.d)), some (.ref M.length), o2, o3, o4, o5, o6, o7, o8] ∧ M' = M ++ [.lst ((tyR cs i).map E.d)]) ⟨_, _, _, _, _, _, _, rfl, rfl⟩ (fun i hi s M' => ?_) (fun s M' => ?_)
  · rintro ⟨o2, o3, o4, o5, o6, o7, o8, rfl, rfl⟩
    have hi' : i < cs.length := by simpa using hi
    obtain ⟨b1, b2⟩ := tyR_lim hc (Nat.le_of_lt hi')
    have s1 := tyR_succ hi'
    rw [s1, List.getElem_map]
    have hcl := hc cs[i] (List.getElem_mem _)
    generalize cs[i] = c at *
    clear s1
    generalize tyR cs i = fs at *
    have hx : c.d = .tup [.int c.p, .str c.tk, .str c.pt, gD c.g] := rfl
    obtain rfl | ⟨fs, l, rfl⟩ := List.eq_nil_or_concat fs
    · rw [tyS_nil]
      walk_at "go"
      exact ⟨_, _, _, _, _, _, _, rfl, by simp [E.d]⟩
    · rw [List.concat_eq_append] at *
      have hno : jn l c = false → tyS (fs ++ [l]) c = fs ++ [l] ++ [c] := fun h => by rw [tyS_snoc, h]; rfl
      have hyes : jn l c = true → tyS (fs ++ [l]) c = fs ++ [E.mk l.p [] (l.pt ++ c.pt) c.g] := fun h => by rw [tyS_snoc, h]; rfl
      generalize tyS (fs ++ [l]) c = R at *
      have hb := b2 l (by simp)
      have hct := hcl.tk
      have hcp := hcl.pt
      have hy : l.d = .tup [.int l.p, .str l.tk, .str l.pt, gD l.g] := rfl
      have b1' := b1
      simp only [List.length_append, List.length_cons, List.length_nil] at b1'
      walk_at "go"
      refine br (fun _ => ?_) (fun h => absurd (by simp) h)
      walk_at "go"
      refine br (fun t1 => ?_) (fun t1 => ?_)
      · replace t1 : c.tk = [] := by simpa [D.eqv] using t1
        walk_at "go"
        refine br (fun t2 => ?_) (fun t2 => ?_)
        · replace t2 : l.tk = [] := by simpa [D.eqv] using t2
          walk_at "go"
          refine same_group_ok e1 (x := l.g) (y := c.g) ?_
          cases hs : sg l.g c.g with
          | true =>
            walk_at "go"
            refine br (fun t3 => ?_) (fun t3 => ?_)
            · replace t3 : c.p = l.p + l.pt.length := by have : (c.p : Int) = l.p + l.pt.length := by simpa [D.eqv] using t3
                                                         omega
              walk_at "go"
              exact ⟨_, _, _, _, _, _, _, rfl, by rw [hyes (by simp [jn, *])]; simp [E.d]⟩
            · replace t3 : c.p ≠ l.p + l.pt.length := fun z => t3 (by simp [D.eqv, z])
              walk_at "go"
              exact ⟨_, _, _, _, _, _, _, rfl, by rw [hno (by simp [jn, *])]; simp [E.d, t1, t2]⟩
          | false =>
            walk_at "go"
            exact ⟨_, _, _, _, _, _, _, rfl, by rw [hno (by simp [jn, *])]; simp [E.d, t1, t2]⟩
        · replace t2 : l.tk ≠ [] := fun z => t2 (by simp [z, D.eqv])
          walk_at "go"
          exact ⟨_, _, _, _, _, _, _, rfl, by rw [hno (by simp [jn, *])]; simp [E.d, t1]⟩
      · replace t1 : c.tk ≠ [] := fun z => t1 (by simp [z, D.eqv])
        walk_at "go"
        exact ⟨_, _, _, _, _, _, _, rfl, by rw [hno (by simp [jn, *])]; simp [E.d]⟩
  · rintro ⟨o2, o3, o4, o5, o6, o7, o8, rfl, rfl⟩
    rw [List.length_map]
    walk_at "go"
    refine Pre.fin ?_ ed_bel hq
    walk_at "pre"
    exact Pre.refl
end Nk57

namespace Nk57
open PySem L2 DL
local macro_rules | `(tactic| walk_at "dis") => `(tactic| first | exact True.intro | assumption | omega | (simp only [CDiv, CMul, Sm, CPow, List.length_cons, List.length_nil, List.length_append, List.length_take, List.length_set, List.length_map, List.length_drop, List.length_range]; omega) | exact ⟨rfl, rfl⟩ | rfl | decide)
local macro_rules | `(tactic| walk_at "at") => `(tactic| simp (disch := ((try simp only [List.length_append, List.length_set, List.length_cons, List.length_nil]); omega)) only [dctOf, lstOf, lsOf, seqOf, kdOf, tyOfR, clsR, putL, g_l, g_r, g_at, g_eq, g_ne, atI_0, atI_1, at_lst, ix_lst, atI_int, ixN_int, cut_to, cut_from, cut_toI, cut_fromI, tn1, tn2, cut_mid, cut_all, Nat.sub_self, List.getElem?_cons_zero, List.getElem?_cons_succ, Int.toNat_one, Int.toNat_zero, Int.toNat_natCast, List.set_cons_zero, List.set_cons_succ, List.drop_succ_cons, List.drop_zero, List.map_append, List.map_cons, List.map_nil, lst_pop, List.dropLast_concat, *])
local macro_rules | `(tactic| walk_at "go") => `(tactic| ((conv => whnf); repeat ((first | refine And.intro (by walk_at "dis") ?_ | ((fail_if_success refine Exists.intro ?_ ?_); walk_at "at")); (conv => whnf))))
local macro_rules | `(tactic| walk_at "len") => `(tactic| first | omega | (simp only [List.length_cons, List.length_nil, List.length_append, List.length_take, List.length_set, List.length_map, List.length_drop, List.length_range]; omega))
local macro_rules | `(tactic| walk_at "mem") => `(tactic| first | assumption | (simp (disch := ((try simp only [List.length_append, List.length_set, List.length_cons, List.length_nil]); omega)) only [g_l, g_r, g_at, g_eq, g_ne, List.length_append, List.length_set, List.length_cons, List.length_nil, Nat.sub_self, Nat.add_sub_cancel_left, List.getElem?_cons_zero, List.getElem?_cons_succ, List.cons_append, List.nil_append, nc0, Int.toNat_natCast, List.map_append, List.map_cons, List.map_nil, *]; done))
local macro_rules | `(tactic| walk_at "pre") => `(tactic| repeat (first | assumption | refine Pre.app ?_ | refine Pre.set ?_ (by (try simp only [List.length_append, List.length_set, List.length_cons, List.length_nil]); omega)))
local macro_rules | `(tactic| walk_at "norm") => `(tactic| simp only [startD, List.map_cons, List.map_nil, List.length_cons, List.length_nil, List.replicate_succ, List.replicate_zero, List.set_cons_zero, List.set_cons_succ, List.cons_append, List.nil_append, List.length_append, List.length_set, Nat.reduceAdd, Nat.reduceSub, Nat.zero_add, Nat.add_assoc, List.append_assoc])
local macro_rules | `(tactic| walk_at "T") => `(tactic| (refine br (fun _ => ?_) (fun h => absurd ?_ h); rotate_left; (first | rfl | assumption | (simp only [decide_eq_true_eq]; omega) | (simp; done) | (simp [*]; done) | (simp; omega))))
local macro_rules | `(tactic| walk_at "F") => `(tactic| (refine br (fun h => absurd h ?_) (fun _ => ?_); (first | (simp only [decide_eq_true_eq]; omega) | (simp; done) | (simp [*]; done) | (simp; omega))))
def lD (x : List Nat × Option Int) : D := .tup [.str x.1, gD x.2]
/-- the law's state between turns -/
structure Inv (n j : Nat) (dg : List D) (M : Mem) (t : List Nat) (un lu : Nat) (ds us : List E) (ld ll : List (List Nat × Option Int)) : Prop where
  m0 : M[0]? = some (.lst dg)
  m2 : ∃ i, 0 ≤ i ∧ M[2]? = some (MO.lst [.ref 0, .int i, .int 0, .int 0, .int 0, .ref 1])
  m3 : M[3]? = some (MO.ins 0 [some (.str t), some (.ref 4), some (.ref un)])
  m4 : M[4]? = some (.lst (ds.map E.d))
  mu : M[un]? = some (.lst (us.map E.d))
  m6 : M[6]? = some (.lst (ld.map lD))
  ml : M[lu]? = some (.lst (ll.map lD))
  ch : Ch n t ds ld
  cu : Cu n t us ll
  tl : t.length ≤ n
  sz : ds.length + us.length ≤ j
  u1 : 4 < un
  u2 : un ≠ 6
  l1 : 4 < lu
  l2 : lu ≠ 6
  l3 : lu ≠ un
theorem steps_len {f : E → List Nat → List Nat} {t : List Nat} {ds us : List E} {c : Nat} {t' : List Nat} {ds' us' : List E} {c' : Nat} (h : Un f t ds us c t' ds' us' c') : ds'.length + us'.length = ds.length + us.length := by
  induction h with
  | stop _ => rfl
  | step _ _ _ _ _ _ _ ih => rw [ih]; simp; omega
theorem un_nil {f : E → List Nat → List Nat} {t : List Nat} {us : List E} {c : Nat} {t' : List Nat} {ds' us' : List E} {c' : Nat} (h : Un f t [] us c t' ds' us' c') : t' = t ∧ ds' = [] ∧ us' = us ∧ c' = c := by
  generalize hx : ([] : List E) = x at h
  cases h with
  | stop _ => exact ⟨rfl, by first | rfl | exact hx.symm, rfl, rfl⟩
  | step => simp at hx
/-- the law's own steps back -/
theorem back_loop {G1 : Nat → Cl} {D0 : En} {ns : D} {M : Mem} {n : Nat} {t t' : List Nat} {ds us ds' us' : List E} {ld ll : List (List Nat × Option Int)} {c' lu : Nat} {o6 o7 o8 o9 o10 o11 o12 o13 o14 o15 o16 o17 o20 o21 : Option D}
    (hn : n ≤ 1000) (hz : ds.length + us.length ≤ 1000) (h6 : M[6]? = some (.lst (ld.map lD))) (hlu : M[lu]? = some (.lst (ll.map lD))) (hne : lu ≠ 6) (ch : Ch n t ds ld) (cu : Cu n t us ll) (hU : Un una t ds us 0 t' ds' us' c')
    (hq : ∀ M' ld' ll' o8 o19 o20, M'[6]? = some (.lst (ld'.map lD)) → M'[lu]? = some (.lst (ll'.map lD)) → Ch n t' ds' ld' → Cu n t' us' ll' → (∀ i, i ≠ 6 → i ≠ lu → M'[i]? = M[i]?) → M'.length = M.length → D0.nx [some ns, some (.ref 2), some (.str t'), some (.ref 3), some (.ref 6), some (.ref lu), o6, o7, o8, o9, o10, o11, o12, o13, o14, o15, o16, o17, some (.int c'), o19, o20, o21] M') :
    ∃ k, forN (srRng 0 1 ld.length) (gNm 8) (f12_l1 G1) D0 k 0 [some ns, some (.ref 2), some (.str t), some (.ref 3), some (.ref 6), some (.ref lu), o6, o7, o8, o9, o10, o11, o12, o13, o14, o15, o16, o17, some (.int 0), some .non, o20, o21] M := by
  refine for_rng0P (fun k s M' => ∃ t1 ds1 us1 ld1 ll1 c g o8 o20, s = [some ns, some (.ref 2), some (.str t1), some (.ref 3), some (.ref 6), some (.ref lu), o6, o7, o8, o9, o10, o11, o12, o13, o14, o15, o16, o17, some (.int (c : Nat)), some (gD g), o20, o21] ∧ M'[6]? = some (.lst (ld1.map lD)) ∧ M'[lu]? = some (.lst (ll1.map lD)) ∧ Ch n t1 ds1 ld1 ∧ Cu n t1 us1 ll1 ∧ Un una t1 ds1 us1 c t' ds' us' c' ∧ (∀ us0 y, us1 = us0 ++ [y] → c ≠ 0 → y.g = g) ∧ ds1.length + k = ld.length ∧ (∀ i, i ≠ 6 → i ≠ lu → M'[i]? = M[i]?) ∧ M'.length = M.length ∧ ds1.length + us1.length ≤ 1000)
    (fun s M' => ∃ ld' ll' o8 o19 o20, s = [some ns, some (.ref 2), some (.str t'), some (.ref 3), some (.ref 6), some (.ref lu), o6, o7, o8, o9, o10, o11, o12, o13, o14, o15, o16, o17, some (.int c'), o19, o20, o21] ∧ M'[6]? = some (.lst (ld'.map lD)) ∧ M'[lu]? = some (.lst (ll'.map lD)) ∧ Ch n t' ds' ld' ∧ Cu n t' us' ll' ∧ (∀ i, i ≠ 6 → i ≠ lu → M'[i]? = M[i]?) ∧ M'.length = M.length)
    ⟨t, ds, us, ld, ll, 0, none, _, _, rfl, h6, hlu, ch, cu, hU, fun _ _ _ z => absurd rfl z, ch.len, fun _ _ _ => rfl, rfl, hz⟩ (fun k hk s M' => ?_) (fun s M' => ?_) (fun s M' => ?_)
  · rintro ⟨t1, ds1, us1, ld1, ll1, c, g, o8, o20, rfl, m6, ml, ch, cu, hU, hg, hkl, fr, hlen, hz⟩
    clear h6 hlu hq
    have l6 := g_lt m6
    have ll := g_lt ml
    cases hU with
    | stop hs =>
      rcases hs with rfl | ⟨ds0, ⟨xp, xtk, xpt, xg⟩, us0, y, rfl, rfl, hc, hs⟩
      · simp at hkl; omega
      · obtain ⟨t0, ld0, rfl, rfl, o, ch0⟩ := ch.back
        have hyg := hg us0 y rfl hc
        rw [hyg] at hs
        clear hg hyg
        have brk := fun (o8 o19 o20 : Option D) (s : Slots) (e : s = [some ns, some (.ref 2), some (.str (app (E.mk xp xtk xpt xg) t0)), some (.ref 3), some (.ref 6), some (.ref lu), o6, o7, o8, o9, o10, o11, o12, o13, o14, o15, o16, o17, some (.int (c' : Nat)), o19, o20, o21]) => (show ∃ ld' ll' o8 o19 o20, s = [some ns, some (.ref 2), some (.str (app (E.mk xp xtk xpt xg) t0)), some (.ref 3), some (.ref 6), some (.ref lu), o6, o7, o8, o9, o10, o11, o12, o13, o14, o15, o16, o17, some (.int c'), o19, o20, o21] ∧ M'[6]? = some (.lst (ld'.map lD)) ∧ M'[lu]? = some (.lst (ll'.map lD)) ∧ Ch n (app (E.mk xp xtk xpt xg) t0) (ds0 ++ [E.mk xp xtk xpt xg]) ld' ∧ Cu n (app (E.mk xp xtk xpt xg) t0) (us0 ++ [y]) ll' ∧ (∀ i, i ≠ 6 → i ≠ lu → M'[i]? = M[i]?) ∧ M'.length = M.length from ⟨_, _, o8, o19, o20, e, m6, ml, ch, cu, fr, hlen⟩)
        clear ch cu ch0
        generalize app (E.mk xp xtk xpt xg) t0 = t1 at *
        cases xg with
        | none =>
          walk_at "go"
          refine br_d (fun _ => ?_) (fun h => absurd (by simp) h)
          walk_at "go"
          refine br (fun h => absurd (show (c' : Int) = 0 by simpa [D.eqv] using h) (by omega)) (fun _ => ?_)
          walk_at "go"
          exact brk _ _ _ _ rfl
        | some xi =>
          walk_at "go"
          refine br_d (fun _ => ?_) (fun h => absurd (by simp) h)
          walk_at "go"
          refine br (fun h => absurd (show (c' : Int) = 0 by simpa [D.eqv] using h) (by omega)) (fun _ => ?_)
          cases g with
          | none =>
            walk_at "go"
            exact brk _ _ _ _ rfl
          | some gi =>
            walk_at "go"
            have hne : xi ≠ gi := by simpa [sg] using hs
            refine br (fun h => absurd (show xi = gi by simpa [D.eqv, gD] using h) hne) (fun _ => ?_)
            walk_at "go"
            exact brk _ _ _ _ rfl
    | step hc b1 b2 b3 b4 b5 hU =>
      rename_i ds0 x
      obtain ⟨xp, xtk, xpt, xg⟩ := x
      obtain ⟨t0, ld0, rfl, rfl, o, ch0⟩ := ch.back
      rw [una_app o] at hU b2
      have cu0 := Cu.snoc o cu
      have hll := cu.len
      clear ch cu
      generalize app (E.mk xp xtk xpt xg) t0 = t1 at *
      walk_at "go"
      refine br_d (fun _ => ?_) (fun h => absurd (by simp) h)
      walk_at "go"
      refine br (fun h0 => ?_) (fun h0 => ?_)
      · walk_at "go"
        have hlD : lD (t1, xg) = .tup [.str t1, gD xg] := rfl
        exact ⟨t0, ds0, us1 ++ [E.mk xp xtk xpt xg], ld0, ll1 ++ [(t1, xg)], c + 1, xg, _, _, rfl, by walk_at "mem", by walk_at "mem", ch0, cu0, hU, fun us0 y e _ => by have := (List.append_inj' e rfl).2; simp at this; rw [← this], by simp at hkl ⊢; omega, fun i i1 i2 => by walk_at "mem", by simp [hlen], by simp at hz ⊢; omega⟩
      · obtain ⟨us0, y, rfl, hc0, hs⟩ := hc.resolve_left (fun z => h0 (by simp [z, D.eqv]))
        have hyg := hg us0 y rfl hc0
        rw [hyg] at hs
        clear hg hyg
        have b6 := b5
        simp only [List.length_append, List.length_cons, List.length_nil] at b6 hll
        cases xg with
        | none => simp [sg] at hs
        | some xi =>
          cases g with
          | none => simp [sg] at hs
          | some gi =>
            have hne : xi = gi := by simpa [sg] using hs
            subst hne
            walk_at "go"
            refine br (fun _ => ?_) (fun h => absurd (by simp [D.eqv, gD]) h)
            walk_at "go"
            have hlD : lD (t1, some xi) = .tup [.str t1, gD (some xi)] := rfl
            exact ⟨t0, ds0, us0 ++ [y] ++ [E.mk xp xtk xpt (some xi)], ld0, ll1 ++ [(t1, (some xi))], c + 1, (some xi), _, _, rfl, by walk_at "mem", by walk_at "mem", ch0, cu0, hU, fun us0 y e _ => by have := (List.append_inj' e rfl).2; simp at this; rw [← this], by simp at hkl ⊢; omega, fun i i1 i2 => by walk_at "mem", by simp [hlen], by simp at hz ⊢; omega⟩
  · rintro ⟨t1, ds1, us1, ld1, ll1, c, g, o8, o20, rfl, m6, ml, ch, cu, hU, hg, hkl, fr, hlen, hz⟩
    have : ds1 = [] := List.eq_nil_of_length_eq_zero (by omega)
    subst this
    obtain ⟨rfl, rfl, rfl, rfl⟩ := un_nil hU
    exact ⟨_, _, _, _, _, rfl, m6, ml, ch, cu, fr, hlen⟩
  · rintro ⟨ld', ll', o8, o19, o20, rfl, m6, ml, ch, cu, fr, hlen⟩
    exact hq _ _ _ _ _ _ m6 ml ch cu fr hlen
/-- the law's own steps on -/
theorem on_loop {G1 : Nat → Cl} {D0 : En} {ns : D} {M : Mem} {n : Nat} {t t' : List Nat} {ds us ds' us' : List E} {ld ll : List (List Nat × Option Int)} {c' lu : Nat} {o6 o7 o8 o9 o10 o11 o12 o13 o14 o15 o16 o17 o20 o21 : Option D}
    (hn : n ≤ 1000) (hz : ds.length + us.length ≤ 1000) (h6 : M[lu]? = some (.lst (ld.map lD))) (hlu : M[6]? = some (.lst (ll.map lD))) (hne : lu ≠ 6) (ch : Cu n t ds ld) (cu : Ch n t us ll) (hU : Un app t ds us 0 t' ds' us' c')
    (hq : ∀ M' ld' ll' o8 o19 o21, M'[lu]? = some (.lst (ld'.map lD)) → M'[6]? = some (.lst (ll'.map lD)) → Cu n t' ds' ld' → Ch n t' us' ll' → (∀ i, i ≠ 6 → i ≠ lu → M'[i]? = M[i]?) → M'.length = M.length → D0.nx [some ns, some (.ref 2), some (.str t'), some (.ref 3), some (.ref 6), some (.ref lu), o6, o7, o8, o9, o10, o11, o12, o13, o14, o15, o16, o17, some (.int c'), o19, o20, o21] M') :
    ∃ k, forN (srRng 0 1 ld.length) (gNm 8) (f12_l2 G1) D0 k 0 [some ns, some (.ref 2), some (.str t), some (.ref 3), some (.ref 6), some (.ref lu), o6, o7, o8, o9, o10, o11, o12, o13, o14, o15, o16, o17, some (.int 0), some .non, o20, o21] M := by
  refine for_rng0P (fun k s M' => ∃ t1 ds1 us1 ld1 ll1 c g o8 o21, s = [some ns, some (.ref 2), some (.str t1), some (.ref 3), some (.ref 6), some (.ref lu), o6, o7, o8, o9, o10, o11, o12, o13, o14, o15, o16, o17, some (.int (c : Nat)), some (gD g), o20, o21] ∧ M'[lu]? = some (.lst (ld1.map lD)) ∧ M'[6]? = some (.lst (ll1.map lD)) ∧ Cu n t1 ds1 ld1 ∧ Ch n t1 us1 ll1 ∧ Un app t1 ds1 us1 c t' ds' us' c' ∧ (∀ us0 y, us1 = us0 ++ [y] → c ≠ 0 → y.g = g) ∧ ds1.length + k = ld.length ∧ (∀ i, i ≠ 6 → i ≠ lu → M'[i]? = M[i]?) ∧ M'.length = M.length ∧ ds1.length + us1.length ≤ 1000)
    (fun s M' => ∃ ld' ll' o8 o19 o21, s = [some ns, some (.ref 2), some (.str t'), some (.ref 3), some (.ref 6), some (.ref lu), o6, o7, o8, o9, o10, o11, o12, o13, o14, o15, o16, o17, some (.int c'), o19, o20, o21] ∧ M'[lu]? = some (.lst (ld'.map lD)) ∧ M'[6]? = some (.lst (ll'.map lD)) ∧ Cu n t' ds' ld' ∧ Ch n t' us' ll' ∧ (∀ i, i ≠ 6 → i ≠ lu → M'[i]? = M[i]?) ∧ M'.length = M.length)
    ⟨t, ds, us, ld, ll, 0, none, _, _, rfl, h6, hlu, ch, cu, hU, fun _ _ _ z => absurd rfl z, ch.len, fun _ _ _ => rfl, rfl, hz⟩ (fun k hk s M' => ?_) (fun s M' => ?_) (fun s M' => ?_)
  · rintro ⟨t1, ds1, us1, ld1, ll1, c, g, o8, o21, rfl, m6, ml, ch, cu, hU, hg, hkl, fr, hlen, hz⟩
    clear h6 hlu hq
    have l6 := g_lt m6
    have ll := g_lt ml
    cases hU with
    | stop hs =>
      rcases hs with rfl | ⟨ds0, ⟨xp, xtk, xpt, xg⟩, us0, y, rfl, rfl, hc, hs⟩
      · simp at hkl; omega
      · obtain ⟨ld0, rfl, o, ch0⟩ := ch.back
        have hyg := hg us0 y rfl hc
        rw [hyg] at hs
        clear hg hyg
        have brk := fun (o8 o19 o21 : Option D) (s : Slots) (e : s = [some ns, some (.ref 2), some (.str t'), some (.ref 3), some (.ref 6), some (.ref lu), o6, o7, o8, o9, o10, o11, o12, o13, o14, o15, o16, o17, some (.int (c' : Nat)), o19, o20, o21]) => (show ∃ ld' ll' o8 o19 o21, s = [some ns, some (.ref 2), some (.str t'), some (.ref 3), some (.ref 6), some (.ref lu), o6, o7, o8, o9, o10, o11, o12, o13, o14, o15, o16, o17, some (.int c'), o19, o20, o21] ∧ M'[lu]? = some (.lst (ld'.map lD)) ∧ M'[6]? = some (.lst (ll'.map lD)) ∧ Cu n t' (ds0 ++ [E.mk xp xtk xpt xg]) ld' ∧ Ch n t' (us0 ++ [y]) ll' ∧ (∀ i, i ≠ 6 → i ≠ lu → M'[i]? = M[i]?) ∧ M'.length = M.length from ⟨_, _, o8, o19, o21, e, m6, ml, ch, cu, fr, hlen⟩)
        clear ch cu ch0
        cases xg with
        | none =>
          walk_at "go"
          refine br_d (fun _ => ?_) (fun h => absurd (by simp) h)
          walk_at "go"
          refine br (fun h => absurd (show (c' : Int) = 0 by simpa [D.eqv] using h) (by omega)) (fun _ => ?_)
          walk_at "go"
          exact brk _ _ _ _ rfl
        | some xi =>
          walk_at "go"
          refine br_d (fun _ => ?_) (fun h => absurd (by simp) h)
          walk_at "go"
          refine br (fun h => absurd (show (c' : Int) = 0 by simpa [D.eqv] using h) (by omega)) (fun _ => ?_)
          cases g with
          | none =>
            walk_at "go"
            exact brk _ _ _ _ rfl
          | some gi =>
            walk_at "go"
            have hne : xi ≠ gi := by simpa [sg] using hs
            refine br (fun h => absurd (show xi = gi by simpa [D.eqv, gD] using h) hne) (fun _ => ?_)
            walk_at "go"
            exact brk _ _ _ _ rfl
    | step hc b1 b2 b3 b4 b5 hU =>
      rename_i ds0 x
      obtain ⟨xp, xtk, xpt, xg⟩ := x
      obtain ⟨ld0, rfl, o, ch0⟩ := ch.back
      have cu0 := Ch.snoc o cu
      have hll := cu.len
      clear ch cu
      generalize app (E.mk xp xtk xpt xg) t1 = t0 at *
      walk_at "go"
      refine br_d (fun _ => ?_) (fun h => absurd (by simp) h)
      walk_at "go"
      refine br (fun h0 => ?_) (fun h0 => ?_)
      · walk_at "go"
        have hlD : lD (t1, xg) = .tup [.str t1, gD xg] := rfl
        exact ⟨t0, ds0, us1 ++ [E.mk xp xtk xpt xg], ld0, ll1 ++ [(t1, xg)], c + 1, xg, _, _, rfl, by walk_at "mem", by walk_at "mem", ch0, cu0, hU, fun us0 y e _ => by have := (List.append_inj' e rfl).2; simp at this; rw [← this], by simp at hkl ⊢; omega, fun i i1 i2 => by walk_at "mem", by simp [hlen], by simp at hz ⊢; omega⟩
      · obtain ⟨us0, y, rfl, hc0, hs⟩ := hc.resolve_left (fun z => h0 (by simp [z, D.eqv]))
        have hyg := hg us0 y rfl hc0
        rw [hyg] at hs
        clear hg hyg
        have b6 := b5
        simp only [List.length_append, List.length_cons, List.length_nil] at b6 hll
        cases xg with
        | none => simp [sg] at hs
        | some xi =>
          cases g with
          | none => simp [sg] at hs
          | some gi =>
            have hne : xi = gi := by simpa [sg] using hs
            subst hne
            walk_at "go"
            refine br (fun _ => ?_) (fun h => absurd (by simp [D.eqv, gD]) h)
            walk_at "go"
            have hlD : lD (t1, some xi) = .tup [.str t1, gD (some xi)] := rfl
            exact ⟨t0, ds0, us0 ++ [y] ++ [E.mk xp xtk xpt (some xi)], ld0, ll1 ++ [(t1, (some xi))], c + 1, (some xi), _, _, rfl, by walk_at "mem", by walk_at "mem", ch0, cu0, hU, fun us0 y e _ => by have := (List.append_inj' e rfl).2; simp at this; rw [← this], by simp at hkl ⊢; omega, fun i i1 i2 => by walk_at "mem", by simp [hlen], by simp at hz ⊢; omega⟩
  · rintro ⟨t1, ds1, us1, ld1, ll1, c, g, o8, o21, rfl, m6, ml, ch, cu, hU, hg, hkl, fr, hlen, hz⟩
    have : ds1 = [] := List.eq_nil_of_length_eq_zero (by omega)
    subst this
    obtain ⟨rfl, rfl, rfl, rfl⟩ := un_nil hU
    exact ⟨_, _, _, _, _, rfl, m6, ml, ch, cu, fr, hlen⟩
  · rintro ⟨ld', ll', o8, o19, o21, rfl, m6, ml, ch, cu, fr, hlen⟩
    exact hq _ _ _ _ _ _ m6 ml ch cu fr hlen
end Nk57

namespace Nk57
open PySem L2 DL
local macro_rules | `(tactic| walk_at "dis") => `(tactic| first | exact True.intro | assumption | omega | (simp only [CDiv, CMul, Sm, CPow, List.length_cons, List.length_nil, List.length_append, List.length_take, List.length_set, List.length_map, List.length_drop, List.length_range]; first | done | omega) | exact ⟨rfl, rfl⟩ | rfl | decide)
local macro_rules | `(tactic| walk_at "at") => `(tactic| simp (disch := ((try simp only [List.length_append, List.length_set, List.length_cons, List.length_nil]); omega)) only [dctOf, lstOf, lsOf, seqOf, kdOf, tyOfR, clsR, putL, g_l, g_r, g_at, g_eq, g_ne, atI_0, atI_1, at_lst, ix_lst, atI_int, ixN_int, cut_to, cut_from, cut_toI, cut_fromI, tn1, tn2, cut_mid, cut_all, Nat.sub_self, List.getElem?_cons_zero, List.getElem?_cons_succ, Int.toNat_one, Int.toNat_zero, Int.toNat_natCast, List.set_cons_zero, List.set_cons_succ, List.drop_succ_cons, List.drop_zero, List.map_append, List.map_cons, List.map_nil, lst_pop, List.dropLast_concat, *])
local macro_rules | `(tactic| walk_at "go") => `(tactic| ((conv => whnf); repeat ((first | refine And.intro (by walk_at "dis") ?_ | ((fail_if_success refine Exists.intro ?_ ?_); walk_at "at")); (conv => whnf))))
local macro_rules | `(tactic| walk_at "len") => `(tactic| first | omega | (simp only [List.length_cons, List.length_nil, List.length_append, List.length_take, List.length_set, List.length_map, List.length_drop, List.length_range]; omega))
local macro_rules | `(tactic| walk_at "mem") => `(tactic| first | assumption | (simp (disch := ((try simp only [List.length_append, List.length_set, List.length_cons, List.length_nil]); omega)) only [g_l, g_r, g_at, g_eq, g_ne, List.length_append, List.length_set, List.length_cons, List.length_nil, Nat.sub_self, Nat.add_sub_cancel_left, List.getElem?_cons_zero, List.getElem?_cons_succ, List.cons_append, List.nil_append, nc0, Int.toNat_natCast, List.map_append, List.map_cons, List.map_nil, *]; done))
local macro_rules | `(tactic| walk_at "pre") => `(tactic| repeat (first | assumption | refine Pre.app ?_ | refine Pre.set ?_ (by (try simp only [List.length_append, List.length_set, List.length_cons, List.length_nil]); omega)))
local macro_rules | `(tactic| walk_at "norm") => `(tactic| simp only [startD, List.map_cons, List.map_nil, List.length_cons, List.length_nil, List.replicate_succ, List.replicate_zero, List.set_cons_zero, List.set_cons_succ, List.cons_append, List.nil_append, List.length_append, List.length_set, Nat.reduceAdd, Nat.reduceSub, Nat.zero_add, Nat.add_assoc, List.append_assoc])
local macro_rules | `(tactic| walk_at "T") => `(tactic| (refine br (fun _ => ?_) (fun h => absurd ?_ h); rotate_left; (first | rfl | assumption | (simp only [decide_eq_true_eq]; omega) | (simp; done) | (simp [*]; done) | (simp; omega))))
local macro_rules | `(tactic| walk_at "F") => `(tactic| (refine br (fun h => absurd h ?_) (fun _ => ?_); (first | (simp only [decide_eq_true_eq]; omega) | (simp; done) | (simp [*]; done) | (simp; omega))))
theorem back_tl {n : Nat} {t : List Nat} {ds us : List E} {c : Nat} {t' : List Nat} {ds' us' : List E} {c' : Nat} {ld : List (List Nat × Option Int)} (h : Un una t ds us c t' ds' us' c') (ch : Ch n t ds ld) (tl : t.length ≤ n) : t'.length ≤ n := by
  induction h generalizing ld with
  | stop _ => exact tl
  | step _ _ _ _ _ _ _ ih =>
    obtain ⟨t0, ld0, rfl, rfl, o, c0⟩ := ch.back
    rw [una_app o] at ih
    exact ih c0 o.l1
theorem on_tl {n : Nat} {t : List Nat} {ds us : List E} {c : Nat} {t' : List Nat} {ds' us' : List E} {c' : Nat} {ld : List (List Nat × Option Int)} (h : Un app t ds us c t' ds' us' c') (ch : Cu n t ds ld) (tl : t.length ≤ n) : t'.length ≤ n := by
  induction h generalizing ld with
  | stop _ => exact tl
  | step _ _ _ _ _ _ _ ih =>
    obtain ⟨ld0, rfl, o, c0⟩ := ch.back
    exact ih c0 o.l2
theorem pls_ed {fs : List E} : D.pls 8 (fs.map E.d) = true := by
  induction fs with
  | nil => rfl
  | cons e fs ih =>
    rw [List.map_cons]
    simp only [D.pls, Bool.and_eq_true]
    refine ⟨?_, ih⟩
    cases e with
    | mk p tk pt g => cases g <;> rfl
theorem law_ok {G G1 G2 G3 G4 : Nat → Cl} (e : Lev bs G G1) (e1 : Lev bs G1 G2) (e2 : Lev bs G2 G3) (e3 : Lev bs G3 G4)
    (sm : ∀ (d : D) (M : Mem) (Q : RV → Mem → Prop), D.pl 9 d = true → Q (.d (.bl true)) M → (G1 11).t [d, d] M Q) (ns : List Int) : (G 12).t [.frl (ns.map .int)] [] (fun r _ => r = .d (.bl true)) := by
  rw [e 12]
  show (bodyCl (f12 G1) 22).t _ _ _
  walk_at "go"
  refine box_ok e1 e2 e3 fun dg hdg => ?_
  walk_at "go"
  refine text_ok e1 e2 (i := 0) (ds := dg) (signs := [97, 98, 99]) (most := 8) rfl rfl hdg (by simp) (by decide) (by decide) (by decide) (by decide) fun t i0 ht hi0 => ?_
  walk_at "go"
  walk_at "norm"
  refine init_ok e1 (o1 := none) (o2 := none) (o3 := none) rfl fun M' g3 g4 g5 gl gf => ?_
  have gl' : M'.length = 6 := gl
  have q0 : M'[0]? = some (.lst dg) := gf 0 (by simp) (by simp)
  have q2 : M'[2]? = some (MO.lst [.ref 0, .int i0, .int 0, .int 0, .int 0, .ref 1]) := gf 2 (by simp) (by simp)
  have q3 : M'[3]? = some (MO.ins 0 [some (.str t), some (.ref 4), some (.ref 5)]) := g3
  have q4 : M'[4]? = some (.lst []) := g4
  have q5 : M'[5]? = some (.lst []) := g5
  clear g3 g4 g5 gl gf
  walk_at "go"
  refine draw_ok e1 (b := 2) (i := i0) (d := 0) (rest := [.int 0, .int 0, .int 0, .ref 1]) (ds := dg) (by walk_at "mem") (by walk_at "mem") hdg (by decide) hi0 (by decide) fun n hn hn2 => ?_
  walk_at "go"
  walk_at "norm"
  refine for_rng0N (fun j s M => ∃ t un lu ds us ld ll o6 o7 o8 o9 o10 o11 o12 o13 o14 o15 o16 o17 o18 o19 o20 o21, s = [some (.frl (ns.map .int)), some (.ref 2), some (.str t), some (.ref 3), some (.ref 6), some (.ref lu), o6, o7, o8, o9, o10, o11, o12, o13, o14, o15, o16, o17, o18, o19, o20, o21] ∧ Inv (8 + 2 * j) j dg M t un lu ds us ld ll) ⟨t, 5, M'.length + 1, [], [], [], [], _, _, _, _, _, _, _, _, _, _, _, _, _, _, _, _, rfl, ⟨by walk_at "mem", ⟨i0 + 1, by omega, by walk_at "mem"⟩, by walk_at "mem", by walk_at "mem", by walk_at "mem", by walk_at "mem", by walk_at "mem", .nil, .nil, by omega, by simp, by omega, by omega, by omega, by omega, by omega⟩⟩ (fun j hj s M => ?_) (fun s M => ?_)
  · clear q0 q2 q3 q4 q5 gl'
    rintro ⟨t, un, lu, ds, us, ld, ll, o6, o7, o8, o9, o10, o11, o12, o13, o14, o15, o16, o17, o18, o19, o20, o21, rfl, ⟨m0, ⟨i, hi, m2⟩, m3, m4, mu, m6, ml, ch, cu, tl, sz, u1, u2, l1, l2, l3⟩⟩
    have k0 := g_lt m0
    have k2 := g_lt m2
    have k3 := g_lt m3
    have k4 := g_lt m4
    have ku := g_lt mu
    have k6 := g_lt m6
    have kl := g_lt ml
    have hj' : j < 13 := by omega
    clear hj hn hn2
    walk_at "go"
    refine draw_ok e1 (b := 2) (i := i) (d := 0) (rest := [.int 0, .int 0, .int 0, .ref 1]) (ds := dg) m2 m0 hdg (by decide) hi (by decide) fun kind hkd hkd2 => ?_
    walk_at "go"
    refine br_d (fun hk2 => ?_) (fun hk2 => ?_)
    · walk_at "go"
      refine draw_ok e1 (b := 2) (i := i + 1) (d := 0) (rest := [.int 0, .int 0, .int 0, .ref 1]) (ds := dg) (by walk_at "mem") (by walk_at "mem") hdg (by decide) (by omega) (by omega) fun r hr hr2 => ?_
      obtain ⟨p, rfl⟩ : ∃ p : Nat, r = p := ⟨r.toNat, by omega⟩
      walk_at "go"
      refine draw_ok e1 (b := 2) (i := i + 1 + 1) (d := 0) (rest := [.int 0, .int 0, .int 0, .ref 1]) (ds := dg) (by walk_at "mem") (by walk_at "mem") hdg (by decide) (by omega) (by omega) fun r hr hr2 => ?_
      obtain ⟨mny, rfl⟩ : ∃ p : Nat, r = p := ⟨r.toNat, by omega⟩
      walk_at "go"
      refine text_ok e1 e2 (b := 2) (i := i + 1 + 1 + 1) (d := 0) (rest := [.int 0, .int 0, .int 0, .ref 1]) (ds := dg) (signs := [120, 121, 122]) (most := 2) (by walk_at "mem") (by walk_at "mem") hdg (by decide) (by omega) (by decide) (by decide) (by decide) fun pt i' hpt hi' => ?_
      walk_at "go"
      refine draw_ok e1 (b := 2) (i := i') (d := 0) (rest := [.int 0, .int 0, .int 0, .ref 1]) (ds := dg) (by walk_at "mem") (by walk_at "mem") hdg (by decide) (by omega) (by omega) fun x hx hx2 => ?_
      obtain ⟨g, hg⟩ : ∃ g, [D.non, D.non, D.int 1, D.int 2][x.toNat]? = some (gD g) := by
        obtain rfl | rfl | rfl | rfl : x = 0 ∨ x = 1 ∨ x = 2 ∨ x = 3 := by omega
        · exact ⟨none, rfl⟩
        · exact ⟨none, rfl⟩
        · exact ⟨some 1, rfl⟩
        · exact ⟨some 2, rfl⟩
      walk_at "go"
      by_cases hz : p + mny ≤ t.length
      · have hzI : (p : Int) + mny ≤ t.length := by omega
        refine change_ok e1 (dn := 4) (un := un) (t := t) (ds := ds) (by walk_at "mem") (by walk_at "mem") (by decide) (by omega) (by omega) (by omega) (by omega) (fun _ M' c3 c4 cN cL cF => ?_) (fun h => absurd hz h)
        simp only [List.length_set] at c3 cN cL cF
        have f0 : M'[0]? = some (.lst dg) := (cF 0 (by decide) (by decide) (by omega)).trans (by walk_at "mem")
        have f2 : M'[2]? = some (MO.lst [.ref 0, .int (i' + 1), .int 0, .int 0, .int 0, .ref 1]) := (cF 2 (by decide) (by decide) (by omega)).trans (by walk_at "mem")
        have f6 : M'[6]? = some (.lst (ld.map lD)) := (cF 6 (by decide) (by decide) (by omega)).trans (by walk_at "mem")
        clear cF m0 m2 m3 m4 mu m6 ml
        have htk : ((t.drop p).take mny).length = mny := by rw [List.length_take, List.length_drop]; omega
        have hok : Ok (8 + 2 * (j + 1)) (E.mk p ((t.drop p).take mny) pt g) t := ⟨by rw [htk]; exact hz, by rw [htk], by omega, by
          show (t.take p ++ pt ++ t.drop (p + ((t.drop p).take mny).length)).length ≤ _
          rw [htk]
          simp only [List.length_append, List.length_take, List.length_drop]
          omega⟩
        have hch : Ch (8 + 2 * (j + 1)) (app (E.mk p ((t.drop p).take mny) pt g) t) (ds ++ [E.mk p ((t.drop p).take mny) pt g]) (ld ++ [(t, g)]) := Ch.snoc hok (ch.up (by omega))
        have hal := hok.l2
        have hap : app (E.mk p ((t.drop p).take mny) pt g) t = t.take p ++ pt ++ t.drop (p + mny) := by
          show t.take p ++ pt ++ t.drop (p + ((t.drop p).take mny).length) = _
          rw [htk]
        rw [hap] at hch hal c3
        generalize E.mk p ((t.drop p).take mny) pt g = ee at *
        clear hap hok htk
        have k3 := g_lt c3
        have k4 := g_lt c4
        have k0 := g_lt f0
        have k2 := g_lt f2
        have k6 := g_lt f6
        have hldl := ch.len
        walk_at "go"
        refine sm (.bl true) _ _ rfl ?_
        walk_at "go"
        refine br (fun h => absurd h (by simp [D.eqv])) (fun _ => ?_)
        walk_at "go"
        have hlD : lD (t, g) = .tup [.str t, gD g] := rfl
        exact ⟨_, M.length, _, ds ++ [ee], [], ld ++ [(t, g)], [], _, _, _, _, _, _, _, _, _, _, _, _, _, _, _, _, rfl, ⟨by walk_at "mem", ⟨i' + 1, by omega, by walk_at "mem"⟩, by walk_at "mem", by walk_at "mem", by walk_at "mem", by walk_at "mem", by walk_at "mem", hch, .nil, hal, by simp; omega, by omega, by omega, by walk_at "len", by walk_at "len", by walk_at "len"⟩⟩
      · have hzI : ¬ (p : Int) + mny ≤ t.length := by omega
        refine change_ok e1 (dn := 4) (un := un) (t := t) (ds := ds) (by walk_at "mem") (by walk_at "mem") (by decide) (by omega) (by omega) (by omega) (by omega) (fun h => absurd h hz) (fun _ => ?_)
        walk_at "go"
        refine sm (.bl false) _ _ rfl ?_
        walk_at "go"
        refine br (fun h => absurd h (by simp [D.eqv])) (fun _ => ?_)
        walk_at "go"
        exact ⟨t, un, lu, ds, us, ld, ll, _, _, _, _, _, _, _, _, _, _, _, _, _, _, _, _, rfl, ⟨by walk_at "mem", ⟨i' + 1, by omega, by walk_at "mem"⟩, by walk_at "mem", by walk_at "mem", by walk_at "mem", by walk_at "mem", by walk_at "mem", ch.up (by omega), cu.up (by omega), by omega, by omega, u1, u2, l1, l2, l3⟩⟩
    · walk_at "go"
      refine br (fun hk3 => ?_) (fun hk3 => ?_)
      · obtain ⟨t', ds', us', c', hU⟩ := un_total (n := 8 + 2 * j) (by omega) ds.length (us := us) (c := 0) rfl ch (by omega) (fun z => absurd rfl z)
        have hldl := ch.len
        have hlll := cu.len
        have hsz := steps_len hU
        walk_at "go"
        rw [List.length_map]
        refine back_loop (M := M.set 2 (MO.lst [.ref 0, .int (i + 1), .int 0, .int 0, .int 0, .ref 1])) (n := 8 + 2 * j) (by omega) (by omega) (by walk_at "mem") (by walk_at "mem") l2 ch cu hU fun M' ld' ll' o8 o19 oX b6 bl bch bcu bf blen => ?_
        simp only [List.length_set] at blen
        have f0 : M'[0]? = some (.lst dg) := (bf 0 (by decide) (by omega)).trans (by walk_at "mem")
        have f2 : M'[2]? = some (MO.lst [.ref 0, .int (i + 1), .int 0, .int 0, .int 0, .ref 1]) := (bf 2 (by decide) (by omega)).trans (by walk_at "mem")
        have f3 : M'[3]? = some (MO.ins 0 [some (.str t), some (.ref 4), some (.ref un)]) := (bf 3 (by decide) (by omega)).trans (by walk_at "mem")
        have f4 : M'[4]? = some (.lst (ds.map E.d)) := (bf 4 (by decide) (by omega)).trans (by walk_at "mem")
        have fu : M'[un]? = some (.lst (us.map E.d)) := (bf un (by omega) (by omega)).trans (by walk_at "mem")
        have bcl := bch.len
        have bul := bcu.len
        have htl' : t'.length ≤ 8 + 2 * j := back_tl hU ch tl
        clear bf m0 m2 m3 m4 mu m6 ml ch cu
        walk_at "go"
        refine undo_ok e1 e2 (dn := 4) (un := un) (t := t) (ds := ds) (us := us) (by walk_at "mem") (by walk_at "mem") (by walk_at "mem") (by omega) (by omega) (by omega) hU fun M2 e3 e4 e5 elen ef => ?_
        have h0 : M2[0]? = some (.lst dg) := (ef 0 (by decide) (by omega) (by omega)).trans (by walk_at "mem")
        have h2 : M2[2]? = some (MO.lst [.ref 0, .int (i + 1), .int 0, .int 0, .int 0, .ref 1]) := (ef 2 (by decide) (by omega) (by omega)).trans (by walk_at "mem")
        have h6 : M2[6]? = some (.lst (ld'.map lD)) := (ef 6 (by decide) (by omega) (by omega)).trans (by walk_at "mem")
        have hl : M2[lu]? = some (.lst (ll'.map lD)) := (ef lu (by omega) (by omega) (by omega)).trans (by walk_at "mem")
        clear ef f0 f2 f3 f4 fu b6 bl hU
        walk_at "go"
        refine sm (.int c') _ _ rfl ?_
        walk_at "go"
        refine br (fun h => absurd h (by simp [D.eqv])) (fun _ => ?_)
        walk_at "go"
        exact ⟨t', un, lu, ds', us', ld', ll', _, _, _, _, _, _, _, _, _, _, _, _, _, _, _, _, rfl, ⟨by walk_at "mem", ⟨i + 1, by omega, by walk_at "mem"⟩, by walk_at "mem", by walk_at "mem", by walk_at "mem", by walk_at "mem", by walk_at "mem", bch.up (by omega), bcu.up (by omega), by omega, by omega, u1, u2, l1, l2, l3⟩⟩
      · obtain ⟨t', us', ds', c', hU⟩ := re_total (n := 8 + 2 * j) (by omega) us.length (us := ds) (c := 0) rfl cu (by omega) (fun z => absurd rfl z)
        have hldl := ch.len
        have hlll := cu.len
        have hsz := steps_len hU
        walk_at "go"
        rw [List.length_map]
        refine on_loop (M := M.set 2 (MO.lst [.ref 0, .int (i + 1), .int 0, .int 0, .int 0, .ref 1])) (n := 8 + 2 * j) (by omega) (by omega) (by walk_at "mem") (by walk_at "mem") l2 cu ch hU fun M' ld' ll' o8 o19 oX b6 bl bch bcu bf blen => ?_
        simp only [List.length_set] at blen
        have f0 : M'[0]? = some (.lst dg) := (bf 0 (by decide) (by omega)).trans (by walk_at "mem")
        have f2 : M'[2]? = some (MO.lst [.ref 0, .int (i + 1), .int 0, .int 0, .int 0, .ref 1]) := (bf 2 (by decide) (by omega)).trans (by walk_at "mem")
        have f3 : M'[3]? = some (MO.ins 0 [some (.str t), some (.ref 4), some (.ref un)]) := (bf 3 (by decide) (by omega)).trans (by walk_at "mem")
        have f4 : M'[4]? = some (.lst (ds.map E.d)) := (bf 4 (by decide) (by omega)).trans (by walk_at "mem")
        have fu : M'[un]? = some (.lst (us.map E.d)) := (bf un (by omega) (by omega)).trans (by walk_at "mem")
        have bcl := bch.len
        have bul := bcu.len
        have htl' : t'.length ≤ 8 + 2 * j := on_tl hU cu tl
        clear bf m0 m2 m3 m4 mu m6 ml ch cu
        walk_at "go"
        refine redo_ok e1 e2 (dn := un) (un := 4) (t := t) (ds := us) (us := ds) (by walk_at "mem") (by walk_at "mem") (by walk_at "mem") (by omega) (by omega) (by omega) hU fun M2 e3 e4 e5 elen ef => ?_
        have h0 : M2[0]? = some (.lst dg) := (ef 0 (by decide) (by omega) (by omega)).trans (by walk_at "mem")
        have h2 : M2[2]? = some (MO.lst [.ref 0, .int (i + 1), .int 0, .int 0, .int 0, .ref 1]) := (ef 2 (by decide) (by omega) (by omega)).trans (by walk_at "mem")
        have h6 : M2[6]? = some (.lst (ll'.map lD)) := (ef 6 (by decide) (by omega) (by omega)).trans (by walk_at "mem")
        have hl : M2[lu]? = some (.lst (ld'.map lD)) := (ef lu (by omega) (by omega) (by omega)).trans (by walk_at "mem")
        clear ef f0 f2 f3 f4 fu b6 bl hU
        walk_at "go"
        refine sm (.int c') _ _ rfl ?_
        walk_at "go"
        refine br (fun h => absurd h (by simp [D.eqv])) (fun _ => ?_)
        walk_at "go"
        exact ⟨t', un, lu, ds', us', ll', ld', _, _, _, _, _, _, _, _, _, _, _, _, _, _, _, _, rfl, ⟨by walk_at "mem", ⟨i + 1, by omega, by walk_at "mem"⟩, by walk_at "mem", by walk_at "mem", by walk_at "mem", by walk_at "mem", by walk_at "mem", bcu.up (by omega), bch.up (by omega), by omega, by omega, u1, u2, l1, l2, l3⟩⟩
  · clear q0 q2 q3 q4 q5 gl'
    rintro ⟨t, un, lu, ds, us, ld, ll, o6, o7, o8, o9, o10, o11, o12, o13, o14, o15, o16, o17, o18, o19, o20, o21, rfl, ⟨m0, ⟨i, hi, m2⟩, m3, m4, mu, m6, ml, ch, cu, tl, sz, u1, u2, l1, l2, l3⟩⟩
    have k0 := g_lt m0
    have k2 := g_lt m2
    clear m3 m4 mu m6 ml ch cu sz tl
    walk_at "go"
    refine draw_ok e1 (b := 2) (i := i) (d := 0) (rest := [.int 0, .int 0, .int 0, .ref 1]) (ds := dg) (by walk_at "mem") (by walk_at "mem") hdg (by decide) hi (by decide) fun n' hn' hn2' => ?_
    walk_at "go"
    refine for_rng0N (fun k s M' => ∃ (cs : List E) (i : Int) (o8 : Option D), s = [some (.frl (ns.map .int)), some (.ref 2), some (.str t), some (.ref 3), some (.ref 6), some (.ref lu), o6, some (.ref M.length), o8, o9, o10, o11, o12, o13, o14, o15, o16, o17, o18, o19, o20, o21] ∧ M'[0]? = some (.lst dg) ∧ M'[2]? = some (MO.lst [.ref 0, .int i, .int 0, .int 0, .int 0, .ref 1]) ∧ 0 ≤ i ∧ M'[M.length]? = some (.lst (cs.map E.d)) ∧ cs.length = k ∧ (∀ c ∈ cs, Lim c)) ⟨[], i + 1, _, rfl, by walk_at "mem", by walk_at "mem", by omega, by walk_at "mem", rfl, by simp⟩ (fun k hk s M' => ?_) (fun s M' => ?_)
    · clear m0 m2
      rintro ⟨cs, i, o8, rfl, m0, m2, hi, mc, hcl, hlim⟩
      have k0' := g_lt m0
      have k2' := g_lt m2
      have kc := g_lt mc
      walk_at "go"
      refine draw_ok e1 (b := 2) (i := i) (d := 0) (rest := [.int 0, .int 0, .int 0, .ref 1]) (ds := dg) (by walk_at "mem") (by walk_at "mem") hdg (by decide) hi (by decide) fun r hr hr2 => ?_
      obtain ⟨p, rfl⟩ : ∃ p : Nat, r = p := ⟨r.toNat, by omega⟩
      walk_at "go"
      refine draw_ok e1 (b := 2) (i := i + 1) (d := 0) (rest := [.int 0, .int 0, .int 0, .ref 1]) (ds := dg) (by walk_at "mem") (by walk_at "mem") hdg (by decide) (by omega) (by decide) fun x hx hx2 => ?_
      obtain ⟨tk, htk, htl⟩ : ∃ tk, [D.str [], D.str [], D.str [116]][x.toNat]? = some (.str tk) ∧ tk.length ≤ 2 := by
        obtain rfl | rfl | rfl : x = 0 ∨ x = 1 ∨ x = 2 := by omega
        · exact ⟨[], rfl, by decide⟩
        · exact ⟨[], rfl, by decide⟩
        · exact ⟨[116], rfl, by decide⟩
      walk_at "go"
      refine draw_ok e1 (b := 2) (i := i + 1 + 1) (d := 0) (rest := [.int 0, .int 0, .int 0, .ref 1]) (ds := dg) (by walk_at "mem") (by walk_at "mem") hdg (by decide) (by omega) (by decide) fun y hy hy2 => ?_
      walk_at "go"
      refine draw_ok e1 (b := 2) (i := i + 1 + 1 + 1) (d := 0) (rest := [.int 0, .int 0, .int 0, .ref 1]) (ds := dg) (by walk_at "mem") (by walk_at "mem") hdg (by decide) (by omega) (by decide) fun z hz hz2 => ?_
      obtain ⟨g, hg⟩ : ∃ g, [D.non, D.int 1, D.int 1][z.toNat]? = some (gD g) := by
        obtain rfl | rfl | rfl : z = 0 ∨ z = 1 ∨ z = 2 := by omega
        · exact ⟨none, rfl⟩
        · exact ⟨some 1, rfl⟩
        · exact ⟨some 1, rfl⟩
      walk_at "go"
      have hpt : ([112, 113].take (1 + y).toNat : List Nat).length ≤ 2 := by simp; omega
      generalize ([112, 113].take (1 + y).toNat : List Nat) = pt at *
      exact ⟨cs ++ [E.mk p tk pt g], _, _, rfl, by first | trivial | walk_at "mem", by first | rfl | walk_at "mem", by omega, by rw [List.map_append]; first | rfl | walk_at "mem", by simp [hcl], fun c hc => (List.mem_append.mp hc).elim (hlim c) fun z => by rw [List.mem_singleton.mp z]; exact ⟨htl, hpt⟩⟩
    · rintro ⟨cs, i, o8, rfl, m0', m2', hi, mc, hcl, hlim⟩
      have kc := g_lt mc
      have hcl' : cs.length ≤ 10 := by omega
      clear m0 m2 hcl hn' hn2'
      walk_at "go"
      have pl : D.pl 9 (.tup ((tyR cs cs.length).map E.d)) = true := by
        obtain ⟨b1, b2⟩ := tyR_lim hlim (Nat.le_refl cs.length)
        simp only [D.pl, Bool.and_eq_true, decide_eq_true_eq, List.length_map]
        exact ⟨by omega, pls_ed⟩
      refine for_memN (xs := cs.map E.d) (fun i s M2 => ∃ o11 o12 o13 o14 o15, s = [some (.frl (ns.map .int)), some (.ref 2), some (.str t), some (.ref 3), some (.ref 6), some (.ref lu), o6, some (.ref M.length), o8, some (.ref M'.length), o10, o11, o12, o13, o14, o15, o16, o17, o18, o19, o20, o21] ∧ M2[M.length]? = some (.lst (cs.map E.d)) ∧ M2[M'.length]? = some (.lst ((tyR cs i).map E.d)) ∧ M'.length < M2.length) ⟨_, _, _, _, _, rfl, by walk_at "mem", (show (M' ++ [MO.lst []])[M'.length]? = some (.lst []) from g_at), by simp⟩ (fun i s M2 => ?_) (fun i hi s M2 => ?_) (fun s M2 => ?_)
      · rintro ⟨o11, o12, o13, o14, o15, rfl, h1, _⟩
        exact h1
      · clear mc pl
        rintro ⟨o11, o12, o13, o14, o15, rfl, mc, md, kd⟩
        have kc' := g_lt mc
        have hi' : i < cs.length := by simpa using hi
        obtain ⟨b1, b2⟩ := tyR_lim hlim (Nat.le_of_lt hi')
        have s1 := tyR_succ hi'
        rw [s1, List.getElem_map]
        have hcl := hlim cs[i] (List.getElem_mem _)
        generalize cs[i] = c at *
        clear s1
        generalize tyR cs i = fs at *
        have hx : c.d = .tup [.int c.p, .str c.tk, .str c.pt, gD c.g] := rfl
        obtain rfl | ⟨fs, l, rfl⟩ := List.eq_nil_or_concat fs
        · rw [tyS_nil]
          walk_at "go"
          exact ⟨_, _, _, _, _, rfl, by first | trivial | walk_at "mem", by first | rfl | (simp [E.d]; done) | walk_at "mem", by walk_at "len"⟩
        · rw [List.concat_eq_append] at *
          have hno : jn l c = false → tyS (fs ++ [l]) c = fs ++ [l] ++ [c] := fun h => by rw [tyS_snoc, h]; rfl
          have hyes : jn l c = true → tyS (fs ++ [l]) c = fs ++ [E.mk l.p [] (l.pt ++ c.pt) c.g] := fun h => by rw [tyS_snoc, h]; rfl
          generalize tyS (fs ++ [l]) c = R at *
          have hb := b2 l (by simp)
          have hct := hcl.tk
          have hcp := hcl.pt
          obtain ⟨lp, ltk, lpt, lg⟩ := l
          obtain ⟨cp, ctk, cpt, cg⟩ := c
          dsimp only at hb hct hcp hx hyes
          have hy : (E.mk lp ltk lpt lg).d = .tup [.int lp, .str ltk, .str lpt, gD lg] := rfl
          have b1' := b1
          simp only [List.length_append, List.length_cons, List.length_nil] at b1'
          cases cg with
          | none =>
            walk_at "go"
            refine br_d (fun _ => ?_) (fun h => absurd (by simp) h)
            walk_at "go"
            exact ⟨_, _, _, _, _, rfl, by first | trivial | walk_at "mem", by rw [hno (by simp [jn, sg, *])]; first | walk_at "mem" | (simp [E.d, *]; done), by walk_at "len"⟩
          | some ci =>
            cases lg with
            | none =>
              walk_at "go"
              refine br_d (fun _ => ?_) (fun h => absurd (by simp) h)
              walk_at "go"
              exact ⟨_, _, _, _, _, rfl, by first | trivial | walk_at "mem", by rw [hno (by simp [jn, sg, *])]; first | walk_at "mem" | (simp [E.d, *]; done), by walk_at "len"⟩
            | some li =>
              walk_at "go"
              refine br_d (fun _ => ?_) (fun h => absurd (by simp) h)
              walk_at "go"
              refine br (fun t0 => ?_) (fun t0 => ?_)
              · replace t0 : li = ci := by simpa [D.eqv, gD] using t0
                walk_at "go"
                refine br (fun t1 => ?_) (fun t1 => ?_)
                · replace t1 : ctk = [] := by simpa [D.eqv] using t1
                  walk_at "go"
                  refine br (fun t2 => ?_) (fun t2 => ?_)
                  · replace t2 : ltk = [] := by simpa [D.eqv] using t2
                    walk_at "go"
                    refine br (fun t3 => ?_) (fun t3 => ?_)
                    · replace t3 : cp = lp + lpt.length := by
                        have : (cp : Int) = lp + lpt.length := by simpa [D.eqv] using t3
                        omega
                      walk_at "go"
                      exact ⟨_, _, _, _, _, rfl, by first | trivial | walk_at "mem", by rw [hyes (by simp [jn, sg, *])]; first | walk_at "mem" | (simp [E.d, *]; done), by walk_at "len"⟩
                    · replace t3 : cp ≠ lp + lpt.length := fun z => t3 (by simp [D.eqv, z])
                      walk_at "go"
                      exact ⟨_, _, _, _, _, rfl, by first | trivial | walk_at "mem", by rw [hno (by simp [jn, sg, *])]; first | walk_at "mem" | (simp [E.d, *]; done), by walk_at "len"⟩
                  · replace t2 : ltk ≠ [] := fun z => t2 (by simp [z, D.eqv])
                    walk_at "go"
                    exact ⟨_, _, _, _, _, rfl, by first | trivial | walk_at "mem", by rw [hno (by simp [jn, sg, *])]; first | walk_at "mem" | (simp [E.d, *]; done), by walk_at "len"⟩
                · have t1r := t1
                  replace t1 : ctk ≠ [] := fun z => t1 (by simp [z, D.eqv])
                  walk_at "go"
                  refine br (fun h => absurd h t1r) (fun _ => ?_)
                  walk_at "go"
                  exact ⟨_, _, _, _, _, rfl, by first | trivial | walk_at "mem", by rw [hno (by simp [jn, sg, *])]; first | walk_at "mem" | (simp [E.d, *]; done), by walk_at "len"⟩
              · have t0r := t0
                replace t0 : li ≠ ci := fun z => t0 (by simp [z, D.eqv, gD])
                walk_at "go"
                refine br (fun h => absurd h t0r) (fun _ => ?_)
                walk_at "go"
                exact ⟨_, _, _, _, _, rfl, by first | trivial | walk_at "mem", by rw [hno (by simp [jn, sg, *])]; first | walk_at "mem" | (simp [E.d, *]; done), by walk_at "len"⟩
      · rintro ⟨o11, o12, o13, o14, o15, rfl, mc', md, kd⟩
        rw [List.length_map] at md
        have kc' := g_lt mc'
        walk_at "go"
        refine typed_ok e1 e2 hlim hcl' ?_
        walk_at "go"
        exact sm _ _ _ pl (fin_here rfl)
theorem law_all (ns : List Int) : (callG bs 40 12).t [.frl (ns.map .int)] [] (fun r _ => r = .d (.bl true)) :=
  law_ok (G := callG bs 40) (G1 := callG bs 39) (G2 := callG bs 38) (G3 := callG bs 37) (G4 := callG bs 36) (fun _ => rfl) (fun _ => rfl) (fun _ => rfl) (fun _ => rfl) (fun d M Q hp q => same_spec (g := fun k => callG bs k 11) (fun _ => rfl) 9 39 (by decide) hp q) ns
end Nk57

open PySem PySem.W PyProof.Rows in
set_option maxRecDepth 100000 in
set_option maxHeartbeats 0 in
theorem PySem.Challenge.cw_pagehouse_k57_undoing_holds : PySem.Challenge.rw_pagehouse_k57_undoing.Holds := by
  w_on; o_law; k_head; (case hw => w_witness2)
  k_fill
  refine DL.law_of (l := PySem.Challenge.rw_pagehouse_k57_undoing) (k := 40) (li := 12) (bs := Nk57.bs) rfl (by decide) rfl ⟨rfl, by decide, by decide⟩ (fun w h Y => PySem.W.kIn_of Y) ?F (fun ns h => Nk57.law_all ns)
  case F =>
    intro w mg fa h KX G hmg
    refine' Nk57.all_mk KX G hmg ?hy_gC0 ?hy_g0 ?hy_i0 ?hy_l0 ?hy_d0 ?hy_k0 ?hy_g1 ?hy_i1 ?hy_l1 ?hy_d1 ?hy_k1 ?hy_g2 ?hy_i2 ?hy_l2 ?hy_d2 ?hy_k2 ?hy_g3 ?hy_i3 ?hy_l3 ?hy_d3 ?hy_k3 ?hy_g4 ?hy_l4 ?hy_d4 ?hy_k4 ?hy_g5 ?hy_l5 ?hy_d5 ?hy_k5 ?hy_g6 ?hy_l6 ?hy_d6 ?hy_k6 ?hy_g7 ?hy_l7 ?hy_d7 ?hy_k7 ?hy_g8 ?hy_l8 ?hy_d8 ?hy_k8 ?hy_g9 ?hy_l9 ?hy_d9 ?hy_k9 ?hy_g10 ?hy_l10 ?hy_d10 ?hy_k10 ?hy_g11 ?hy_l11 ?hy_d11 ?hy_k11 ?hy_g12 ?hy_l12 ?hy_d12 ?hy_k12 ?hy_pg0 ?hy_hd0 ?hy_po0 ?hy_sa0 ?hy_mk0 ?hy_kc0 ?hy_n0_0 ?hy_n0_1 ?hy_n0_2 ?hy_z0 ?hy_z1 ?hy_z2 ?hy_z3 ?hy_z4 ?hy_z5 ?hy_z6
    (case hy_gC0 => k_is)
    (case hy_g0 => k_is)
    (case hy_i0 => k_is)
    (case hy_l0 => k_is)
    (case hy_d0 => k_is)
    (case hy_k0 => k_is)
    (case hy_g1 => k_is)
    (case hy_i1 => k_is)
    (case hy_l1 => k_is)
    (case hy_d1 => k_is)
    (case hy_k1 => k_is)
    (case hy_g2 => k_is)
    (case hy_i2 => k_is)
    (case hy_l2 => k_is)
    (case hy_d2 => k_is)
    (case hy_k2 => k_is)
    (case hy_g3 => k_is)
    (case hy_i3 => k_is)
    (case hy_l3 => k_is)
    (case hy_d3 => k_is)
    (case hy_k3 => k_is)
    (case hy_g4 => k_is)
    (case hy_l4 => k_is)
    (case hy_d4 => k_is)
    (case hy_k4 => k_is)
    (case hy_g5 => k_is)
    (case hy_l5 => k_is)
    (case hy_d5 => k_is)
    (case hy_k5 => k_is)
    (case hy_g6 => k_is)
    (case hy_l6 => k_is)
    (case hy_d6 => k_is)
    (case hy_k6 => k_is)
    (case hy_g7 => k_is)
    (case hy_l7 => k_is)
    (case hy_d7 => k_is)
    (case hy_k7 => k_is)
    (case hy_g8 => k_is)
    (case hy_l8 => k_is)
    (case hy_d8 => k_is)
    (case hy_k8 => k_is)
    (case hy_g9 => k_is)
    (case hy_l9 => k_is)
    (case hy_d9 => k_is)
    (case hy_k9 => k_is)
    (case hy_g10 => k_is)
    (case hy_l10 => k_is)
    (case hy_d10 => k_is)
    (case hy_k10 => k_is)
    (case hy_g11 => k_is)
    (case hy_l11 => k_is)
    (case hy_d11 => k_is)
    (case hy_k11 => k_is)
    (case hy_g12 => k_is)
    (case hy_l12 => k_is)
    (case hy_d12 => k_is)
    (case hy_k12 => k_is)
    (case hy_pg0 => k_is)
    (case hy_hd0 => k_is)
    (case hy_po0 => k_is)
    (case hy_sa0 => k_is)
    (case hy_mk0 => k_is)
    (case hy_kc0 => k_is)
    (case hy_n0_0 => k_is)
    (case hy_n0_1 => k_is)
    (case hy_n0_2 => k_is)
    (case hy_z0 => k_is)
    (case hy_z1 => k_is)
    (case hy_z2 => k_is)
    (case hy_z3 => k_is)
    (case hy_z4 => k_is)
    (case hy_z5 => k_is)
    (case hy_z6 => k_is)

