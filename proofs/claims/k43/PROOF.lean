import PyProof.Rows.All
import Wide.All
import OpenK.AllK
import Wide.FinOn
import HandS.ForMost
import HandS.ForExc
import HandS.TupAny
import HandS.Star
import HandS.IsInst
import HandS.Walk
import HandS.Zip
import HandS.CallSlots
import HandS.Wide
import HandS.Deep
import HandS.Style
import HandS.WordsExc
import HandS.TryOnly
import HandS.ExcField
import KE.KExcSuper
import HandS.ExcInit
import HandS.Ends
import HandS.ExcSuper
import KE.KDictZip
import KE.KItemsList
import KE.KTurns
import HandS.Zip0
import HandS.ListItems
import KE.KxField
import PyProof.FString3
import HandS.FStr
import HandS.IntHex
import HandS.Text
import HandS.ExcIs
import HandS.EndBits
import KE.IntTextLaws
import PySem.Challenge.RW_downline_k43_integers_as_octets_and_chec
set_option Elab.async false
set_option linter.all false
set_option maxRecDepth 100000
/-! DL1: data without addresses, a store of cells, and what it means that they lie in the heap -/
namespace DL
open PySem L2

/-- a value without addresses: tuples by what they hold, everything that may change by its place in the store -/
inductive D where
  | non | bl (b : Bool) | int (i : Int) | str (x : Str) | tup (xs : List D) | loc (n : Nat) | fro (ns : List Int) | exo (a d : Addr) (ns : List Str) (xs : List D)

inductive Cell where
  | lst (xs : List D) | dct (kvs : List (D × D)) | ins (cn : Str) (fs : List (Str × D))

abbrev S := List Cell
abbrev Ev := List (Option D)
structure Exn where
  cls : Str
  fs : List (Str × D)
inductive R (α : Type) where
  | ok (a : α) (st : S) | exc (x : Exn) (st : S) | fail
inductive RS where
  | nx (env : Ev) (st : S) | ret (d : D) (st : S) | brk (env : Ev) (st : S) | cnt (env : Ev) (st : S) | exc (x : Exn) (env : Ev) (st : S) | fail
abbrev ME := Ev → S → R D
abbrev MT := Ev → S → R Bool
abbrev MA := Ev → S → R (List D)
abbrev MO := Ev → S → R (Option Int)
abbrev MS := Ev → S → RS
abbrev MF := List D → S → R D

@[simp] def R.bind {α β : Type} : R α → (α → S → R β) → R β
  | .ok a st, f => f a st
  | .exc x st, _ => .exc x st
  | .fail, _ => .fail

/-- a list of numbers that nothing changes -/
def FroL (K : PySem.W.Frag) (H : Hp) (a : Addr) (xs : List V) : Prop :=
  (∃ o, H a = some (.frz o (.lst xs))) ∨ ∃ (o : Obj) (its : Array Value) (n : Nat), K.lookup a = some o ∧ o.cls = .type "list" ∧ o.dict = none ∧ o.data = .seq its n ∧ its.size ≤ sizeLine ∧ Vals xs its.toList
theorem FroL.sq {K : PySem.W.Frag} {H : Hp} {a : Addr} {xs : List V} (h : FroL K H a xs) : SqL K H a xs := by
  rcases h with ⟨o, h⟩ | h
  · exact .inl (.inr ⟨o, h⟩)
  · exact .inr h
mutual
inductive RepV (K : PySem.W.Frag) (μ : List Addr) (H : Hp) : D → V → Prop
  | non : RepV K μ H .non .non
  | bl (b : Bool) : RepV K μ H (.bl b) (.bl b)
  | int (i : Int) : RepV K μ H (.int i) (.int i)
  | str (x : Str) : RepV K μ H (.str x) (.str x)
  | tup {xs : List D} {vs : List V} {a : Addr} : SqT K H a vs → RepVs K μ H xs vs → RepV K μ H (.tup xs) (.ref a)
  | loc {n : Nat} {a : Addr} : μ[n]? = some a → RepV K μ H (.loc n) (.ref a)
  | fro {ns : List Int} {a : Addr} : FroL K H a (ns.map V.int) → RepV K μ H (.fro ns) (.ref a)
  | exo {a d : Addr} {ns : List Str} {xs : List D} {vs : List V} : H d = some (.xd (ns.zip vs)) → RepVs K μ H xs vs → RepV K μ H (.exo a d ns xs) (.ref a)
inductive RepVs (K : PySem.W.Frag) (μ : List Addr) (H : Hp) : List D → List V → Prop
  | nil : RepVs K μ H [] []
  | cons {d : D} {v : V} {ds : List D} {vs : List V} : RepV K μ H d v → RepVs K μ H ds vs → RepVs K μ H (d :: ds) (v :: vs)
end

/-- the fields of an instance -/
inductive RepF (K : PySem.W.Frag) (μ : List Addr) (H : Hp) : List (Str × D) → List (Str × V) → Prop
  | nil : RepF K μ H [] []
  | cons {f : Str} {d : D} {v : V} {fs : List (Str × D)} {gs : List (Str × V)} : RepV K μ H d v → RepF K μ H fs gs → RepF K μ H ((f, d) :: fs) ((f, v) :: gs)
/-- int or text as a key -/
def keyD : Key → D
  | .inl i => .int i
  | .inr x => .str x
inductive RepK (K : PySem.W.Frag) (μ : List Addr) (H : Hp) : List (D × D) → List (Key × V) → Prop
  | nil : RepK K μ H [] []
  | cons {k : Key} {d : D} {v : V} {fs : List (D × D)} {gs : List (Key × V)} : RepV K μ H d v → RepK K μ H fs gs → RepK K μ H ((keyD k, d) :: fs) ((k, v) :: gs)

abbrev MG := Str → Option Value
def RepC (K : PySem.W.Frag) (mg : MG) (μ : List Addr) (H : Hp) : Cell → Addr → Prop
  | .lst xs, a => ∃ vs, H a = some (.lst vs) ∧ RepVs K μ H xs vs
  | .dct kvs, a => ∃ ks, H a = some (.dK ks) ∧ RepK K μ H kvs ks
  | .ins cn fs, a => ∃ C dx gs, mg cn = some (.ref C) ∧ H a = some (.ins C dx gs) ∧ RepF K μ H fs gs

structure RelS (K : PySem.W.Frag) (mg : MG) (μ : List Addr) (st : S) (H : Hp) : Prop where
  len : μ.length = st.length
  nd : μ.Nodup
  at_ : ∀ (n : Nat) (c : Cell) (a : Addr), st[n]? = some c → μ[n]? = some a → RepC K mg μ H c a

structure RelE (K : PySem.W.Frag) (μ : List Addr) (H : Hp) (env : Ev) (σ : St) : Prop where
  len : env.length = σ.length
  at_ : ∀ (i : Nat) (d : D), env[i]? = some (some d) → ∃ v, σ[i]? = some (some v) ∧ RepV K μ H d v

/-- what an evaluation may do to the heap: new objects, and changes within the store -/
structure Ext (μ : List Addr) (H : Hp) (μ' : List Addr) (H' : Hp) : Prop where
  pre : ∃ t, μ' = μ ++ t
  new : ∀ a ∈ μ', a ∉ μ → H a = none
  keep : ∀ a o, H a = some o → a ∉ μ → H' a = some o
theorem Ext.refl (μ : List Addr) (H : Hp) : Ext μ H μ H := ⟨⟨[], by simp⟩, fun _ h n => absurd h n, fun _ _ h _ => h⟩
theorem Ext.trans {μ μ1 μ2 : List Addr} {H H1 H2 : Hp} (a : Ext μ H μ1 H1) (b : Ext μ1 H1 μ2 H2) : Ext μ H μ2 H2 := by
  obtain ⟨t, ht⟩ := a.pre
  obtain ⟨t', ht'⟩ := b.pre
  have sub : ∀ x ∈ μ, x ∈ μ1 := fun x hx => by rw [ht]; exact List.mem_append_left _ hx
  refine ⟨⟨t ++ t', by rw [ht', ht, List.append_assoc]⟩, fun x h n => ?_, fun x o h n => ?_⟩
  · by_cases h1 : x ∈ μ1
    · exact a.new x h1 n
    · have z := b.new x h h1
      cases q : H x with
      | none => rfl
      | some o => rw [a.keep x o q n] at z; cases z
  · have h1 : x ∉ μ1 := fun z => by rw [a.new x z n] at h; cases h
    exact b.keep x o (a.keep x o h n) h1
theorem Ext.at {μ μ' : List Addr} {H H' : Hp} (e : Ext μ H μ' H') {n : Nat} {a : Addr} (h : μ[n]? = some a) : μ'[n]? = some a := by
  obtain ⟨t, ht⟩ := e.pre
  rw [ht, List.getElem?_append_left (List.getElem?_eq_some_iff.mp h).1]; exact h
theorem Ext.new1 {μ : List Addr} {H : Hp} {p : Addr} {o : HO} (hp : H p = none) : Ext μ H μ (upd H p o) :=
  ⟨⟨[], by simp⟩, fun _ h n => absurd h n, fun a o' h _ => by rw [upd_ne (ne_of_none h hp)]; exact h⟩

/-- what stands at a place of the store -/
def isCell : HO → Bool
  | .lst _ => true | .dK _ => true | .dT _ => true | .ins _ _ _ => true | _ => false
def NoTup (μ : List Addr) (H : Hp) : Prop := ∀ a ∈ μ, ∃ o, H a = some o ∧ isCell o = true
section
variable {K : PySem.W.Frag} {mg : MG} {μ μ' : List Addr} {H H' : Hp} {st st' : S}
theorem RepC.noTup {c : Cell} {a : Addr} (h : RepC K mg μ H c a) : ∃ o, H a = some o ∧ isCell o = true := by
  cases c with
  | lst xs => obtain ⟨vs, e, _⟩ := h; exact ⟨_, e, rfl⟩
  | dct xs => obtain ⟨vs, e, _⟩ := h; exact ⟨_, e, rfl⟩
  | ins cn fs => obtain ⟨C, dx, gs, _, e, _⟩ := h; exact ⟨_, e, rfl⟩
theorem RelS.noTup (r : RelS K mg μ st H) : NoTup μ H := fun a ha => by
  obtain ⟨n, hn, e⟩ := List.getElem_of_mem ha
  have hn' : n < st.length := by rw [← r.len]; exact hn
  exact (r.at_ n st[n] a (by simp [hn']) (by rw [List.getElem?_eq_getElem hn, e])).noTup
theorem NoTup.not (r : NoTup μ H) {a : Addr} {o : HO} (h : H a = some o) (ho : isCell o = false) : a ∉ μ := fun z => by
  obtain ⟨o', e, h'⟩ := r a z
  rw [h] at e; cases e; rw [ho] at h'; cases h'
theorem RelS.there (r : RelS K mg μ st H) {n : Nat} {c : Cell} (h : st[n]? = some c) : ∃ a, μ[n]? = some a ∧ a ∈ μ ∧ RepC K mg μ H c a := by
  have hn : n < μ.length := by rw [r.len]; exact (List.getElem?_eq_some_iff.mp h).1
  exact ⟨μ[n], by simp [hn], List.getElem_mem hn, r.at_ n c _ h (by simp [hn])⟩
theorem NoTup.fresh (r : NoTup μ H) {p : Addr} (hp : H p = none) : p ∉ μ := fun h => by
  obtain ⟨o, e, _⟩ := r p h
  rw [hp] at e; cases e
theorem Ext.sqT (e : Ext μ H μ' H') (n : NoTup μ H) {a : Addr} {vs : List V} (h : SqT K H a vs) : SqT K H' a vs := by
  rcases h with (h | ⟨o, h⟩) | h
  · exact .inl (.inl (e.keep _ _ h (n.not h rfl)))
  · exact .inl (.inr ⟨o, e.keep _ _ h (n.not h rfl)⟩)
  · exact .inr h
mutual
theorem RepV.mono (e : Ext μ H μ' H') (n : NoTup μ H) : ∀ {d : D} {v : V}, RepV K μ H d v → RepV K μ' H' d v
  | .non, _, h => by cases h; exact .non
  | .bl _, _, h => by cases h; exact .bl _
  | .int _, _, h => by cases h; exact .int _
  | .str _, _, h => by cases h; exact .str _
  | .tup xs, _, h => by cases h with | tup h1 h2 => exact .tup (e.sqT n h1) (RepVs.mono e n h2)
  | .loc _, _, h => by cases h with | loc h1 => exact .loc (e.at h1)
  | .fro ns, _, h => by
    cases h with
    | fro h1 =>
      rcases h1 with ⟨o, h1⟩ | h1
      · exact .fro (.inl ⟨o, e.keep _ _ h1 (n.not h1 rfl)⟩)
      · exact .fro (.inr h1)
  | .exo _ _ _ xs, _, h => by cases h with | exo h1 h2 => exact .exo (e.keep _ _ h1 (n.not h1 rfl)) (RepVs.mono e n h2)
theorem RepVs.mono (e : Ext μ H μ' H') (n : NoTup μ H) : ∀ {ds : List D} {vs : List V}, RepVs K μ H ds vs → RepVs K μ' H' ds vs
  | [], _, h => by cases h; exact .nil
  | d :: ds, _, h => by cases h with | cons h1 h2 => exact .cons (RepV.mono e n h1) (RepVs.mono e n h2)
end
theorem RepF.mono (e : Ext μ H μ' H') (n : NoTup μ H) {fs : List (Str × D)} {gs : List (Str × V)} (h : RepF K μ H fs gs) : RepF K μ' H' fs gs := by
  induction h with
  | nil => exact .nil
  | cons h1 _ ih => exact .cons (h1.mono e n) ih
theorem RepK.mono (e : Ext μ H μ' H') (n : NoTup μ H) {fs : List (D × D)} {gs : List (Key × V)} (h : RepK K μ H fs gs) : RepK K μ' H' fs gs := by
  induction h with
  | nil => exact .nil
  | cons h1 _ ih => exact .cons (h1.mono e n) ih
theorem RelE.mono (e : Ext μ H μ' H') (n : NoTup μ H) {env : Ev} {σ : St} (r : RelE K μ H env σ) : RelE K μ' H' env σ :=
  ⟨r.len, fun i d h => let ⟨v, h1, h2⟩ := r.at_ i d h; ⟨v, h1, h2.mono e n⟩⟩
theorem RepVs.length {ds : List D} {vs : List V} (h : RepVs K μ H ds vs) : ds.length = vs.length := by
  induction ds generalizing vs with
  | nil => cases h; rfl
  | cons d ds ih => cases h with | cons h1 h2 => simp [ih h2]
theorem RepVs.get {ds : List D} {vs : List V} (h : RepVs K μ H ds vs) {i : Nat} {d : D} (e : ds[i]? = some d) : ∃ v, vs[i]? = some v ∧ RepV K μ H d v := by
  induction ds generalizing vs i with
  | nil => simp at e
  | cons x ds ih =>
    cases h with
    | cons h1 h2 =>
      cases i with
      | zero => simp at e; subst e; exact ⟨_, rfl, h1⟩
      | succ i => exact ih h2 (by simpa using e)
theorem RepVs.append {ds es : List D} {vs ws : List V} (h : RepVs K μ H ds vs) (h' : RepVs K μ H es ws) : RepVs K μ H (ds ++ es) (vs ++ ws) := by
  induction ds generalizing vs with
  | nil => cases h; exact h'
  | cons d ds ih => cases h with | cons h1 h2 => exact .cons h1 (ih h2)
theorem RepVs.take {ds : List D} {vs : List V} (h : RepVs K μ H ds vs) (n : Nat) : RepVs K μ H (ds.take n) (vs.take n) := by
  induction ds generalizing vs n with
  | nil => cases h; simp; exact .nil
  | cons d ds ih => cases h with | cons h1 h2 => cases n with
    | zero => exact .nil
    | succ n => exact .cons h1 (ih h2 n)
theorem RepVs.drop {ds : List D} {vs : List V} (h : RepVs K μ H ds vs) (n : Nat) : RepVs K μ H (ds.drop n) (vs.drop n) := by
  induction ds generalizing vs n with
  | nil => cases h; simp; exact .nil
  | cons d ds ih => cases h with | cons h1 h2 => cases n with
    | zero => exact .cons h1 h2
    | succ n => exact ih h2 n
theorem RepVs.set {ds : List D} {vs : List V} (h : RepVs K μ H ds vs) {d : D} {v : V} (r : RepV K μ H d v) (n : Nat) : RepVs K μ H (ds.set n d) (vs.set n v) := by
  induction ds generalizing vs n with
  | nil => cases h; exact .nil
  | cons x ds ih => cases h with | cons h1 h2 => cases n with
    | zero => exact .cons r h2
    | succ n => exact .cons h1 (ih h2 n)
theorem RepVs.reverse {ds : List D} {vs : List V} (h : RepVs K μ H ds vs) : RepVs K μ H ds.reverse vs.reverse := by
  induction ds generalizing vs with
  | nil => cases h; exact .nil
  | cons d ds ih => cases h with | cons h1 h2 => rw [List.reverse_cons, List.reverse_cons]; exact (ih h2).append (.cons h1 .nil)
theorem RepVs.eraseIdx {ds : List D} {vs : List V} (h : RepVs K μ H ds vs) (n : Nat) : RepVs K μ H (ds.eraseIdx n) (vs.eraseIdx n) := by
  induction ds generalizing vs n with
  | nil => cases h; exact .nil
  | cons x ds ih => cases h with | cons h1 h2 => cases n with
    | zero => exact h2
    | succ n => exact .cons h1 (ih h2 n)
theorem RepVs.dropLast {ds : List D} {vs : List V} (h : RepVs K μ H ds vs) : RepVs K μ H ds.dropLast vs.dropLast := by
  rw [List.dropLast_eq_take, List.dropLast_eq_take, h.length]; exact h.take _

/-- a new cell -/
theorem RelS.push (r : RelS K mg μ st H) {p : Addr} {o : HO} {c : Cell} (hp : H p = none) (hc : RepC K mg (μ ++ [p]) (upd H p o) c p) : RelS K mg (μ ++ [p]) (st ++ [c]) (upd H p o) := by
  have nt := r.noTup
  have hn := nt.fresh hp
  have ex : Ext μ H (μ ++ [p]) (upd H p o) := ⟨⟨[p], rfl⟩, fun a h n => by
    rcases List.mem_append.mp h with h | h
    · exact absurd h n
    · have e : a = p := by simpa using h
      rw [e]; exact hp, fun a o' h _ => by rw [upd_ne (ne_of_none h hp)]; exact h⟩
  refine ⟨by simp [r.len], ?_, fun n c' a h1 h2 => ?_⟩
  · rw [List.nodup_append]
    refine ⟨r.nd, by simp, fun a ha b hb e => ?_⟩
    have e2 : b = p := by simpa using hb
    rw [e, e2] at ha; exact hn ha
  · by_cases hlt : n < st.length
    · rw [List.getElem?_append_left hlt] at h1
      rw [List.getElem?_append_left (by rw [r.len]; exact hlt)] at h2
      have q := r.at_ n c' a h1 h2
      have hne : a ≠ p := fun z => hn (by rw [← z]; exact List.mem_of_getElem? h2)
      cases c' with
      | lst xs => obtain ⟨vs, e, rr⟩ := q; exact ⟨vs, by rw [upd_ne hne]; exact e, rr.mono ex nt⟩
      | dct xs => obtain ⟨vs, e, rr⟩ := q; exact ⟨vs, by rw [upd_ne hne]; exact e, rr.mono ex nt⟩
      | ins cn fs => obtain ⟨C, dx, gs, hm, e, rr⟩ := q; exact ⟨C, dx, gs, hm, by rw [upd_ne hne]; exact e, rr.mono ex nt⟩
    · have hl : n = st.length := by
        have := (List.getElem?_eq_some_iff.mp h1).1
        rw [List.length_append, List.length_singleton] at this
        omega
      subst hl
      rw [List.getElem?_append_right (Nat.le_refl _)] at h1
      rw [← r.len, List.getElem?_append_right (Nat.le_refl _)] at h2
      simp at h1 h2
      subst h1; subst h2
      exact hc
theorem Ext.push {p : Addr} {o : HO} (hp : H p = none) : Ext μ H (μ ++ [p]) (upd H p o) := ⟨⟨[p], rfl⟩, fun a h n => by
    rcases List.mem_append.mp h with h | h
    · exact absurd h n
    · have e : a = p := by simpa using h
      rw [e]; exact hp, fun a o' h _ => by rw [upd_ne (ne_of_none h hp)]; exact h⟩
/-- an untracked new object (a tuple) -/
theorem RelS.new1 (r : RelS K mg μ st H) {p : Addr} {o : HO} (hp : H p = none) : RelS K mg μ st (upd H p o) := by
  have nt := r.noTup
  have hn := nt.fresh hp
  have ex : Ext μ H μ (upd H p o) := Ext.new1 hp
  refine ⟨r.len, r.nd, fun n c a h1 h2 => ?_⟩
  have q := r.at_ n c a h1 h2
  have hne : a ≠ p := fun z => hn (by rw [← z]; exact List.mem_of_getElem? h2)
  cases c with
  | lst xs => obtain ⟨vs, e, rr⟩ := q; exact ⟨vs, by rw [upd_ne hne]; exact e, rr.mono ex nt⟩
  | dct xs => obtain ⟨vs, e, rr⟩ := q; exact ⟨vs, by rw [upd_ne hne]; exact e, rr.mono ex nt⟩
  | ins cn fs => obtain ⟨C, dx, gs, hm, e, rr⟩ := q; exact ⟨C, dx, gs, hm, by rw [upd_ne hne]; exact e, rr.mono ex nt⟩
/-- a cell is written -/
theorem Ext.write {n : Nat} {a : Addr} {o : HO} (ha : μ[n]? = some a) : Ext μ H μ (upd H a o) :=
  ⟨⟨[], by simp⟩, fun _ h n => absurd h n, fun b o' h hb => by rw [upd_ne (fun z => hb (by rw [z]; exact List.mem_of_getElem? ha))]; exact h⟩
theorem RelS.write (r : RelS K mg μ st H) {n : Nat} {a : Addr} {o : HO} {c : Cell} (hn : n < st.length) (ha : μ[n]? = some a) (hc : RepC K mg μ (upd H a o) c a) : RelS K mg μ (st.set n c) (upd H a o) := by
  have nt := r.noTup
  have ex : Ext μ H μ (upd H a o) := Ext.write ha
  refine ⟨by rw [List.length_set]; exact r.len, r.nd, fun m c' b h1 h2 => ?_⟩
  by_cases hm : m = n
  · subst hm
    rw [List.getElem?_set_self hn] at h1
    cases h1
    rw [ha] at h2; cases h2
    exact hc
  · rw [List.getElem?_set_ne (Ne.symm hm)] at h1
    have q := r.at_ m c' b h1 h2
    have hne : b ≠ a := fun z => by
      obtain ⟨l1, e1⟩ := List.getElem?_eq_some_iff.mp h2
      obtain ⟨l2, e2⟩ := List.getElem?_eq_some_iff.mp ha
      exact hm ((List.getElem_inj r.nd).mp (e1.trans (z.trans e2.symm)))
    cases c' with
    | lst xs => obtain ⟨vs, e, rr⟩ := q; exact ⟨vs, by rw [upd_ne hne]; exact e, rr.mono ex nt⟩
    | dct xs => obtain ⟨vs, e, rr⟩ := q; exact ⟨vs, by rw [upd_ne hne]; exact e, rr.mono ex nt⟩
    | ins cn fs => obtain ⟨C, dx, gs, hm', e, rr⟩ := q; exact ⟨C, dx, gs, hm', by rw [upd_ne hne]; exact e, rr.mono ex nt⟩
end
end DL
set_option Elab.async false
set_option linter.all false
set_option maxRecDepth 100000
/-! DL2: expressions as functions of data, and that the rules of the layer carry them -/
namespace DL
open PySem L2

/-! ### what is wanted behind an evaluation -/
/-- the dict of an exception -/
def ExcD (K : PySem.W.Frag) (μ : List Addr) (H : Hp) (fs : List (Str × D)) (d : Option Addr) : Prop :=
  (fs = [] ∧ d = none) ∨ ∃ a gs, d = some a ∧ H a = some (.xd gs) ∧ RepF K μ H fs gs
def ExcP (K : PySem.W.Frag) (mg : MG) (E : WX) (σ : L2.St) (μ : List Addr) (H : Hp) (x : Exn) (st' : S) : Prop :=
  ∀ μ' H' C d, Ext μ H μ' H' → RelS K mg μ' st' H' → mg x.cls = some (.ref C) → ExcD K μ' H' x.fs d → E (.ref C) d σ H'
def PostR (K : PySem.W.Frag) (mg : MG) (E : WX) (σ : L2.St) {α β : Type} (Rep : List Addr → Hp → α → β → Prop) (μ : List Addr) (H : Hp) (Q : β → Hp → Prop) : R α → Prop
  | .ok a st' => ∀ μ' v H', Ext μ H μ' H' → RelS K mg μ' st' H' → Rep μ' H' a v → Q v H'
  | .exc x st' => ExcP K mg E σ μ H x st'
  | .fail => False
def tG (K : PySem.W.Frag) (mg : MG) (E : WX) {α β : Type} (Rep : List Addr → Hp → α → β → Prop) (m : Ev → S → R α) : L2.St → Hp → (β → Hp → Prop) → Prop := fun σ H Q =>
  ∃ μ env st, RelS K mg μ st H ∧ RelE K μ H env σ ∧ PostR K mg E σ Rep μ H Q (m env st)
abbrev repEq {α : Type} : List Addr → Hp → α → α → Prop := fun _ _ a b => a = b
section
variable {K : PySem.W.Frag} {mg : MG} {E : WX} {σ : L2.St} {μ μ1 : List Addr} {H H1 : Hp}
theorem ExcP.ext {x : Exn} {st : S} (e : Ext μ H μ1 H1) (h : ExcP K mg E σ μ H x st) : ExcP K mg E σ μ1 H1 x st := fun μ' H' C d ex rs hm hd => h μ' H' C d (e.trans ex) rs hm hd
theorem PostR.ext {α β : Type} {Rep : List Addr → Hp → α → β → Prop} {Q : β → Hp → Prop} (e : Ext μ H μ1 H1) : ∀ {o : R α}, PostR K mg E σ Rep μ H Q o → PostR K mg E σ Rep μ1 H1 Q o
  | .ok a st, h => fun μ' v H' ex rs r => h μ' v H' (e.trans ex) rs r
  | .exc x st, h => ExcP.ext e h
  | .fail, h => h
/-- the first of two evaluations -/
theorem tG_at {α β γ δ : Type} {Rep : List Addr → Hp → α → β → Prop} {Rep2 : List Addr → Hp → γ → δ → Prop} {m : Ev → S → R α} {k : α → S → R γ} {Q : δ → Hp → Prop} {body : β → Hp → Prop} {env : Ev} {st : S}
    (rs : RelS K mg μ st H) (re : RelE K μ H env σ) (p : PostR K mg E σ Rep2 μ H Q ((m env st).bind k))
    (hk : ∀ μ1 st1 H1 a x, Ext μ H μ1 H1 → RelS K mg μ1 st1 H1 → RelE K μ1 H1 env σ → Rep μ1 H1 a x → PostR K mg E σ Rep2 μ1 H1 Q (k a st1) → body x H1) : tG K mg E Rep m σ H body := by
  refine ⟨μ, env, st, rs, re, ?_⟩
  cases e : m env st with
  | ok a st1 =>
    rw [e] at p
    exact fun μ1 x H1 ex rs1 rx => hk μ1 st1 H1 a x ex rs1 (re.mono ex rs.noTup) rx (PostR.ext ex p)
  | exc x st1 => rw [e] at p; exact p
  | fail => rw [e] at p; exact p
end

structure RE (X : Cx) (E : WX) (e : Expr) (m : ME) : Prop where
  pe : PE X e (tG X.K X.mg E (RepV X.K) m)
structure RT (X : Cx) (E : WX) (e : Expr) (m : MT) : Prop where
  pt : PT X e (tG X.K X.mg E repEq m)
structure RW (X : Cx) (E : WX) (e : Expr) (m : MT) : Prop where
  pw : PW X e (tG X.K X.mg E repEq m)
structure RA (X : Cx) (E : WX) (es : List Expr) (m : MA) : Prop where
  pa : PA X es (tG X.K X.mg E (RepVs X.K) m)
structure RO (X : Cx) (E : WX) (e : Option Expr) (m : MO) : Prop where
  po : PO X e (tG X.K X.mg E repEq m)
theorem PE.imp {X : Cx} {e : Expr} {t t' : TE} (h : PE X e t) (i : ∀ σ H Q, t' σ H Q → t σ H Q) : PE X e t' := ⟨fun pins s σ H Q I q => h.run pins s σ H Q I (i σ H Q q)⟩
theorem PT.imp {X : Cx} {e : Expr} {t t' : TT} (h : PT X e t) (i : ∀ σ H Q, t' σ H Q → t σ H Q) : PT X e t' := ⟨fun pins s σ H Q I q => h.run pins s σ H Q I (i σ H Q q)⟩
theorem PW.imp {X : Cx} {e : Expr} {t t' : TT} (h : PW X e t) (i : ∀ σ H Q, t' σ H Q → t σ H Q) : PW X e t' := ⟨fun w pins s σ H Q I q => h.run w pins s σ H Q I (i σ H Q q)⟩
theorem PA.imp {X : Cx} {e : List Expr} {t t' : TA} (h : PA X e t) (i : ∀ σ H Q, t' σ H Q → t σ H Q) : PA X e t' := ⟨fun p pins s σ H Q I q => h.run p pins s σ H Q I (i σ H Q q)⟩
theorem PO.imp {X : Cx} {e : Option Expr} {t t' : TO} (h : PO X e t) (i : ∀ σ H Q, t' σ H Q → t σ H Q) : PO X e t' := ⟨fun pins s σ H Q I q => h.run pins s σ H Q I (i σ H Q q)⟩
theorem PS.imp {X : Cx} {e : Stmt} {t t' : TS} (h : PS X e t) (i : ∀ D σ H, t' D σ H → t D σ H) : PS X e t' := ⟨fun pins s σ H D I q => h.run pins s σ H D I (i D σ H q)⟩
theorem PSs.imp {X : Cx} {e : List Stmt} {t t' : TS} (h : PSs X e t) (i : ∀ D σ H, t' D σ H → t D σ H) : PSs X e t' := ⟨fun pins s σ H D I q => h.run pins s σ H D I (i D σ H q)⟩

/-! ### the combinators -/
abbrev P1 := D → S → Option (D × S)
abbrev P2 := D → D → S → Option (D × S)
abbrev PA' := List D → S → Option (D × S)
@[simp] def ofO {α : Type} : Option (α × S) → R α
  | some (d, st) => .ok d st
  | none => .fail
@[simp] def onB {α : Type} (d : D) (k : Bool → R α) : R α := match d with | .bl b => k b | _ => .fail
@[simp] def onI {α : Type} (d : D) (k : Int → R α) : R α := match d with | .int i => k i | _ => .fail
def eV (i : Nat) : ME := fun env st => match env[i]? with | some (some d) => .ok d st | _ => .fail
def eC (d : D) : ME := fun _ st => .ok d st
def eBin (g : P2) (a b : ME) : ME := fun env st => (a env st).bind fun x st1 => (b env st1).bind fun y st2 => ofO (g x y st2)
def eUn (g : P1) (a : ME) : ME := fun env st => (a env st).bind fun x st1 => ofO (g x st1)
def aNil : MA := fun _ st => .ok [] st
def aCons (a : ME) (r : MA) : MA := fun env st => (a env st).bind fun x st1 => (r env st1).bind fun ys st2 => .ok (x :: ys) st2
def itemsOf (d : D) (st : S) : Option (List D) := match d with
  | .tup xs => some xs
  | .loc n => match st[n]? with | some (.lst xs) => some xs | _ => none
  | _ => none
def aStar (a : ME) (r : MA) : MA := fun env st => (a env st).bind fun x st1 => match itemsOf x st1 with
  | some xs => (r env st1).bind fun ys st2 => .ok (xs ++ ys) st2
  | none => .fail
def eTup (as : MA) : ME := fun env st => (as env st).bind fun ds st1 => if ds.length ≤ sizeLine then .ok (.tup ds) st1 else .fail
def eLst (as : MA) : ME := fun env st => (as env st).bind fun ds st1 => if ds.length ≤ sizeLine then .ok (.loc st1.length) (st1 ++ [.lst ds]) else .fail
def eP (g : PA') (as : MA) : ME := fun env st => (as env st).bind fun ds st1 => ofO (g ds st1)
/-- what a value's type is called -/
def tyD (st : S) : D → Option String
  | .non => some "NoneType"
  | .bl _ => some "bool"
  | .int _ => some "int"
  | .str _ => some "str"
  | .tup _ => some "tuple"
  | .loc n => match st[n]? with | some (.lst _) => some "list" | some (.dct _) => some "dict" | _ => none
  | .fro _ => none
  | .exo _ _ _ _ => none
/-- o.m(..) of a built-in type T -/
def eM (T : String) (g : PA') (o : ME) (as : MA) : ME := fun env st => (o env st).bind fun x st1 => if tyD st1 x = some T then (as env st1).bind fun ds st2 => ofO (g (x :: ds) st2) else .fail
def eF (f : MF) (as : MA) : ME := fun env st => (as env st).bind fun ds st1 => f ds st1
def oNone : MO := fun _ st => .ok none st
def oSome (a : ME) : MO := fun env st => (a env st).bind fun x st1 => onI x fun i => .ok (some i) st1
def eSl (g : D → Option Int → Option Int → S → Option (D × S)) (a : ME) (lo hi : MO) : ME := fun env st => (a env st).bind fun x st1 => (lo env st1).bind fun l st2 => (hi env st2).bind fun u st3 => ofO (g x l u st3)
def eIf (t : MT) (a b : ME) : ME := fun env st => (t env st).bind fun c st1 => if c = true then a env st1 else b env st1
/-- a value that is a truth, as a test -/
def tV (a : ME) : MT := fun env st => (a env st).bind fun x st1 => onB x fun b => .ok b st1
/-- a value's truth -/
def truD (d : D) (st : S) : Option Bool := match d with
  | .non => some false
  | .bl b => some b
  | .int i => some (i != 0)
  | .str y => if y.length ≤ sizeLine then some ((y.length : Int) != 0) else none
  | .tup xs => some (!xs.isEmpty)
  | .loc n => match st[n]? with | some (.lst xs) => some (!xs.isEmpty) | some (.dct kvs) => some (!kvs.isEmpty) | _ => none
  | .fro _ => none
  | .exo _ _ _ _ => none
def tTru (a : ME) : MT := fun env st => (a env st).bind fun x st1 => match truD x st1 with | some b => .ok b st1 | none => .fail
def tAnd (a b : MT) : MT := fun env st => (a env st).bind fun c st1 => if c = true then b env st1 else .ok false st1
def tOr (a b : MT) : MT := fun env st => (a env st).bind fun c st1 => if c = true then .ok true st1 else b env st1
def tNot (a : MT) : MT := fun env st => (a env st).bind fun c st1 => .ok (!c) st1
/-- and, or of truths as values -/
def eAnd (a b : ME) : ME := fun env st => (a env st).bind fun x st1 => onB x fun k => if k = true then b env st1 else .ok (.bl false) st1
def eOr (a b : ME) : ME := fun env st => (a env st).bind fun x st1 => onB x fun k => if k = true then .ok (.bl true) st1 else b env st1
def eNot (a : ME) : ME := fun env st => (a env st).bind fun x st1 => onB x fun b => .ok (.bl (!b)) st1
/-- x op1 y op2 z -/
def eChain (g g' : P2) (a b c : ME) : ME := fun env st => (a env st).bind fun x st1 => (b env st1).bind fun y st2 => (ofO (g x y st2)).bind fun z st3 => onB z fun k =>
  if k = true then (c env st3).bind fun w st4 => ofO (g' y w st4) else .ok (.bl false) st3

/-! ### what the prims keep -/
/-- behind a prim -/
def rC (K : PySem.W.Frag) (mg : MG) (μ : List Addr) (H : Hp) (Q : VK) (d : D) (st' : S) : Prop := ∀ μ' v H', Ext μ H μ' H' → RelS K mg μ' st' H' → RepV K μ' H' d v → Q v H'
def r2M (K : PySem.W.Frag) (mg : MG) (g : P2) : R2 := fun x y H Q => ∃ μ st d1 d2 d st', RelS K mg μ st H ∧ RepV K μ H d1 x ∧ RepV K μ H d2 y ∧ g d1 d2 st = some (d, st') ∧ rC K mg μ H Q d st'
def r1M (K : PySem.W.Frag) (mg : MG) (g : P1) : V → Hp → VK → Prop := fun x H Q => ∃ μ st d1 d st', RelS K mg μ st H ∧ RepV K μ H d1 x ∧ g d1 st = some (d, st') ∧ rC K mg μ H Q d st'
def rAM (K : PySem.W.Frag) (mg : MG) (g : PA') : List V → Hp → VK → Prop := fun xs H Q => ∃ μ st ds d st', RelS K mg μ st H ∧ RepVs K μ H ds xs ∧ g ds st = some (d, st') ∧ rC K mg μ H Q d st'
def rMM (K : PySem.W.Frag) (mg : MG) (g : PA') : V → List V → Hp → VK → Prop := fun x xs H Q => rAM K mg g (x :: xs) H Q
def rSM (K : PySem.W.Frag) (mg : MG) (g : D → Option Int → Option Int → S → Option (D × S)) : V → Option Int → Option Int → Hp → VK → Prop := fun x lo hi H Q => ∃ μ st d1 d st', RelS K mg μ st H ∧ RepV K μ H d1 x ∧ g d1 lo hi st = some (d, st') ∧ rC K mg μ H Q d st'

section
variable {X : Cx} {E : WX} {e a b c : Expr} {es : List Expr} {m ma mb mc : ME} {pos : Pos}
theorem postO {K : PySem.W.Frag} {mg : MG} {σ : L2.St} {μ : List Addr} {H : Hp} {Q : VK} {o : Option (D × S)} (h : PostR K mg E σ (RepV K) μ H Q (ofO o)) : ∃ d st', o = some (d, st') ∧ rC K mg μ H Q d st' := by
  cases o with
  | none => exact False.elim h
  | some p => obtain ⟨d, st'⟩ := p; exact ⟨d, st', rfl, h⟩
theorem re_v (i : Nat) {x : Str} {pos : Pos} (hN : X.N[i]? = some x := by rfl) (hv : Vis X.env.scope x := by first | exact Or.inl rfl | exact Or.inr (Or.inl rfl) | exact Or.inr (Or.inr rfl)) (hd : (x == ("__debug__" : Str)) = false := by decide)
    (hcd : (x == ("__classdict__" : Str)) = false := by decide) : RE X E (.Name x pos) (eV i) := ⟨PE.imp (pe_var hN hv hd hcd) fun σ H Q h => by
  obtain ⟨μ, env, st, rs, re, p⟩ := h
  unfold eV at p
  cases e : env[i]? with
  | none => rw [e] at p; exact False.elim p
  | some o =>
    rw [e] at p
    cases o with
    | none => exact False.elim p
    | some d =>
      obtain ⟨v, h1, h2⟩ := re.at_ i d e
      exact ⟨v, h1, p μ v H (Ext.refl _ _) rs h2⟩⟩
theorem re_c {d : D} {v : V} (h : PE X e (tC v)) (r : ∀ μ H, RepV X.K μ H d v) : RE X E e (eC d) := ⟨PE.imp h fun σ H Q h => by
  obtain ⟨μ, env, st, rs, re, p⟩ := h
  exact p μ v H (Ext.refl _ _) rs (r μ H)⟩
theorem re_int {i j} : RE X E (.Constant (.int i) j pos) (eC (.int i)) := re_c pe_int fun _ _ => .int _
theorem re_bl {i j} : RE X E (.Constant (.bool i) j pos) (eC (.bl i)) := re_c pe_bl fun _ _ => .bl _
theorem re_non {j} : RE X E (.Constant .none j pos) (eC .non) := re_c pe_non fun _ _ => .non
theorem re_str {i j} : RE X E (.Constant (.str i) j pos) (eC (.str i)) := re_c pe_str fun _ _ => .str _
/-- a module's constant -/
theorem re_gint {x : Str} {i : Int} {t : Tok} (hg : Gl X x) (hm : X.mg x = some (.int i t)) (hd : (x == ("__debug__" : Str)) = false := by decide) : RE X E (.Name x pos) (eC (.int i)) := re_c (pe_glob (v := .int i) hg hm ⟨_, rfl⟩ hd) fun _ _ => .int _
theorem re_gstr {x : Str} {i : Str} {t : Tok} (hg : Gl X x) (hm : X.mg x = some (.str i t)) (hd : (x == ("__debug__" : Str)) = false := by decide) : RE X E (.Name x pos) (eC (.str i)) := re_c (pe_glob (v := .str i) hg hm ⟨_, rfl⟩ hd) fun _ _ => .str _

theorem tOp_of {K : PySem.W.Frag} {mg : MG} {g : P2} {σ : L2.St} {H : Hp} {Q : VK} (h : tG K mg E (RepV K) (eBin g ma mb) σ H Q) :
    tOp (r2M K mg g) (tG K mg E (RepV K) ma) (tG K mg E (RepV K) mb) σ H Q := by
  obtain ⟨μ, env, st, rs, re, p⟩ := h
  refine tG_at rs re p fun μ1 st1 H1 d1 x ex rs re rx p => ?_
  refine tG_at rs re p fun μ2 st2 H2 d2 y ex2 rs2 re2 ry p => ?_
  obtain ⟨d, st', e, q⟩ := postO p
  exact ⟨μ2, st2, d1, d2, d, st', rs2, rx.mono ex2 rs.noTup, ry, e, q⟩
theorem re_op2 {op : Operator} {g : P2} (ho : OpR X (binaryOp op) (r2M X.K X.mg g)) (ha : RE X E a ma) (hb : RE X E b mb) : RE X E (.BinOp a op b pos) (eBin g ma mb) := ⟨PE.imp (pe_op ho ha.pe hb.pe) fun σ H Q h => tOp_of h⟩
theorem re_cmp {op : CmpOp} {g : P2} (ho : OpR X (compareOp op) (r2M X.K X.mg g)) (ha : RE X E a ma) (hb : RE X E b mb) (hm : behindInMarks op b = false) : RE X E (.Compare a [op] [b] pos) (eBin g ma mb) := ⟨PE.imp (pe_cmpR ho ha.pe hb.pe hm) fun σ H Q h => tOp_of h⟩
theorem re_ix {g : P2} (ho : IxR X (r2M X.K X.mg g)) (ha : RE X E a ma) (hb : RE X E b mb) (hs : PlainIx b) : RE X E (.Subscript a b pos) (eBin g ma mb) := ⟨PE.imp (pe_ix ho ha.pe hb.pe hs) fun σ H Q h => tOp_of h⟩
theorem re_un {op : UnaryOp} {g : P1} (ho : UnR X (unaryOp op) (r1M X.K X.mg g)) (ha : RE X E a ma) : RE X E (.UnaryOp op a pos) (eUn g ma) := ⟨PE.imp (pe_un ho ha.pe) fun σ H Q h => by
  obtain ⟨μ, env, st, rs, re, p⟩ := h
  refine tG_at rs re p fun μ1 st1 H1 d1 x ex rs re rx p => ?_
  obtain ⟨d, st', e, q⟩ := postO p
  exact ⟨μ1, st1, d1, d, st', rs, rx, e, q⟩⟩
theorem tV_post {K : PySem.W.Frag} {mg : MG} {σ : L2.St} {μ : List Addr} {H : Hp} {Q : Bool → Hp → Prop} {d : D} {st : S} {x : V} (rs : RelS K mg μ st H) (rx : RepV K μ H d x)
    (p : PostR K mg E σ repEq μ H Q (onB d fun b => R.ok b st)) : ∃ c, x = .bl c ∧ Q c H := by
  cases rx with
  | bl b => exact ⟨b, rfl, p μ b H (Ext.refl _ _) rs rfl⟩
  | _ => exact False.elim p
theorem rt_val (ha : RE X E a ma) (he : ∀ whole, isTrue a X.env whole = (do let v ← whole; standAt a.pos; holding [v] (truthy v)) := by intro _; rfl) : RT X E a (tV ma) := ⟨PT.imp (pt_val ha.pe he) fun σ H Q h => by
  obtain ⟨μ, env, st, rs, re, p⟩ := h
  exact tG_at rs re p fun μ1 st1 H1 d1 x ex rs re rx p => tV_post rs rx p⟩
theorem rt_cmp {op : CmpOp} {g : P2} (ho : OpR X (compareOp op) (r2M X.K X.mg g)) (ha : RE X E a ma) (hb : RE X E b mb) (hm : behindInMarks op b = false) : RT X E (.Compare a [op] [b] pos) (tV (eBin g ma mb)) := ⟨PT.imp (pt_cmpR ho ha.pe hb.pe hm) fun σ H Q h => by
  have h2 : tG X.K X.mg E (RepV X.K) (eBin g ma mb) σ H (fun x H' => ∃ k, x = .bl k ∧ Q k H') := by
    obtain ⟨μ, env, st, rs, re, p⟩ := h
    exact tG_at rs re p fun μ1 st1 H1 d1 x ex rs re rx p => tV_post rs rx p
  exact tOp_of h2⟩
theorem tChain_of {K : PySem.W.Frag} {mg : MG} {g g' : P2} {σ : L2.St} {H : Hp} {Q : VK} (h : tG K mg E (RepV K) (eChain g g' ma mb mc) σ H Q) :
    tChain (r2M K mg g) (r2M K mg g') (tG K mg E (RepV K) ma) (tG K mg E (RepV K) mb) (tG K mg E (RepV K) mc) σ H Q := by
  obtain ⟨μ, env, st, rs, re, p⟩ := h
  refine tG_at rs re p fun μ1 st1 H1 d1 x ex rs re rx p => ?_
  refine tG_at rs re p fun μ2 st2 H2 d2 y ex2 rs2 re2 ry p => ?_
  cases eg : g d1 d2 st2 with
  | none => rw [eg] at p; exact False.elim p
  | some o =>
    obtain ⟨d, st3⟩ := o
    rw [eg] at p
    refine ⟨μ2, st2, d1, d2, d, st3, rs2, rx.mono ex2 rs.noTup, ry, eg, fun μ3 v H3 ex3 rs3 rv => ?_⟩
    have p : PostR K mg E σ (RepV K) μ2 H2 Q (onB d fun k => if k = true then (mc env st3).bind fun w st4 => ofO (g' d2 w st4) else .ok (.bl false) st3) := p
    cases rv with
    | bl k =>
      refine ⟨k, rfl, ?_⟩
      cases k with
      | true =>
        rw [if_pos rfl]
        refine tG_at rs3 (re2.mono ex3 rs2.noTup) (PostR.ext ex3 p) fun μ4 st4 H4 d4 w ex4 rs4 re4 rw4 p => ?_
        obtain ⟨d, st', e, q⟩ := postO p
        exact ⟨μ4, st4, d2, d4, d, st', rs4, (ry.mono ex3 rs2.noTup).mono ex4 rs3.noTup, rw4, e, q⟩
      | false =>
        rw [if_neg Bool.false_ne_true]
        exact p μ3 _ H3 ex3 rs3 (.bl false)
    | _ => exact False.elim p
theorem re_chain {op op' : CmpOp} {g g' : P2} (ho : OpR X (compareOp op) (r2M X.K X.mg g)) (ho' : OpR X (compareOp op') (r2M X.K X.mg g')) (ha : RE X E a ma) (hb : RE X E b mb) (hc : RE X E c mc)
    (hm : lastMarks [op, op'] [b, c] = false := by with_unfolding_all rfl) : RE X E (.Compare a [op, op'] [b, c] pos) (eChain g g' ma mb mc) := ⟨PE.imp (pe_chain ho ho' ha.pe hb.pe hc.pe hm) fun σ H Q h => tChain_of h⟩
theorem rt_chain {op op' : CmpOp} {g g' : P2} (ho : OpR X (compareOp op) (r2M X.K X.mg g)) (ho' : OpR X (compareOp op') (r2M X.K X.mg g')) (ha : RE X E a ma) (hb : RE X E b mb) (hc : RE X E c mc)
    (hm : lastMarks [op, op'] [b, c] = false := by with_unfolding_all rfl) : RT X E (.Compare a [op, op'] [b, c] pos) (tV (eChain g g' ma mb mc)) := ⟨PT.imp (pt_chain ho ho' ha.pe hb.pe hc.pe hm) fun σ H Q h => by
  have h2 : tG X.K X.mg E (RepV X.K) (eChain g g' ma mb mc) σ H (fun x H' => ∃ k, x = .bl k ∧ Q k H') := by
    obtain ⟨μ, env, st, rs, re, p⟩ := h
    exact tG_at rs re p fun μ1 st1 H1 d1 x ex rs re rx p => tV_post rs rx p
  exact tChain_of h2⟩
/-! ### tests -/
theorem tru_ok' {K : PySem.W.Frag} {mg : MG} {μ : List Addr} {H : Hp} {d : D} {st : S} {x : V} {b : Bool} (rs : RelS K mg μ st H) (rx : RepV K μ H d x) (h : truD d st = some b) : TruV K x H b := by
  cases rx with
  | non => exact (Option.some.inj h).symm
  | bl b => exact (Option.some.inj h).symm
  | int i => exact (Option.some.inj h).symm
  | str y =>
    have h : (if y.length ≤ sizeLine then some ((y.length : Int) != 0) else none) = some b := h
    by_cases hy : y.length ≤ sizeLine
    · rw [if_pos hy] at h; exact ⟨hy, (Option.some.inj h).symm⟩
    · rw [if_neg hy] at h; cases h
  | tup h1 h2 =>
    refine .inr (.inl ⟨_, h1, ?_⟩)
    have h := (Option.some.inj h).symm
    rw [h]
    cases h2 <;> rfl
  | @loc n a hn =>
    have h : (match st[n]? with | some (.lst xs) => some (!xs.isEmpty) | some (.dct kvs) => some (!kvs.isEmpty) | _ => none) = some b := h
    cases e : st[n]? with
    | none => rw [e] at h; cases h
    | some c =>
      have rc := rs.at_ n c a e hn
      rw [e] at h
      cases c with
      | lst xs =>
        obtain ⟨vs, e1, r1⟩ := rc
        refine .inl ⟨vs, SqL.of e1, ?_⟩
        rw [(Option.some.inj h).symm]
        cases r1 <;> rfl
      | dct xs =>
        obtain ⟨vs, e1, r1⟩ := rc
        refine .inr (.inr ⟨vs, e1, ?_⟩)
        rw [(Option.some.inj h).symm]
        cases r1 <;> rfl
      | ins cn fs => cases h
  | fro _ => cases h
  | exo _ _ => cases h
theorem rt_tru (ha : RE X E a ma) (he : ∀ whole, isTrue a X.env whole = (do let v ← whole; standAt a.pos; holding [v] (truthy v)) := by intro _; rfl) : RT X E a (tTru ma) := ⟨PT.imp (pt_truth ha.pe he) fun σ H Q h => by
  obtain ⟨μ, env, st, rs, re, p⟩ := h
  refine tG_at rs re p fun μ1 st1 H1 d1 x ex rs re rx p => ?_
  cases e : truD d1 st1 with
  | none => rw [e] at p; exact False.elim p
  | some b => rw [e] at p; exact ⟨b, tru_ok' rs rx e, p μ1 b H1 (Ext.refl _ _) rs rfl⟩⟩
section
variable {ta tb : MT} {rest : List Expr}
theorem rw_and1 (ha : RT X E a ta) : RW X E (.BoolOp .And [a] pos) ta := ⟨pw_and1 ha.pt⟩
theorem rw_or1 (ha : RT X E a ta) : RW X E (.BoolOp .Or [a] pos) ta := ⟨pw_or1 ha.pt⟩
theorem rw_and (ha : RT X E a ta) (hb : RW X E (.BoolOp .And (b :: rest) pos) tb) : RW X E (.BoolOp .And (a :: b :: rest) pos) (tAnd ta tb) := ⟨PW.imp (pw_and ha.pt hb.pw) fun σ H Q h => by
  obtain ⟨μ, env, st, rs, re, p⟩ := h
  refine tG_at rs re p fun μ1 st1 H1 d1 x ex rs re rx p => ?_
  subst rx
  cases d1 with
  | true => rw [if_pos rfl]; exact ⟨μ1, env, st1, rs, re, p⟩
  | false => rw [if_neg Bool.false_ne_true]; exact p μ1 _ H1 (Ext.refl _ _) rs rfl⟩
theorem rw_or (ha : RT X E a ta) (hb : RW X E (.BoolOp .Or (b :: rest) pos) tb) : RW X E (.BoolOp .Or (a :: b :: rest) pos) (tOr ta tb) := ⟨PW.imp (pw_or ha.pt hb.pw) fun σ H Q h => by
  obtain ⟨μ, env, st, rs, re, p⟩ := h
  refine tG_at rs re p fun μ1 st1 H1 d1 x ex rs re rx p => ?_
  subst rx
  cases d1 with
  | false => rw [if_neg Bool.false_ne_true]; exact ⟨μ1, env, st1, rs, re, p⟩
  | true => rw [if_pos rfl]; exact p μ1 _ H1 (Ext.refl _ _) rs rfl⟩
theorem RW.rt (h : RW X E a ta) : RT X E a ta := ⟨h.pw.pt⟩
theorem rt_not (ha : RT X E a ta) : RT X E (.UnaryOp .Not a pos) (tNot ta) := ⟨PT.imp (pt_not ha.pt) fun σ H Q h => by
  obtain ⟨μ, env, st, rs, re, p⟩ := h
  refine tG_at rs re p fun μ1 st1 H1 d1 x ex rs re rx p => ?_
  subst rx
  exact p μ1 _ H1 (Ext.refl _ _) rs rfl⟩
theorem re_if {c : Expr} (hc : RT X E c ta) (ha : RE X E a ma) (hb : RE X E b mb) : RE X E (.IfExp c a b pos) (eIf ta ma mb) := ⟨PE.imp (pe_ifExp hc.pt ha.pe hb.pe) fun σ H Q h => by
  obtain ⟨μ, env, st, rs, re, p⟩ := h
  refine tG_at rs re p fun μ1 st1 H1 d1 x ex rs re rx p => ?_
  subst rx
  cases d1 with
  | true => rw [if_pos rfl] at p ⊢; exact ⟨μ1, env, st1, rs, re, p⟩
  | false => rw [if_neg Bool.false_ne_true] at p ⊢; exact ⟨μ1, env, st1, rs, re, p⟩⟩
theorem re_and1 {op} (h : RE X E a ma) : RE X E (.BoolOp op [a] pos) ma := ⟨pe_one h.pe⟩
theorem re_and (ha : RE X E a ma) (hb : RE X E (.BoolOp .And (b :: rest) pos) mb) : RE X E (.BoolOp .And (a :: b :: rest) pos) (eAnd ma mb) := ⟨PE.imp (pe_and ha.pe hb.pe) fun σ H Q h => by
  obtain ⟨μ, env, st, rs, re, p⟩ := h
  refine tG_at rs re p fun μ1 st1 H1 d1 x ex rs re rx p => ?_
  cases rx with
  | bl k =>
    refine ⟨k, rfl, ?_⟩
    cases k with
    | true => rw [if_pos rfl]; exact ⟨μ1, env, st1, rs, re, p⟩
    | false => rw [if_neg Bool.false_ne_true]; exact p μ1 _ H1 (Ext.refl _ _) rs (.bl false)
  | _ => exact False.elim p⟩
theorem re_or (ha : RE X E a ma) (hb : RE X E (.BoolOp .Or (b :: rest) pos) mb) : RE X E (.BoolOp .Or (a :: b :: rest) pos) (eOr ma mb) := ⟨PE.imp (pe_or ha.pe hb.pe) fun σ H Q h => by
  obtain ⟨μ, env, st, rs, re, p⟩ := h
  refine tG_at rs re p fun μ1 st1 H1 d1 x ex rs re rx p => ?_
  cases rx with
  | bl k =>
    refine ⟨k, rfl, ?_⟩
    cases k with
    | false => rw [if_neg Bool.false_ne_true]; exact ⟨μ1, env, st1, rs, re, p⟩
    | true => rw [if_pos rfl]; exact p μ1 _ H1 (Ext.refl _ _) rs (.bl true)
  | _ => exact False.elim p⟩
theorem re_not (ha : RE X E a ma) : RE X E (.UnaryOp .Not a pos) (eNot ma) := ⟨PE.imp (pe_not ha.pe) fun σ H Q h => by
  obtain ⟨μ, env, st, rs, re, p⟩ := h
  refine tG_at rs re p fun μ1 st1 H1 d1 x ex rs re rx p => ?_
  cases rx with
  | bl k => exact ⟨k, rfl, p μ1 _ H1 (Ext.refl _ _) rs (.bl _)⟩
  | _ => exact False.elim p⟩
end
/-! ### arguments, displays, calls -/
section
variable {mr : MA}
theorem ra_nil : RA X E [] aNil := ⟨PA.imp pa_nil fun σ H Q h => by
  obtain ⟨μ, env, st, rs, re, p⟩ := h
  exact p μ [] H (Ext.refl _ _) rs .nil⟩
theorem ra_cons (ha : RE X E e ma) (hr : RA X E es mr) (hs : starEach (e :: es) X.env = (false, eval e X.env) :: starEach es X.env := by rfl) : RA X E (e :: es) (aCons ma mr) := ⟨PA.imp (pa_cons ha.pe hr.pa hs) fun σ H Q h => by
  obtain ⟨μ, env, st, rs, re, p⟩ := h
  refine tG_at rs re p fun μ1 st1 H1 d1 x ex rs re rx p => ?_
  refine tG_at rs re p fun μ2 st2 H2 d2 y ex2 rs2 re2 ry p => ?_
  exact p μ2 _ H2 (Ext.refl _ _) rs2 (.cons (rx.mono ex2 rs.noTup) ry)⟩
theorem items_loc {K : PySem.W.Frag} {mg : MG} {μ : List Addr} {H : Hp} {n : Nat} {a : Addr} {st : S} {xs : List D} (rs : RelS K mg μ st H) (hn : μ[n]? = some a) (h : itemsOf (.loc n) st = some xs) :
    ∃ vs, SqL K H a vs ∧ RepVs K μ H xs vs := by
  have h : (match st[n]? with | some (.lst xs) => some xs | _ => none) = some xs := h
  cases e : st[n]? with
  | none => rw [e] at h; cases h
  | some c =>
    have rc := rs.at_ n c a e hn
    rw [e] at h
    cases c with
    | lst ys => obtain ⟨vs, e1, r1⟩ := rc; cases h; exact ⟨_, SqL.of e1, r1⟩
    | _ => cases h
theorem items_ok {K : PySem.W.Frag} {mg : MG} {μ : List Addr} {H : Hp} {d : D} {st : S} {x : V} {xs : List D} (rs : RelS K mg μ st H) (rx : RepV K μ H d x) (h : itemsOf d st = some xs) :
    ∃ p vs, x = .ref p ∧ (SqT K H p vs ∨ SqL K H p vs) ∧ RepVs K μ H xs vs := by
  cases rx with
  | tup h1 h2 => cases h; exact ⟨_, _, rfl, .inl h1, h2⟩
  | @loc n a hn => obtain ⟨vs, q, r⟩ := items_loc rs hn h; exact ⟨_, _, rfl, .inr q, r⟩
  | _ => cases h
theorem ra_star {p : Pos} (ha : RE X E e ma) (hr : RA X E es mr) (hs : starEach (.Starred e p :: es) X.env = (true, eval e X.env) :: starEach es X.env := by rfl) : RA X E (.Starred e p :: es) (aStar ma mr) := ⟨PA.imp (StX.pa_star ha.pe hr.pa hs) fun σ H Q h => by
  obtain ⟨μ, env, st, rs, re, p⟩ := h
  refine tG_at rs re p fun μ1 st1 H1 d1 x ex rs re rx p => ?_
  cases ei : itemsOf d1 st1 with
  | none => rw [ei] at p; exact False.elim p
  | some xs =>
    rw [ei] at p
    obtain ⟨a, vs, rfl, hq, rv⟩ := items_ok rs rx ei
    refine ⟨a, vs, rfl, hq, ?_⟩
    refine tG_at rs re p fun μ2 st2 H2 d2 y ex2 rs2 re2 ry p => ?_
    exact p μ2 _ H2 (Ext.refl _ _) rs2 ((rv.mono ex2 rs.noTup).append ry)⟩
theorem re_tup {x1} (h : RA X E es mr) : RE X E (.Tuple es x1 pos) (eTup mr) := ⟨PE.imp (pe_tup h.pa) fun σ H Q h => by
  obtain ⟨μ, env, st, rs, re, p⟩ := h
  refine tG_at rs re p fun μ1 st1 H1 ds vs ex rs re rx p => ?_
  by_cases hz : ds.length ≤ sizeLine
  · rw [if_pos hz] at p
    refine ⟨by rw [← rx.length]; exact hz, fun a ha => ?_⟩
    have e1 : Ext μ1 H1 μ1 (upd H1 a (.tup vs)) := Ext.new1 ha
    exact p μ1 _ _ e1 (rs.new1 ha) (.tup (SqT.of upd_same) (rx.mono e1 rs.noTup))
  · rw [if_neg hz] at p; exact False.elim p⟩
/-- a new list in the store -/
theorem post_new {K : PySem.W.Frag} {mg : MG} {σ : L2.St} {μ : List Addr} {H : Hp} {Q : VK} {st : S} {ds : List D} {vs : List V} {a : Addr} (rs : RelS K mg μ st H) (rx : RepVs K μ H ds vs) (ha : H a = none)
    (p : rC K mg μ H Q (.loc st.length) (st ++ [.lst ds])) : Q (.ref a) (upd H a (.lst vs)) := by
  have e1 : Ext μ H (μ ++ [a]) (upd H a (.lst vs)) := Ext.push ha
  exact p (μ ++ [a]) _ _ e1 (rs.push ha ⟨vs, upd_same, rx.mono e1 rs.noTup⟩) (.loc (by rw [← rs.len]; simp))
theorem re_lst (h : RA X E es mr) : RE X E (.List es pos) (eLst mr) := ⟨PE.imp (pe_lst h.pa) fun σ H Q h => by
  obtain ⟨μ, env, st, rs, re, p⟩ := h
  refine tG_at rs re p fun μ1 st1 H1 ds vs ex rs re rx p => ?_
  by_cases hz : ds.length ≤ sizeLine
  · rw [if_pos hz] at p
    exact ⟨by rw [← rx.length]; exact hz, fun a ha => post_new (σ := σ) rs rx ha p⟩
  · rw [if_neg hz] at p; exact False.elim p⟩
theorem tCB_of {K : PySem.W.Frag} {mg : MG} {g : PA'} {σ : L2.St} {H : Hp} {Q : VK} (h : tG K mg E (RepV K) (eP g mr) σ H Q) : tCB (rAM K mg g) (tG K mg E (RepVs K) mr) σ H Q := by
  obtain ⟨μ, env, st, rs, re, p⟩ := h
  refine tG_at rs re p fun μ1 st1 H1 ds vs ex rs re rx p => ?_
  obtain ⟨d, st', e, q⟩ := postO p
  exact ⟨μ1, st1, ds, d, st', rs, rx, e, q⟩
theorem re_cb {id : String} {x : Str} {p : Pos} {g : PA'} (hc : CallR X (.builtin id) (rAM X.K X.mg g)) (hg : Gl X x) (hm : X.mg x = none) (hv : bootBuiltins x = some (.builtin id)) (ha : RA X E (e :: es) mr) (hn : x ≠ "__name__" := by decide) (hdb : (x == ("__debug__" : Str)) = false := by decide)
    (he : starEach (e :: es) X.env = (false, eval e X.env) :: starEach es X.env := by rfl) (hpl : (backTo pos (starEach es X.env)).any (·.1) = false := by rfl) : RE X E (.Call (.Name x p) (e :: es) [] pos) (eP g mr) :=
  ⟨PE.imp (pe_callB hc hg hm hv ha.pa hn hdb he hpl) fun σ H Q h => tCB_of h⟩
theorem re_cty {T : String} {x : Str} {p : Pos} {g : PA'} (hc : CallR X (.type T) (rAM X.K X.mg g)) (hg : Gl X x) (hm : X.mg x = none) (hv : bootBuiltins x = some (.type T)) (ha : RA X E (e :: es) mr) (hn : x ≠ "__name__" := by decide) (hdb : (x == ("__debug__" : Str)) = false := by decide)
    (he : starEach (e :: es) X.env = (false, eval e X.env) :: starEach es X.env := by rfl) (hpl : (backTo pos (starEach es X.env)).any (·.1) = false := by rfl) : RE X E (.Call (.Name x p) (e :: es) [] pos) (eP g mr) :=
  ⟨PE.imp (pe_callTy hc hg hm hv ha.pa hn hdb he hpl) fun σ H Q h => tCB_of h⟩
/-- a slice -/
theorem ro_none : RO X E none oNone := ⟨PO.imp po_none fun σ H Q h => by
  obtain ⟨μ, env, st, rs, re, p⟩ := h
  exact p μ none H (Ext.refl _ _) rs rfl⟩
theorem ro_some (ha : RE X E e ma) : RO X E (some e) (oSome ma) := ⟨PO.imp (po_some ha.pe) fun σ H Q h => by
  obtain ⟨μ, env, st, rs, re, p⟩ := h
  refine tG_at rs re p fun μ1 st1 H1 d x ex rs re rx p => ?_
  cases rx with
  | int i => exact ⟨i, rfl, p μ1 _ H1 (Ext.refl _ _) rs rfl⟩
  | _ => exact False.elim p⟩
theorem re_sl {g : D → Option Int → Option Int → S → Option (D × S)} {lo hi : Option Expr} {ml mh : MO} {p2 : Pos} (hr : SlR X (rSM X.K X.mg g)) (ha : RE X E e ma) (hl : RO X E lo ml) (hu : RO X E hi mh) : RE X E (.Subscript e (.Slice lo hi none p2) pos) (eSl g ma ml mh) :=
  ⟨PE.imp (pe_slice hr ha.pe hl.po hu.po) fun σ H Q h => by
    obtain ⟨μ, env, st, rs, re, p⟩ := h
    refine tG_at rs re p fun μ1 st1 H1 d x ex rs re rx p => ?_
    refine tG_at rs re p fun μ2 st2 H2 l l' ex2 rs2 re2 rl p => ?_
    refine tG_at rs2 re2 p fun μ3 st3 H3 u u' ex3 rs3 re3 ru p => ?_
    obtain ⟨d', st', e, q⟩ := postO p
    subst rl; subst ru
    exact ⟨μ3, st3, d, d', st', rs3, (rx.mono ex2 rs.noTup).mono ex3 rs2.noTup, e, q⟩⟩
theorem tyV_of {K : PySem.W.Frag} {mg : MG} {μ : List Addr} {H : Hp} {st : S} {d : D} {x : V} {T : String} (hT : T = "list" ∨ T = "str" ∨ T = "dict") (rs : RelS K mg μ st H) (r : RepV K μ H d x) (h : tyD st d = some T) : tyV K T x H := by
  cases r with
  | str => cases h; rfl
  | @loc n a hn =>
    have h : (match st[n]? with | some (.lst _) => some "list" | some (.dct _) => some "dict" | _ => none) = some T := h
    cases e : st[n]? with
    | none => rw [e] at h; cases h
    | some c =>
      have rc := rs.at_ n c a e hn
      rw [e] at h
      cases c with
      | lst xs => obtain ⟨vs, e1, _⟩ := rc; cases h; exact .inl ⟨rfl, vs, SqL.of e1⟩
      | dct xs => obtain ⟨vs, e1, _⟩ := rc; cases h; exact .inr (.inr (.inl ⟨rfl, .inl ⟨vs, e1⟩⟩))
      | ins cn fs => cases h
  | fro _ => cases h
  | exo _ _ => cases h
  | _ => cases h; rcases hT with hT | hT | hT <;> exact absurd hT (by decide)
theorem tBM_of {K : PySem.W.Frag} {mg : MG} {g : PA'} {T : String} {mo : ME} {σ : L2.St} {H : Hp} {Q : VK} (hT : T = "list" ∨ T = "str" ∨ T = "dict") (h : tG K mg E (RepV K) (eM T g mo mr) σ H Q) :
    tBM K T (rMM K mg g) (tG K mg E (RepV K) mo) (tG K mg E (RepVs K) mr) σ H Q := by
  obtain ⟨μ, env, st, rs, re, p⟩ := h
  refine tG_at rs re p fun μ1 st1 H1 d1 x ex rs re rx p => ?_
  by_cases ht : tyD st1 d1 = some T
  · rw [if_pos ht] at p
    refine ⟨tyV_of hT rs rx ht, ?_⟩
    refine tG_at rs re p fun μ2 st2 H2 ds vs ex2 rs2 re2 rv p => ?_
    obtain ⟨d, st', e, q⟩ := postO p
    exact ⟨μ2, st2, d1 :: ds, d, st', rs2, .cons (rx.mono ex2 rs.noTup) rv, e, q⟩
  · rw [if_neg ht] at p; exact p.elim
theorem tBM0_of {K : PySem.W.Frag} {mg : MG} {g : PA'} {T : String} {mo : ME} {σ : L2.St} {H : Hp} {Q : VK} (hT : T = "list" ∨ T = "str" ∨ T = "dict") (h : tG K mg E (RepV K) (eM T g mo aNil) σ H Q) :
    tBM0 K T (rMM K mg g) (tG K mg E (RepV K) mo) σ H Q := by
  obtain ⟨μ, env, st, rs, re, p⟩ := h
  refine tG_at rs re p fun μ1 st1 H1 d1 x ex rs re rx p => ?_
  by_cases ht : tyD st1 d1 = some T
  · rw [if_pos ht] at p
    refine ⟨tyV_of hT rs rx ht, ?_⟩
    obtain ⟨d, st', e, q⟩ := postO p
    exact ⟨μ1, st1, [d1], d, st', rs, .cons rx .nil, e, q⟩
  · rw [if_neg ht] at p; exact p.elim
theorem re_m {o : Expr} {mo : ME} {T id : String} {name : Str} {g : PA'} {apos cpos : Pos} (hT : T = "list" ∨ T = "str" ∨ T = "dict") (pa : PlainAttrs T) (slot : Slot T name id) (hty : typeOf (.builtin id) = pure (.type "method_descriptor")) (hm : MtR X id (rMM X.K X.mg g)) (ho : RE X E o mo) (ha : RA X E (e :: es) mr)
    (hbase : attributeBase o name X.env (eval o X.env) = eval o X.env := by rfl)
    (hfew : ((backTo cpos (starEach (e :: es) X.env)).all (fun x => !x.1) && (backToKw cpos (keywordEach [] X.env)).all (fun x => x.1.isSome)
      && decide ((e :: es).length + ([] : List Keyword).length + (if ([] : List Keyword).isEmpty then 0 else 1) < 30)) = true := by rfl)
    (hline : (apos.endLine == cpos.line) = true := by rfl) (hs : starEach (e :: es) X.env = (false, eval e X.env) :: starEach es X.env := by rfl) (hplain : (backTo cpos (starEach es X.env)).any (·.1) = false := by rfl) :
    RE X E (.Call (.Attribute o name apos) (e :: es) [] cpos) (eM T g mo mr) := ⟨PE.imp (pe_bm pa slot hty hm ho.pe ha.pa hbase hfew hline hs hplain) fun σ H Q h => tBM_of hT h⟩
theorem re_m0 {o : Expr} {mo : ME} {T id : String} {name : Str} {g : PA'} {apos cpos : Pos} (hT : T = "list" ∨ T = "str" ∨ T = "dict") (pa : PlainAttrs T) (slot : Slot T name id) (hty : typeOf (.builtin id) = pure (.type "method_descriptor")) (hm : MtR X id (rMM X.K X.mg g)) (ho : RE X E o mo)
    (hbase : attributeBase o name X.env (eval o X.env) = eval o X.env := by rfl) (hline : (apos.endLine == cpos.line) = true := by rfl) :
    RE X E (.Call (.Attribute o name apos) [] [] cpos) (eM T g mo aNil) := ⟨PE.imp (pe_bm0 pa slot hty hm ho.pe hbase hline) fun σ H Q h => tBM0_of hT h⟩
end
end
end DL
set_option Elab.async false
set_option linter.all false
set_option maxRecDepth 100000
/-! DL3: the operations on data -/
namespace DL
open PySem L2

/-! ### numbers -/
open Classical in
noncomputable def bMul : P2 := fun x y st => match x, y with
  | .int i, .int j => if CMul i j ∨ CMulW i j then some (.int (i * j), st) else none
  | _, _ => none
def bAdd : P2 := fun x y st => match x, y with
  | .int i, .int j => some (.int (i + j), st)
  | .str a, .str b => if a.length + b.length ≤ sizeLine then some (.str (a ++ b), st) else none
  | .tup xs, .tup ys => if xs.length + ys.length ≤ sizeLine then some (.tup (xs ++ ys), st) else none
  | .loc n, .loc m => match st[n]?, st[m]? with
    | some (.lst xs), some (.lst ys) => if xs.length + ys.length ≤ sizeLine then some (.loc st.length, st ++ [.lst (xs ++ ys)]) else none
    | _, _ => none
  | _, _ => none
def bSub : P2 := fun x y st => match x, y with
  | .int i, .int j => some (.int (i - j), st)
  | _, _ => none
/-- positive divisors -/
def bMod : P2 := fun x y st => match x, y with
  | .int i, .int j => if 0 < j then some (.int (i % j), st) else none
  | _, _ => none
open Classical in
noncomputable def bFdiv : P2 := fun x y st => match x, y with
  | .int i, .int j => if CDivW i j then some (.int (i / j), st) else none
  | _, _ => none
def bShr : P2 := fun x y st => match x, y with
  | .int i, .int j => if 0 ≤ j then some (.int (i / 2 ^ j.toNat), st) else none
  | _, _ => none
open Classical in
noncomputable def bPow : P2 := fun x y st => match x, y with
  | .int i, .int j => if CPow i j then some (.int (i ^ j.toNat), st) else none
  | _, _ => none
def bAnd : P2 := fun x y st => match x, y with
  | .int i, .int j => some (.int (Builtin.bitAnd i j), st)
  | _, _ => none
def cInt (p : Int → Int → Bool) : P2 := fun x y st => match x, y with
  | .int i, .int j => some (.bl (p i j), st)
  | _, _ => none
abbrev cLt : P2 := cInt fun i j => decide (i < j)
abbrev cLe : P2 := cInt fun i j => decide (i ≤ j)
abbrev cGt : P2 := cInt fun i j => decide (j < i)
abbrev cGe : P2 := cInt fun i j => decide (j ≤ i)
section
variable {X : Cx}
theorem o_ints {f : Value → Value → Sem Value} {C : Int → Int → Prop} {g : Int → Int → Int} {h : P2} (o : OpR X f (rI C fun i j => .int (g i j)))
    (hh : ∀ x y st d st', h x y st = some (d, st') → ∃ i j, x = .int i ∧ y = .int j ∧ C i j ∧ d = .int (g i j) ∧ st' = st) : OpR X f (r2M X.K X.mg h) := by
  intro pins s σ H x y v u Q I rx ry q
  obtain ⟨μ, st, d1, d2, d, st', rs, r1, r2, e, q⟩ := q
  obtain ⟨i, j, rfl, rfl, hc, rfl, rfl⟩ := hh _ _ _ _ _ e
  cases r1
  cases r2
  exact o pins s σ H _ _ v u Q I rx ry ⟨i, j, rfl, rfl, hc, q μ _ H (Ext.refl _ _) rs (.int _)⟩
theorem o_ints0 {f : Value → Value → Sem Value} {g : Int → Int → Int} {h : P2} (o : OpR X f (rI0 fun i j => .int (g i j)))
    (hh : ∀ x y st d st', h x y st = some (d, st') → ∃ i j, x = .int i ∧ y = .int j ∧ d = .int (g i j) ∧ st' = st) : OpR X f (r2M X.K X.mg h) := by
  intro pins s σ H x y v u Q I rx ry q
  obtain ⟨μ, st, d1, d2, d, st', rs, r1, r2, e, q⟩ := q
  obtain ⟨i, j, rfl, rfl, rfl, rfl⟩ := hh _ _ _ _ _ e
  cases r1
  cases r2
  exact o pins s σ H _ _ v u Q I rx ry ⟨i, j, rfl, rfl, q μ _ H (Ext.refl _ _) rs (.int _)⟩
theorem o_intc {f : Value → Value → Sem Value} {p : Int → Int → Bool} (o : OpR X f (rI0 fun i j => .bl (p i j))) : OpR X f (r2M X.K X.mg (cInt p)) := by
  intro pins s σ H x y v u Q I rx ry q
  obtain ⟨μ, st, d1, d2, d, st', rs, r1, r2, e, q⟩ := q
  cases r1 with
  | int i =>
    cases r2 with
    | int j =>
      cases e
      exact o pins s σ H _ _ v u Q I rx ry ⟨i, j, rfl, rfl, q μ _ H (Ext.refl _ _) rs (.bl _)⟩
    | _ => cases e
  | _ => cases e
theorem o_lt : OpR X (compareOp .Lt) (r2M X.K X.mg cLt) := o_intc op_lt
theorem o_le : OpR X (compareOp .LtE) (r2M X.K X.mg cLe) := o_intc op_le
theorem o_gt : OpR X (compareOp .Gt) (r2M X.K X.mg cGt) := o_intc op_gt
theorem o_ge : OpR X (compareOp .GtE) (r2M X.K X.mg cGe) := o_intc op_ge
theorem bSub_inv {x y : D} {st : S} {d : D} {st' : S} (h : bSub x y st = some (d, st')) : ∃ i j, x = .int i ∧ y = .int j ∧ d = .int (i - j) ∧ st' = st := by
  unfold bSub at h
  split at h
  · cases h; exact ⟨_, _, rfl, rfl, rfl, rfl⟩
  · cases h
theorem o_sub : OpR X (binaryOp .Sub) (r2M X.K X.mg bSub) := o_ints0 op_sub fun _ _ _ _ _ h => bSub_inv h
theorem io_sub : OpR X (inplaceOp .Sub) (r2M X.K X.mg bSub) := o_ints0 iop_sub fun _ _ _ _ _ h => bSub_inv h
theorem bAnd_inv {x y : D} {st : S} {d : D} {st' : S} (h : bAnd x y st = some (d, st')) : ∃ i j, x = .int i ∧ y = .int j ∧ d = .int (Builtin.bitAnd i j) ∧ st' = st := by
  unfold bAnd at h
  split at h
  · cases h; exact ⟨_, _, rfl, rfl, rfl, rfl⟩
  · cases h
theorem o_and : OpR X (binaryOp .BitAnd) (r2M X.K X.mg bAnd) := o_ints0 op_and fun _ _ _ _ _ h => bAnd_inv h
theorem bMod_inv {x y : D} {st : S} {d : D} {st' : S} (h : bMod x y st = some (d, st')) : ∃ i j, x = .int i ∧ y = .int j ∧ 0 < j ∧ d = .int (i % j) ∧ st' = st := by
  unfold bMod at h
  split at h
  · split at h
    · cases h; exact ⟨_, _, rfl, rfl, by assumption, rfl, rfl⟩
    · cases h
  · cases h
theorem o_mod : OpR X (binaryOp .Mod) (r2M X.K X.mg bMod) := o_ints op_mod fun _ _ _ _ _ h => bMod_inv h
theorem bShr_inv {x y : D} {st : S} {d : D} {st' : S} (h : bShr x y st = some (d, st')) : ∃ i j, x = .int i ∧ y = .int j ∧ 0 ≤ j ∧ d = .int (i / 2 ^ j.toNat) ∧ st' = st := by
  unfold bShr at h
  split at h
  · split at h
    · cases h; exact ⟨_, _, rfl, rfl, by assumption, rfl, rfl⟩
    · cases h
  · cases h
theorem o_shr : OpR X (binaryOp .RShift) (r2M X.K X.mg bShr) := o_ints op_shr fun _ _ _ _ _ h => bShr_inv h
theorem io_shr : OpR X (inplaceOp .RShift) (r2M X.K X.mg bShr) := o_ints iop_shr fun _ _ _ _ _ h => bShr_inv h
theorem bFdiv_inv {x y : D} {st : S} {d : D} {st' : S} (h : bFdiv x y st = some (d, st')) : ∃ i j, x = .int i ∧ y = .int j ∧ CDivW i j ∧ d = .int (i / j) ∧ st' = st := by
  unfold bFdiv at h
  split at h
  · split at h
    · cases h; exact ⟨_, _, rfl, rfl, by assumption, rfl, rfl⟩
    · cases h
  · cases h
theorem o_fdiv : OpR X (binaryOp .FloorDiv) (r2M X.K X.mg bFdiv) := o_ints op_fdivW fun _ _ _ _ _ h => bFdiv_inv h
theorem bPow_inv {x y : D} {st : S} {d : D} {st' : S} (h : bPow x y st = some (d, st')) : ∃ i j, x = .int i ∧ y = .int j ∧ CPow i j ∧ d = .int (i ^ j.toNat) ∧ st' = st := by
  unfold bPow at h
  split at h
  · split at h
    · cases h; exact ⟨_, _, rfl, rfl, by assumption, rfl, rfl⟩
    · cases h
  · cases h
theorem o_pow : OpR X (binaryOp .Pow) (r2M X.K X.mg bPow) := o_ints op_pow fun _ _ _ _ _ h => bPow_inv h
theorem bMul_inv {x y : D} {st : S} {d : D} {st' : S} (h : bMul x y st = some (d, st')) : ∃ i j, x = .int i ∧ y = .int j ∧ (CMul i j ∨ CMulW i j) ∧ d = .int (i * j) ∧ st' = st := by
  unfold bMul at h
  split at h
  · split at h
    · cases h; exact ⟨_, _, rfl, rfl, by assumption, rfl, rfl⟩
    · cases h
  · cases h
theorem op_mulA : OpR X (binaryOp .Mult) (rI (fun i j => CMul i j ∨ CMulW i j) fun i j => .int (i * j)) := opI fun _ _ _ _ _ _ _ hc q => by
  rcases hc with hc | hc
  · exact PyProof.Rows.mul_int q hc.ok
  · exact PyProof.Rows.mul_int q hc.ok
theorem o_mul : OpR X (binaryOp .Mult) (r2M X.K X.mg bMul) := o_ints op_mulA fun _ _ _ _ _ h => bMul_inv h
theorem o_add : OpR X (binaryOp .Add) (r2M X.K X.mg bAdd) := by
  intro pins s σ H x y v u Q I rx ry q
  obtain ⟨μ, st, d1, d2, d, st', rs, r1, r2, e, q⟩ := q
  have nt := rs.noTup
  unfold bAdd at e
  split at e
  · cases e
    cases r1
    cases r2
    exact op_add pins s σ H _ _ v u Q I rx ry ⟨_, _, rfl, rfl, q μ _ H (Ext.refl _ _) rs (.int _)⟩
  · split at e
    · cases e
      cases r1
      cases r2
      exact op_add_str pins s σ H _ _ v u Q I rx ry ⟨_, _, rfl, rfl, by assumption, q μ _ H (Ext.refl _ _) rs (.str _)⟩
    · cases e
  · split at e
    · cases e
      cases r1 with
      | tup h1 h2 =>
        cases r2 with
        | tup h3 h4 =>
          rename_i xs ys hz vs a ws b
          refine op_catA pins s σ H _ _ v u Q I rx ry ⟨a, b, vs, ws, rfl, rfl, h1, h3, by rw [← h2.length, ← h4.length]; exact hz, fun z => ?_, fun z1 z2 => ?_, fun z1 z2 p hp => ?_⟩
          · subst z
            cases h2
            exact q μ _ H (Ext.refl _ _) rs (.tup h3 h4)
          · subst z2
            cases h4
            refine q μ _ H (Ext.refl _ _) rs ?_
            rw [List.append_nil]
            exact .tup h1 h2
          · have e1 : Ext μ H μ (upd H p (.tup (vs ++ ws))) := Ext.new1 hp
            exact q μ _ _ e1 (rs.new1 hp) (.tup (SqT.of upd_same) ((h2.mono e1 nt).append (h4.mono e1 nt)))
    · cases e
  · rename_i n m
    cases en : st[n]? with
    | none => rw [en] at e; simp at e
    | some c =>
      cases em : st[m]? with
      | none => rw [en, em] at e; simp at e
      | some c2 =>
        rw [en, em] at e
        cases c with
        | lst xs =>
          cases c2 with
          | lst ys =>
            dsimp only at e
            split at e
            · cases e
              rename_i hz
              cases r1 with
              | loc h1 =>
                cases r2 with
                | loc h2 =>
                  obtain ⟨vs, e1, rv⟩ := rs.at_ n _ _ en h1
                  obtain ⟨ws, e2, rw'⟩ := rs.at_ m _ _ em h2
                  refine op_cat pins s σ H _ _ v u Q I rx ry ⟨_, _, vs, ws, rfl, rfl, e1, e2, by rw [← rv.length, ← rw'.length]; exact hz, fun p hp => ?_⟩
                  exact post_new (σ := σ) rs (rv.append rw') hp q
            · cases e
          | _ => simp at e
        | _ => simp at e
  · cases e
theorem io_add_int : OpR X (inplaceOp .Add) (r2M X.K X.mg fun x y st => match x, y with | .int i, .int j => some (.int (i + j), st) | _, _ => none) := o_ints0 iop_add fun x y st d st' h => by
  split at h
  · cases h; exact ⟨_, _, rfl, rfl, rfl, rfl⟩
  · cases h

/-! ### == at any depth -/
def res (st : S) : Nat → D → Option PyData
  | 0 => fun _ => none
  | k + 1 => fun d => match d with
    | .non => some .none
    | .bl b => some (.bool b)
    | .int i => some (.int i)
    | .str x => some (.str x)
    | .tup xs => (xs.mapM (res st k)).map .tuple
    | .loc n => match st[n]? with
      | some (.lst xs) => (xs.mapM (res st k)).map .list
      | _ => none
    | .fro _ => none
    | .exo _ _ _ _ => none
theorem mapM_dp {K : PySem.W.Frag} {μ : List Addr} {H : Hp} {f : D → Option PyData} (hf : ∀ d p v, f d = some p → RepV K μ H d v → Dp K H v p) : ∀ {ds : List D} {ps : List PyData} {vs : List V}, ds.mapM f = some ps → RepVs K μ H ds vs → DpAll K H vs ps
  | [], ps, vs, h, r => by
    cases r
    simp at h
    subst h
    exact .nil
  | d :: ds, ps, vs, h, r => by
    cases r with
    | cons r1 r2 =>
      rw [List.mapM_cons] at h
      cases e : f d with
      | none => rw [e] at h; simp at h
      | some p =>
        rw [e] at h
        cases e2 : ds.mapM f with
        | none => rw [e2] at h; simp at h
        | some qs =>
          rw [e2] at h
          simp at h
          subst h
          exact .cons (hf _ _ _ e r1) (mapM_dp hf e2 r2)
theorem res_dp {K : PySem.W.Frag} {mg : MG} {μ : List Addr} {H : Hp} {st : S} (rs : RelS K mg μ st H) : ∀ k d p v, res st k d = some p → RepV K μ H d v → Dp K H v p
  | 0, d, p, v, h, _ => by cases h
  | k + 1, d, p, v, h, r => by
    unfold res at h
    cases r with
    | non => cases h; exact .non
    | bl b => cases h; exact .bl _
    | int b => cases h; exact .int _
    | str b => cases h; exact .str _
    | @tup xs vs a h1 h2 =>
      have h : (xs.mapM (res st k)).map PyData.tuple = some p := h
      cases e : xs.mapM (res st k) with
      | none => rw [e] at h; cases h
      | some ps =>
        rw [e] at h
        cases h
        exact .tup h1 (mapM_dp (fun d p v => res_dp rs k d p v) e h2)
    | @loc n a hn =>
      cases en : st[n]? with
      | none => simp only [en] at h; cases h
      | some c =>
        have rc := rs.at_ n c a en hn
        simp only [en] at h
        cases c with
        | lst xs =>
          obtain ⟨vs, e1, r1⟩ := rc
          have h : (xs.mapM (res st k)).map PyData.list = some p := h
          cases e : xs.mapM (res st k) with
          | none => rw [e] at h; cases h
          | some ps =>
            rw [e] at h
            cases h
            exact .lst (SqL.of e1) (mapM_dp (fun d p v => res_dp rs k d p v) e r1)
        | _ => cases h
    | fro _ => cases h
    | exo _ _ => cases h
/-- the data of a value, where it may be compared -/
def dat (st : S) (d : D) : Option PyData := match res st 66 d with
  | some p => if SeqAt.shaped p = true then some p else none
  | none => none
theorem dat_dp {K : PySem.W.Frag} {mg : MG} {μ : List Addr} {H : Hp} {st : S} (rs : RelS K mg μ st H) {d : D} {p : PyData} {v : V} (h : dat st d = some p) (r : RepV K μ H d v) : Dp K H v p ∧ SeqAt.shaped p = true := by
  unfold dat at h
  split at h
  · split at h
    · cases h; exact ⟨res_dp rs _ _ _ _ (by assumption) r, by assumption⟩
    · cases h
  · cases h
def cEq : P2 := fun x y st => match dat st x, dat st y with | some p, some q => some (.bl (PyData.eqv p q), st) | _, _ => none
def cNe : P2 := fun x y st => match dat st x, dat st y with | some p, some q => some (.bl (!PyData.eqv p q), st) | _, _ => none
theorem o_eq (hu : X.A.units + 64 < cLine) : OpR X (compareOp .Eq) (r2M X.K X.mg cEq) := by
  intro pins s σ H x y v u Q I rx ry q
  obtain ⟨μ, st, d1, d2, d, st', rs, r1, r2, e, q⟩ := q
  unfold cEq at e
  split at e
  · cases e
    rename_i p1 p2 e1 e2
    obtain ⟨a1, a2⟩ := dat_dp rs e1 r1
    obtain ⟨b1, b2⟩ := dat_dp rs e2 r2
    exact op_eqD hu pins s σ H _ _ v u Q I rx ry ⟨_, _, a1, b1, a2, b2, q μ _ H (Ext.refl _ _) rs (.bl _)⟩
  · cases e
theorem o_ne (hu : X.A.units + 64 < cLine) : OpR X (compareOp .NotEq) (r2M X.K X.mg cNe) := by
  intro pins s σ H x y v u Q I rx ry q
  obtain ⟨μ, st, d1, d2, d, st', rs, r1, r2, e, q⟩ := q
  unfold cNe at e
  split at e
  · cases e
    rename_i p1 p2 e1 e2
    obtain ⟨a1, a2⟩ := dat_dp rs e1 r1
    obtain ⟨b1, b2⟩ := dat_dp rs e2 r2
    exact op_neD hu pins s σ H _ _ v u Q I rx ry ⟨_, _, a1, b1, a2, b2, q μ _ H (Ext.refl _ _) rs (.bl _)⟩
  · cases e
/-- is None -/
def isNone' : D → Bool | .non => true | _ => false
def cIsN : P2 := fun x y st => match y with | .non => some (.bl (isNone' x), st) | _ => none
def cNotN : P2 := fun x y st => match y with | .non => some (.bl (!isNone' x), st) | _ => none
theorem isNone_rep {K : PySem.W.Frag} {μ : List Addr} {H : Hp} {d : D} {x : V} (r : RepV K μ H d x) : decide (x = .non) = isNone' d := by cases r <;> first | rfl | simp [isNone']
theorem o_isN : OpR X (compareOp .Is) (r2M X.K X.mg cIsN) := by
  intro pins s σ H x y v u Q I rx ry q
  obtain ⟨μ, st, d1, d2, d, st', rs, r1, r2, e, q⟩ := q
  cases r2 with
  | non =>
    cases e
    refine op_isN pins s σ H _ _ v u Q I rx ry ⟨rfl, ?_⟩
    rw [isNone_rep r1]
    exact q μ _ H (Ext.refl _ _) rs (.bl _)
  | _ => cases e
theorem o_notN : OpR X (compareOp .IsNot) (r2M X.K X.mg cNotN) := by
  intro pins s σ H x y v u Q I rx ry q
  obtain ⟨μ, st, d1, d2, d, st', rs, r1, r2, e, q⟩ := q
  cases r2 with
  | non =>
    cases e
    refine op_notN pins s σ H _ _ v u Q I rx ry ⟨rfl, ?_⟩
    rw [isNone_rep r1]
    exact q μ _ H (Ext.refl _ _) rs (.bl _)
  | _ => cases e

/-! ### places of sequences -/
def gIx : P2 := fun x y st => match y with
  | .int i => match x with
    | .str z => if z.length ≤ sizeLine then (atI z.cps.toList i).map fun c => (.str ⟨#[c]⟩, st) else none
    | _ => match itemsOf x st with
      | some xs => (atI xs i).map fun d => (d, st)
      | none => none
  | _ => none
theorem atI_rep {K : PySem.W.Frag} {μ : List Addr} {H : Hp} {xs : List D} {vs : List V} {i : Int} {d : D} (r : RepVs K μ H xs vs) (h : atI xs i = some d) : ∃ v, atI vs i = some v ∧ RepV K μ H d v := by
  unfold atI at h ⊢
  rw [← r.length]
  cases e : ixN xs.length i with
  | none => rw [e] at h; cases h
  | some j =>
    rw [e] at h
    exact r.get h
theorem ix_any : IxR X (r2M X.K X.mg gIx) := by
  intro value slice pins s σ H x y v u Q I rx ry q hs
  obtain ⟨μ, st, d1, d2, d, st', rs, r1, r2, e, q⟩ := q
  cases r2 with
  | int i =>
    unfold gIx at e
    dsimp only at e
    split at e
    · split at e
      · rename_i z hz
        cases ea : atI z.cps.toList i with
        | none => rw [ea] at e; cases e
        | some c =>
          rw [ea] at e
          cases e
          cases r1
          exact ix_str value slice pins s σ H _ _ v u Q I rx ry ⟨z, i, c, rfl, rfl, hz, ea, q μ _ H (Ext.refl _ _) rs (.str _)⟩ hs
      · cases e
    · cases ei : itemsOf d1 st with
      | none => rw [ei] at e; cases e
      | some xs =>
        rw [ei] at e
        dsimp only at e
        cases ea : atI xs i with
        | none => rw [ea] at e; cases e
        | some dd =>
          rw [ea] at e
          cases e
          obtain ⟨p, vs, rfl, hq, rv⟩ := items_ok rs r1 ei
          obtain ⟨w, e1, e2⟩ := atI_rep rv ea
          rcases hq with hq | hq
          · exact ix_tup value slice pins s σ H _ _ v u Q I rx ry ⟨p, vs, i, w, rfl, rfl, hq, e1, q μ _ H (Ext.refl _ _) rs e2⟩ hs
          · exact ix_list value slice pins s σ H _ _ v u Q I rx ry ⟨p, vs, i, w, rfl, rfl, hq, e1, q μ _ H (Ext.refl _ _) rs e2⟩ hs
  | _ => cases e
/-- x[lo:hi] -/
def cutD {α : Type} (xs : List α) (lo hi : Option Int) : List α := (xs.drop (HT.sIx xs.length 0 lo)).take (HT.sIx xs.length xs.length hi - HT.sIx xs.length 0 lo)
theorem cut_rep {K : PySem.W.Frag} {μ : List Addr} {H : Hp} {xs : List D} {vs : List V} {lo hi : Option Int} (r : RepVs K μ H xs vs) : RepVs K μ H (cutD xs lo hi) (cutV vs lo hi) := by
  unfold cutD cutV
  rw [r.length]
  exact (r.drop _).take _
theorem cut_whole {α : Type} {xs : List α} {lo hi : Option Int} (h1 : HT.sIx xs.length 0 lo = 0) (h2 : HT.sIx xs.length xs.length hi = xs.length) : cutD xs lo hi = xs := by
  unfold cutD
  rw [h1, h2]
  simp
def gSl : D → Option Int → Option Int → S → Option (D × S) := fun x lo hi st => match x with
  | .tup xs => some (.tup (cutD xs lo hi), st)
  | .str z => if z.length ≤ sizeLine then some (.str (cutS z lo hi), st) else none
  | .loc n => match itemsOf (.loc n) st with
    | some xs => some (.loc st.length, st ++ [.lst (cutD xs lo hi)])
    | none => none
  | .fro ns => some (.loc st.length, st ++ [.lst ((cutD ns lo hi).map D.int)])
  | _ => none
theorem sl_any : SlR X (rSM X.K X.mg gSl) := by
  intro pins s σ H x v vl vu lo hi sl Q I rx hs pl pu q
  obtain ⟨μ, st, d1, d, st', rs, r1, e, q⟩ := q
  have nt := rs.noTup
  unfold gSl at e
  split at e
  · cases e
    cases r1 with
    | tup h1 h2 =>
      refine sl_tupA pins s σ H _ v vl vu lo hi sl Q I rx hs pl pu ⟨_, _, rfl, h1, fun z => ?_, fun z p hp => ?_⟩
      · rw [← h2.length] at z
        rw [cut_whole z.1 z.2] at q
        exact q μ _ H (Ext.refl _ _) rs (.tup h1 h2)
      · rename_i vs a
        have e1 : Ext μ H μ (upd H p (.tup (cutV vs lo hi))) := Ext.new1 hp
        exact q μ _ _ e1 (rs.new1 hp) (.tup (SqT.of upd_same) (cut_rep (h2.mono e1 nt)))
  · split at e
    · cases e
      cases r1
      exact sl_str pins s σ H _ v vl vu lo hi sl Q I rx hs pl pu ⟨_, rfl, by assumption, q μ _ H (Ext.refl _ _) rs (.str _)⟩
    · cases e
  · rename_i n
    cases ei : itemsOf (.loc n) st with
    | none => rw [ei] at e; cases e
    | some xs =>
      rw [ei] at e
      cases e
      cases r1 with
      | loc h1 =>
        obtain ⟨vs, hq, rv⟩ := items_loc rs h1 ei
        refine sl_list pins s σ H _ v vl vu lo hi sl Q I rx hs pl pu ⟨_, vs, rfl, hq, fun a ha => ?_⟩
        exact post_new (σ := σ) rs (cut_rep rv) ha q
  · rename_i ns
    cases e
    cases r1 with
    | fro h1 =>
      refine sl_list pins s σ H _ v vl vu lo hi sl Q I rx hs pl pu ⟨_, ns.map V.int, rfl, h1.sq, fun a ha => ?_⟩
      have rv : RepVs X.K μ H ((cutD ns lo hi).map D.int) (cutV (ns.map V.int) lo hi) := by
        have e : cutV (ns.map V.int) lo hi = (cutD ns lo hi).map V.int := by
          unfold cutV cutD
          rw [List.map_take, List.map_drop, List.length_map]
        rw [e]
        generalize cutD ns lo hi = l
        induction l with
        | nil => exact .nil
        | cons i l ih => exact .cons (.int i) ih
      exact post_new (σ := σ) rs rv ha q
  · cases e
end
end DL
set_option Elab.async false
set_option linter.all false
set_option maxRecDepth 100000
/-! DL4: built-in functions and methods on data -/
namespace DL
open PySem L2

def gLen : PA' := fun ds st => match ds with
  | [.str z] => if z.length ≤ sizeLine then some (.int z.length, st) else none
  | [d] => match itemsOf d st with | some xs => some (.int xs.length, st) | none => none
  | _ => none
def gAbs : PA' := fun ds st => match ds with
  | [.int i] => some (.int (if i < 0 then -i else i), st)
  | _ => none
def gInt : PA' := fun ds st => match ds with
  | [.int i] => some (.int i, st)
  | [.bl k] => some (.int (if k then 1 else 0), st)
  | [.str a] => if a.length ≤ 640 then (PySem.intText? a).map fun n => (.int n, st) else none
  | _ => none
def gList : PA' := fun ds st => match ds with
  | [d] => match itemsOf d st with | some xs => some (.loc st.length, st ++ [.lst xs]) | none => none
  | _ => none
def gTuple : PA' := fun ds st => match ds with
  | [d] => match itemsOf d st with | some xs => some (.tup xs, st) | none => none
  | _ => none
def isTy (t : String) (T : String) : Bool := t == T || (t == "bool" && T == "int")
def gIsi (Ts : List String) : P1 := fun d st => match tyD st d with | some t => some (.bl (Ts.any (isTy t)), st) | none => none
/-- methods of lists: the list first -/
def gAppend : PA' := fun ds st => match ds with
  | [.loc n, d] => match st[n]? with | some (.lst xs) => if xs.length < sizeLine then some (.non, st.set n (.lst (xs ++ [d]))) else none | _ => none
  | _ => none
def gExtend : PA' := fun ds st => match ds with
  | [.loc n, .tup ys] => match st[n]? with | some (.lst xs) => if xs.length + ys.length ≤ sizeLine then some (.non, st.set n (.lst (xs ++ ys))) else none | _ => none
  | [.loc n, .loc m] => match st[n]?, st[m]? with | some (.lst xs), some (.lst ys) => if xs.length + ys.length ≤ sizeLine then some (.non, st.set n (.lst (xs ++ ys))) else none | _, _ => none
  | _ => none
def gPop : PA' := fun ds st => match ds with
  | [.loc n] => match st[n]? with | some (.lst xs) => (xs[xs.length - 1]?).map fun d => (d, st.set n (.lst xs.dropLast)) | _ => none
  | _ => none
def gPopAt : PA' := fun ds st => match ds with
  | [.loc n, .int i] => match st[n]? with
    | some (.lst xs) => if -(2 ^ 63) ≤ i ∧ i < 2 ^ 63 then (seqIndex? i xs.length).bind fun k => (xs[k]?).map fun d => (d, st.set n (.lst (xs.eraseIdx k))) else none
    | _ => none
  | _ => none
/-- xs[i] = v -/
def gSet : D → D → D → S → Option S := fun o i v st => match o, i with
  | .loc n, .int k => match st[n]? with | some (.lst xs) => (ixN xs.length k).map fun j => st.set n (.lst (xs.set j v)) | _ => none
  | _, _ => none
section
variable {X : Cx} {E : WX}
/-- a cell that is a list -/
theorem cell_lst {K : PySem.W.Frag} {mg : MG} {μ : List Addr} {H : Hp} {n : Nat} {a : Addr} {st : S} {xs : List D} (rs : RelS K mg μ st H) (hn : μ[n]? = some a) (h : st[n]? = some (.lst xs)) : ∃ vs, H a = some (.lst vs) ∧ RepVs K μ H xs vs :=
  rs.at_ n _ a h hn
/-- a list is rewritten -/
theorem post_set {K : PySem.W.Frag} {mg : MG} {μ : List Addr} {H : Hp} {Q : VK} {st : S} {n : Nat} {a : Addr} {xs ys : List D} {ws : List V} {d : D} {v : V} (rs : RelS K mg μ st H) (hn : μ[n]? = some a) (h : st[n]? = some (.lst xs))
    (ry : RepVs K μ H ys ws) (rd : RepV K μ H d v) (q : rC K mg μ H Q d (st.set n (.lst ys))) : Q v (upd H a (.lst ws)) := by
  have e1 : Ext μ H μ (upd H a (.lst ws)) := Ext.write hn
  exact q μ _ _ e1 (rs.write (List.getElem?_eq_some_iff.mp h).1 hn ⟨ws, upd_same, ry.mono e1 rs.noTup⟩) (rd.mono e1 rs.noTup)
theorem vs1 {K : PySem.W.Frag} {μ : List Addr} {H : Hp} {d : D} {vs : List V} (r : RepVs K μ H [d] vs) : ∃ v, vs = [v] ∧ RepV K μ H d v := by
  cases r with | cons h1 h2 => cases h2; exact ⟨_, rfl, h1⟩
theorem vs2 {K : PySem.W.Frag} {μ : List Addr} {H : Hp} {d e : D} {vs : List V} (r : RepVs K μ H [d, e] vs) : ∃ v w, vs = [v, w] ∧ RepV K μ H d v ∧ RepV K μ H e w := by
  cases r with | cons h1 h2 => obtain ⟨w, rfl, h3⟩ := vs1 h2; exact ⟨_, _, rfl, h1, h3⟩
theorem cl_len : CallR X (.builtin "len") (rAM X.K X.mg gLen) := by
  intro pins s σ H xs us Q I r q
  obtain ⟨μ, st, ds, d, st', rs, rx, e, q⟩ := q
  unfold gLen at e
  split at e
  · obtain ⟨v, rfl, rv⟩ := vs1 rx
    split at e
    · cases e
      cases rv
      exact call_len pins s σ H _ us Q I r ⟨_, _, rfl, ⟨by assumption, rfl⟩, q μ _ H (Ext.refl _ _) rs (.int _)⟩
    · cases e
  · obtain ⟨v, rfl, rv⟩ := vs1 rx
    split at e
    · cases e
      obtain ⟨p, vs, rfl, hq, rvs⟩ := items_ok rs rv (by assumption)
      have hl := rvs.length
      refine call_len pins s σ H _ us Q I r ⟨_, vs.length, rfl, ?_, by rw [← hl]; exact q μ _ H (Ext.refl _ _) rs (.int _)⟩
      rcases hq with hq | hq
      · exact .inr ⟨vs, hq, rfl⟩
      · exact .inl ⟨vs, hq, rfl⟩
    · cases e
  · cases e
theorem cl_abs : CallR X (.builtin "abs") (rAM X.K X.mg gAbs) := by
  intro pins s σ H xs us Q I r q
  obtain ⟨μ, st, ds, d, st', rs, rx, e, q⟩ := q
  unfold gAbs at e
  split at e
  · cases e
    obtain ⟨v, rfl, rv⟩ := vs1 rx
    cases rv
    exact call_abs pins s σ H _ us Q I r ⟨_, rfl, q μ _ H (Ext.refl _ _) rs (.int _)⟩
  · cases e
theorem cl_int : CallR X (.type "int") (rAM X.K X.mg gInt) := by
  intro pins s σ H xs us Q I r q
  obtain ⟨μ, st, ds, d, st', rs, rx, e, q⟩ := q
  unfold gInt at e
  split at e
  · cases e
    obtain ⟨v, rfl, rv⟩ := vs1 rx
    cases rv
    exact call_int1 pins s σ H _ us Q I r (.inl ⟨_, rfl, q μ _ H (Ext.refl _ _) rs (.int _)⟩)
  · cases e
    obtain ⟨v, rfl, rv⟩ := vs1 rx
    cases rv
    exact call_int1 pins s σ H _ us Q I r (.inr ⟨_, rfl, q μ _ H (Ext.refl _ _) rs (.int _)⟩)
  · obtain ⟨v, rfl, rv⟩ := vs1 rx
    cases rv
    split at e
    · rename_i a ha
      cases ei : PySem.intText? a with
      | none => rw [ei] at e; cases e
      | some n =>
        rw [ei] at e
        cases e
        exact call_int_str pins s σ H _ us Q I r ⟨_, n, rfl, ei, ha, q μ _ H (Ext.refl _ _) rs (.int _)⟩
    · cases e
  · cases e
theorem cl_list : CallR X (.type "list") (rAM X.K X.mg gList) := by
  intro pins s σ H xs us Q I r q
  obtain ⟨μ, st, ds, d, st', rs, rx, e, q⟩ := q
  unfold gList at e
  split at e
  · obtain ⟨v, rfl, rv⟩ := vs1 rx
    split at e
    · cases e
      obtain ⟨p, vs, rfl, hq, rvs⟩ := items_ok rs rv (by assumption)
      exact call_list_of pins s σ H _ us Q I r ⟨p, vs, rfl, hq.symm, fun l hl => post_new (σ := σ) rs rvs hl q⟩
    · cases e
  · cases e
theorem cl_tuple : CallR X (.type "tuple") (rAM X.K X.mg gTuple) := by
  intro pins s σ H xs us Q I r q
  obtain ⟨μ, st, ds, d, st', rs, rx, e, q⟩ := q
  have nt := rs.noTup
  unfold gTuple at e
  split at e
  · obtain ⟨v, rfl, rv⟩ := vs1 rx
    split at e
    · cases e
      obtain ⟨p, vs, rfl, hq, rvs⟩ := items_ok rs rv (by assumption)
      refine call_tuple_of pins s σ H _ us Q I r ⟨p, vs, rfl, ?_⟩
      rcases hq with hq | hq
      · exact .inr ⟨hq, q μ _ H (Ext.refl _ _) rs (.tup hq rvs)⟩
      · refine .inl ⟨hq, fun l hl => ?_⟩
        have e1 : Ext μ H μ (upd H l (.tup vs)) := Ext.new1 hl
        exact q μ _ _ e1 (rs.new1 hl) (.tup (SqT.of upd_same) (rvs.mono e1 nt))
    · cases e
  · cases e

/-! ### isinstance -/
theorem tyX_of {K : PySem.W.Frag} {mg : MG} {μ : List Addr} {H : Hp} {st : S} {d : D} {x : V} {t : String} (rs : RelS K mg μ st H) (r : RepV K μ H d x) (h : tyD st d = some t) : TyX K H x (.type t) := by
  cases r with
  | non => cases h; exact .base .non
  | bl => cases h; exact .base (.bl _)
  | int => cases h; exact .base (.int _)
  | str => cases h; exact .base (.str _)
  | tup h1 h2 =>
    cases h
    rcases h1 with (h1 | ⟨o, h1⟩) | ⟨o, its, n, e, c, _⟩
    · exact .base (.tup h1)
    · exact .fTuple h1
    · exact .kTuple e c
  | @loc n a hn =>
    have h : (match st[n]? with | some (.lst _) => some "list" | some (.dct _) => some "dict" | _ => none) = some t := h
    cases e : st[n]? with
    | none => rw [e] at h; cases h
    | some c =>
      have rc := rs.at_ n c a e hn
      rw [e] at h
      cases c with
      | lst xs => obtain ⟨vs, e1, _⟩ := rc; cases h; exact .base (.lst e1)
      | dct xs => obtain ⟨vs, e1, _⟩ := rc; cases h; exact .base (.dK e1)
      | ins cn fs => cases h
  | fro _ => cases h
  | exo _ _ => cases h
def tyNames : List String := ["NoneType", "bool", "int", "str", "tuple", "list", "dict"]
theorem tyD_mem {st : S} {d : D} {t : String} (h : tyD st d = some t) : t ∈ tyNames := by
  cases d with
  | loc n =>
    have h : (match st[n]? with | some (.lst _) => some "list" | some (.dct _) => some "dict" | _ => none) = some t := h
    cases e : st[n]? with
    | none => rw [e] at h; cases h
    | some c => rw [e] at h; cases c <;> cases h <;> decide
  | fro _ => cases h
  | exo _ _ _ _ => cases h
  | _ => cases h; decide
theorem kitB_all : ∀ t ∈ tyNames, ∀ T ∈ ["bool", "int", "str", "tuple", "list", "dict"], kitB t T = some (isTy t T) := by decide +kernel
theorem re_isi1 {T : String} {x : Str} {a : Expr} {ma : ME} {p p2 pos : Pos} (hT : T ∈ ["bool", "int", "str", "tuple", "list", "dict"]) (hg : Gl X "isinstance") (hm : X.mg "isinstance" = none) (hg2 : Gl X x) (hm2 : X.mg x = none) (hv : bootBuiltins x = some (.type T)) (ha : RE X E a ma)
    (hn : x ≠ "__name__" := by decide) (hdb : (x == ("__debug__" : Str)) = false := by decide)
    (he : starEach [a, .Name x p2] X.env = (false, eval a X.env) :: starEach [.Name x p2] X.env := by rfl) (he2 : starEach [.Name x p2] X.env = (false, eval (.Name x p2) X.env) :: starEach [] X.env := by rfl) (hpl : (backTo pos (starEach [.Name x p2] X.env)).any (·.1) = false := by rfl) :
    RE X E (.Call (.Name "isinstance" p) [a, .Name x p2] [] pos) (eUn (gIsi [T]) ma) :=
  ⟨PE.imp (pe_callB call_isi hg hm PyProof.Rows.boot_isinstance (pa_cons ha.pe (pa_cons (pe_bltn (v := .ty T) hg2 hm2 hv rfl hn hdb) pa_nil he2) he) (by decide) (by decide) he hpl) fun σ H Q h => by
    obtain ⟨μ, env, st, rs, re, p⟩ := h
    refine tG_at rs re p fun μ1 st1 H1 d1 x1 ex rs re rx p => ?_
    obtain ⟨d, st', e, q⟩ := postO p
    unfold gIsi at e
    split at e
    · cases e
      rename_i t ht
      refine ⟨_, .ty T, .type t, .type T, isTy t T, rfl, .ty T, tyX_of rs rx ht, kit_ty (kitB_all t (tyD_mem ht) T hT), ?_⟩
      have q2 := q μ1 _ H1 (Ext.refl _ _) rs (.bl _)
      simpa using q2
    · cases e⟩
theorem re_isi2 {T T2 : String} {x y : Str} {a : Expr} {ma : ME} {p p2 p3 p4 pos : Pos} {kk} (hT : T ∈ ["bool", "int", "str", "tuple", "list", "dict"]) (hT2 : T2 ∈ ["bool", "int", "str", "tuple", "list", "dict"]) (hg : Gl X "isinstance") (hm : X.mg "isinstance" = none)
    (hg2 : Gl X x) (hm2 : X.mg x = none) (hv : bootBuiltins x = some (.type T)) (hg3 : Gl X y) (hm3 : X.mg y = none) (hv3 : bootBuiltins y = some (.type T2)) (ha : RE X E a ma)
    (hn : x ≠ "__name__" := by decide) (hdb : (x == ("__debug__" : Str)) = false := by decide) (hn' : y ≠ "__name__" := by decide) (hdb' : (y == ("__debug__" : Str)) = false := by decide)
    (he : starEach [a, .Tuple [.Name x p2, .Name y p3] kk p4] X.env = (false, eval a X.env) :: starEach [.Tuple [.Name x p2, .Name y p3] kk p4] X.env := by rfl)
    (he2 : starEach [.Tuple [.Name x p2, .Name y p3] kk p4] X.env = (false, eval (.Tuple [.Name x p2, .Name y p3] kk p4) X.env) :: starEach [] X.env := by rfl) (hpl : (backTo pos (starEach [.Tuple [.Name x p2, .Name y p3] kk p4] X.env)).any (·.1) = false := by rfl)
    (he3 : starEach [.Name x p2, .Name y p3] X.env = (false, eval (.Name x p2) X.env) :: starEach [.Name y p3] X.env := by rfl) (he4 : starEach [.Name y p3] X.env = (false, eval (.Name y p3) X.env) :: starEach [] X.env := by rfl) :
    RE X E (.Call (.Name "isinstance" p) [a, .Tuple [.Name x p2, .Name y p3] kk p4] [] pos) (eUn (gIsi [T, T2]) ma) :=
  ⟨PE.imp (pe_callB call_isiT hg hm PyProof.Rows.boot_isinstance (pa_cons ha.pe (pa_cons (pe_tup (pa_cons (pe_bltn (v := .ty T) hg2 hm2 hv rfl hn hdb) (pa_cons (pe_bltn (v := .ty T2) hg3 hm3 hv3 rfl hn' hdb') pa_nil he4) he3)) pa_nil he2) he) (by decide) (by decide) he hpl) fun σ H Q h => by
    obtain ⟨μ, env, st, rs, re, p⟩ := h
    refine tG_at rs re p fun μ1 st1 H1 d1 x1 ex rs re rx p => ?_
    obtain ⟨d, st', e, q⟩ := postO p
    unfold gIsi at e
    split at e
    · cases e
      rename_i t ht
      refine ⟨by show 2 ≤ sizeLine; decide, fun tp htp => ?_⟩
      have e1 : Ext μ1 H1 μ1 (upd H1 tp (.tup [.ty T, .ty T2])) := Ext.new1 htp
      refine ⟨_, tp, [.ty T, .ty T2], .type t, [.type T, .type T2], ([T, T2].any (isTy t)), rfl, upd_same, .cons (.ty T) (.cons (.ty T2) .nil), tyX_of (rs.new1 htp) (rx.mono e1 rs.noTup) ht, ?_, q μ1 _ _ e1 (rs.new1 htp) (.bl _)⟩
      refine kitAny_cons (kit_ty (kitB_all t (tyD_mem ht) T hT)) (fun h1 => kitAny_cons (kit_ty (kitB_all t (tyD_mem ht) T2 hT2)) (fun h2 => ?_) (fun h2 => ?_)) (fun h1 => ?_)
      · rw [kitAny_nil]; simp [h1, h2]
      · simp [h1, h2]
      · simp [h1]
    · cases e⟩

/-! ### methods of lists -/
theorem ml_append : MtR X "list.append" (rMM X.K X.mg gAppend) := by
  intro pins s σ H x xs v us Q I rx rv q
  obtain ⟨μ, st, ds, d, st', rs, r, e, q⟩ := q
  unfold gAppend at e
  split at e
  · obtain ⟨v1, v2, ev, r1, r2⟩ := vs2 r
    obtain ⟨rfl, rfl⟩ := List.cons.inj ev
    split at e
    · split at e
      · cases e
        cases r1 with
        | loc hn =>
          obtain ⟨vs, ea, rvs⟩ := cell_lst rs hn (by assumption)
          exact mt_append pins s σ H _ _ v us Q I rx rv ⟨_, vs, v2, rfl, rfl, ea, by rw [← rvs.length]; assumption, post_set rs hn (by assumption) (rvs.append (.cons r2 .nil)) .non q⟩
      · cases e
    · cases e
  · cases e
section
open PySem.AutoSeq1 PySem.Builtin
theorem extend_tup (l : Addr) (items : Array Value) (n : Nat) (b : Addr) (items2 : Array Value) (n2 : Nat) (dd : Option Addr) (sl : Array (Option Value)) (hs0 : ¬(!items.isEmpty && Builtin.List.listTooLong (items.size + items2.size)) = true) (hs1 : items.size ≤ sizeLine) (hs2 : items.size + items2.size ≤ sizeLine + 1) :
    Meets (Builtin.«list.extend» ⟨[.ref l, .ref b], []⟩) (fun _ R s => s.heap.get? l = some { cls := .type "list", dict := none, data := .seq items n, slots := #[] } ∧ s.heap.get? b = some { cls := .type "tuple", dict := dd, data := .seq items2 n2, slots := sl } ∧ R (.ok (.ret Value.none)) { s with heap := s.heap.update l (Obj.mapSeq fun x => x ++ items2), toks := s.toks }) :=
  .of_wp fun prog w A R s h => by
    obtain ⟨hp, g, d, tk, os⟩ := s; obtain ⟨hl, hb, h⟩ := h; have f1 := idx_int; have f2 := sub_tuple_tuple; have f3 := sub_list_list; have f4 := sub_tuple_list; have f5 := sub_list_tuple;
    have hz' : (items ++ items2).size ≤ sizeLine + 1 := by rw [Array.size_append]; exact hs2
    wp_walk using (wpAny_updateSeq hl rfl (hz := hs1) (_hz' := hz')), wpAny_loadPart' hl, wpAny_loadPart' hb; exact ⟨_, rfl, h⟩
end
theorem mt_extendT {pins : List (Addr × Obj)} {s : Shared} {σ : L2.St} {H : Hp} {l b : Addr} {xs zs : List V} {Q : VK} (I : Inv X pins σ H s) (hH : H l = some (.lst xs)) (hB : SqT X.K H b zs) (hz : xs.length + zs.length ≤ sizeLine) (q : Q .non (upd H l (.lst (xs ++ zs)))) :
    wpAny (model X.prog X.w) X.A (call (.builtin "list.extend") [.ref l, .ref b]) (EP X pins σ Q) X.xe s := by
  obtain ⟨z, its, n, r, hl, e⟩ := I.lstM hH
  obtain ⟨its2, r2, ⟨⟨c2, dd2, data2, sl2⟩, e2, hc2, n2, hd2⟩, z2⟩ := I.tuple hB
  simp only at hc2 hd2
  subst hc2 hd2
  have hl2 := r2.length
  have hsz : its.toArray.size + its2.toArray.size ≤ sizeLine := by rw [List.size_toArray, List.size_toArray]; omega
  have hlong : ¬ (!its.toArray.isEmpty && Builtin.List.listTooLong (its.toArray.size + its2.toArray.size)) = true := by
    rw [notLongL hsz, Bool.and_false]
    exact Bool.false_ne_true
  refine PySem.call_meets F.slot_list_extend ⟨_, e, rfl⟩ F.entry_list_extend (F.args_list_extend_2 _ _)
    (extend_tup l its.toArray n b its2.toArray n2 dd2 sl2 hlong (by rw [List.size_toArray]; omega) (by omega)) ⟨e, e2, ?_⟩
  refine ⟨.non, _, I.lset (its' := its ++ its2) hH e (by simp) (r.append r2) ?_, rfl, q⟩
  rw [List.length_append]
  omega
theorem ml_extend : MtR X "list.extend" (rMM X.K X.mg gExtend) := by
  intro pins s σ H x xs v us Q I rx rv q
  obtain ⟨μ, st, ds, d, st', rs, r, e, q⟩ := q
  unfold gExtend at e
  split at e
  · obtain ⟨v1, v2, ev, r1, r2⟩ := vs2 r
    obtain ⟨rfl, rfl⟩ := List.cons.inj ev
    split at e
    · rename_i hx
      split at e
      · cases e
        rename_i hz
        cases r1 with
        | loc hn =>
          obtain ⟨vs, ea, rvs⟩ := cell_lst rs hn hx
          cases r2 with
          | tup h3 h4 =>
            obtain ⟨u, rfl, ru⟩ := vals1 rv
            cases ru
            cases rx
            exact mt_extendT I ea h3 (by rw [← rvs.length, ← h4.length]; exact hz) (post_set rs hn hx (rvs.append h4) .non q)
      · cases e
    · cases e
  · obtain ⟨v1, v2, ev, r1, r2⟩ := vs2 r
    obtain ⟨rfl, rfl⟩ := List.cons.inj ev
    split at e
    · rename_i hx hy
      split at e
      · cases e
        rename_i hz
        cases r1 with
        | loc hn =>
          cases r2 with
          | loc hm =>
            obtain ⟨vs, ea, rvs⟩ := cell_lst rs hn hx
            obtain ⟨ws, eb, rws⟩ := cell_lst rs hm hy
            exact mt_extend pins s σ H _ _ v us Q I rx rv ⟨_, _, vs, ws, rfl, rfl, ea, eb, by rw [← rvs.length, ← rws.length]; exact hz, post_set rs hn hx (rvs.append rws) .non q⟩
      · cases e
    · cases e
  · cases e
theorem ml_pop : MtR X "list.pop" (rMM X.K X.mg gPop) := by
  intro pins s σ H x xs v us Q I rx rv q
  obtain ⟨μ, st, ds, d, st', rs, r, e, q⟩ := q
  unfold gPop at e
  split at e
  · obtain ⟨v1, ev, r1⟩ := vs1 r
    obtain ⟨rfl, rfl⟩ := List.cons.inj ev
    split at e
    · rename_i ys hy
      cases el : ys[ys.length - 1]? with
      | none => rw [el] at e; cases e
      | some z =>
        rw [el] at e
        cases e
        cases r1 with
        | loc hn =>
          obtain ⟨vs, ea, rvs⟩ := cell_lst rs hn hy
          obtain ⟨w, e1, e2⟩ := rvs.get el
          exact mt_pop pins s σ H _ _ v us Q I rx rv ⟨_, vs, w, rfl, rfl, ea, by rw [← rvs.length]; exact e1, post_set rs hn hy rvs.dropLast e2 q⟩
    · cases e
  · cases e
theorem ml_popAt : MtR X "list.pop" (rMM X.K X.mg gPopAt) := by
  intro pins s σ H x xs v us Q I rx rv q
  obtain ⟨μ, st, ds, d, st', rs, r, e, q⟩ := q
  unfold gPopAt at e
  split at e
  · obtain ⟨v1, v2, ev, r1, r2⟩ := vs2 r
    obtain ⟨rfl, rfl⟩ := List.cons.inj ev
    split at e
    · rename_i ys hy
      split at e
      · rename_i hi
        cases ek : seqIndex? _ ys.length with
        | none => rw [ek] at e; cases e
        | some k =>
          rw [ek] at e
          cases ey : ys[k]? with
          | none => simp [ey] at e
          | some z =>
            simp [ey] at e
            obtain ⟨rfl, rfl⟩ := e
            cases r1 with
            | loc hn =>
              cases r2
              obtain ⟨vs, ea, rvs⟩ := cell_lst rs hn hy
              obtain ⟨w, e1, e2⟩ := rvs.get ey
              exact mt_popAt pins s σ H _ _ v us Q I rx rv ⟨_, vs, _, k, w, rfl, rfl, ea, hi.1, hi.2, by rw [← rvs.length]; exact ek, e1, post_set rs hn hy (rvs.eraseIdx k) e2 q⟩
      · cases e
    · cases e
  · cases e
end
end DL
set_option Elab.async false
set_option linter.all false
set_option maxRecDepth 100000
/-! DL5: statements -/
namespace DL
open PySem L2

def PostS (K : PySem.W.Frag) (mg : MG) (E : WX) (μ : List Addr) (H : Hp) (Dd : Ends) : RS → Prop
  | .nx env' st' => ∀ μ' σ' H', Ext μ H μ' H' → RelS K mg μ' st' H' → RelE K μ' H' env' σ' → Dd.nx σ' H'
  | .brk env' st' => ∀ μ' σ' H', Ext μ H μ' H' → RelS K mg μ' st' H' → RelE K μ' H' env' σ' → Dd.bk σ' H'
  | .cnt env' st' => ∀ μ' σ' H', Ext μ H μ' H' → RelS K mg μ' st' H' → RelE K μ' H' env' σ' → Dd.ct σ' H'
  | .ret d st' => ∀ μ' v H', Ext μ H μ' H' → RelS K mg μ' st' H' → RepV K μ' H' d v → Dd.rt v H'
  | .exc x env' st' => ∀ μ' σ' H' C d, Ext μ H μ' H' → RelS K mg μ' st' H' → RelE K μ' H' env' σ' → mg x.cls = some (.ref C) → ExcD K μ' H' x.fs d → E (.ref C) d σ' H'
  | .fail => False
def tS (K : PySem.W.Frag) (mg : MG) (E : WX) (b : MS) : TS := fun Dd σ H => ∃ μ env st, RelS K mg μ st H ∧ RelE K μ H env σ ∧ PostS K mg E μ H Dd (b env st)
@[simp] def R.toS {α : Type} (env : Ev) : R α → (α → S → RS) → RS
  | .ok a st, k => k a st
  | .exc x st, _ => .exc x env st
  | .fail, _ => .fail
structure RSt (X : Cx) (E : WX) (s : Stmt) (b : MS) : Prop where
  ps : PS X s (tS X.K X.mg E b)
structure RSs (X : Cx) (E : WX) (ss : List Stmt) (b : MS) : Prop where
  pss : PSs X ss (tS X.K X.mg E b)
section
variable {K : PySem.W.Frag} {mg : MG} {E : WX} {σ : L2.St} {μ μ1 : List Addr} {H H1 : Hp} {Dd : Ends}
theorem PostS.ext (e : Ext μ H μ1 H1) : ∀ {o : RS}, PostS K mg E μ H Dd o → PostS K mg E μ1 H1 Dd o
  | .nx env st, h => fun μ' σ' H' ex rs re => h μ' σ' H' (e.trans ex) rs re
  | .brk env st, h => fun μ' σ' H' ex rs re => h μ' σ' H' (e.trans ex) rs re
  | .cnt env st, h => fun μ' σ' H' ex rs re => h μ' σ' H' (e.trans ex) rs re
  | .ret d st, h => fun μ' v H' ex rs r => h μ' v H' (e.trans ex) rs r
  | .exc x env st, h => fun μ' σ' H' C d ex rs re hm hd => h μ' σ' H' C d (e.trans ex) rs re hm hd
  | .fail, h => h
theorem tS_at {α β : Type} {Rep : List Addr → Hp → α → β → Prop} {m : Ev → S → R α} {k : α → S → RS} {body : β → Hp → Prop} {env : Ev} {st : S}
    (rs : RelS K mg μ st H) (re : RelE K μ H env σ) (p : PostS K mg E μ H Dd ((m env st).toS env k))
    (hk : ∀ μ1 st1 H1 a x, Ext μ H μ1 H1 → RelS K mg μ1 st1 H1 → RelE K μ1 H1 env σ → Rep μ1 H1 a x → PostS K mg E μ1 H1 Dd (k a st1) → body x H1) : tG K mg E Rep m σ H body := by
  refine ⟨μ, env, st, rs, re, ?_⟩
  cases e : m env st with
  | ok a st1 =>
    rw [e] at p
    exact fun μ1 x H1 ex rs1 rx => hk μ1 st1 H1 a x ex rs1 (re.mono ex rs.noTup) rx (PostS.ext ex p)
  | exc x st1 =>
    rw [e] at p
    exact fun μ' H' C d ex rs1 hm hd => p μ' σ H' C d ex rs1 (re.mono ex rs.noTup) hm hd
  | fail => rw [e] at p; exact p
theorem RelE.set {env : Ev} {d : D} {v : V} (re : RelE K μ H env σ) (r : RepV K μ H d v) (i : Nat) : RelE K μ H (env.set i (some d)) (σ.set i (some v)) := by
  refine ⟨by simp [re.len], fun j d' h => ?_⟩
  by_cases hj : j = i
  · subst hj
    have hl : j < env.length := by
      have := (List.getElem?_eq_some_iff.mp h).1
      simpa using this
    rw [List.getElem?_set_self hl] at h
    cases h
    exact ⟨v, by rw [List.getElem?_set_self (by rw [← re.len]; exact hl)], r⟩
  · rw [List.getElem?_set_ne (Ne.symm hj)] at h
    obtain ⟨w, h1, h2⟩ := re.at_ j d' h
    exact ⟨w, by rw [List.getElem?_set_ne (Ne.symm hj)]; exact h1, h2⟩
theorem RelE.unset {env : Ev} (re : RelE K μ H env σ) (i : Nat) : RelE K μ H (env.set i none) (σ.set i none) := by
  refine ⟨by simp [re.len], fun j d' h => ?_⟩
  by_cases hj : j = i
  · subst hj
    have hl : j < env.length := by
      have := (List.getElem?_eq_some_iff.mp h).1
      simpa using this
    rw [List.getElem?_set_self hl] at h
    cases h
  · rw [List.getElem?_set_ne (Ne.symm hj)] at h
    obtain ⟨w, h1, h2⟩ := re.at_ j d' h
    exact ⟨w, by rw [List.getElem?_set_ne (Ne.symm hj)]; exact h1, h2⟩
end

/-! ### the combinators -/
def sNil : MS := fun env st => .nx env st
def sSeq (a b : MS) : MS := fun env st => match a env st with | .nx env' st' => b env' st' | r => r
def sExpr (m : ME) : MS := fun env st => (m env st).toS env fun _ st1 => .nx env st1
def sRet (m : ME) : MS := fun env st => (m env st).toS env fun d st1 => .ret d st1
def sRetN : MS := fun _ st => .ret .non st
def sBrk : MS := fun env st => .brk env st
def sCnt : MS := fun env st => .cnt env st
def sIf (t : MT) (a b : MS) : MS := fun env st => (t env st).toS env fun c st1 => if c = true then a env st1 else b env st1
def sNever : MS := fun _ _ => .fail
def sSet (i : Nat) (m : ME) : MS := fun env st => (m env st).toS env fun d st1 => .nx (env.set i (some d)) st1
/-- name op= e -/
def sAug (i : Nat) (g : P2) (m : ME) : MS := fun env st => match env[i]? with
  | some (some x) => (m env st).toS env fun y st1 => match g x y st1 with | some (d, st2) => .nx (env.set i (some d)) st2 | none => .fail
  | _ => .fail
/-- targets -/
abbrev MTg := D → Ev → S → Option (Ev × S)
def gN (i : Nat) : MTg := fun d env st => some (env.set i (some d), st)
abbrev MTgs := List D → Ev → S → Option (Ev × S)
def gN0 : MTgs := fun ds env st => match ds with | [] => some (env, st) | _ => none
def gC (g : MTg) (r : MTgs) : MTgs := fun ds env st => match ds with | d :: ds => (g d env st).bind fun q => r ds q.1 q.2 | _ => none
def gT (n : Nat) (g : MTgs) : MTg := fun d env st => match d with | .tup xs => if xs.length = n then g xs env st else none | _ => none
@[simp] def R.get? {α : Type} : R α → Option (α × S)
  | .ok a st => some (a, st)
  | _ => none
/-- o[i] = .. (a list) -/
def gSubL (o i : ME) : MTg := fun d env st => (o env st).get?.bind fun x => (i env x.2).get?.bind fun y => (gSet x.1 y.1 d y.2).map fun st3 => (env, st3)
def sAsg (m : ME) (g : MTg) : MS := fun env st => (m env st).toS env fun d st1 => match g d env st1 with | some q => .nx q.1 q.2 | none => .fail
def gIxL : P2 := fun x y st => match x, y with
  | .loc n, .int k => match st[n]? with | some (.lst xs) => if 0 ≤ k then (xs[k.toNat]?).map fun d => (d, st) else none | _ => none
  | _, _ => none
/-- o[i] op= e (a list) -/
def sAugS (o i e : ME) (g : P2) : MS := fun env st => (o env st).toS env fun x st1 => (i env st1).toS env fun y st2 => match gIxL x y st2 with
  | some (old, st3) => (e env st3).toS env fun z st4 => match g old z st4 with
    | some (new, st5) => match gSet x y new st5 with | some st6 => .nx env st6 | none => .fail
    | none => .fail
  | none => .fail
/-- while -/
def whStep (c : MT) (b k : MS) : MS := fun env st => (c env st).toS env fun t st1 => if t = true then
    (match b env st1 with | .nx env' st' => k env' st' | .cnt env' st' => k env' st' | .brk env' st' => .nx env' st' | r => r) else .nx env st1
def whN (c : MT) (b : MS) : Nat → MS
  | 0 => fun _ _ => .fail
  | n + 1 => whStep c b (whN c b n)
open Classical in
noncomputable def sWhile (c : MT) (b : MS) : MS := fun env st => if h : ∃ n, whN c b n env st ≠ .fail then whN c b h.choose env st else .fail
theorem whN_succ (c : MT) (b : MS) : ∀ n env st, whN c b n env st ≠ .fail → whN c b (n + 1) env st = whN c b n env st
  | 0, env, st, h => absurd rfl h
  | n + 1, env, st, h => by
    have h : whStep c b (whN c b n) env st ≠ .fail := h
    show whStep c b (whN c b (n + 1)) env st = whStep c b (whN c b n) env st
    unfold whStep at h ⊢
    cases ec : c env st with
    | fail => rfl
    | exc x s => rfl
    | ok t st1 =>
      rw [ec] at h
      show (if t = true then _ else _) = (if t = true then _ else _)
      have h : (if t = true then (match b env st1 with | .nx env' st' => whN c b n env' st' | .cnt env' st' => whN c b n env' st' | .brk env' st' => .nx env' st' | r => r) else RS.nx env st1) ≠ .fail := h
      split
      · rename_i ht
        rw [if_pos ht] at h
        cases eb : b env st1 with
        | nx env' st' => rw [eb] at h; exact whN_succ c b n env' st' h
        | cnt env' st' => rw [eb] at h; exact whN_succ c b n env' st' h
        | _ => rfl
      · rfl
theorem whN_le (c : MT) (b : MS) {n m : Nat} (hnm : n ≤ m) {env : Ev} {st : S} (h : whN c b n env st ≠ .fail) : whN c b m env st = whN c b n env st := by
  induction hnm with
  | refl => rfl
  | step _ ih => rw [whN_succ c b _ env st (by rw [ih]; exact h), ih]
theorem sWhile_of {c : MT} {b : MS} {n : Nat} {env : Ev} {st : S} (h : whN c b n env st ≠ .fail) : sWhile c b env st = whN c b n env st := by
  unfold sWhile
  have e : ∃ n, whN c b n env st ≠ .fail := ⟨n, h⟩
  rw [dif_pos e]
  rcases Nat.le_total n e.choose with q | q
  · exact whN_le c b q h
  · exact (whN_le c b q e.choose_spec).symm
theorem sWhile_n (c : MT) (b : MS) (env : Ev) (st : S) : ∃ n, sWhile c b env st = whN c b n env st := by
  unfold sWhile
  split
  · exact ⟨_, rfl⟩
  · exact ⟨0, rfl⟩
/-- the loop, one turn -/
theorem sWhile_eq (c : MT) (b : MS) (env : Ev) (st : S) : sWhile c b env st = whStep c b (sWhile c b) env st := by
  by_cases h : ∃ n, whN c b n env st ≠ .fail
  · obtain ⟨n, hn⟩ := h
    have h1 : whN c b (n + 1) env st ≠ .fail := by rw [whN_succ c b n env st hn]; exact hn
    rw [sWhile_of h1]
    have h1 : whStep c b (whN c b n) env st ≠ .fail := h1
    show whStep c b (whN c b n) env st = _
    unfold whStep at h1 ⊢
    cases ec : c env st with
    | fail => rfl
    | exc x s => rfl
    | ok t st1 =>
      rw [ec] at h1
      show (if t = true then _ else _) = (if t = true then _ else _)
      have h1 : (if t = true then (match b env st1 with | .nx env' st' => whN c b n env' st' | .cnt env' st' => whN c b n env' st' | .brk env' st' => .nx env' st' | r => r) else RS.nx env st1) ≠ .fail := h1
      split
      · rename_i ht
        rw [if_pos ht] at h1
        cases eb : b env st1 with
        | nx env' st' => rw [eb] at h1; exact (sWhile_of h1).symm
        | cnt env' st' => rw [eb] at h1; exact (sWhile_of h1).symm
        | _ => rfl
      · rfl
  · have e0 : sWhile c b env st = .fail := by unfold sWhile; rw [dif_neg h]
    rw [e0]
    obtain hh := fun n => Classical.not_not.mp (fun z => h ⟨n, z⟩)
    unfold whStep
    cases ec : c env st with
    | fail => rfl
    | exc x s =>
      have := hh 1
      have q : whN c b 1 env st = .exc x env s := by show whStep c b _ env st = _; unfold whStep; rw [ec]; rfl
      rw [q] at this; cases this
    | ok t st1 =>
      have key : ∀ n, (if t = true then (match b env st1 with | .nx env' st' => whN c b n env' st' | .cnt env' st' => whN c b n env' st' | .brk env' st' => .nx env' st' | r => r) else RS.nx env st1) = .fail := fun n => by
        have := hh (n + 1)
        have q : whN c b (n + 1) env st = (if t = true then (match b env st1 with | .nx env' st' => whN c b n env' st' | .cnt env' st' => whN c b n env' st' | .brk env' st' => .nx env' st' | r => r) else RS.nx env st1) := by
          show whStep c b _ env st = _; unfold whStep; rw [ec]; rfl
        rw [← q]; exact this
      show RS.fail = (if t = true then _ else _)
      split
      · rename_i ht
        have key := fun n => by have := key n; rw [if_pos ht] at this; exact this
        cases eb : b env st1 with
        | nx env' st' =>
          simp only [eb] at key
          show RS.fail = sWhile c b env' st'
          obtain ⟨n, en⟩ := sWhile_n c b env' st'
          rw [en, key n]
        | cnt env' st' =>
          simp only [eb] at key
          show RS.fail = sWhile c b env' st'
          obtain ⟨n, en⟩ := sWhile_n c b env' st'
          rw [en, key n]
        | brk env' st' => have := key 0; rw [eb] at this; cases this
        | ret d s => have := key 0; rw [eb] at this; cases this
        | exc x e s => have := key 0; rw [eb] at this; cases this
        | fail => rfl
      · rename_i ht
        have := key 0
        rw [if_neg ht] at this; cases this

section
variable {X : Cx} {E : WX} {st : Stmt} {rest : List Stmt} {e : Expr} {es : List Expr} {m mo mi : ME} {b b2 : MS} {pos : Pos}
theorem rss_nil : RSs X E [] sNil := ⟨PSs.imp pss_nil fun Dd σ H h => by
  obtain ⟨μ, env, st, rs, re, p⟩ := h
  exact p μ σ H (Ext.refl _ _) rs re⟩
theorem rss_cons (h1 : RSt X E st b) (h2 : RSs X E rest b2) : RSs X E (st :: rest) (sSeq b b2) := ⟨PSs.imp (pss_cons h1.ps h2.pss) fun Dd σ H h => by
  obtain ⟨μ, env, s, rs, re, p⟩ := h
  refine ⟨μ, env, s, rs, re, ?_⟩
  unfold sSeq at p
  cases eb : b env s with
  | nx env' st' =>
    rw [eb] at p
    exact fun μ' σ' H' ex rs' re' => ⟨μ', env', st', rs', re', PostS.ext ex p⟩
  | brk env' st' => rw [eb] at p; exact p
  | cnt env' st' => rw [eb] at p; exact p
  | ret d st' => rw [eb] at p; exact p
  | exc x env' st' => rw [eb] at p; exact p
  | fail => rw [eb] at p; exact p⟩
theorem rss_one (h1 : RSt X E st b) : RSs X E [st] b := ⟨pss_one h1.ps⟩
theorem rs_pass : RSt X E (.Pass pos) sNil := ⟨PS.imp ps_pass fun Dd σ H h => by
  obtain ⟨μ, env, st, rs, re, p⟩ := h
  exact p μ σ H (Ext.refl _ _) rs re⟩
theorem rs_doc {x j pos'} : RSt X E (.Expr (.Constant (.str x) j pos) pos') sNil := ⟨PS.imp ps_doc fun Dd σ H h => by
  obtain ⟨μ, env, st, rs, re, p⟩ := h
  exact p μ σ H (Ext.refl _ _) rs re⟩
theorem rs_brk : RSt X E (.Break pos) sBrk := ⟨PS.imp ps_break fun Dd σ H h => by
  obtain ⟨μ, env, st, rs, re, p⟩ := h
  exact p μ σ H (Ext.refl _ _) rs re⟩
theorem rs_cnt : RSt X E (.Continue pos) sCnt := ⟨PS.imp ps_continue fun Dd σ H h => by
  obtain ⟨μ, env, st, rs, re, p⟩ := h
  exact p μ σ H (Ext.refl _ _) rs re⟩
theorem rs_never : RSt X E st sNever := ⟨PS.imp ps_never fun Dd σ H h => by
  obtain ⟨μ, env, st, rs, re, p⟩ := h
  exact p⟩
theorem rs_expr (he : RE X E e m) (hs : swapsWith e none pos.line X.env = pure false := by rfl) : RSt X E (.Expr e pos) (sExpr m) := ⟨PS.imp (ps_expr he.pe hs) fun Dd σ H h => by
  obtain ⟨μ, env, st, rs, re, p⟩ := h
  exact tS_at rs re p fun μ1 st1 H1 d x ex rs re rx p => p μ1 σ H1 (Ext.refl _ _) rs re⟩
theorem rs_ret (he : RE X E e m) : RSt X E (.Return (some e) pos) (sRet m) := ⟨PS.imp (ps_ret he.pe) fun Dd σ H h => by
  obtain ⟨μ, env, st, rs, re, p⟩ := h
  exact tS_at rs re p fun μ1 st1 H1 d x ex rs re rx p => p μ1 x H1 (Ext.refl _ _) rs rx⟩
theorem rs_retN : RSt X E (.Return none pos) sRetN := ⟨PS.imp ps_retN fun Dd σ H h => by
  obtain ⟨μ, env, st, rs, re, p⟩ := h
  exact p μ .non H (Ext.refl _ _) rs .non⟩
theorem rs_if {c : Expr} {a a2 : List Stmt} {t : MT} (hc : RT X E c t) (ha : RSs X E a b) (hb : RSs X E a2 b2) : RSt X E (.If c a a2 pos) (sIf t b b2) := ⟨PS.imp (ps_if hc.pt ha.pss hb.pss) fun Dd σ H h => by
  obtain ⟨μ, env, st, rs, re, p⟩ := h
  refine tS_at rs re p fun μ1 st1 H1 d x ex rs re rx p => ?_
  subst rx
  cases d with
  | true => rw [if_pos rfl] at p ⊢; exact ⟨μ1, env, st1, rs, re, p⟩
  | false => rw [if_neg Bool.false_ne_true] at p ⊢; exact ⟨μ1, env, st1, rs, re, p⟩⟩
theorem rs_set (i : Nat) {x : Str} {pos' : Pos} (hN : X.N.Nodup) (he : RE X E e m) (hi : X.N[i]? = some x := by rfl) (hx : Loc X.env.scope x := by first | exact .inl rfl | exact .inr rfl) (hs : swapsWith e (some (.Name x pos')) pos.line X.env = pure false := by rfl) (hf : X.fn x = true ∨ X.env.scope.names.lookup x = some .local := by first | exact .inl rfl | exact .inr rfl | assumption) :
    RSt X E (.Assign [.Name x pos'] e pos) (sSet i m) := ⟨PS.imp (ps_set hN hi hx he.pe hs hf) fun Dd σ H h => by
  obtain ⟨μ, env, st, rs, re, p⟩ := h
  exact tS_at rs re p fun μ1 st1 H1 d x ex rs re rx p => p μ1 _ H1 (Ext.refl _ _) rs (re.set rx i)⟩
theorem rs_aug (i : Nat) {x : Str} {op : Operator} {g : P2} {pos' : Pos} (hN : X.N.Nodup) (ho : OpR X (inplaceOp op) (r2M X.K X.mg g)) (he : RE X E e m) (hi : X.N[i]? = some x := by rfl) (hx : Loc X.env.scope x := by first | exact .inl rfl | exact .inr rfl) (hf : X.fn x = true ∨ X.env.scope.names.lookup x = some .local := by first | exact .inl rfl | exact .inr rfl | assumption) :
    RSt X E (.AugAssign (.Name x pos') op e pos) (sAug i g m) := ⟨PS.imp (ps_aug hN hi hx he.pe ho hf) fun Dd σ H h => by
  obtain ⟨μ, env, st, rs, re, p⟩ := h
  unfold sAug at p
  cases ei : env[i]? with
  | none => rw [ei] at p; exact p.elim
  | some o =>
    rw [ei] at p
    cases o with
    | none => exact p.elim
    | some d0 =>
      obtain ⟨v0, h1, h2⟩ := re.at_ i d0 ei
      refine ⟨v0, h1, ?_⟩
      refine tS_at rs re p fun μ1 st1 H1 d x ex rs1 re rx p => ?_
      cases eg : g d0 d st1 with
      | none => rw [eg] at p; exact p.elim
      | some q =>
        obtain ⟨d', st'⟩ := q
        rw [eg] at p
        exact ⟨μ1, st1, d0, d, d', st', rs1, h2.mono ex rs.noTup, rx, eg, fun μ' v H' ex' rs' rv => p μ' _ H' ex' rs' ((re.mono ex' rs1.noTup).set rv i)⟩⟩

/-! ### targets -/
/-- the slots but those of ws stand -/
def Off (ws : List Nat) (σ σ' : L2.St) : Prop := σ'.length = σ.length ∧ ∀ j, j ∉ ws → σ'[j]? = σ[j]?
/-- a target; ws: the slots it may change -/
def tTg (K : PySem.W.Frag) (mg : MG) (ws : List Nat) (g : MTg) : TG := fun v σ H Q => ∃ μ env st d, RelS K mg μ st H ∧ RelE K μ H env σ ∧ RepV K μ H d v ∧ ∃ env' st', g d env st = some (env', st') ∧ ∀ μ' σ' H', Off ws σ σ' → Ext μ H μ' H' → RelS K mg μ' st' H' → RelE K μ' H' env' σ' → Q σ' H'
def tTgs (K : PySem.W.Frag) (mg : MG) (ws : List Nat) (g : MTgs) : TGs := fun vs σ H Q => ∃ μ env st ds, RelS K mg μ st H ∧ RelE K μ H env σ ∧ RepVs K μ H ds vs ∧ ∃ env' st', g ds env st = some (env', st') ∧ ∀ μ' σ' H', Off ws σ σ' → Ext μ H μ' H' → RelS K mg μ' st' H' → RelE K μ' H' env' σ' → Q σ' H'
structure RTg (X : Cx) (t : Expr) (ws : List Nat) (g : MTg) : Prop where
  pg : PG X t (tTg X.K X.mg ws g)
structure RTgs (X : Cx) (ts : List Expr) (ws : List Nat) (g : MTgs) : Prop where
  pgs : PGs X ts (tTgs X.K X.mg ws g)
theorem PG.imp {X : Cx} {e : Expr} {t t' : TG} (h : PG X e t) (i : ∀ v σ H Q, t' v σ H Q → t v σ H Q) : PG X e t' := ⟨fun pins s σ H v u Q I r q => h.run pins s σ H v u Q I r (i v σ H Q q)⟩
theorem PGs.imp {X : Cx} {e : List Expr} {t t' : TGs} (h : PGs X e t) (i : ∀ v σ H Q, t' v σ H Q → t v σ H Q) : PGs X e t' := ⟨fun pins s σ H v u Q I r q => h.run pins s σ H v u Q I r (i v σ H Q q)⟩
theorem Off.refl (ws : List Nat) (σ : L2.St) : Off ws σ σ := ⟨rfl, fun _ _ => rfl⟩
theorem Off.trans {ws ws' : List Nat} {σ σ1 σ2 : L2.St} (a : Off ws σ σ1) (b : Off ws' σ1 σ2) : Off (ws ++ ws') σ σ2 :=
  ⟨b.1.trans a.1, fun j hj => (b.2 j fun z => hj (List.mem_append_right _ z)).trans (a.2 j fun z => hj (List.mem_append_left _ z))⟩
theorem rg_n (i : Nat) {x : Str} (hN : X.N.Nodup) (hi : X.N[i]? = some x := by rfl) (hx : Loc X.env.scope x := by first | exact .inl rfl | exact .inr rfl) (hf : X.fn x = true ∨ X.env.scope.names.lookup x = some .local := by first | exact .inl rfl | exact .inr rfl | assumption) : RTg X (.Name x pos) [i] (gN i) :=
  ⟨PG.imp (pg_name hN hi hx hf) fun v σ H Q h => by
    obtain ⟨μ, env, st, d, rs, re, r, env', st', e, q⟩ := h
    cases e
    exact q μ _ H ⟨by simp, fun j hj => List.getElem?_set_ne (fun z => hj (by simp [z]))⟩ (Ext.refl _ _) rs (re.set r i)⟩
theorem rg_nil : RTgs X [] [] gN0 := ⟨PGs.imp pgs_nil fun v σ H Q h => by
    obtain ⟨μ, env, st, d, rs, re, r, env', st', e, q⟩ := h
    cases r with
    | nil => cases e; exact ⟨rfl, q μ _ H (Off.refl _ _) (Ext.refl _ _) rs re⟩
    | cons _ _ => cases e⟩
theorem rg_cons {g : MTg} {r : MTgs} {ws ws' : List Nat} (h1 : RTg X e ws g) (h2 : RTgs X es ws' r) (hs : (assignEach (e :: es) X.env).map (·.2) = assign e X.env :: (assignEach es X.env).map (·.2) := by rfl) : RTgs X (e :: es) (ws ++ ws') (gC g r) :=
  ⟨PGs.imp (pgs_cons h1.pg h2.pgs hs) fun v σ H Q h => by
    obtain ⟨μ, env, st, ds, rs, re, rv, env', st', e, q⟩ := h
    cases rv with
    | nil => cases e
    | cons r1 r2 =>
      rename_i d v ds vs
      have e : (g d env st).bind (fun q => r ds q.1 q.2) = some (env', st') := e
      refine ⟨v, vs, rfl, ?_⟩
      cases eg : g d env st with
      | none => rw [eg] at e; cases e
      | some q1 =>
        obtain ⟨env1, st1⟩ := q1
        rw [eg] at e
        exact ⟨μ, env, st, d, rs, re, r1, env1, st1, eg, fun μ1 σ1 H1 of ex rs1 re1 => ⟨μ1, env1, st1, ds, rs1, re1, r2.mono ex rs.noTup, env', st', e, fun μ' σ' H' of' ex' rs' re' => q μ' σ' H' (of.trans of') (ex.trans ex') rs' re'⟩⟩⟩
theorem rg_tup {k : Nat} {n : Nat} {ws : List Nat} {g : MTgs} (hc : X.calm = true) (h : RTgs X es ws g) (hn : (assignEach es X.env).length = n := by rfl) (hst : (assignEach es X.env).findIdx? (·.1) = none := by rfl) : RTg X (.Tuple es k pos) ws (gT n g) :=
  ⟨PG.imp (pg_tup hc h.pgs hn hst) fun v σ H Q h => by
    obtain ⟨μ, env, st, d, rs, re, rv, env', st', e, q⟩ := h
    cases rv with
    | tup h1 h2 =>
      rename_i xs vs a
      have e : (if xs.length = n then g xs env st else none) = some (env', st') := e
      split at e
      · rename_i hl
        exact ⟨a, vs, rfl, h1, by rw [← h2.length]; exact hl, μ, env, st, xs, rs, re, h2, env', st', e, q⟩
      · cases e
    | _ => cases e⟩
theorem rg_sub {o i : Expr} (ho : RE X (fun _ _ _ _ => False) o mo) (hi : RE X (fun _ _ _ _ => False) i mi)
    (ha : ∀ v, assign (.Subscript o i pos) X.env v = (do
      let ov ← holding [v] (eval o X.env)
      let iv ← holding [v, ov] (eval i X.env)
      standAt pos
      holding [v, ov, iv] (setItem ov iv v)
      release [v, ov, iv] []) := by intro _; rfl) : RTg X (.Subscript o i pos) [] (gSubL mo mi) :=
  ⟨PG.imp (pg_sub ho.pe hi.pe set_list ha) fun v σ H Q h => by
    obtain ⟨μ, env, st, d, rs, re, rv, env', st', e, q⟩ := h
    unfold gSubL at e
    refine ⟨μ, env, st, rs, re, ?_⟩
    cases eo : mo env st with
    | fail => rw [eo] at e; cases e
    | exc x s => rw [eo] at e; cases e
    | ok x st1 =>
      rw [eo] at e
      intro μ1 ov H1 ex rs1 rx
      have re1 := re.mono ex rs.noTup
      refine ⟨μ1, env, st1, rs1, re1, ?_⟩
      have e : (mi env st1).get?.bind (fun y => (gSet x y.1 d y.2).map fun st3 => (env, st3)) = some (env', st') := e
      cases ei : mi env st1 with
      | fail => rw [ei] at e; cases e
      | exc x s => rw [ei] at e; cases e
      | ok y st2 =>
        rw [ei] at e
        intro μ2 iv H2 ex2 rs2 ry
        have e : (gSet x y d st2).map (fun st3 => (env, st3)) = some (env', st') := e
        have rx2 := rx.mono ex2 rs1.noTup
        have rv2 := (rv.mono ex rs.noTup).mono ex2 rs1.noTup
        have re2 := re1.mono ex2 rs1.noTup
        cases eg : gSet x y d st2 with
        | none => rw [eg] at e; cases e
        | some st3 =>
          rw [eg] at e
          cases e
          clear eo ei
          unfold gSet at eg
          split at eg
          · split at eg
            · rename_i xs hx
              cases rx2 with
              | loc hn =>
                cases ry
                cases ej : ixN xs.length _ with
                | none => rw [ej] at eg; cases eg
                | some j =>
                  rw [ej] at eg
                  cases eg
                  obtain ⟨vs, ea, rvs⟩ := cell_lst rs2 hn hx
                  refine ⟨_, vs, _, j, rfl, rfl, ea, by rw [← rvs.length]; exact ej, ?_⟩
                  have ew : Ext μ2 H2 μ2 (upd H2 _ (.lst (vs.set j v))) := Ext.write hn
                  exact q μ2 σ _ (Off.refl _ _) ((ex.trans ex2).trans ew) (rs2.write (List.getElem?_eq_some_iff.mp hx).1 hn ⟨_, upd_same, (rvs.set rv2 j).mono ew rs2.noTup⟩) (re2.mono ew rs2.noTup)
            · cases eg
          · cases eg⟩
theorem rs_asg {tg : Expr} {g : MTg} {ws : List Nat} (he : RE X E e m) (hg : RTg X tg ws g) (hs : swapsWithSole [tg] e pos.line X.env = pure false := by rfl) (hw : swappedStores [tg] e X.env = pure none := by rfl)
    (h1 : (assignEach [tg] X.env).map (·.2) = [assign tg X.env] := by rfl) : RSt X E (.Assign [tg] e pos) (sAsg m g) := ⟨PS.imp (ps_asg he.pe hg.pg hs hw h1) fun Dd σ H h => by
  obtain ⟨μ, env, st, rs, re, p⟩ := h
  refine tS_at rs re p fun μ1 st1 H1 d x ex rs re rx p => ?_
  refine ⟨μ1, env, st1, d, rs, re, rx, ?_⟩
  cases eg : g d env st1 with
  | none => rw [eg] at p; exact p.elim
  | some q =>
    obtain ⟨env', st'⟩ := q
    rw [eg] at p
    exact ⟨env', st', rfl, fun μ' σ' H' _ => p μ' σ' H'⟩⟩
/-- an item of a list, read by an op= -/
theorem pget_l : PGet X (r2M X.K X.mg gIxL) := by
  intro pins s σ H x y v u Q I rx ry q
  obtain ⟨μ, st, d1, d2, d, st', rs, r1, r2, e, q⟩ := q
  unfold gIxL at e
  split at e
  · rename_i n k
    split at e
    · rename_i xs hx
      split at e
      · rename_i hk
        cases ek : xs[k.toNat]? with
        | none => rw [ek] at e; cases e
        | some z =>
          rw [ek] at e
          cases e
          cases r1 with
          | loc hn =>
            cases r2
            obtain ⟨vs, ea, rvs⟩ := cell_lst rs hn hx
            obtain ⟨w, e1, e2⟩ := rvs.get ek
            cases rx
            obtain ⟨t, rfl⟩ := ry
            obtain ⟨its, rv, pl, hz⟩ := I.list (SqL.of ea)
            obtain ⟨u, hu, ru⟩ := rv.get e1
            have hl := rv.length
            have hlt := (List.getElem?_eq_some_iff.mp e1).1
            have h63 := line63
            exact wpAny_getItem_list (Q := fun r s' => EP X pins σ Q r s') pl.isList hk (by omega) (by simpa using hu) ⟨w, H, I, ru, q μ _ H (Ext.refl _ _) rs e2⟩
      · cases e
    · cases e
  · cases e
theorem pset_l : PSet X (fun o i v H Q => ∃ μ st d1 d2 d3 st', RelS X.K X.mg μ st H ∧ RepV X.K μ H d1 o ∧ RepV X.K μ H d2 i ∧ RepV X.K μ H d3 v ∧ gSet d1 d2 d3 st = some st' ∧ ∀ μ' H', Ext μ H μ' H' → RelS X.K X.mg μ' st' H' → Q H') := by
  intro pins s σ H o i v ov iv u Q I ro ri rv h
  obtain ⟨μ, st, d1, d2, d3, st', rs, r1, r2, r3, eg, q⟩ := h
  unfold gSet at eg
  split at eg
  · split at eg
    · rename_i k _ xs hx
      cases r1 with
      | loc hn =>
        cases r2
        cases ej : ixN xs.length k with
        | none => rw [ej] at eg; cases eg
        | some j =>
          rw [ej] at eg
          cases eg
          obtain ⟨vs, ea, rvs⟩ := cell_lst rs hn hx
          refine set_list pins s σ H _ _ v ov iv u Q I ro ri rv ⟨_, vs, _, j, rfl, rfl, ea, by rw [← rvs.length]; exact ej, ?_⟩
          have ew : Ext μ H μ (upd H _ (.lst (vs.set j v))) := Ext.write hn
          exact q μ _ ew (rs.write (List.getElem?_eq_some_iff.mp hx).1 hn ⟨_, upd_same, (rvs.set r3 j).mono ew rs.noTup⟩)
    · cases eg
  · cases eg
theorem rs_augS {o i e : Expr} {op : Operator} {g : P2} {me : ME} {tpos : Pos} (ho : RE X E o mo) (hi : RE X E i mi) (he : RE X E e me) (hp : OpR X (inplaceOp op) (r2M X.K X.mg g))
    (ha : ∀ ov iv new, augStore i ov iv new = (do holding [new, ov, iv] (setItem ov iv new); release [new, ov, iv] []; pure .next) := by intros; rfl) : RSt X E (.AugAssign (.Subscript o i tpos) op e pos) (sAugS mo mi me g) :=
  ⟨PS.imp (ps_augS ho.pe hi.pe pget_l he.pe hp pset_l ha) fun Dd σ H h => by
    obtain ⟨μ, env, st, rs, re, p⟩ := h
    refine tS_at rs re p fun μ1 st1 H1 x ov ex rs1 re1 rx p => ?_
    refine tS_at rs1 re1 p fun μ2 st2 H2 y iv ex2 rs2 re2 ry p => ?_
    cases eo : gIxL x y st2 with
    | none => rw [eo] at p; exact p.elim
    | some q =>
      obtain ⟨old, st3⟩ := q
      rw [eo] at p
      refine ⟨μ2, st2, x, y, old, st3, rs2, rx.mono ex2 rs1.noTup, ry, eo, fun μ3 v3 H3 ex3 rs3 r3 => ?_⟩
      refine tS_at rs3 (re2.mono ex3 rs2.noTup) (PostS.ext ex3 p) fun μ4 st4 H4 z zv ex4 rs4 re4 rz p => ?_
      cases eg : g old z st4 with
      | none => rw [eg] at p; exact p.elim
      | some q =>
        obtain ⟨new, st5⟩ := q
        rw [eg] at p
        refine ⟨μ4, st4, old, z, new, st5, rs4, r3.mono ex4 rs3.noTup, rz, eg, fun μ5 v5 H5 ex5 rs5 r5 => ?_⟩
        have p : PostS X.K X.mg E μ4 H4 Dd (match gSet x y new st5 with | some st6 => .nx env st6 | none => .fail) := p
        cases es : gSet x y new st5 with
        | none => rw [es] at p; exact p.elim
        | some st6 =>
          rw [es] at p
          have rx5 := (((rx.mono ex2 rs1.noTup).mono ex3 rs2.noTup).mono ex4 rs3.noTup).mono ex5 rs4.noTup
          have ry5 := ((ry.mono ex3 rs2.noTup).mono ex4 rs3.noTup).mono ex5 rs4.noTup
          refine ⟨μ5, st5, x, y, new, st6, rs5, rx5, ry5, r5, es, fun μ6 H6 ex6 rs6 => ?_⟩
          exact p μ6 σ H6 (ex5.trans ex6) rs6 ((re4.mono ex5 rs4.noTup).mono ex6 rs5.noTup)⟩
theorem rs_while {c : Expr} {t : MT} {body : List Stmt} (hp : PassesOwn (model X.prog X.w) X.A X.env X.xe) (hc : RT X E c t) (hb : RSs X E body b) : RSt X E (.While c body [] pos) (sWhile t b) := ⟨PS.imp (ps_while hp hc.pt hb.pss) fun Dd σ H h => by
  obtain ⟨μ, env, st, rs, re, p⟩ := h
  obtain ⟨n0, en⟩ := sWhile_n t b env st
  rw [en] at p
  refine ⟨fun n σ' H' => ∃ μ' env' st', RelS X.K X.mg μ' st' H' ∧ RelE X.K μ' H' env' σ' ∧ PostS X.K X.mg E μ' H' Dd (whN t b n env' st'), ⟨n0, μ, env, st, rs, re, p⟩, ?_⟩
  rintro n σ1 H1 ⟨μ1, env1, st1, rs1, re1, p1⟩
  cases n with
  | zero => exact p1.elim
  | succ n =>
    refine tS_at rs1 re1 p1 fun μ2 st2 H2 d x ex rs2 re2 rx p => ?_
    subst rx
    cases d with
    | true =>
      rw [if_pos rfl] at p ⊢
      refine ⟨fun σ' H' => ∃ μ' env' st', RelS X.K X.mg μ' st' H' ∧ RelE X.K μ' H' env' σ' ∧ PostS X.K X.mg E μ' H' Dd (whN t b n env' st'), fun σ' H' q => ⟨n, Nat.lt_succ_self n, q⟩, ?_⟩
      refine ⟨μ2, env1, st2, rs2, re2, ?_⟩
      cases eb : b env1 st2 with
      | nx env' st' => rw [eb] at p; exact fun μ' σ' H' ex rs re => ⟨μ', env', st', rs, re, PostS.ext ex p⟩
      | cnt env' st' => rw [eb] at p; exact fun μ' σ' H' ex rs re => ⟨μ', env', st', rs, re, PostS.ext ex p⟩
      | brk env' st' => rw [eb] at p; exact p
      | ret d st' => rw [eb] at p; exact p
      | exc x env' st' => rw [eb] at p; exact p
      | fail => rw [eb] at p; exact p.elim
    | false =>
      rw [if_neg Bool.false_ne_true] at p ⊢
      exact p μ2 σ1 H2 (Ext.refl _ _) rs2 re2⟩
end
end DL
set_option Elab.async false
set_option linter.all false
set_option maxRecDepth 100000
/-! DL6: what is walked; for; comprehensions -/
namespace DL
open PySem L2

/-- how an iterator gives the items xs, while gd stands -/
structure ItOk (K : PySem.W.Frag) (mg : MG) (J : It) (μ1 : List Addr) (H1 : Hp) (xs : List D) (gd : S → Prop) : Prop where
  go : ∀ i μ' st' H', Ext μ1 H1 μ' H' → RelS K mg μ' st' H' → gd st' → i < xs.length → J.go i H'
  stop : ∀ μ' st' H', Ext μ1 H1 μ' H' → RelS K mg μ' st' H' → gd st' → J.stop xs.length H'
  yld : ∀ i μ' st' H' x H'', Ext μ1 H1 μ' H' → RelS K mg μ' st' H' → gd st' → i < xs.length → J.yld i H' x H'' → ∃ d, xs[i]? = some d ∧ Ext μ' H' μ' H'' ∧ RelS K mg μ' st' H'' ∧ RepV K μ' H'' d x
abbrev MI := Ev → S → R (List D × (S → Prop))
def tI (K : PySem.W.Frag) (mg : MG) (E : WX) (m : MI) : TI := fun σ H Rr => ∃ μ env st, RelS K mg μ st H ∧ RelE K μ H env σ ∧ match m env st with
  | .ok q st1 => ∀ μ1 H1 J, Ext μ H μ1 H1 → RelS K mg μ1 st1 H1 → q.2 st1 → ItOk K mg J μ1 H1 q.1 q.2 → Rr J H1
  | .exc x st1 => ExcP K mg E σ μ H x st1
  | .fail => False
structure RI (X : Cx) (E : WX) (tg iter : Expr) (m : MI) : Prop where
  pi : PI X tg iter (tI X.K X.mg E m)
theorem PI.imp {X : Cx} {tg e : Expr} {t t' : TI} (h : PI X tg e t) (i : ∀ σ H Q, t' σ H Q → t σ H Q) : PI X tg e t' := ⟨fun pins s σ H R I q => h.run pins s σ H R I (i σ H R q)⟩
theorem PI.or {X : Cx} {tg e : Expr} {t t' : TI} (h : PI X tg e t) (h' : PI X tg e t') : PI X tg e (fun σ H Q => t σ H Q ∨ t' σ H Q) := ⟨fun pins s σ H R I q => q.elim (h.run pins s σ H R I) (h'.run pins s σ H R I)⟩

/-- the signs of a text -/
def signsOf (z : Str) : List D := z.cps.toList.map fun c => .str ⟨#[c]⟩
def iSeq (m : ME) : MI := fun env st => (m env st).bind fun x st1 => match x with
  | .tup xs => .ok (xs, fun _ => True) st1
  | .str z => .ok (signsOf z, fun _ => True) st1
  | .loc n => match st1[n]? with
    | some (.lst xs) => .ok (xs, fun s => s[n]? = some (.lst xs)) st1
    | _ => .fail
  | _ => .fail
def rngD (lo hi : Int) : List D := (List.range (hi - lo).toNat).map fun (i : Nat) => D.int (lo + (i : Int))
def iR1 (m : ME) : MI := fun env st => (m env st).bind fun x st1 => onI x fun j => if -(2 ^ 62) ≤ j ∧ j < 2 ^ 62 then .ok (rngD 0 j, fun _ => True) st1 else .fail
def iR2 (m m2 : ME) : MI := fun env st => (m env st).bind fun x st1 => (m2 env st1).bind fun y st2 => onI x fun i => onI y fun j => if -(2 ^ 62) ≤ i ∧ i < 2 ^ 62 ∧ -(2 ^ 62) ≤ j ∧ j < 2 ^ 62 then .ok (rngD i j, fun _ => True) st2 else .fail
/-- zip of two tuples or two lists -/
def zipD (xs ys : List D) : List D := (xs.zip ys).map fun p => .tup [p.1, p.2]
def iZip (m m2 : ME) : MI := fun env st => (m env st).bind fun x st1 => (m2 env st1).bind fun y st2 => match x, y with
  | .tup xs, .tup ys => .ok (zipD xs ys, fun _ => True) st2
  | .loc n, .loc k => match st2[n]?, st2[k]? with
    | some (.lst xs), some (.lst ys) => .ok (zipD xs ys, fun s => s[n]? = some (.lst xs) ∧ s[k]? = some (.lst ys)) st2
    | _, _ => .fail
  | _, _ => .fail

/-! ### the loops -/
open Classical in
noncomputable def forL (gd : S → Prop) (g : MTg) (b : MS) : List D → MS
  | [] => fun env st => .nx env st
  | d :: ds => fun env st => match g d env st with
    | none => .fail
    | some q => match b q.1 q.2 with
      | .nx env' st' => if gd st' then forL gd g b ds env' st' else .fail
      | .cnt env' st' => if gd st' then forL gd g b ds env' st' else .fail
      | .brk env' st' => .nx env' st'
      | r => r
noncomputable def sFor (it : MI) (g : MTg) (b : MS) : MS := fun env st => (it env st).toS env fun q st1 => forL q.2 g b q.1 env st1
def wipeE (env : Ev) : List Nat → Ev
  | [] => env
  | v :: vs => (wipeE env vs).set v none
open Classical in
noncomputable def lcL (gd : S → Prop) (g : MTg) (t : MT) (e : ME) (env : Ev) : List D → S → Option (List D × S)
  | [], st => some ([], st)
  | d :: ds, st => (g d env st).bind fun q => (t q.1 q.2).get?.bind fun c =>
    if c.1 = true then (e q.1 c.2).get?.bind fun y => if gd y.2 then (lcL gd g t e env ds y.2).map fun z => (y.1 :: z.1, z.2) else none
    else if gd c.2 then lcL gd g t e env ds c.2 else none
/-- [e for g in it if t], the own slots vs -/
noncomputable def eLc (it : MI) (vs : List Nat) (g : MTg) (t : MT) (e : ME) : ME := fun env st => (it env st).bind fun q st1 => match lcL q.2 g t e (wipeE env vs) q.1 st1 with
  | some z => if z.1.length ≤ sizeLine then .ok (.loc z.2.length) (z.2 ++ [.lst z.1]) else .fail
  | none => .fail
def tYes' : MT := fun _ st => .ok true st

section
variable {K : PySem.W.Frag} {mg : MG} {E : WX} {μ μ1 : List Addr} {H H1 : Hp} {σ : L2.St}
theorem itok_list {n : Nat} {a : Addr} {xs : List D} (hn : μ1[n]? = some a) : ItOk K mg (Itl K a) μ1 H1 xs (fun s => s[n]? = some (.lst xs)) := by
  refine ⟨fun i μ' st' H' ex rs g hi => ?_, fun μ' st' H' ex rs g => ?_, fun i μ' st' H' x H'' ex rs g hi y => ?_⟩
  · obtain ⟨vs, e, r⟩ := cell_lst rs (ex.at hn) g
    have hi' : i < vs.length := by rw [← r.length]; exact hi
    exact ⟨vs, vs[i], SqL.of e, by simp [hi']⟩
  · obtain ⟨vs, e, r⟩ := cell_lst rs (ex.at hn) g
    exact ⟨vs, SqL.of e, by rw [r.length]; exact Nat.le_refl _⟩
  · obtain ⟨vs, e, r⟩ := cell_lst rs (ex.at hn) g
    obtain ⟨rfl, hy⟩ := y
    have hx := hy vs (SqL.of e)
    have hd : xs[i]? = some xs[i] := by simp [hi]
    obtain ⟨w, e1, e2⟩ := r.get hd
    rw [hx] at e1; cases e1
    exact ⟨_, hd, Ext.refl _ _, rs, e2⟩
theorem itok_tup {a : Addr} {xs : List D} {vs : List V} (nt : NoTup μ1 H1) (h : SqT K H1 a vs) (r : RepVs K μ1 H1 xs vs) : ItOk K mg (Itt K a) μ1 H1 xs (fun _ => True) := by
  refine ⟨fun i μ' st' H' ex rs g hi => ?_, fun μ' st' H' ex rs g => ?_, fun i μ' st' H' x H'' ex rs g hi y => ?_⟩
  · have hi' : i < vs.length := by rw [← r.length]; exact hi
    exact ⟨vs, vs[i], ex.sqT nt h, by simp [hi']⟩
  · exact ⟨vs, ex.sqT nt h, by rw [r.length]; exact Nat.le_refl _⟩
  · obtain ⟨rfl, hy⟩ := y
    have hx := hy vs (ex.sqT nt h)
    have hd : xs[i]? = some xs[i] := by simp [hi]
    obtain ⟨w, e1, e2⟩ := (r.mono ex nt).get hd
    rw [hx] at e1; cases e1
    exact ⟨_, hd, Ext.refl _ _, rs, e2⟩
theorem itok_str {z : Str} : ItOk K mg (Its z) μ1 H1 (signsOf z) (fun _ => True) := by
  have hl : (signsOf z).length = z.cps.size := by simp [signsOf]
  refine ⟨fun i μ' st' H' ex rs g hi => ?_, fun μ' st' H' ex rs g => ?_, fun i μ' st' H' x H'' ex rs g hi y => ?_⟩
  · rw [hl] at hi; exact hi
  · rw [hl]; exact Nat.le_refl _
  · obtain ⟨rfl, c, hc, rfl⟩ := y
    exact ⟨.str ⟨#[c]⟩, by simp [signsOf, hc], Ext.refl _ _, rs, .str _⟩
theorem itok_rng {lo hi : Int} : ItOk K mg (Itr lo (hi - lo).toNat) μ1 H1 (rngD lo hi) (fun _ => True) := by
  have hl : (rngD lo hi).length = (hi - lo).toNat := by simp [rngD]
  refine ⟨fun i μ' st' H' ex rs g h => ?_, fun μ' st' H' ex rs g => ?_, fun i μ' st' H' x H'' ex rs g h y => ?_⟩
  · rw [hl] at h; exact h
  · rw [hl]; exact Nat.le_refl _
  · obtain ⟨rfl, rfl⟩ := y
    rw [hl] at h
    exact ⟨.int (lo + (i : Int)), by simp [rngD, h], Ext.refl _ _, rs, .int _⟩
theorem yld_pair {μ' : List Addr} {st' : S} {H' H'' : Hp} {T : Addr} {x y : V} {d e : D} (rs : RelS K mg μ' st' H') (hT : H' T = none) (rd : RepV K μ' H' d x) (re : RepV K μ' H' e y) (h : H'' = upd H' T (.tup [x, y])) :
    Ext μ' H' μ' H'' ∧ RelS K mg μ' st' H'' ∧ RepV K μ' H'' (.tup [d, e]) (.ref T) := by
  subst h
  have ex : Ext μ' H' μ' (upd H' T (.tup [x, y])) := Ext.new1 hT
  exact ⟨ex, rs.new1 hT, .tup (SqT.of upd_same) (.cons (rd.mono ex rs.noTup) (.cons (re.mono ex rs.noTup) .nil))⟩
theorem itok_zipL {n k : Nat} {a b : Addr} {xs ys : List D} (hn : μ1[n]? = some a) (hk : μ1[k]? = some b) : ItOk K mg (Itz K a b) μ1 H1 (zipD xs ys) (fun s => s[n]? = some (.lst xs) ∧ s[k]? = some (.lst ys)) := by
  have hl : (zipD xs ys).length = min xs.length ys.length := by simp [zipD]
  refine ⟨fun i μ' st' H' ex rs g h => ?_, fun μ' st' H' ex rs g => ?_, fun i μ' st' H' x H'' ex rs g h y => ?_⟩
  · obtain ⟨vs, e, r⟩ := cell_lst rs (ex.at hn) g.1
    obtain ⟨ws, e', r'⟩ := cell_lst rs (ex.at hk) g.2
    rw [hl] at h
    have h1 : i < vs.length := by rw [← r.length]; omega
    have h2 : i < ws.length := by rw [← r'.length]; omega
    exact ⟨vs, ws, vs[i], ws[i], SqL.of e, SqL.of e', by simp [h1], by simp [h2]⟩
  · obtain ⟨vs, e, r⟩ := cell_lst rs (ex.at hn) g.1
    obtain ⟨ws, e', r'⟩ := cell_lst rs (ex.at hk) g.2
    rw [hl]
    have := r.length
    have := r'.length
    exact ⟨vs, ws, SqL.of e, SqL.of e', by omega⟩
  · obtain ⟨vs, e, r⟩ := cell_lst rs (ex.at hn) g.1
    obtain ⟨ws, e', r'⟩ := cell_lst rs (ex.at hk) g.2
    obtain ⟨T, v, w, rfl, hT, hH, f1, f2⟩ := y
    rw [hl] at h
    have hx : xs[i]? = some xs[i] := by simp [show i < xs.length by omega]
    have hy : ys[i]? = some ys[i] := by simp [show i < ys.length by omega]
    obtain ⟨v', e1, e2⟩ := r.get hx
    obtain ⟨w', e3, e4⟩ := r'.get hy
    rw [f1 vs (SqL.of e)] at e1; cases e1
    rw [f2 ws (SqL.of e')] at e3; cases e3
    obtain ⟨q1, q2, q3⟩ := yld_pair rs hT e2 e4 hH
    have hi1 : i < xs.length := by omega
    have hi2 : i < ys.length := by omega
    refine ⟨_, ?_, q1, q2, q3⟩
    simp [zipD, List.getElem?_zip_eq_some, hi1, hi2]
theorem itok_zipT {a b : Addr} {xs ys : List D} {vs ws : List V} (nt : NoTup μ1 H1) (e : SqT K H1 a vs) (r : RepVs K μ1 H1 xs vs) (e' : SqT K H1 b ws) (r' : RepVs K μ1 H1 ys ws) : ItOk K mg (RZ.ItzT K a b) μ1 H1 (zipD xs ys) (fun _ => True) := by
  have hl : (zipD xs ys).length = min xs.length ys.length := by simp [zipD]
  have l1 := r.length
  have l2 := r'.length
  refine ⟨fun i μ' st' H' ex rs g h => ?_, fun μ' st' H' ex rs g => ?_, fun i μ' st' H' x H'' ex rs g h y => ?_⟩
  · rw [hl] at h
    have h1 : i < vs.length := by omega
    have h2 : i < ws.length := by omega
    exact ⟨vs, ws, vs[i], ws[i], ex.sqT nt e, ex.sqT nt e', by simp [h1], by simp [h2]⟩
  · rw [hl]
    exact ⟨vs, ws, ex.sqT nt e, ex.sqT nt e', by omega⟩
  · obtain ⟨T, v, w, rfl, hT, hH, f1, f2⟩ := y
    rw [hl] at h
    have hx : xs[i]? = some xs[i] := by simp [show i < xs.length by omega]
    have hy : ys[i]? = some ys[i] := by simp [show i < ys.length by omega]
    obtain ⟨v', e1, e2⟩ := (r.mono ex nt).get hx
    obtain ⟨w', e3, e4⟩ := (r'.mono ex nt).get hy
    rw [f1 vs (ex.sqT nt e)] at e1; cases e1
    rw [f2 ws (ex.sqT nt e')] at e3; cases e3
    obtain ⟨q1, q2, q3⟩ := yld_pair rs hT e2 e4 hH
    have hi1 : i < xs.length := by omega
    have hi2 : i < ys.length := by omega
    refine ⟨_, ?_, q1, q2, q3⟩
    simp [zipD, List.getElem?_zip_eq_some, hi1, hi2]
end

section
variable {X : Cx} {E : WX} {tg e e2 : Expr} {m m2 : ME} {pos : Pos}
theorem ri_seq (he : RE X E e m) : RI X E tg e (iSeq m) := ⟨PI.imp (PI.or (pi_tup he.pe) (PI.or (pi_list he.pe) (pi_str he.pe))) fun σ H Rr h => by
  obtain ⟨μ, env, st, rs, re, p⟩ := h
  unfold iSeq at p
  cases em : m env st with
  | fail => rw [em] at p; exact p.elim
  | exc x st1 => rw [em] at p; exact .inl ⟨μ, env, st, rs, re, by rw [em]; exact p⟩
  | ok x st1 =>
    rw [em] at p
    cases x with
    | tup xs =>
      refine .inl ⟨μ, env, st, rs, re, ?_⟩
      rw [em]
      intro μ1 v H1 ex rs1 rv
      cases rv with
      | tup h1 h2 => exact ⟨_, rfl, ⟨_, h1⟩, p μ1 H1 _ ex rs1 trivial (itok_tup rs1.noTup h1 h2)⟩
    | str z =>
      refine .inr (.inr ⟨μ, env, st, rs, re, ?_⟩)
      rw [em]
      intro μ1 v H1 ex rs1 rv
      cases rv
      exact ⟨_, rfl, p μ1 H1 _ ex rs1 trivial itok_str⟩
    | loc n =>
      refine .inr (.inl ⟨μ, env, st, rs, re, ?_⟩)
      rw [em]
      intro μ1 v H1 ex rs1 rv
      cases rv with
      | loc hn =>
        refine ⟨_, rfl, ?_⟩
        cases en : st1[n]? with
        | none => simp [R.bind, en] at p
        | some c =>
          cases c with
          | lst xs =>
            dsimp only [R.bind] at p
            rw [en] at p
            obtain ⟨vs, e, r⟩ := cell_lst rs1 hn en
            exact ⟨⟨vs, SqL.of e⟩, p μ1 H1 _ ex rs1 en (itok_list hn)⟩
          | _ => simp [R.bind, en] at p
    | _ => exact p.elim⟩
theorem ri_r1 {p : Pos} (hg : Gl X "range") (hm : X.mg "range" = none) (he : RE X E e m) (hs : starEach [e] X.env = [(false, eval e X.env)] := by rfl) (hs' : starEach [e] X.env = (false, eval e X.env) :: starEach [] X.env := by rfl) : RI X E tg (.Call (.Name "range" p) [e] [] pos) (iR1 m) :=
  ⟨PI.imp (pi_range1 hg hm (pa_cons he.pe pa_nil hs') hs) fun σ H Rr h => by
    obtain ⟨μ, env, st, rs, re, p⟩ := h
    unfold iR1 at p
    refine ⟨μ, env, st, rs, re, ?_⟩
    cases em : m env st with
    | fail => rw [em] at p; exact p.elim
    | exc x st1 => rw [em] at p; exact p
    | ok x st1 =>
      rw [em] at p
      intro μ1 v H1 ex rs1 rv
      cases rv with
      | int j =>
        by_cases hj : -(2 ^ 62) ≤ j ∧ j < 2 ^ 62
        · simp only [R.bind, onI, if_pos hj] at p
          refine ⟨j, rfl, hj.1, hj.2, ?_⟩
          have z := p μ1 H1 (Itr 0 (j - 0).toNat) ex rs1 trivial itok_rng
          rw [Int.sub_zero] at z
          exact z
        · simp only [R.bind, onI, if_neg hj] at p
      | _ => exact p.elim⟩
theorem ri_r2 {p : Pos} (hg : Gl X "range") (hm : X.mg "range" = none) (he : RE X E e m) (he2 : RE X E e2 m2) (hs : starEach [e, e2] X.env = [(false, eval e X.env), (false, eval e2 X.env)] := by rfl) (hs2 : starEach [e2] X.env = [(false, eval e2 X.env)] := by rfl)
    (hs3 : starEach [e, e2] X.env = (false, eval e X.env) :: starEach [e2] X.env := by rfl) (hs4 : starEach [e2] X.env = (false, eval e2 X.env) :: starEach [] X.env := by rfl) : RI X E tg (.Call (.Name "range" p) [e, e2] [] pos) (iR2 m m2) :=
  ⟨PI.imp (pi_range2 hg hm (pa_cons he.pe (pa_cons he2.pe pa_nil hs4) hs3) hs hs2) fun σ H Rr h => by
    obtain ⟨μ, env, st, rs, re, p⟩ := h
    unfold iR2 at p
    refine ⟨μ, env, st, rs, re, ?_⟩
    cases em : m env st with
    | fail => rw [em] at p; exact p.elim
    | exc x st1 => rw [em] at p; exact p
    | ok x st1 =>
      rw [em] at p
      intro μ1 v H1 ex rs1 rv
      refine ⟨μ1, env, st1, rs1, re.mono ex rs.noTup, ?_⟩
      cases em2 : m2 env st1 with
      | fail => simp only [R.bind, em2] at p
      | exc y st2 => simp only [R.bind, em2] at p; exact ExcP.ext ex p
      | ok y st2 =>
        simp only [R.bind, em2] at p
        intro μ2 w H2 ex2 rs2 rw'
        have rv2 := rv.mono ex2 rs1.noTup
        cases rv with
        | int i =>
          cases rw' with
          | int j =>
            by_cases hj : -(2 ^ 62) ≤ i ∧ i < 2 ^ 62 ∧ -(2 ^ 62) ≤ j ∧ j < 2 ^ 62
            · simp only [onI, if_pos hj] at p
              exact ⟨i, j, rfl, hj, p μ2 H2 _ (ex.trans ex2) rs2 trivial itok_rng⟩
            · simp only [onI, if_neg hj] at p
          | _ => exact p.elim
        | _ => exact p.elim⟩
theorem ri_zip {p tpos : Pos} {elts : List Expr} {kk : Nat} (hg : Gl X "zip") (hm : X.mg "zip" = none) (he : RE X E e m) (he2 : RE X E e2 m2) (hs : starEach [e, e2] X.env = (false, eval e X.env) :: starEach [e2] X.env := by rfl) (hpl : (backTo pos (starEach [e2] X.env)).any (·.1) = false := by rfl)
    (hs4 : starEach [e2] X.env = (false, eval e2 X.env) :: starEach [] X.env := by rfl) : RI X E (.Tuple elts kk tpos) (.Call (.Name "zip" p) [e, e2] [] pos) (iZip m m2) :=
  ⟨PI.imp (RZ.pi_zipA hg hm (pa_cons he.pe (pa_cons he2.pe pa_nil hs4) hs) hs hpl) fun σ H Rr h => by
    obtain ⟨μ, env, st, rs, re, p⟩ := h
    unfold iZip at p
    refine ⟨μ, env, st, rs, re, ?_⟩
    cases em : m env st with
    | fail => rw [em] at p; exact p.elim
    | exc x st1 => rw [em] at p; exact p
    | ok x st1 =>
      rw [em] at p
      intro μ1 v H1 ex rs1 rv
      refine ⟨μ1, env, st1, rs1, re.mono ex rs.noTup, ?_⟩
      cases em2 : m2 env st1 with
      | fail => simp only [R.bind, em2] at p
      | exc y st2 => simp only [R.bind, em2] at p; exact ExcP.ext ex p
      | ok y st2 =>
        simp only [R.bind, em2] at p
        intro μ2 w H2 ex2 rs2 rw'
        have rv2 := rv.mono ex2 rs1.noTup
        clear rv
        cases rv2 with
        | tup h1 h2 =>
          cases rw' with
          | tup h3 h4 => exact ⟨_, _, _, _, rfl, .inr ⟨h1, h3, p μ2 H2 _ (ex.trans ex2) rs2 trivial (itok_zipT rs2.noTup h1 h2 h3 h4)⟩⟩
          | _ => exact p.elim
        | @loc n a hn =>
          cases rw' with
          | @loc k b hk =>
            dsimp only at p
            cases en : st2[n]? with
            | none => simp [en] at p
            | some c =>
              cases ek : st2[k]? with
              | none => simp [en, ek] at p
              | some c2 =>
                cases c with
                | lst xs =>
                  cases c2 with
                  | lst ys =>
                    rw [en, ek] at p
                    obtain ⟨vs, e1, r1⟩ := cell_lst rs2 hn en
                    obtain ⟨ws, e2, r2⟩ := cell_lst rs2 hk ek
                    exact ⟨_, _, vs, ws, rfl, .inl ⟨SqL.of e1, SqL.of e2, p μ2 H2 _ (ex.trans ex2) rs2 ⟨en, ek⟩ (itok_zipL hn hk)⟩⟩
                  | _ => simp [en, ek] at p
                | _ => simp [en, ek] at p
          | _ => exact p.elim
        | _ => exact p.elim⟩

open Classical in
theorem rs_for {iter : Expr} {body : List Stmt} {it : MI} {g : MTg} {b : MS} {ws : List Nat} (hp : PassesOwn (model X.prog X.w) X.A X.env X.xe) (hc : X.calm = true) (hi : RI X E tg iter it) (hg : RTg X tg ws g) (hb : RSs X E body b)
    (hs : ∀ x, foldedSetIterable iter X.env x = pure x := by intro _; rfl) : RSt X E (.For tg iter body [] pos) (sFor it g b) := ⟨PS.imp (ps_for hp hc hi.pi hg.pg hb.pss hs) fun Dd σ H h => by
  obtain ⟨μ, env, st, rs, re, p⟩ := h
  unfold sFor at p
  refine ⟨μ, env, st, rs, re, ?_⟩
  cases ei : it env st with
  | fail => rw [ei] at p; exact p.elim
  | exc x st1 =>
    rw [ei] at p
    exact fun μ' H' C d ex rs1 hm hd => p μ' σ H' C d ex rs1 (re.mono ex rs.noTup) hm hd
  | ok q st1 =>
    rw [ei] at p
    obtain ⟨xs, gd⟩ := q
    intro μ1 H1 J ex rs1 g1 ok
    have p : PostS X.K X.mg E μ H Dd (forL gd g b xs env st1) := p
    refine ⟨fun i k σ' H' => k = xs.length - i ∧ i ≤ xs.length ∧ ∃ μ' env' st', Ext μ1 H1 μ' H' ∧ RelS X.K X.mg μ' st' H' ∧ RelE X.K μ' H' env' σ' ∧ gd st' ∧ PostS X.K X.mg E μ' H' Dd (forL gd g b (xs.drop i) env' st'),
      ⟨_, rfl, Nat.zero_le _, μ1, env, st1, Ext.refl _ _, rs1, re.mono ex rs.noTup, g1, PostS.ext ex p⟩, ?_⟩
    rintro i k σ1 H2 ⟨rfl, hi', μ2, env2, st2, ex2, rs2, re2, g2, p2⟩
    by_cases hlt : i < xs.length
    · refine .inr ⟨ok.go i μ2 st2 H2 ex2 rs2 g2 hlt, fun σ' H' => ∃ μ' env' st', Ext μ1 H1 μ' H' ∧ RelS X.K X.mg μ' st' H' ∧ RelE X.K μ' H' env' σ' ∧ gd st' ∧ PostS X.K X.mg E μ' H' Dd (forL gd g b (xs.drop (i + 1)) env' st'), fun σ' H' q => ⟨_, by omega, rfl, hlt, q⟩, fun x H3 y => ?_⟩
      obtain ⟨d, hd, ex3, rs3, rx⟩ := ok.yld i μ2 st2 H2 x H3 ex2 rs2 g2 hlt y
      have hdrop : xs.drop i = d :: xs.drop (i + 1) := by
        rw [List.drop_eq_getElem_cons hlt]
        congr 1
        have := List.getElem?_eq_getElem hlt
        rw [this] at hd
        exact Option.some.inj hd
      rw [hdrop] at p2
      have p3 := PostS.ext ex3 p2
      have re3 := re2.mono ex3 rs2.noTup
      refine ⟨μ2, env2, st2, d, rs3, re3, rx, ?_⟩
      have p3 : PostS X.K X.mg E μ2 H3 Dd (match g d env2 st2 with
        | none => .fail
        | some q => match b q.1 q.2 with
          | .nx env' st' => if gd st' then forL gd g b (xs.drop (i + 1)) env' st' else .fail
          | .cnt env' st' => if gd st' then forL gd g b (xs.drop (i + 1)) env' st' else .fail
          | .brk env' st' => .nx env' st'
          | r => r) := p3
      cases eg : g d env2 st2 with
      | none => rw [eg] at p3; exact p3.elim
      | some q =>
        obtain ⟨env4, st4⟩ := q
        rw [eg] at p3
        refine ⟨env4, st4, rfl, fun μ4 σ4 H4 _ ex4 rs4 re4 => ⟨μ4, env4, st4, rs4, re4, ?_⟩⟩
        have p4 := PostS.ext ex4 p3
        have exx : Ext μ1 H1 μ4 H4 := (ex2.trans ex3).trans ex4
        dsimp only at p4
        cases eb : b env4 st4 with
        | nx env' st' =>
          simp only [eb] at p4
          by_cases hgd : gd st'
          · rw [if_pos hgd] at p4
            exact fun μ' σ' H' ex' rs' re' => ⟨μ', env', st', exx.trans ex', rs', re', hgd, PostS.ext ex' p4⟩
          · rw [if_neg hgd] at p4; exact p4.elim
        | cnt env' st' =>
          simp only [eb] at p4
          by_cases hgd : gd st'
          · rw [if_pos hgd] at p4
            exact fun μ' σ' H' ex' rs' re' => ⟨μ', env', st', exx.trans ex', rs', re', hgd, PostS.ext ex' p4⟩
          · rw [if_neg hgd] at p4; exact p4.elim
        | brk env' st' => simp only [eb] at p4; exact p4
        | ret d st' => simp only [eb] at p4; exact p4
        | exc x env' st' => simp only [eb] at p4; exact p4
        | fail => simp only [eb] at p4; exact p4.elim
    · have hi2 : i = xs.length := by omega
      subst hi2
      refine .inl ⟨ok.stop μ2 st2 H2 ex2 rs2 g2, ?_⟩
      rw [List.drop_length] at p2
      exact p2 μ2 σ1 H2 (Ext.refl _ _) rs2 re2⟩
end

/-! ### comprehensions -/
section
variable {K : PySem.W.Frag} {mg : MG} {μ μ' μ1 : List Addr} {H H' H1 : Hp} {σ : L2.St}
mutual
theorem RepV.gen (ap : ∀ (n : Nat) (a : Addr), μ[n]? = some a → μ'[n]? = some a) (k : ∀ a o, isCell o = false → H a = some o → H' a = some o) : ∀ {d : D} {v : V}, RepV K μ H d v → RepV K μ' H' d v
  | .non, _, h => by cases h; exact .non
  | .bl _, _, h => by cases h; exact .bl _
  | .int _, _, h => by cases h; exact .int _
  | .str _, _, h => by cases h; exact .str _
  | .tup xs, _, h => by
    cases h with
    | tup h1 h2 =>
      refine .tup ?_ (RepVs.gen ap k h2)
      rcases h1 with (h1 | ⟨o, h1⟩) | h1
      · exact .inl (.inl (k _ _ rfl h1))
      · exact .inl (.inr ⟨o, k _ _ rfl h1⟩)
      · exact .inr h1
  | .loc _, _, h => by cases h with | loc h1 => exact .loc (ap _ _ h1)
  | .fro ns, _, h => by
    cases h with
    | fro h1 =>
      rcases h1 with ⟨o, h1⟩ | h1
      · exact .fro (.inl ⟨o, k _ _ rfl h1⟩)
      · exact .fro (.inr h1)
  | .exo _ _ _ xs, _, h => by cases h with | exo h1 h2 => exact .exo (k _ _ rfl h1) (RepVs.gen ap k h2)
theorem RepVs.gen (ap : ∀ (n : Nat) (a : Addr), μ[n]? = some a → μ'[n]? = some a) (k : ∀ a o, isCell o = false → H a = some o → H' a = some o) : ∀ {ds : List D} {vs : List V}, RepVs K μ H ds vs → RepVs K μ' H' ds vs
  | [], _, h => by cases h; exact .nil
  | d :: ds, _, h => by cases h with | cons h1 h2 => exact .cons (RepV.gen ap k h1) (RepVs.gen ap k h2)
end
theorem RepF.gen (ap : ∀ (n : Nat) (a : Addr), μ[n]? = some a → μ'[n]? = some a) (k : ∀ a o, isCell o = false → H a = some o → H' a = some o) {fs : List (Str × D)} {gs : List (Str × V)} (h : RepF K μ H fs gs) : RepF K μ' H' fs gs := by
  induction h with
  | nil => exact .nil
  | cons h1 _ ih => exact .cons (h1.gen ap k) ih
theorem RepK.gen (ap : ∀ (n : Nat) (a : Addr), μ[n]? = some a → μ'[n]? = some a) (k : ∀ a o, isCell o = false → H a = some o → H' a = some o) {fs : List (D × D)} {gs : List (Key × V)} (h : RepK K μ H fs gs) : RepK K μ' H' fs gs := by
  induction h with
  | nil => exact .nil
  | cons h1 _ ih => exact .cons (h1.gen ap k) ih
/-- a list outside the store is rewritten -/
theorem keep_out {Da : Addr} {xs ys : List V} (h : H Da = some (.lst xs)) : ∀ a o, isCell o = false → H a = some o → upd H Da (.lst ys) a = some o := fun a o ho e => by
  rw [upd_ne (fun z => by subst z; rw [h] at e; cases e; cases ho)]; exact e
theorem RelS.out {st : S} {Da : Addr} {xs ys : List V} (rs : RelS K mg μ st H) (hD : Da ∉ μ) (h : H Da = some (.lst xs)) : RelS K mg μ st (upd H Da (.lst ys)) := by
  have k := keep_out (ys := ys) h
  refine ⟨rs.len, rs.nd, fun n c a h1 h2 => ?_⟩
  have hne : a ≠ Da := fun z => hD (by rw [← z]; exact List.mem_of_getElem? h2)
  have rc := rs.at_ n c a h1 h2
  cases c with
  | lst xs => obtain ⟨vs, e, r⟩ := rc; exact ⟨vs, by rw [upd_ne hne]; exact e, r.gen (fun _ _ z => z) k⟩
  | dct xs => obtain ⟨vs, e, r⟩ := rc; exact ⟨vs, by rw [upd_ne hne]; exact e, r.gen (fun _ _ z => z) k⟩
  | ins cn fs => obtain ⟨C, dx, gs, hm, e, r⟩ := rc; exact ⟨C, dx, gs, hm, by rw [upd_ne hne]; exact e, r.gen (fun _ _ z => z) k⟩
/-- a list outside the store is taken in -/
theorem RelS.adopt {st : S} {Da : Addr} {ds : List D} {vs : List V} (rs : RelS K mg μ st H) (hD : Da ∉ μ) (h : H Da = some (.lst vs)) (r : RepVs K μ H ds vs) : RelS K mg (μ ++ [Da]) (st ++ [.lst ds]) H := by
  have ap : ∀ (n : Nat) (a : Addr), μ[n]? = some a → (μ ++ [Da])[n]? = some a := fun n a e => by rw [List.getElem?_append_left (List.getElem?_eq_some_iff.mp e).1]; exact e
  have k : ∀ a o, isCell o = false → H a = some o → H a = some o := fun _ _ _ e => e
  refine ⟨by simp [rs.len], ?_, fun n c a h1 h2 => ?_⟩
  · rw [List.nodup_append]
    refine ⟨rs.nd, by simp, fun a ha b hb e => ?_⟩
    have e2 : b = Da := by simpa using hb
    rw [e, e2] at ha; exact hD ha
  · by_cases hlt : n < st.length
    · rw [List.getElem?_append_left hlt] at h1
      rw [List.getElem?_append_left (by rw [rs.len]; exact hlt)] at h2
      have rc := rs.at_ n c a h1 h2
      cases c with
      | lst xs => obtain ⟨vs, e, r⟩ := rc; exact ⟨vs, e, r.gen ap k⟩
      | dct xs => obtain ⟨vs, e, r⟩ := rc; exact ⟨vs, e, r.gen ap k⟩
      | ins cn fs => obtain ⟨C, dx, gs, hm, e, r⟩ := rc; exact ⟨C, dx, gs, hm, e, r.gen ap k⟩
    · have hl : n = st.length := by
        have := (List.getElem?_eq_some_iff.mp h1).1
        rw [List.length_append, List.length_singleton] at this
        omega
      subst hl
      rw [List.getElem?_append_right (Nat.le_refl _)] at h1
      rw [← rs.len, List.getElem?_append_right (Nat.le_refl _)] at h2
      simp at h1 h2
      subst h1; subst h2
      exact ⟨vs, h, r.gen ap k⟩
/-- what stands outside the store stays there -/
theorem Ext.outs (ex : Ext μ H μ' H') {Da : Addr} {o : HO} (hD : Da ∉ μ) (h : H Da = some o) : Da ∉ μ' ∧ H' Da = some o :=
  ⟨fun z => absurd (h.symm.trans (ex.new Da z hD)) (by simp), ex.keep Da o h hD⟩
theorem Ext.updN (ex : Ext μ1 H1 μ H) {Da : Addr} {o : HO} (h : H1 Da = none) : Ext μ1 H1 μ (upd H Da o) :=
  ⟨ex.pre, ex.new, fun a o' e n => by rw [upd_ne (ne_of_none e h)]; exact ex.keep a o' e n⟩
theorem RelE.wipe {env : Ev} {σ : L2.St} (re : RelE K μ H env σ) : ∀ vs : List Nat, RelE K μ H (wipeE env vs) (L2.wipe σ vs)
  | [] => re
  | v :: vs => (RelE.wipe re vs).unset v
theorem wipe_at {σ : L2.St} {j : Nat} : ∀ {vs : List Nat}, j ∈ vs → j < σ.length → (L2.wipe σ vs)[j]? = some none
  | v :: vs, h, hl => by
    unfold L2.wipe
    by_cases hv : v = j
    · subst hv
      rw [List.getElem?_set_self (by rw [wipe_length]; exact hl)]
    · rw [List.getElem?_set_ne hv]
      rcases List.mem_cons.mp h with h | h
      · exact absurd h.symm hv
      · exact wipe_at h hl
theorem wipe_off {σ σ2 : L2.St} {ws vs : List Nat} (of : Off ws (L2.wipe σ vs) σ2) (hw : ∀ j ∈ ws, j ∈ vs) : L2.wipe σ2 vs = L2.wipe σ vs := by
  have hl : σ2.length = σ.length := by rw [of.1, wipe_length]
  refine List.ext_getElem? fun j => ?_
  by_cases hj : j ∈ vs
  · by_cases hlt : j < σ.length
    · rw [wipe_at hj (by rw [hl]; exact hlt), wipe_at hj hlt]
    · rw [List.getElem?_eq_none (by rw [wipe_length]; omega), List.getElem?_eq_none (by rw [wipe_length]; omega)]
  · rw [wipe_out hj]
    exact of.2 j fun z => hj (hw j z)
end
/-- a clause's tests -/
structure RTs (X : Cx) (ifs : List Expr) (t : MT) : Prop where
  pts : PTs X ifs (tG X.K X.mg (fun _ _ _ _ => False) repEq t)
section
variable {X : Cx} {E : WX}
theorem rts_nil : RTs X [] tYes' := ⟨⟨fun pins s σ H Q I h => pts_nil.run pins s σ H Q I (by
  obtain ⟨μ, env, st, rs, re, p⟩ := h
  exact p μ true H (Ext.refl _ _) rs rfl)⟩⟩
theorem rts_one {c : Expr} {t : MT} (h : RT X (fun _ _ _ _ => False) c t) : RTs X [c] t := ⟨pts_one h.pt⟩
open Classical in
theorem lc_ok {J : It} {gd : S → Prop} {ws vs : List Nat} {g : MTg} {t : MT} {el : ME} {σ : L2.St} {env : Ev} {xs tot : List D} {st1 stE : S} {μ1 : List Addr} {H1 : Hp} {Da : Addr} {K : PySem.W.Frag} {mg : MG} {Qd : Hp → Prop} (ok : ItOk K mg J μ1 H1 xs gd) (hw : ∀ j ∈ ws, j ∈ vs)
    (rs1 : RelS K mg μ1 st1 H1) (re1 : RelE K μ1 H1 env σ) (g1 : gd st1) (hD : H1 Da = none) (hl : lcL gd g t el (wipeE env vs) xs st1 = some (tot, stE)) (hz : tot.length ≤ sizeLine)
    (hq : ∀ μ' H', Ext μ1 H1 μ' H' → RelS K mg μ' (stE ++ [.lst tot]) H' → μ'[stE.length]? = some Da → Qd H') :
    ∃ W : Nat → Nat → Hp → Prop, (∃ m, W 0 m (upd H1 Da (.lst []))) ∧ ∀ i m H, W i m H → (J.stop i H ∧ Qd H) ∨ (J.go i H ∧ ∃ Nx : Hp → Prop, (∀ H', Nx H' → ∃ m', m' < m ∧ W (i + 1) m' H') ∧ ∀ x H', J.yld i H x H' → tTg K mg ws g x (L2.wipe σ vs) H' fun σ2 H2 => L2.wipe σ2 vs = L2.wipe σ vs ∧ tG K mg (fun _ _ _ _ => False) repEq t σ2 H2 fun b H3 =>
      if b = true then tG K mg (fun _ _ _ _ => False) (RepV K) el σ2 H3 fun y H4 => ∃ acc, H4 Da = some (.lst acc) ∧ acc.length < sizeLine ∧ Nx (upd H4 Da (.lst (acc ++ [y]))) else Nx H3) := by
  have nD := rs1.noTup.fresh hD
  have e0 : Ext μ1 H1 μ1 (upd H1 Da (.lst [])) := Ext.new1 hD
  refine ⟨fun i k H' => k = xs.length - i ∧ i ≤ xs.length ∧ ∃ μ' st' acc accV zs, Ext μ1 H1 μ' H' ∧ RelS K mg μ' st' H' ∧ gd st' ∧ Da ∉ μ' ∧ H' Da = some (.lst accV) ∧ RepVs K μ' H' acc accV ∧ lcL gd g t el (wipeE env vs) (xs.drop i) st' = some (zs, stE) ∧ acc ++ zs = tot,
    ⟨_, rfl, Nat.zero_le _, μ1, st1, [], [], tot, e0, rs1.new1 hD, g1, nD, upd_same, .nil, hl, rfl⟩, ?_⟩
  rintro i k H2 ⟨rfl, hi, μ2, st2, acc, accV, zs, ex2, rs2, g2, nD2, hD2, ra, l2, et⟩
  by_cases hlt : i < xs.length
  · refine .inr ⟨ok.go i μ2 st2 H2 ex2 rs2 g2 hlt, fun H' => ∃ μ' st' acc accV zs, Ext μ1 H1 μ' H' ∧ RelS K mg μ' st' H' ∧ gd st' ∧ Da ∉ μ' ∧ H' Da = some (.lst accV) ∧ RepVs K μ' H' acc accV ∧ lcL gd g t el (wipeE env vs) (xs.drop (i + 1)) st' = some (zs, stE) ∧ acc ++ zs = tot,
      fun H' q => ⟨_, by omega, rfl, hlt, q⟩, fun x H3 y => ?_⟩
    obtain ⟨d, hd, ex3, rs3, rx⟩ := ok.yld i μ2 st2 H2 x H3 ex2 rs2 g2 hlt y
    obtain ⟨nD3, hD3⟩ := ex3.outs nD2 hD2
    have ra3 := ra.mono ex3 rs2.noTup
    have exx3 := ex2.trans ex3
    have hdrop : xs.drop i = d :: xs.drop (i + 1) := by
      rw [List.drop_eq_getElem_cons hlt]
      congr 1
      have := List.getElem?_eq_getElem hlt
      rw [this] at hd
      exact Option.some.inj hd
    rw [hdrop] at l2
    have l2 : (g d (wipeE env vs) st2).bind (fun q => (t q.1 q.2).get?.bind fun c =>
      if c.1 = true then (el q.1 c.2).get?.bind fun y => if gd y.2 then (lcL gd g t el (wipeE env vs) (xs.drop (i + 1)) y.2).map fun z => (y.1 :: z.1, z.2) else none
      else if gd c.2 then lcL gd g t el (wipeE env vs) (xs.drop (i + 1)) c.2 else none) = some (zs, stE) := l2
    refine ⟨μ2, wipeE env vs, st2, d, rs3, RelE.wipe (re1.mono exx3 rs1.noTup) vs, rx, ?_⟩
    cases eg : g d (wipeE env vs) st2 with
    | none => rw [eg] at l2; cases l2
    | some q =>
      obtain ⟨env4, st4⟩ := q
      rw [eg] at l2
      refine ⟨env4, st4, rfl, fun μ4 σ4 H4 of ex4 rs4 re4 => ⟨wipe_off of hw, μ4, env4, st4, rs4, re4, ?_⟩⟩
      obtain ⟨nD4, hD4⟩ := ex4.outs nD3 hD3
      have ra4 := ra3.mono ex4 rs3.noTup
      dsimp only [Option.bind] at l2
      cases et' : t env4 st4 with
      | fail => rw [et'] at l2; cases l2
      | exc x s => rw [et'] at l2; cases l2
      | ok c st5 =>
        rw [et'] at l2
        intro μ5 b H5 ex5 rs5 eb
        subst eb
        obtain ⟨nD5, hD5⟩ := ex5.outs nD4 hD4
        have ra5 := ra4.mono ex5 rs4.noTup
        have exx5 := (exx3.trans ex4).trans ex5
        have l2 : (if c = true then (el env4 st5).get?.bind (fun y => if gd y.2 then (lcL gd g t el (wipeE env vs) (xs.drop (i + 1)) y.2).map fun z => (y.1 :: z.1, z.2) else none)
          else if gd st5 then lcL gd g t el (wipeE env vs) (xs.drop (i + 1)) st5 else none) = some (zs, stE) := l2
        cases c with
        | true =>
          rw [if_pos rfl] at l2 ⊢
          refine ⟨μ5, env4, st5, rs5, re4.mono ex5 rs4.noTup, ?_⟩
          cases ee : el env4 st5 with
          | fail => rw [ee] at l2; cases l2
          | exc x s => rw [ee] at l2; cases l2
          | ok yv st6 =>
            rw [ee] at l2
            intro μ6 v H6 ex6 rs6 rv
            obtain ⟨nD6, hD6⟩ := ex6.outs nD5 hD5
            have ra6 := ra5.mono ex6 rs5.noTup
            have exx6 := exx5.trans ex6
            have l2 : (if gd st6 then (lcL gd g t el (wipeE env vs) (xs.drop (i + 1)) st6).map fun z => (yv :: z.1, z.2) else none) = some (zs, stE) := l2
            by_cases hg : gd st6
            · rw [if_pos hg] at l2
              cases el' : lcL gd g t el (wipeE env vs) (xs.drop (i + 1)) st6 with
              | none => rw [el'] at l2; cases l2
              | some z =>
                obtain ⟨zs', se⟩ := z
                rw [el'] at l2
                cases l2
                have ku := keep_out (ys := accV ++ [v]) hD6
                refine ⟨accV, hD6, ?_, μ6, st6, acc ++ [yv], accV ++ [v], zs', exx6.updN hD, rs6.out nD6 hD6, hg, nD6, upd_same, (ra6.append (.cons rv .nil)).gen (fun _ _ z => z) ku, el', by rw [← et, List.append_assoc] <;> rfl⟩
                rw [← ra6.length]
                have : tot.length = acc.length + (zs'.length + 1) := by rw [← et]; simp
                omega
            · rw [if_neg hg] at l2; cases l2
        | false =>
          rw [if_neg Bool.false_ne_true] at l2 ⊢
          by_cases hg : gd st5
          · rw [if_pos hg] at l2
            exact ⟨μ5, st5, acc, accV, zs, exx5, rs5, hg, nD5, hD5, ra5, l2, et⟩
          · rw [if_neg hg] at l2; cases l2
  · have hi2 : i = xs.length := by omega
    subst hi2
    refine .inl ⟨ok.stop μ2 st2 H2 ex2 rs2 g2, ?_⟩
    rw [List.drop_length] at l2
    cases l2
    rw [List.append_nil] at et
    subst et
    have ex : Ext μ1 H1 (μ2 ++ [Da]) H2 := by
      obtain ⟨u, hu⟩ := ex2.pre
      refine ⟨⟨u ++ [Da], by rw [hu, List.append_assoc]⟩, fun a h n => ?_, ex2.keep⟩
      rcases List.mem_append.mp h with h | h
      · exact ex2.new a h n
      · have e : a = Da := by simpa using h
        rw [e]; exact hD
    exact hq (μ2 ++ [Da]) H2 ex (rs2.adopt nD2 hD2 ra) (by rw [← rs2.len]; simp)
theorem tLc_of {K : PySem.W.Frag} {mg : MG} {it : MI} {ws vs : List Nat} {g : MTg} {t : MT} {el : ME} {σ : L2.St} {H : Hp} {Q : VK} (hw : ∀ j ∈ ws, j ∈ vs) (h : tG K mg E (RepV K) (eLc it vs g t el) σ H Q) :
    tLc (tI K mg E it) (tTg K mg ws g) (tG K mg (fun _ _ _ _ => False) repEq t) (tG K mg (fun _ _ _ _ => False) (RepV K) el) vs σ H Q := by
  obtain ⟨μ, env, st, rs, re, p⟩ := h
  unfold eLc at p
  refine ⟨μ, env, st, rs, re, ?_⟩
  cases ei : it env st with
  | fail => rw [ei] at p; exact p.elim
  | exc x st1 => rw [ei] at p; exact p
  | ok q st1 =>
    rw [ei] at p
    obtain ⟨xs, gd⟩ := q
    intro μ1 H1 J ex rs1 g1 ok Da hD
    dsimp only [R.bind] at p
    cases el' : lcL gd g t el (wipeE env vs) xs st1 with
    | none => rw [el'] at p; exact p.elim
    | some z =>
      obtain ⟨tot, stE⟩ := z
      rw [el'] at p
      dsimp only at p
      by_cases hz : tot.length ≤ sizeLine
      · rw [if_pos hz] at p
        exact lc_ok ok hw rs1 (re.mono ex rs.noTup) g1 hD el' hz fun μ' H' ex' rs' hn => p μ' _ H' (ex.trans ex') rs' (.loc hn)
      · rw [if_neg hz] at p; exact p.elim
theorem re_lc {elt tg iter : Expr} {ifs : List Expr} {scope : Scope} {own : List (Str × Nat)} {pos : Pos} {it : MI} {ws : List Nat} {g : MTg} {t : MT} {el : ME} (hc : X.calm = true) (hN : X.N.Nodup) (hi : RI X E tg iter it) (ok : BlkOk X.N X.env.scope scope own) (hw : ∀ j ∈ ws, j ∈ own.map (·.2))
    (hg : ∀ (s : Shared) (H : Hp) (C : Addr) (cl : List (Str × Addr)) (fp : List Addr), RTg (X.blk s H scope (compEnvC scope cl C X.env) fp) tg ws g) (ht : ∀ (s : Shared) (H : Hp) (C : Addr) (cl : List (Str × Addr)) (fp : List Addr), RTs (X.blk s H scope (compEnvC scope cl C X.env) fp) ifs t)
    (he : ∀ (s : Shared) (H : Hp) (C : Addr) (cl : List (Str × Addr)) (fp : List Addr), RE (X.blk s H scope (compEnvC scope cl C X.env) fp) (fun _ _ _ _ => False) elt el) (hs : ∀ x, foldedSetIterable iter X.env x = pure x := by intro _; rfl) :
    RE X E (.ListComp elt [⟨tg, iter, ifs, 0⟩] scope pos) (eLc it (own.map (·.2)) g t el) :=
  ⟨PE.imp (pe_lc hc hN hi.pi ok (fun s H C cl fp => (hg s H C cl fp).pg) (fun s H C cl fp => (ht s H C cl fp).pts) (fun s H C cl fp => (he s H C cl fp).pe) hs) fun σ H Q h => tLc_of hw h⟩
/-- y = [..] on one line -/
theorem rs_setLc (i : Nat) {y : Str} {py : Pos} {elt tg iter : Expr} {ifs : List Expr} {scope : Scope} {own : List (Str × Nat)} {pos spos : Pos} {it : MI} {ws : List Nat} {g : MTg} {t : MT} {el : ME} (hc : X.calm = true) (hN : X.N.Nodup) (hy : X.N[i]? = some y) (hyl : X.env.scope.names.lookup y = some .local)
    (hsw : swapsWith (.ListComp elt [⟨tg, iter, ifs, 0⟩] scope pos) (some (.Name y py)) spos.line X.env = pure true) (hi : RI X E tg iter it) (ok : BlkOk X.N X.env.scope scope own) (hw : ∀ j ∈ ws, j ∈ own.map (·.2))
    (hg : ∀ (s : Shared) (H : Hp) (C : Addr) (cl : List (Str × Addr)) (fp : List Addr), RTg (X.blk s H scope (compEnvC scope cl C X.env) fp) tg ws g) (ht : ∀ (s : Shared) (H : Hp) (C : Addr) (cl : List (Str × Addr)) (fp : List Addr), RTs (X.blk s H scope (compEnvC scope cl C X.env) fp) ifs t)
    (he : ∀ (s : Shared) (H : Hp) (C : Addr) (cl : List (Str × Addr)) (fp : List Addr), RE (X.blk s H scope (compEnvC scope cl C X.env) fp) (fun _ _ _ _ => False) elt el) (hs : ∀ x, foldedSetIterable iter X.env x = pure x := by intro _; rfl) :
    RSt X E (.Assign [.Name y py] (.ListComp elt [⟨tg, iter, ifs, 0⟩] scope pos) spos) (sSet i (eLc it (own.map (·.2)) g t el)) :=
  ⟨PS.imp (ps_setLc hc hN hy hyl hsw hi.pi ok (fun s H C cl fp => (hg s H C cl fp).pg) (fun s H C cl fp => (ht s H C cl fp).pts) (fun s H C cl fp => (he s H C cl fp).pe) hs) fun Dd σ H h => by
    have h2 : tG X.K X.mg E (RepV X.K) (eLc it (own.map (·.2)) g t el) σ H (fun x H1 => gName i x σ H1 Dd.nx) := by
      obtain ⟨μ, env, st, rs, re, p⟩ := h
      exact tS_at rs re p fun μ1 st1 H1 d x ex rs re rx p => p μ1 _ H1 (Ext.refl _ _) rs (re.set rx i)
    exact tLc_of hw h2⟩
end
end DL
set_option Elab.async false
set_option linter.all false
set_option maxRecDepth 100000
/-! DL7: defs, calls, caught exceptions -/
namespace DL
open PySem L2
open PyProof.Rows (envOfC)

/-! ### values without cells -/
mutual
def noloc : D → Bool
  | .tup xs => nolocs xs
  | .loc _ => false
  | .exo _ _ _ _ => false
  | _ => true
def nolocs : List D → Bool
  | [] => true
  | d :: ds => noloc d && nolocs ds
end
theorem nolocs_iff : ∀ {l : List D}, nolocs l = true ↔ ∀ d ∈ l, noloc d = true
  | [] => by simp [nolocs]
  | d :: ds => by simp [nolocs, nolocs_iff (l := ds)]
section
variable {K : PySem.W.Frag} {mg : MG} {μ t : List Addr} {H H' : Hp}
mutual
theorem RepV.low : ∀ {d : D} {v : V}, noloc d = true → RepV K (μ ++ t) H d v → RepV K μ H d v
  | .non, _, _, h => by cases h; exact .non
  | .bl _, _, _, h => by cases h; exact .bl _
  | .int _, _, _, h => by cases h; exact .int _
  | .str _, _, _, h => by cases h; exact .str _
  | .tup xs, _, n, h => by cases h with | tup h1 h2 => exact .tup h1 (RepVs.low (show nolocs xs = true from n) h2)
  | .loc _, _, n, _ => Bool.noConfusion n
  | .fro _, _, _, h => by cases h with | fro h1 => exact .fro h1
  | .exo _ _ _ _, _, n, _ => Bool.noConfusion n
theorem RepVs.low : ∀ {ds : List D} {vs : List V}, nolocs ds = true → RepVs K (μ ++ t) H ds vs → RepVs K μ H ds vs
  | [], _, _, h => by cases h; exact .nil
  | d :: ds, _, n, h => by
    cases h with
    | cons h1 h2 =>
      obtain ⟨n1, n2⟩ := Bool.and_eq_true_iff.mp (show (noloc d && nolocs ds) = true from n)
      exact .cons (RepV.low n1 h1) (RepVs.low n2 h2)
end
mutual
theorem RepV.shrink : ∀ {d : D} {v0 v : V}, RepV K μ H d v0 → RepV K (μ ++ t) H' d v → RepV K μ H' d v
  | .non, _, _, _, h => by cases h; exact .non
  | .bl _, _, _, _, h => by cases h; exact .bl _
  | .int _, _, _, _, h => by cases h; exact .int _
  | .str _, _, _, _, h => by cases h; exact .str _
  | .tup xs, _, _, h0, h => by cases h0 with | tup _ g2 => cases h with | tup h1 h2 => exact .tup h1 (RepVs.shrink g2 h2)
  | .loc n, _, _, h0, h => by
    cases h0 with
    | loc g1 =>
      cases h with
      | loc h1 =>
        refine .loc ?_
        rw [List.getElem?_append_left (List.getElem?_eq_some_iff.mp g1).1] at h1
        exact h1
  | .fro _, _, _, h0, h => by cases h with | fro h1 => exact .fro h1
  | .exo _ _ _ _, _, _, h0, h => by cases h0 with | exo _ g2 => cases h with | exo h1 h2 => exact .exo h1 (RepVs.shrink g2 h2)
theorem RepVs.shrink : ∀ {ds : List D} {vs0 vs : List V}, RepVs K μ H ds vs0 → RepVs K (μ ++ t) H' ds vs → RepVs K μ H' ds vs
  | [], _, _, _, h => by cases h; exact .nil
  | d :: ds, _, _, h0, h => by cases h0 with | cons g1 g2 => cases h with | cons h1 h2 => exact .cons (RepV.shrink g1 h1) (RepVs.shrink g2 h2)
end
theorem RepF.shrink : ∀ {fs : List (Str × D)} {g0 gs : List (Str × V)}, RepF K μ H fs g0 → RepF K (μ ++ t) H' fs gs → RepF K μ H' fs gs
  | [], _, _, _, h => by cases h; exact .nil
  | _ :: _, _, _, h0, h => by cases h0 with | cons g1 g2 => cases h with | cons h1 h2 => exact .cons (RepV.shrink g1 h1) (RepF.shrink g2 h2)
theorem RepF.low : ∀ {fs : List (Str × D)} {gs : List (Str × V)}, (∀ f ∈ fs, noloc f.2 = true) → RepF K (μ ++ t) H fs gs → RepF K μ H fs gs
  | [], _, _, h => by cases h; exact .nil
  | _ :: _, _, n, h => by cases h with | cons h1 h2 => exact .cons (RepV.low (n _ (List.mem_cons_self ..)) h1) (RepF.low (fun f hf => n f (List.mem_cons_of_mem _ hf)) h2)
theorem keyD_inj : ∀ {k k' : Key}, keyD k = keyD k' → k = k'
  | .inl _, .inl _, h => by cases h; rfl
  | .inr _, .inr _, h => by cases h; rfl
  | .inl _, .inr _, h => nomatch h
  | .inr _, .inl _, h => nomatch h
theorem RepK.shrink : ∀ {kvs : List (D × D)} {g0 gs : List (Key × V)}, RepK K μ H kvs g0 → RepK K (μ ++ t) H' kvs gs → RepK K μ H' kvs gs := by
  intro kvs g0 gs h0 h
  induction h generalizing g0 with
  | nil => exact .nil
  | cons h1 _ ih =>
    generalize hx : (keyD _, _) :: _ = l at h0
    cases h0 with
    | nil => cases hx
    | cons g1 g2 =>
      injection hx with e1 e2
      injection e1 with e3 e4
      have e5 := keyD_inj e3
      subst e2; subst e4; subst e5
      exact .cons (RepV.shrink g1 h1) (ih g2)
theorem RepC.shrink {st0 : S} {c : Cell} {a : Addr} {a0 : Addr} (h0 : RepC K mg μ H c a0) (h : RepC K mg (μ ++ t) H' c a) : RepC K mg μ H' c a := by
  cases c with
  | lst xs => obtain ⟨vs, e, r⟩ := h; obtain ⟨vs0, _, r0⟩ := h0; exact ⟨vs, e, r0.shrink r⟩
  | dct xs => obtain ⟨vs, e, r⟩ := h; obtain ⟨vs0, _, r0⟩ := h0; exact ⟨vs, e, r0.shrink r⟩
  | ins cn fs => obtain ⟨C, dx, gs, hm, e, r⟩ := h; obtain ⟨_, _, _, _, _, r0⟩ := h0; exact ⟨C, dx, gs, hm, e, r0.shrink r⟩
mutual
/-- every place that stands in it is below n -/
def lowD (n : Nat) : D → Bool
  | .tup xs => lowDs n xs
  | .loc k => decide (k < n)
  | .exo _ _ _ _ => false
  | _ => true
def lowDs (n : Nat) : List D → Bool
  | [] => true
  | d :: ds => lowD n d && lowDs n ds
end
theorem lowDs_iff {n : Nat} : ∀ {l : List D}, lowDs n l = true ↔ ∀ d ∈ l, lowD n d = true
  | [] => by simp [lowDs]
  | d :: ds => by simp [lowDs, lowDs_iff (l := ds)]
def lowC (n : Nat) : Cell → Bool
  | .lst xs => lowDs n xs
  | .dct kvs => kvs.all fun p => lowD n p.2
  | .ins _ fs => fs.all fun p => lowD n p.2
mutual
theorem RepV.lown : ∀ {d : D} {v : V}, lowD μ.length d = true → RepV K (μ ++ t) H d v → RepV K μ H d v
  | .non, _, _, h => by cases h; exact .non
  | .bl _, _, _, h => by cases h; exact .bl _
  | .int _, _, _, h => by cases h; exact .int _
  | .str _, _, _, h => by cases h; exact .str _
  | .tup xs, _, n, h => by cases h with | tup h1 h2 => exact .tup h1 (RepVs.lown (show lowDs μ.length xs = true from n) h2)
  | .loc k, _, n, h => by
    cases h with
    | loc h1 =>
      have hk : k < μ.length := of_decide_eq_true (show decide (k < μ.length) = true from n)
      rw [List.getElem?_append_left hk] at h1
      exact .loc h1
  | .fro _, _, _, h => by cases h with | fro h1 => exact .fro h1
  | .exo _ _ _ _, _, n, _ => Bool.noConfusion n
theorem RepVs.lown : ∀ {ds : List D} {vs : List V}, lowDs μ.length ds = true → RepVs K (μ ++ t) H ds vs → RepVs K μ H ds vs
  | [], _, _, h => by cases h; exact .nil
  | d :: ds, _, n, h => by
    cases h with
    | cons h1 h2 =>
      obtain ⟨n1, n2⟩ := Bool.and_eq_true_iff.mp (show (lowD μ.length d && lowDs μ.length ds) = true from n)
      exact .cons (RepV.lown n1 h1) (RepVs.lown n2 h2)
end
theorem RepF.lown : ∀ {fs : List (Str × D)} {gs : List (Str × V)}, (fs.all fun p => lowD μ.length p.2) = true → RepF K (μ ++ t) H fs gs → RepF K μ H fs gs
  | [], _, _, h => by cases h; exact .nil
  | _ :: _, _, n, h => by
    rw [List.all_cons, Bool.and_eq_true] at n
    cases h with | cons h1 h2 => exact .cons (RepV.lown n.1 h1) (RepF.lown n.2 h2)
theorem RepK.lown {kvs : List (D × D)} {gs : List (Key × V)} (n : (kvs.all fun p => lowD μ.length p.2) = true) (h : RepK K (μ ++ t) H kvs gs) : RepK K μ H kvs gs := by
  induction h with
  | nil => exact .nil
  | cons h1 _ ih =>
    rw [List.all_cons, Bool.and_eq_true] at n
    exact .cons (RepV.lown n.1 h1) (ih n.2)
theorem RepC.lown {c : Cell} {a : Addr} (n : lowC μ.length c = true) (h : RepC K mg (μ ++ t) H c a) : RepC K mg μ H c a := by
  cases c with
  | lst xs => obtain ⟨vs, e, r⟩ := h; exact ⟨vs, e, r.lown n⟩
  | dct xs => obtain ⟨vs, e, r⟩ := h; exact ⟨vs, e, r.lown n⟩
  | ins cn fs => obtain ⟨C, dx, gs, hm, e, r⟩ := h; exact ⟨C, dx, gs, hm, e, r.lown n⟩
/-- what is behind the old cells is forgotten, where nothing leads to it -/
theorem RelS.cut {st' : S} {n : Nat} (hn : μ.length = n) (nd : μ.Nodup) (r : RelS K mg (μ ++ t) st' H) (low : ∀ c ∈ st'.take n, lowC n c = true) : RelS K mg μ (st'.take n) H := by
  subst hn
  have hl := r.len
  rw [List.length_append] at hl
  refine ⟨by rw [List.length_take]; omega, nd, fun k c a h1 h2 => ?_⟩
  have hk := (List.getElem?_eq_some_iff.mp h2).1
  have hc := low c (List.mem_of_getElem? h1)
  rw [List.getElem?_take_of_lt hk] at h1
  exact RepC.lown hc (r.at_ k c a h1 (by rw [List.getElem?_append_left hk]; exact h2))
/-- what is behind the old cells is forgotten -/
theorem RelS.shrink {st0 st' : S} (r0 : RelS K mg μ st0 H) (r : RelS K mg (μ ++ t) st' H') (e : st'.take st0.length = st0) : RelS K mg μ st0 H' := by
  refine ⟨r0.len, r0.nd, fun n c a h1 h2 => ?_⟩
  have hn := (List.getElem?_eq_some_iff.mp h1).1
  have h1' : st'[n]? = some c := by
    rw [← e, List.getElem?_take_of_lt hn] at h1; exact h1
  have h2' : (μ ++ t)[n]? = some a := by
    rw [List.getElem?_append_left (by rw [r0.len]; exact hn)]; exact h2
  exact RepC.shrink (st0 := st0) (r0.at_ n c a h1 h2) (r.at_ n c a h1' h2')
theorem Ext.shrink (e : Ext μ H (μ ++ t) H') : Ext μ H μ H' := ⟨⟨[], by simp⟩, fun _ h n => absurd h n, e.keep⟩
end
open Classical in
noncomputable def trim (st0 : S) : R D → R D
  | .ok d st' => if noloc d = true ∧ st'.take st0.length = st0 then .ok d st0
    else if lowD st0.length d = true ∧ ∀ c ∈ st'.take st0.length, lowC st0.length c = true then .ok d (st'.take st0.length) else .ok d st'
  | .exc x st' => if (∀ f ∈ x.fs, noloc f.2 = true) ∧ st'.take st0.length = st0 then .exc x st0
    else if (x.fs.all fun p => lowD st0.length p.2) = true ∧ ∀ c ∈ st'.take st0.length, lowC st0.length c = true then .exc x (st'.take st0.length) else .exc x st'
  | .fail => .fail
theorem trim_ok {st0 j : S} {d : D} (h : noloc d = true) : trim st0 (.ok d (st0 ++ j)) = .ok d st0 := if_pos ⟨h, by simp⟩
theorem trim_low {st0 p j : S} {d : D} (hl : p.length = st0.length) (h : lowD st0.length d = true) (hc : ∀ c ∈ p, lowC st0.length c = true) : trim st0 (.ok d (p ++ j)) = .ok d p := by
  have e : (p ++ j).take st0.length = p := by rw [← hl]; simp
  by_cases z : noloc d = true ∧ (p ++ j).take st0.length = st0
  · refine (if_pos z).trans ?_
    rw [e] at z
    rw [z.2]
  · refine (if_neg z).trans ((if_pos ⟨h, by rw [e]; exact hc⟩).trans ?_)
    rw [e]
theorem trim_same {st0 : S} {d : D} : trim st0 (.ok d st0) = .ok d st0 := by
  by_cases z : noloc d = true ∧ st0.take st0.length = st0
  · exact if_pos z
  · refine (if_neg z).trans ?_
    by_cases z2 : lowD st0.length d = true ∧ ∀ c ∈ st0.take st0.length, lowC st0.length c = true
    · refine (if_pos z2).trans ?_
      rw [List.take_length]
    · exact if_neg z2
theorem trim_exc {st0 j : S} {x : Exn} (h : ∀ f ∈ x.fs, noloc f.2 = true) : trim st0 (.exc x (st0 ++ j)) = .exc x st0 := if_pos ⟨h, by simp⟩
theorem trim_new {st0 st' : S} {d : D} (h : lowD st0.length d = false) (h2 : noloc d = false) : trim st0 (.ok d st') = .ok d st' := by
  by_cases z : noloc d = true ∧ st'.take st0.length = st0
  · rw [h2] at z; exact Bool.noConfusion z.1
  · refine (if_neg z).trans ?_
    by_cases z2 : lowD st0.length d = true ∧ ∀ c ∈ st'.take st0.length, lowC st0.length c = true
    · rw [h] at z2; exact Bool.noConfusion z2.1
    · exact if_neg z2
theorem trim_loc {st0 st' : S} {n : Nat} (h : st0.length ≤ n) : trim st0 (.ok (.loc n) st') = .ok (.loc n) st' := trim_new (decide_eq_false (Nat.not_lt.mpr h)) rfl
def ofRS : RS → R D
  | .nx _ st => .ok .non st
  | .ret d st => .ok d st
  | .exc x _ st => .exc x st
  | _ => .fail
/-- a def's body run -/
def ent (nN : Nat) (ds : List D) : Ev := ds.map some ++ List.replicate (nN - ds.length) none
noncomputable def runF (np nN : Nat) (b : MS) : MF := fun ds st => if ds.length = np then trim st (ofRS (b (ent nN ds) st)) else .fail
section
variable {K : PySem.W.Frag} {mg : MG} {σ σ' : L2.St} {μ : List Addr} {H : Hp} {Q : VK} {E : XK}
abbrev wx (E : XK) : WX := fun cls d _ H => E cls d H
theorem PostR.sig {α β : Type} {Rep : List Addr → Hp → α → β → Prop} {Q : β → Hp → Prop} : ∀ {o : R α}, PostR K mg (wx E) σ Rep μ H Q o → PostR K mg (wx E) σ' Rep μ H Q o
  | .ok _ _, h => h
  | .exc _ _, h => h
  | .fail, h => h
open Classical in
theorem PostR.untrim {st0 : S} (rs : RelS K mg μ st0 H) : ∀ {o : R D}, PostR K mg (wx E) σ (RepV K) μ H Q (trim st0 o) → PostR K mg (wx E) σ (RepV K) μ H Q o
  | .ok d st', h => fun μ' v H' ex rs' r => by
    have h : PostR K mg (wx E) σ (RepV K) μ H Q (if noloc d = true ∧ st'.take st0.length = st0 then .ok d st0
      else if lowD st0.length d = true ∧ ∀ c ∈ st'.take st0.length, lowC st0.length c = true then .ok d (st'.take st0.length) else .ok d st') := h
    split at h
    · rename_i z
      obtain ⟨t, rfl⟩ := ex.pre
      exact h μ v H' ex.shrink (rs.shrink rs' z.2) (r.low z.1)
    · split at h
      · rename_i z
        obtain ⟨t, rfl⟩ := ex.pre
        exact h μ v H' ex.shrink (RelS.cut rs.len rs.nd rs' z.2) (r.lown (by rw [rs.len]; exact z.1))
      · exact h μ' v H' ex rs' r
  | .exc x st', h => fun μ' H' C d ex rs' hm hd => by
    have h : PostR K mg (wx E) σ (RepV K) μ H Q (if (∀ f ∈ x.fs, noloc f.2 = true) ∧ st'.take st0.length = st0 then .exc x st0
      else if (x.fs.all fun p => lowD st0.length p.2) = true ∧ ∀ c ∈ st'.take st0.length, lowC st0.length c = true then .exc x (st'.take st0.length) else .exc x st') := h
    split at h
    · rename_i z
      obtain ⟨t, rfl⟩ := ex.pre
      refine h μ H' C d ex.shrink (rs.shrink rs' z.2) hm ?_
      rcases hd with hd | ⟨a, gs, h1, h2, h3⟩
      · exact .inl hd
      · exact .inr ⟨a, gs, h1, h2, h3.low z.1⟩
    · split at h
      · rename_i z
        obtain ⟨t, rfl⟩ := ex.pre
        refine h μ H' C d ex.shrink (RelS.cut rs.len rs.nd rs' z.2) hm ?_
        rcases hd with hd | ⟨a, gs, h1, h2, h3⟩
        · exact .inl hd
        · exact .inr ⟨a, gs, h1, h2, h3.lown (by rw [rs.len]; exact z.1)⟩
      · exact h μ' H' C d ex rs' hm hd
  | .fail, h => h
/-- what a def promises -/
def spM (K : PySem.W.Frag) (mg : MG) (f : MF) : Sp := fun vs H Q E => ∃ μ ds st, RelS K mg μ st H ∧ RepVs K μ H ds vs ∧ PostR K mg (wx E) [] (RepV K) μ H Q (f ds st)
theorem RelE.ent {ds : List D} {vs : List V} {N : List Str} (r : RepVs K μ H ds vs) : RelE K μ H (ent N.length ds) (L2.start N vs) := by
  have hl := r.length
  refine ⟨by unfold DL.ent L2.start; simp [hl], fun i d h => ?_⟩
  unfold DL.ent at h
  by_cases hi : i < ds.length
  · rw [List.getElem?_append_left (by simpa using hi), List.getElem?_map] at h
    cases e : ds[i]? with
    | none => rw [e] at h; cases h
    | some d' =>
      rw [e] at h
      cases h
      obtain ⟨v, h1, h2⟩ := r.get e
      exact ⟨v, by unfold L2.start; rw [List.getElem?_append_left (by simpa using (by omega : i < vs.length)), List.getElem?_map, h1]; rfl, h2⟩
  · rw [List.getElem?_append_right (by simpa using hi), List.getElem?_replicate] at h
    split at h <;> cases h
variable {P : Program} {w : World} {base : Heap}
theorem fn_ok {x qual : Str} {st : Stmt} {f : Addr} {fd : FuncData} {N ps : List Str} {k np nN : Nat} {b : MS} (F : Fun K x qual st f fd) (S : FnScope N ps (defScope st)) (hp : ps.length = np) (hn : N.length = nN)
    (hb : ∀ (cdv : Value) (A : Around) (outer : List Env) (s : Shared) (H : Hp) (E : XK), Room k (A.deeper (envOfC qual (defScope st) s.heap.objs.size f cdv)) →
      RSs (cxOf (L2.CX P w) P w K mg base N qual (defScope st) f cdv A outer s H E) (wx E) (defBody st) b) : FnOk P w K mg base (L2.CX P w) (k + 1) f fd ps (spM K mg (runF np nN b)) := by
  subst hp; subst hn
  refine F.okX S (fun vs H Q E h => ?_) (fun cdv A outer s H vs Q E hr h => ⟨_, (hb cdv A outer s H E hr).pss, ?_⟩)
  · obtain ⟨μ, ds, st, rs, rv, p⟩ := h
    unfold runF at p
    split at p
    · rename_i hl
      rw [← rv.length]; exact hl
    · exact p.elim
  · obtain ⟨μ, ds, st, rs, rv, p⟩ := h
    unfold runF at p
    split at p
    · refine ⟨μ, DL.ent N.length ds, st, rs, RelE.ent rv, ?_⟩
      have p := PostR.untrim rs p
      show PostS K mg (wx E) μ H _ _
      cases eb : b (DL.ent N.length ds) st with
      | nx env' st' => rw [eb] at p; exact fun μ' σ' H' ex rs' re' => p μ' .non H' ex rs' .non
      | ret d st' => rw [eb] at p; exact p
      | exc x env' st' => rw [eb] at p; exact fun μ' σ' H' C d ex rs' re' hm hd => p μ' H' C d ex rs' hm hd
      | brk env' st' => rw [eb] at p; exact p.elim
      | cnt env' st' => rw [eb] at p; exact p.elim
      | fail => rw [eb] at p; exact p.elim
    · exact p.elim
end
/-- a def by what its module's name stands for -/
structure Cd (P : Program) (w : World) (K : PySem.W.Frag) (mg : MG) (base : Heap) (k : Nat) (x : Str) (np : Nat) (g : MF) : Prop where
  ex : ∃ (f : Addr) (fd : FuncData) (ps : List Str), ps.length = np ∧ FnOk P w K mg base (L2.CX P w) k f fd ps (spM K mg g) ∧ mg x = some (.ref f) ∧ PySem.W.keepIn K (.ref f) = true ∧ Binds K fd ps []
section
variable {X : Cx} {E : WX} {e : Expr} {es : List Expr} {mr : MA} {pos : Pos}
theorem re_call {k np : Nat} {x : Str} {p : Pos} {g : MF} (C : Cd X.prog X.w X.K X.mg X.base k x np g) (hr : Room k X.A) (tk : Takes X E) (ha : RA X E (e :: es) mr) (hg : Gl X x := by rfl)
    (hdb : (x == ("__debug__" : Str)) = false := by decide) (he : starEach (e :: es) X.env = (false, eval e X.env) :: starEach es X.env := by rfl) (hpl : (backTo pos (starEach es X.env)).any (·.1) = false := by rfl) :
    RE X E (.Call (.Name x p) (e :: es) [] pos) (eF g mr) := by
  obtain ⟨f, fd, ps, _, F, hm, hk, hb⟩ := C.ex
  refine ⟨PE.imp (pe_callS F hr hg hm hk hb (fun σ => passAt tk σ) ha.pa hdb he hpl) fun σ H Q h => ?_⟩
  obtain ⟨μ, env, st, rs, re, p⟩ := h
  refine tG_at rs re p fun μ1 st1 H1 ds vs ex rs1 re1 rv p => ?_
  refine ⟨μ1, ds, st1, rs1, rv, ?_⟩
  have p : PostR X.K X.mg E σ (RepV X.K) μ1 H1 Q (g ds st1) := p
  cases eg : g ds st1 with
  | ok d st2 => rw [eg] at p; exact p
  | exc x st2 => rw [eg] at p; exact p
  | fail => rw [eg] at p; exact p.elim
end

/-! ### try -/
open Classical in
noncomputable def uni {α : Type} (f : α → RS) : RS := if h : ∃ r, ∀ a, f a = r then h.choose else .fail
theorem uni_of {α : Type} [i : Inhabited α] {f : α → RS} {r : RS} (h : ∀ a, f a = r) : uni f = r := by
  unfold uni
  have e : ∃ r, ∀ a, f a = r := ⟨r, h⟩
  rw [dif_pos e, ← e.choose_spec i.default, h]
theorem uni_at {α : Type} {f : α → RS} (h : uni f ≠ .fail) (a : α) : f a = uni f := by
  unfold uni at h ⊢
  split at h
  · rename_i e
    rw [dif_pos e]; exact e.choose_spec a
  · exact absurd rfl h
def clr (i : Nat) : RS → RS
  | .nx env st => .nx (env.set i none) st
  | .brk env st => .brk (env.set i none) st
  | .cnt env st => .cnt (env.set i none) st
  | .ret d st => .ret d st
  | _ => .fail
def noX : RS → RS
  | .exc _ _ _ => .fail
  | r => r
/-- the clause «except .. as ..»: i the name's slot -/
noncomputable def asX (i : Nat) (su : Addr → Option Addr → Str → MS) (x : Exn) (env : Ev) (st : S) : RS :=
  if x.fs.isEmpty = true then uni fun p : Addr × Option Addr => clr i (su p.1 p.2 x.cls (env.set i none) st)
  else uni fun p : Addr × Addr => clr i (su p.1 (some p.2) x.cls (env.set i (some (.exo p.1 p.2 (x.fs.map (·.1)) (x.fs.map (·.2))))) st)
@[simp] def RS.catch (g : Exn → Ev → S → RS) : RS → RS
  | .exc x env st => g x env st
  | .nx env st => .nx env st
  | .brk env st => .brk env st
  | .cnt env st => .cnt env st
  | .ret d st => .ret d st
  | .fail => .fail
noncomputable def sTryAs (i : Nat) (mt : Str → Option Bool) (b : MS) (su : Addr → Option Addr → Str → MS) : MS := fun env st => (b env st).catch fun x env' st' => match mt x.cls with
    | some true => asX i su x env' st'
    | some false => .exc x env' st'
    | none => .fail
def sTryOn (mt : Str → Option Bool) (b : MS) (su : MS) : MS := fun env st => (b env st).catch fun x env' st' => match mt x.cls with
    | some true => noX (su env' st')
    | some false => .exc x env' st'
    | none => .fail
/-- what the clause's test tells of the raised classes -/
def MtOk (K : PySem.W.Frag) (mg : MG) (c : Value) (mt : Str → Option Bool) : Prop := ∀ cn b C, mt cn = some b → mg cn = some (.ref C) → PySem.W.exmOne K (.ref C) c = some b
section
variable {X : Cx} {E : WX}
theorem PSs.ex {ι : Type} {ss : List Stmt} {P : ι → Prop} {t : ι → TS} (h : ∀ i, P i → PSs X ss (t i)) : PSs X ss (fun Dd σ H => ∃ i, P i ∧ t i Dd σ H) :=
  ⟨fun pins s σ H Dd I ⟨i, hp, q⟩ => (h i hp).run pins s σ H Dd I q⟩
theorem PostS.clr {K : PySem.W.Frag} {mg : MG} {μ : List Addr} {H : Hp} {Dd : Ends} {i : Nat} : ∀ {o : RS}, PostS K mg E μ H Dd (clr i o) →
    PostS K mg (fun _ _ _ _ => False) μ H { nx := fun σ' H' => Dd.nx (σ'.set i none) H', rt := Dd.rt, bk := fun σ' H' => Dd.bk (σ'.set i none) H', ct := fun σ' H' => Dd.ct (σ'.set i none) H' } o
  | .nx env st, h => fun μ' σ' H' ex rs re => h μ' _ H' ex rs (re.unset i)
  | .brk env st, h => fun μ' σ' H' ex rs re => h μ' _ H' ex rs (re.unset i)
  | .cnt env st, h => fun μ' σ' H' ex rs re => h μ' _ H' ex rs (re.unset i)
  | .ret d st, h => h
  | .exc _ _ _, h => h.elim
  | .fail, h => h
theorem PostS.noX {K : PySem.W.Frag} {mg : MG} {μ : List Addr} {H : Hp} {Dd : Ends} : ∀ {o : RS}, PostS K mg E μ H Dd (noX o) → PostS K mg (fun _ _ _ _ => False) μ H Dd o
  | .nx env st, h => h
  | .brk env st, h => h
  | .cnt env st, h => h
  | .ret d st, h => h
  | .exc _ _ _, h => h.elim
  | .fail, h => h
theorem RepF.zip {K : PySem.W.Frag} {μ : List Addr} {H : Hp} : ∀ {fs : List (Str × D)} {gs : List (Str × V)}, RepF K μ H fs gs → gs = (fs.map (·.1)).zip (gs.map (·.2)) ∧ RepVs K μ H (fs.map (·.2)) (gs.map (·.2))
  | _, _, .nil => ⟨rfl, .nil⟩
  | _, _, .cons h1 h2 => ⟨by rw [List.map_cons, List.map_cons, List.zip_cons_cons, ← (RepF.zip h2).1], .cons h1 (RepF.zip h2).2⟩
/-- the wish of a body within try, at the class c -/
theorem body_wish {K : PySem.W.Frag} {mg : MG} {W : WX} {μ : List Addr} {H : Hp} {Dd : Ends} {r : RS} {g : Exn → Ev → S → RS}
    (hg : ∀ x env' st', r = .exc x env' st' → ∀ μ' σ' H' C d, Ext μ H μ' H' → RelS K mg μ' st' H' → RelE K μ' H' env' σ' → mg x.cls = some (.ref C) → ExcD K μ' H' x.fs d → PostS K mg E μ H Dd (g x env' st') → W (.ref C) d σ' H')
    (p : PostS K mg E μ H Dd (r.catch g)) : PostS K mg W μ H Dd r := by
  cases r with
  | exc x env' st' => exact fun μ' σ' H' C d ex rs re hm hd => hg x env' st' rfl μ' σ' H' C d ex rs re hm hd p
  | nx env st => exact p
  | brk env st => exact p
  | cnt env st => exact p
  | ret d st => exact p
  | fail => exact p
theorem rs_tryAs {i : Nat} {x n : Str} {c : Value} {body suite : List Stmt} {b₀ : Stmt} {np pos pos' : Pos} {mt : Str → Option Bool} {b : MS} {su : Addr → Option Addr → Str → MS}
    (hs : X.stack = X.env :: X.outer) (hf : X.env.frame = some X.env.locals) (hN : X.N.Nodup) (hi : X.N[i]? = some n) (hln : X.env.kindOf n = some .local) (hc : Names X x c) (tk : Takes X E) (hmt : MtOk X.K X.mg c mt)
    (hb : ∀ (W : WX) (pn : List (Addr × Obj)) (xe : Value → Shared → Prop), Takes (X.tr pn xe) W → PassesOwn (model X.prog X.w) X.A X.env xe → RSs (X.tr pn xe) W body b)
    (hsu : ∀ (a : Addr) (oe : Obj) (C : Addr) (cn : Str) (d : Option Addr) (pn : List (Addr × Obj)), X.mg cn = some (.ref C) → Zc (.ref C) d oe → (∃ vs, oe.data = .fields vs) → RSs (X.suite a ((a, oe) :: pn)) (fun _ _ _ _ => False) (b₀ :: suite) (su a d cn)) :
    RSt X E (.Try body [.ExceptHandler (some (.Name x np)) (some n) (b₀ :: suite) pos'] [] [] pos) (sTryAs i mt b su) := ⟨PS.imp (ps_try_as (tb := fun W => tS X.K X.mg W b) (Wout := E)
      (ts := fun a cls d Dd σ H => ∃ q : Str × Addr, (X.mg q.1 = some (.ref q.2) ∧ cls = .ref q.2) ∧ tS X.K X.mg (fun _ _ _ _ => False) (su a d q.1) Dd σ H) hs hf hN hi hln hc tk
      (fun W pn xe h1 h2 => (hb W pn xe h1 h2).pss) (fun a oe cls d pn hz hv => PSs.ex fun q hq => (hsu a oe q.2 q.1 d pn hq.1 (by rw [← hq.2]; exact hz) hv).pss)) fun Dd σ H h => by
  obtain ⟨μ, env, st, rs, re, p⟩ := h
  refine ⟨μ, env, st, rs, re, ?_⟩
  unfold sTryAs at p
  refine body_wish (E := E) (g := fun x env' st' => match mt x.cls with | some true => asX i su x env' st' | some false => .exc x env' st' | none => .fail) (fun x env' st' _ μ' σ' H' C d ex rs' re' hm hd p => ?_) p
  cases em : mt x.cls with
  | none => rw [em] at p; exact p.elim
  | some t =>
    rw [em] at p
    refine ⟨t, hmt _ _ _ em hm, fun et a ha => ?_, fun et => ?_⟩
    · subst et
      refine ⟨(x.cls, C), ⟨hm, rfl⟩, ?_⟩
      have p : PostS X.K X.mg E μ H Dd (asX i su x env' st') := p
      unfold asX at p
      split at p
      · rename_i hfs
        have nf : (uni fun p : Addr × Option Addr => clr i (su p.1 p.2 x.cls (env'.set i none) st')) ≠ .fail := fun z => by rw [z] at p; exact p.elim
        have e := uni_at nf (a, d)
        rw [← e] at p
        refine ⟨μ', env'.set i none, st', rs', ?_, PostS.clr (PostS.ext ex p)⟩
        refine ⟨by simp [re'.len], fun j d' hj => ?_⟩
        by_cases hji : j = i
        · subst hji
          have hl : j < env'.length := by have := (List.getElem?_eq_some_iff.mp hj).1; simpa using this
          rw [List.getElem?_set_self hl] at hj; cases hj
        · rw [List.getElem?_set_ne (Ne.symm hji)] at hj ⊢
          exact re'.at_ j d' hj
      · rename_i hfs
        rcases hd with ⟨hd, _⟩ | ⟨dd, gs, rfl, hg, rg⟩
        · exact absurd (by rw [hd]; rfl) hfs
        · have nf : (uni fun p : Addr × Addr => clr i (su p.1 (some p.2) x.cls (env'.set i (some (.exo p.1 p.2 (x.fs.map (·.1)) (x.fs.map (·.2))))) st')) ≠ .fail := fun z => by rw [z] at p; exact p.elim
          have e := uni_at nf (a, dd)
          rw [← e] at p
          refine ⟨μ', _, st', rs', re'.set (.exo (d := dd) ?_ rg.zip.2) i, PostS.clr (PostS.ext ex p)⟩
          rw [hg, ← rg.zip.1]
    · subst et
      exact p μ' σ' H' C d ex rs' re' hm hd⟩
theorem rs_tryOn {x : Str} {c : Value} {body suite : List Stmt} {b₀ : Stmt} {np pos pos' : Pos} {mt : Str → Option Bool} {b su : MS}
    (hs : X.stack = X.env :: X.outer) (hf : X.env.frame = some X.env.locals) (hc : Names X x c) (tk : Takes X E) (hmt : MtOk X.K X.mg c mt)
    (hb : ∀ (W : WX) (pn : List (Addr × Obj)) (xe : Value → Shared → Prop), Takes (X.tr pn xe) W → PassesOwn (model X.prog X.w) X.A X.env xe → RSs (X.tr pn xe) W body b)
    (hsu : ∀ (a : Addr) (oe : Obj) (pn : List (Addr × Obj)), (∃ vs, oe.data = .fields vs) → RSs (X.suite a ((a, oe) :: pn)) (fun _ _ _ _ => False) (b₀ :: suite) su) :
    RSt X E (.Try body [.ExceptHandler (some (.Name x np)) none (b₀ :: suite) pos'] [] [] pos) (sTryOn mt b su) := ⟨PS.imp (ps_try_only (tb := fun W => tS X.K X.mg W b) (Wout := E)
      (ts := fun _ _ _ => tS X.K X.mg (fun _ _ _ _ => False) su) hs hf hc tk
      (fun W pn xe h1 h2 => (hb W pn xe h1 h2).pss) (fun a oe cls d pn hz hv => (hsu a oe pn hv).pss)) fun Dd σ H h => by
  obtain ⟨μ, env, st, rs, re, p⟩ := h
  refine ⟨μ, env, st, rs, re, ?_⟩
  unfold sTryOn at p
  refine body_wish (E := E) (g := fun x env' st' => match mt x.cls with | some true => noX (su env' st') | some false => .exc x env' st' | none => .fail) (fun x env' st' _ μ' σ' H' C d ex rs' re' hm hd p => ?_) p
  cases em : mt x.cls with
  | none => rw [em] at p; exact p.elim
  | some t =>
    rw [em] at p
    refine ⟨t, hmt _ _ _ em hm, fun et a ha => ?_, fun et => ?_⟩
    · subst et
      exact ⟨μ', env', st', rs', re', PostS.noX (PostS.ext ex p)⟩
    · subst et
      exact p μ' σ' H' C d ex rs' re' hm hd⟩
/-- a field of a caught exception -/
def eXf (a : Addr) (d : Option Addr) (cn cn' f : Str) (m : ME) : ME := fun env st => (m env st).bind fun x st1 => match x with
  | .exo a' d' ns xs => if a' = a ∧ d = some d' ∧ cn = cn' then (match (ns.zip xs).lookup f with | some v => .ok v st1 | none => .fail) else .fail
  | _ => .fail
theorem RepVs.look {K : PySem.W.Frag} {μ : List Addr} {H : Hp} {f : Str} {z : D} : ∀ {ns : List Str} {xs : List D} {vs : List V}, RepVs K μ H xs vs → (ns.zip xs).lookup f = some z → ∃ v, (ns.zip vs).lookup f = some v ∧ RepV K μ H z v
  | [], _, _, _, h => by cases h
  | _ :: _, _, _, .nil, h => by cases h
  | n :: ns, _, _, .cons h1 h2, h => by
    rw [List.zip_cons_cons, List.lookup_cons] at h ⊢
    cases e : f == n with
    | true => rw [e] at h; cases h; exact ⟨_, rfl, h1⟩
    | false => rw [e] at h; exact RepVs.look h2 h
theorem re_xf {a C C' : Addr} {cn cn' n : Str} {d : Option Addr} {oe : Obj} {pn : List (Addr × Obj)} {e : Expr} {m : ME} {pos : Pos} (T : XfC X.K C') (hno : PySem.W.findIn X.K (.ref C') n = some none) (hm' : X.mg cn' = some (.ref C')) (hm : X.mg cn = some (.ref C))
    (hz : Zc (.ref C) d oe) (hf : ∃ vs, oe.data = .fields vs) (he : RE (X.suite a ((a, oe) :: pn)) E e m) (hb : attributeBase e n X.env (eval e X.env) = eval e X.env := by rfl) :
    RE (X.suite a ((a, oe) :: pn)) E (.Attribute e n pos) (eXf a d cn cn' n m) := ⟨PE.imp (pe_xf T hno hz hf he.pe hb) fun σ H Q h => by
  obtain ⟨μ, env, st, rs, re, p⟩ := h
  refine tG_at rs re p fun μ1 st1 H1 x xv ex rs1 re1 rx p => ?_
  cases rx with
  | exo h1 h2 =>
    rename_i a' d' ns xs vs
    have p2 : PostR X.K X.mg E σ (RepV X.K) μ1 H1 Q (if a' = a ∧ d = some d' ∧ cn = cn' then (match (ns.zip xs).lookup n with | some v => .ok v st1 | none => .fail) else .fail) := p
    split at p2
    · rename_i hq
      obtain ⟨rfl, rfl, rfl⟩ := hq
      have hC : C = C' := by
        have e2 : some (Value.ref C) = some (Value.ref C') := hm.symm.trans hm'
        cases e2; rfl
      subst hC
      cases el : (ns.zip xs).lookup n with
      | none => rw [el] at p2; exact p2.elim
      | some z =>
        rw [el] at p2
        obtain ⟨v, e1, e2⟩ := RepVs.look h2 el
        exact ⟨rfl, rfl, d', _, v, rfl, h1, e1, p2 μ1 v H1 (Ext.refl _ _) rs1 e2⟩
    · exact p2.elim
  | _ => exact p.elim⟩
end
end DL
set_option Elab.async false
set_option linter.all false
set_option maxRecDepth 100000
set_option maxHeartbeats 2000000
/-! DL8: an own error whose __init__ calls super().__init__ with its parameters and keeps them as fields -/
namespace DL
open PySem PySem.W PySem.Calls PyProof.Rows PySem.HandSPX
theorem _root_.PySem.LowK.kept_but {K : Frag} {h h' : Heap} {x : Addr} (X : K.In h) (hx : K.lookup x = none) (k : ∀ b o, b ≠ x → h.get? b = some o → h'.get? b = some o) : K.In h' := fun a o e =>
  k a o (fun z => by rw [z, hx] at e; cases e) (X a o e)
theorem call_eq {o : Expr} {name : Str} {apos pos : Pos} {args : List Expr} {env : Env} (hf : methodCallForm (args.length + ([] : List Keyword).length) (backTo pos (starEach args env)) (backToKw pos (keywordEach [] env)) = true) (hl : (apos.endLine == pos.line) = true) :
    eval (.Call (.Attribute o name apos) args [] pos) env = (do
      let ov ← attributeBase o name env (eval o env)
      standAt apos.atName
      let (f, first) ← holding [ov] (getMethod ov name (do return (← importBound o env).getD true))
      callWith pos f first (backTo pos (starEach args env)) []) := by
  rw [arm_eval_Call]
  unfold methodCall calleeOf
  have hp : methodCallPos true o env apos pos = pure pos := by unfold methodCallPos; simp [hl]
  rw [hf, hp]
  simp only [if_true, pure_bind]
  rfl
/-- ValueError.__init__ bound to the exception, called -/
theorem call_mw {prog : Program} {w : World} {A : Around} {E : Value → Shared → Prop} {h : Heap} {g : Array GenState} {d : Drawn} {t : Nat} {os : OsState}
    {nm q : Str} {C N : Addr} {bs bm : List Value} {hdct : Bool} {sn : List Str} {sub : List Value} {ab : Bool} {col : Option Bool} {dd : Option Addr} {k0 k1 k2 k3 k5 : Option Value} {u e t0 : Addr} {rest : List Value} {Q : Value → Shared → Prop}
    (hC : h.get? C = some (excClassObj nm q C N bs bm hdct sn sub ab col dd k0 k1 k2 k3 k5 "ValueError.__new__")) (he : h.get? e = some (excO C t0)) (hu : h.get? u = some (kxs_mw "ValueError.__init__" e)) (hrest : rest.length ≤ sizeLine)
    (hq : ∀ h' t1, (∀ b o, b ≠ e → h.get? b = some o → h'.get? b = some o) → h'.get? e = some (excO C t1) → Q .none ⟨h', g, d, t, os⟩) :
    wpAny (model prog w) A (call (.ref u) rest) Q E ⟨h, g, d, t, os⟩ := by
  refine wpAny_call (codeAny_of_tree ?_)
  show wpAny _ A.in1 (callAny (.ref u) ⟨rest, []⟩) _ _ _
  simp only [callAny]
  refine wpAny_bind (wpAny_load hu ?_)
  simp only [kxs_mw, show (Value.type "method-wrapper" == Value.type "method" || Value.type "method-wrapper" == Value.type "builtin_function_or_method" || Value.type "method-wrapper" == Value.type "method-wrapper") = true by decide, if_true]
  refine W.KFB.if_so (by decide) ?_
  refine wpAny_bind (ESX.check_bound F.excBase_ValueError hC he rfl ?_)
  refine wpAny_bind (wpAny_pure (wpAny_pure ?_))
  refine ⟨Code.quiet_builtin _ (by decide +kernel), codeAny_builtin F.excBase_ValueError.initEntry ?_⟩
  rw [Around.under_plainId F.excBase_ValueError.init.plain _]
  wp_walk
  refine hq _ h.objs.size (fun b o hb ho => ?_) ?_
  · rw [Heap.get?_update_other _ _ (Ne.symm hb)]
    exact Heap.get?_push_of_some _ ho
  · rw [Heap.get?_update_self _ (Heap.get?_push_of_some _ he) rfl]
    rfl
/-- the parameters: self and the fields' names -/
def xA (ps : List (Str × Pos)) : Arguments := { posonlyargs := [], args := ps.map fun p => { arg := p.1, annotation := none, pos := p.2 }, vararg := none, kwonlyargs := [], kw_defaults := [], kwarg := none, defaults := [] }
def xSup (es : List Expr) (p0 p1 p2 p3 p4 : Pos) : Stmt := .Expr (.Call (.Attribute (.Call (.Name "super" p0) [] [] p1) "__init__" p2) es [] p3) p4
def xSet (f : Str) (q1 q2 q3 q4 : Pos) : Stmt := .Assign [.Attribute (.Name "self" q1) f q2] (.Name f q3) q4
def xS (ns : List Str) : Scope := { kind := .function, names := (("super" : Str), NameKind.globalImplicit) :: ns.map fun n => (n, NameKind.local), isGenerator := false, isCoroutine := false, more := [] }
/-- what the written part says of an own error's class, at C -/
structure XCls (K : Frag) (mg : Str → Option Value) (cn : Str) (C : Addr) : Prop where
  gC : mg cn = some (.ref C)
  cls : ∃ nm q N bs bm sn sub ab col dd k0 k1 k2 k3 k5, K.lookup C = some (excClassObj nm q C N bs bm true sn sub ab col dd k0 k1 k2 k3 k5 "ValueError.__new__") ∧ refsVE bm = true
  sa : findIn K (.ref C) "__setattr__" = some (some (.builtin "object.__setattr__"))
  ga : findIn K (.ref C) "__getattribute__" = some (some (.builtin "BaseException.__getattribute__"))
  gg : findIn K (.ref C) "__getattr__" = some none
  kC : keepIn K (.ref C) = true
  exC : subIn K (.ref C) (.type "BaseException") = some true
  tyC : typeIn K (.ref C) = some (.type "type")
  hdC : hasDictIn K C = true
/-- of its __init__, at fI; sc: the scope's names -/
structure XIni (prog : Program) (K : Frag) (mg : Str → Option Value) (C : Addr) (qual : Str) (par : Arguments) (body : List Stmt) (sc : Scope) (fI : Addr) : Prop where
  iC : findIn K (.ref C) "__init__" = some (some (.ref fI))
  tC : typeIn K (.ref fI) = some (.type "function")
  fn : ∃ (oc : Value) (od : Option Addr) (kV doc pm : Value) (an : Option Addr) (cda cc : Addr) (ct : Value) (osl : Array (Option Value)) (ccl : Value) (cdd : Option Addr) (vs : Array Value) (ccs : Array (Option Value)) (file : Str) (tf : Tok) (cl : Value) (cld : Option Addr) (csl : Array (Option Value)),
    K.lookup fI = some ⟨oc, od, .func (ksFn "__init__" qual par body sc .none kV doc pm an (.ref cda) ct cc), osl⟩ ∧ codeIn K (.ref cda) qual = true ∧
    K.lookup cda = some ⟨ccl, cdd, .fields vs, ccs⟩ ∧ vs[2]? = some (.str file tf) ∧ ((prog.main.file : Str) == file) = true ∧ K.lookup cc = some ⟨cl, cld, .cell (some (.ref C)), csl⟩
  mgS : mg "super" = none
  top : (prog.main.scope.names.lookup ("super" : Str)).isSome = false
  op : nsIn K cStatics "thirdparty.any" = some none
  al : ks_superIn K C C "__init__" = some (some (.builtin "ValueError.__init__"))
  isB : subIn K (.ref C) (.type "ValueError") = some true
  mro : mroIn K C (.ref C) = some true
/-- the module's names where a def runs -/
structure GlobAt (mg : Str → Option Value) (h : Heap) : Prop where
  g : h.Ns mainGlobals mg
  b : ∃ mb, h.Ns builtinsNs mb ∧ ∀ x : Str, x ≠ "__name__" → mb x = bootBuiltins x
theorem GlobAt.keeps {mg : Str → Option Value} {h h' : Heap} (G : GlobAt mg h) (k : ∀ b o, h.get? b = some o → h'.get? b = some o) : GlobAt mg h' :=
  ⟨G.g.keeps k, let ⟨mb, h1, h2⟩ := G.b; ⟨mb, h1.keeps k, h2⟩⟩
section
variable {prog : Program} {w : World} {A : Around} {E : Value → Shared → Prop} {K : Frag} {mg : Str → Option Value} {C fI : Addr}
theorem sup_init {cn qual : Str} {par : Arguments} {body : List Stmt} {sc : Scope} {L : Addr} {m : Str → Option Value} {es : List Expr} {e1 : Expr} {us : List Value} {p0 p1 p2 p3 : Pos} {hp : Heap} {g : Array GenState} {d : Drawn} {t : Nat} {os : OsState} {x t0 cda cc : Addr} {ar : Arg} {Q : Value → Shared → Prop}
    {oc ct : Value} {od : Option Addr} {kV doc pm : Value} {an : Option Addr} {osl : Array (Option Value)} {ccl : Value} {cdd : Option Addr} {vs : Array Value} {ccs : Array (Option Value)} {file : Str} {tf : Tok} {cl : Value} {cld : Option Addr} {csl : Array (Option Value)}
    (T : XCls K mg cn C) (lf : K.lookup fI = some ⟨oc, od, .func (ksFn "__init__" qual par body sc .none kV doc pm an (.ref cda) ct cc), osl⟩)
    (lc : K.lookup cda = some ⟨ccl, cdd, .fields vs, ccs⟩) (hvs : vs[2]? = some (.str file tf)) (hfile : ((prog.main.file : Str) == file) = true) (lcc : K.lookup cc = some ⟨cl, cld, .cell (some (.ref C)), csl⟩)
    (I : XIni prog K mg C qual par body sc fI) (X : K.In hp) (G : GlobAt mg hp) (hns : hp.Ns L m) (hx : hp.get? x = some (excO C t0)) (hpar : (par.posonlyargs ++ par.args).head? = some ar) (hself : m ar.arg = some (.ref x))
    (hk : sc.kind = .function) (hks : sc.names.lookup ("super" : Str) = some .globalImplicit) (hkc : sc.names.lookup ("__class__" : Str) = some .free) (hka : sc.names.lookup ar.arg = some .local)
    (hargs : ∀ s₁ (Q : List Value → Shared → Prop) (E : Value → Shared → Prop), s₁.heap.Ns L m → Q us s₁ → wpAny (model prog w) A (spliced (backTo p3 (starEach (e1 :: es) (ksEnv qual sc L fI (.ref cda) cc)))) Q E s₁) (hus : us.length ≤ sizeLine)
    (hq : ∀ h' t1 tk, (∀ b o, b ≠ x → hp.get? b = some o → h'.get? b = some o) → h'.get? x = some (excO C t1) → Q .none ⟨h', g, d, tk, os⟩)
    {pl : Sem Bool} (he : eval (.Call (.Attribute (.Call (.Name "super" p0) [] [] p1) "__init__" p2) (e1 :: es) [] p3) (ksEnv qual sc L fI (.ref cda) cc) = (do
      let ov ← attributeBase (.Call (.Name "super" p0) [] [] p1) "__init__" (ksEnv qual sc L fI (.ref cda) cc) (eval (.Call (.Name "super" p0) [] [] p1) (ksEnv qual sc L fI (.ref cda) cc))
      standAt p2.atName
      let (f, first) ← holding [ov] (getMethod ov "__init__" pl)
      callWith p3 f first (backTo p3 (starEach (e1 :: es) (ksEnv qual sc L fI (.ref cda) cc))) []))
    (hst : starEach (e1 :: es) (ksEnv qual sc L fI (.ref cda) cc) = (false, eval e1 (ksEnv qual sc L fI (.ref cda) cc)) :: starEach es (ksEnv qual sc L fI (.ref cda) cc)) (hpl : (backTo p3 (starEach es (ksEnv qual sc L fI (.ref cda) cc))).any (·.1) = false) :
    _root_.PySem.wpAt (model prog w) A (.func body (ksEnv qual sc L fI (.ref cda) cc)) (eval (.Call (.Attribute (.Call (.Name "super" p0) [] [] p1) "__init__" p2) (e1 :: es) [] p3) (ksEnv qual sc L fI (.ref cda) cc)) Q E ⟨hp, g, d, t, os⟩ := by
  obtain ⟨nm, q, N, bs, bm, sn, sub, ab, col, dd, k0, k1, k2, k3, k5, hC, hbm⟩ := T.cls
  have hcl : clsIn K C = some { name := nm, bases := bs, mro := .ref C :: bm, ns := N, qualname := q, hasDict := true, slotNames := sn, subclasses := sub, abstract := ab, collection := col, hasDel := false } := by unfold clsIn; rw [hC] <;> rfl
  refine ks_wpAt_MethodCall (pl := pl) ?_ he
  refine ks_wpAt_super_base (env := ksEnv qual sc L fI (.ref cda) cc) hks hkc (by decide) rfl (X _ _ lf) rfl hpar rfl (X _ _ lc) rfl hvs hfile I.top ?_
  obtain ⟨mb, hb, hbv⟩ := G.b
  refine ks_loadName_global hk hks (loadGlobal_builtin (env := ksEnv qual sc L fI (.ref cda) cc) G.g I.mgS hb ((hbv _ (by decide)).trans (show bootBuiltins "super" = some (.type "super") by decide +kernel)) ⟨rfl, ?_⟩)
  refine wpAny_loadName_free hk hkc rfl ⟨_, X _ _ lcc, rfl⟩ ?_
  refine wpAny_loadName_local hk hka hns hself ?_
  have hcC : hp.get? C = some (excClassObj nm q C N bs bm true sn sub ab col dd k0 k1 k2 k3 k5 "ValueError.__new__") := X _ _ hC
  refine ks_wpAny_isType_cls hcC rfl ⟨rfl, ?_⟩
  refine ks_wpAny_call_super hcC rfl hx rfl (fun c e => by cases e) (looks_mroIn X I.mro) (fun h1 e1 k1' => ?_)
  have X1 : K.In h1 := X.keeps k1'
  have hx1 := k1' _ _ hx
  have J : InstAt h1 x (excO C t0) C none := ⟨hx1, rfl, rfl, trivial⟩
  have hI : Looks (model prog w) h1 (isInstance (.ref x) (.type "ValueError")) true := J.type.andThen (looks_subIn X1 I.isB)
  have hal := I.al
  unfold ks_superIn at hal
  rw [hcl] at hal
  refine kxs_getMethod kxs_ValueError e1 (looks_opaque X1 I.op) (l₀ := .ref C :: bm) (fun A Q E s k q => wpAny_bind ((looks_clsIn X1 hcl) A _ E s k (wpAny_pure q))) rfl X1 hal hI (ks_ne X1 J hcl) (by decide) ?_
  have k2 : ∀ b o, hp.get? b = some o → (h1.push (kxs_mw "ValueError.__init__" x)).get? b = some o := fun b o e => Heap.get?_push_of_some _ (k1' b o e)
  refine kxs_callWith (i := "ValueError.__init__") (x := x) (by rw [hst]; show (false || (backTo p3 (starEach es (ksEnv qual sc L fI (.ref cda) cc))).any (·.1)) = false; rw [hpl]; rfl) ?_
  have ha := hargs (s₁ := ⟨h1.push (kxs_mw "ValueError.__init__" x), g, d, t + 1, os⟩)
  rw [hst] at ha ⊢
  refine evalArgs_plain (ha _ E (hns.keeps k2) ⟨Heap.get?_push_at rfl rfl, ?_⟩)
  refine call_mw ((X.keeps k2) _ _ hC) (k2 _ _ hx) (Heap.get?_push_at rfl rfl) hus fun h' t1 kk hx' => hq h' t1 _ (fun b o hb ho => kk b o hb (k2 b o ho)) hx'
/-- what __init__ leaves of a fresh exception at x -/
structure IniEnd (h h' : Heap) (x C dx : Addr) (m : Str → Option Value) : Prop where
  keep : ∀ b o, b ≠ x → h.get? b = some o → h'.get? b = some o
  obj : ∃ t1 : Addr, h'.get? x = some { cls := .ref C, dict := some dx, data := .fields #[.ref t1, .none, .none, .none, .bool false, .none] }
  dbig : h.objs.size ≤ dx
  dne : dx ≠ x
  ns : h'.Ns1 dx m
/-- the scope of an __init__ with the parameters fs behind self -/
structure IniSc (sc : Scope) (par : Arguments) (fs : List Str) : Prop where
  kind : sc.kind = .function
  sup : sc.names.lookup ("super" : Str) = some .globalImplicit
  cls : sc.names.lookup ("__class__" : Str) = some .free
  slf : sc.names.lookup ("self" : Str) = some .local
  loc : ∀ f ∈ fs, sc.names.lookup f = some .local ∧ (f == ("__debug__" : Str)) = false ∧ (f == ("self" : Str)) = false
  nd : fs.Nodup
  cell : ∀ x ∈ sc.names, x.2 ≠ .cell
  co : sc.isCoroutine = false
  gen : sc.isGenerator = false
  first : ∃ p, (par.posonlyargs ++ par.args).head? = some { arg := "self", annotation := none, pos := p }
  bind : ∀ (qual : Str) (body : List Stmt) (kV doc pm : Value) (an : Option Addr) (cdv ct : Value) (cc : Addr) (self : Value) (us : List Value), us.length = fs.length →
    bindArgs (ksFn "__init__" qual par body sc .none kV doc pm an cdv ct cc) ⟨self :: us, []⟩ = pure ((Str.ofString "self", self) :: fs.zip us)
theorem look_rev {l : List (Str × Value)} {y : Str} {v : Value} (nd : (l.map (·.1)).Nodup) (h : (y, v) ∈ l) : l.reverse.lookup y = some v := by
  induction l with
  | nil => cases h
  | cons p l ih =>
    rw [List.map_cons, List.nodup_cons] at nd
    rw [List.reverse_cons, List.lookup_append]
    rcases List.mem_cons.mp h with rfl | h
    · have e : l.reverse.lookup y = none := by
        rw [List.lookup_eq_none_iff]
        intro q hq
        rw [List.mem_reverse] at hq
        have z : q.1 ≠ y := fun z => nd.1 (List.mem_map.mpr ⟨q, hq, z⟩)
        simpa using Ne.symm z
      rw [e]
      simp [List.lookup]
    · rw [ih nd.2 h]; rfl
theorem sub_keep {L x dx : Addr} {hp h' : Heap} {m : Str → Option Value} (hns : hp.Ns L m) (hL : L ≠ x) (k : ∀ b o, b ≠ x → hp.get? b = some o → h'.get? b = some o) : h'.Ns L m := hns.at fun o q => k L o hL q
/-- self.f = f, the first one -/
theorem ini_set1 {cn q : Str} {sc : Scope} {L cc : Addr} {cd : Value} {m : Str → Option Value} {f : Str} {hp : Heap} {g : Array GenState} {d : Drawn} {t : Nat} {os : OsState} {x t1 : Addr} {v : Value} {q1 q2 q3 q4 : Pos} {rest : List Stmt} {Q : Flow → Shared → Prop}
    (T : XCls K mg cn C) (hno : findIn K (.ref C) f = some none) (X : K.In hp) (hns : hp.Ns L m) (hL : L ≠ x) (hnx : K.lookup x = none) (hx : hp.get? x = some (excO C t1)) (hs : m "self" = some (.ref x)) (hf : m f = some v)
    (hk : sc.kind = .function) (ls : sc.names.lookup ("self" : Str) = some .local) (lf : sc.names.lookup f = some .local) (hd : (f == ("__debug__" : Str)) = false)
    (hq : ∀ h' tk dx, (∀ b o, b ≠ x → hp.get? b = some o → h'.get? b = some o) → hp.objs.size ≤ dx → dx ≠ x → h'.get? x = some { cls := .ref C, dict := some dx, data := .fields #[.ref t1, .none, .none, .none, .bool false, .none] } → h'.Ns1 dx (fun y => if y = f then some v else none) → h'.Ns L m → K.In h' →
      wpAny (model prog w) A (execs rest (ksEnv q sc L fI cd cc)) Q E ⟨h', g, d, tk, os⟩)
    (hsw : swapsWith (.Name f q3) (some (.Attribute (.Name "self" q1) f q2)) q4.line (ksEnv q sc L fI cd cc) = pure false) :
    wpAny (model prog w) A (execs (xSet f q1 q2 q3 q4 :: rest) (ksEnv q sc L fI cd cc)) Q E ⟨hp, g, d, t, os⟩ := by
  obtain ⟨nm, qn, N, bs, bm, sn, sub, ab, col, dd, k0, k1, k2, k3, k5, hC, hbm⟩ := T.cls
  have hcl : clsIn K C = some { name := nm, bases := bs, mro := .ref C :: bm, ns := N, qualname := qn, hasDict := true, slotNames := sn, subclasses := sub, abstract := ab, collection := col, hasDel := false } := by unfold clsIn; rw [hC] <;> rfl
  refine wpAny_execs_cons (plainObj_wpAny_Assign_Attribute ?_ hsw)
  refine wpAny_Name (wpAny_loadName_local hk lf hns hf ?_) hd
  refine wpAny_Name (wpAny_loadName_local hk ls hns hs ?_) (by decide)
  refine set_plain X (ox := excO C t1) (od := none) ⟨hx, rfl, rfl, trivial⟩ T.sa ?_
  refine exc_osa X hx hcl (show refsVE (.ref C :: bm) = true from hbm) rfl hno (fun h₃ tk₃ dx k₃ dn dne hx₃ hn₃ => ?_)
  exact hq h₃ tk₃ dx k₃ dn dne hx₃ hn₃ (sub_keep (dx := dx) hns hL k₃) (PySem.LowK.kept_but X hnx k₃)
/-- self.f = f, a later one -/
theorem ini_set2 {cn q : Str} {sc : Scope} {L cc dx : Addr} {cd : Value} {m : Str → Option Value} {f : Str} {hp : Heap} {g : Array GenState} {d : Drawn} {t : Nat} {os : OsState} {x t1 : Addr} {v : Value} {q1 q2 q3 q4 : Pos} {rest : List Stmt} {m0 : Str → Option Value} {nl : List Str} {Q : Flow → Shared → Prop}
    (T : XCls K mg cn C) (hno : findIn K (.ref C) f = some none) (X : K.In hp) (hns : hp.Ns L m) (hL : L ≠ dx) (hnx : K.lookup dx = none) (hx : hp.get? x = some { cls := .ref C, dict := some dx, data := .fields #[.ref t1, .none, .none, .none, .bool false, .none] }) (hdx : hp.Ns1 dx m0) (hw : Within m0 nl) (hz : nl.length ≤ 1000) (hxd : x ≠ dx)
    (hs : m "self" = some (.ref x)) (hf : m f = some v)
    (hk : sc.kind = .function) (ls : sc.names.lookup ("self" : Str) = some .local) (lf : sc.names.lookup f = some .local) (hd : (f == ("__debug__" : Str)) = false)
    (hq : ∀ h' tk, (∀ b o, b ≠ dx → hp.get? b = some o → h'.get? b = some o) → h'.Ns1 dx (fun y => if y = f then some v else m0 y) → h'.Ns L m → K.In h' →
      wpAny (model prog w) A (execs rest (ksEnv q sc L fI cd cc)) Q E ⟨h', g, d, tk, os⟩)
    (hsw : swapsWith (.Name f q3) (some (.Attribute (.Name "self" q1) f q2)) q4.line (ksEnv q sc L fI cd cc) = pure false) :
    wpAny (model prog w) A (execs (xSet f q1 q2 q3 q4 :: rest) (ksEnv q sc L fI cd cc)) Q E ⟨hp, g, d, t, os⟩ := by
  obtain ⟨nm, qn, N, bs, bm, sn, sub, ab, col, dd, k0, k1, k2, k3, k5, hC, hbm⟩ := T.cls
  have hcl : clsIn K C = some { name := nm, bases := bs, mro := .ref C :: bm, ns := N, qualname := qn, hasDict := true, slotNames := sn, subclasses := sub, abstract := ab, collection := col, hasDel := false } := by unfold clsIn; rw [hC] <;> rfl
  refine wpAny_execs_cons (plainObj_wpAny_Assign_Attribute ?_ hsw)
  refine wpAny_Name (wpAny_loadName_local hk lf hns hf ?_) hd
  refine wpAny_Name (wpAny_loadName_local hk ls hns hs ?_) (by decide)
  obtain ⟨oD, _, _, hoD, _, _⟩ := hdx.count hw
  refine set_plain X (ox := { cls := .ref C, dict := some dx, data := .fields #[.ref t1, .none, .none, .none, .bool false, .none] }) (od := some oD) ⟨hx, rfl, rfl, hoD⟩ T.sa ?_
  refine OEX.osa_old X hx hdx hw hz hcl (show refsVE (.ref C :: bm) = true from hbm) rfl hno (fun h₃ tk₃ k₃ hn₃ => ?_)
  exact hq h₃ tk₃ k₃ hn₃ (sub_keep (dx := dx) hns hL k₃) (PySem.LowK.kept_but X hnx k₃)
def xB1 (f1 : Str) (p0 p1 p2 p3 p4 e1 a1 b1 c1 d1 : Pos) : List Stmt := [xSup [.Name f1 e1] p0 p1 p2 p3 p4, xSet f1 a1 b1 c1 d1]
theorem x_init1 {cn qual : Str} {par : Arguments} {sc : Scope} {f1 : Str} {v1 : Value} {p0 p1 p2 p3 p4 e1 a1 b1 c1 d1 : Pos} {hp : Heap} {g : Array GenState} {d : Drawn} {t : Nat} {os : OsState} {x t0 : Addr} {R : Result → Shared → Prop}
    (hline : (p2.endLine == p3.line) = true) (T : XCls K mg cn C) (I : XIni prog K mg C qual par (xB1 f1 p0 p1 p2 p3 p4 e1 a1 b1 c1 d1) sc fI) (S : IniSc sc par [f1]) (hno : ∀ f ∈ ([f1] : List Str), findIn K (.ref C) f = some none) (X : K.In hp) (G : GlobAt mg hp) (hlim : hp.NoLimit) (hx : hp.get? x = some (excO C t0)) (hnx : K.lookup x = none) (hnew : ∀ a, hp.objs.size ≤ a → K.lookup a = none) (hroom : A.depth < recursionLimit)
    (hq : ∀ h' tk dx, IniEnd hp h' x C dx (fun y => if y = f1 then some v1 else none) → R (.ok (.ret .none)) ⟨h', g, d, tk, os⟩) :
    codeAny (model prog w) A (.call (.ref fI) ⟨.ref x :: [v1], []⟩) R ⟨hp, g, d, t, os⟩ := by
  obtain ⟨kd, nms, ig, ico, mr⟩ := sc
  obtain rfl : kd = .function := S.kind
  obtain ⟨oc, od, kV, doc, pm, an, cda, cc, ct, osl, ccl, cdd, vs, ccs, file, tf, cl, cld, csl, lf, hcd, lc, hvs, hfile, lcc⟩ := I.fn
  obtain ⟨pp, hpar⟩ := S.first
  have nself : ∀ f ∈ ([f1] : List Str), f ≠ (Str.ofString "self") := fun f hf => by simpa using (S.loc f hf).2.2
  have nd : ((((Str.ofString "self", Value.ref x) :: ([f1] : List Str).zip [v1]) : List (Str × Value)).map (·.1)).Nodup := by
    show (Str.ofString "self" :: ([f1] : List Str)).Nodup
    exact List.nodup_cons.mpr ⟨fun z => nself _ z rfl, S.nd⟩
  refine ks_codeAny_call_defAt (fd := ksFn "__init__" qual par (xB1 f1 p0 p1 p2 p3 p4 e1 a1 b1 c1 d1) ⟨.function, nms, ig, ico, mr⟩ .none kV doc pm an (.ref cda) ct cc) (body := xB1 f1 p0 p1 p2 p3 p4 e1 a1 b1 c1 d1) (binds := (Str.ofString "self", .ref x) :: ([f1] : List Str).zip [v1]) hroom (X _ _ lf) rfl hlim (codeRec_of X hcd) rfl
    (.of_eq (S.bind qual _ kV doc pm an _ ct cc _ _ rfl)) S.cell (fun y hy => ?_) (fun h₁ hns k₁ => ?_) S.co S.gen S.kind
  · rcases List.mem_cons.mp hy with rfl | hy
    · exact S.slf
    · exact (S.loc y.1 (List.of_mem_zip (a := y.1) (b := y.2) hy).1).1
  have X₁ : K.In h₁ := X.keeps k₁
  have hx₁ := k₁ _ _ hx
  have hLx : hp.objs.size ≠ x := Nat.ne_of_gt (Heap.lt_size hx)
  have ms := look_rev nd (y := Str.ofString "self") (v := .ref x) (List.mem_cons_self ..)
  have m1 := look_rev nd (y := f1) (v := v1) (by simp)
  refine ks_wpAt_execs_cons (ks_wpAt_Expr_any ?_ rfl rfl)
  refine sup_init (us := [v1]) T lf lc hvs hfile lcc I X₁ (G.keeps k₁) hns hx₁ hpar ms S.kind S.sup S.cls S.slf (fun s₁ Q E hn q => ?_) (by rw [sizeLine_eq]; show 1 ≤ 16777216; decide) (fun h₂ t1 tk₂ k₂ hx₂ => ?_) (call_eq rfl hline) rfl rfl
  · show wpAny _ _ (spliced (backTo p3 (starEach [.Name f1 e1] _))) _ _ _
    refine Calls.spliced_cons (wpAny_Name (wpAny_loadName_local S.kind (S.loc f1 (by simp)).1 hn m1 ?_) (S.loc f1 (by simp)).2.1)
    exact Calls.spliced_nil q
  · have X₂ : K.In h₂ := PySem.LowK.kept_but X₁ hnx k₂
    have hns₂ : h₂.Ns hp.objs.size _ := sub_keep (dx := x) hns hLx k₂
    show _root_.PySem.wpAt _ _ _ _ _ _ _
    refine _root_.PySem.wpAt_of_wpAny ?_
    have big : hp.objs.size < h₂.objs.size := hns₂.lt
    refine ini_set1 T (hno f1 (by simp)) X₂ hns₂ hLx hnx hx₂ ms m1 S.kind S.slf (S.loc f1 (by simp)).1 (S.loc f1 (by simp)).2.1 (fun h₃ tk₃ dx k₃ dn dne hx₃ hn₃ hns₃ X₃ => ?_) rfl
    have dL : hp.objs.size ≠ dx := by omega
    have ndx : K.lookup dx = none := hnew dx (by omega)
    refine wpAny_execs_nil ?_
    exact hq h₃ _ dx ⟨fun b o hb e => k₃ b o hb (k₂ b o hb (k₁ b o e)), ⟨t1, hx₃⟩, by omega, dne, hn₃⟩
def xB2 (f1 f2 : Str) (p0 p1 p2 p3 p4 e1 a1 b1 c1 d1 e2 a2 b2 c2 d2 : Pos) : List Stmt := [xSup [.Name f1 e1, .Name f2 e2] p0 p1 p2 p3 p4, xSet f1 a1 b1 c1 d1, xSet f2 a2 b2 c2 d2]
theorem x_init2 {cn qual : Str} {par : Arguments} {sc : Scope} {f1 f2 : Str} {v1 v2 : Value} {p0 p1 p2 p3 p4 e1 a1 b1 c1 d1 e2 a2 b2 c2 d2 : Pos} {hp : Heap} {g : Array GenState} {d : Drawn} {t : Nat} {os : OsState} {x t0 : Addr} {R : Result → Shared → Prop}
    (hline : (p2.endLine == p3.line) = true) (T : XCls K mg cn C) (I : XIni prog K mg C qual par (xB2 f1 f2 p0 p1 p2 p3 p4 e1 a1 b1 c1 d1 e2 a2 b2 c2 d2) sc fI) (S : IniSc sc par [f1, f2]) (hno : ∀ f ∈ ([f1, f2] : List Str), findIn K (.ref C) f = some none) (X : K.In hp) (G : GlobAt mg hp) (hlim : hp.NoLimit) (hx : hp.get? x = some (excO C t0)) (hnx : K.lookup x = none) (hnew : ∀ a, hp.objs.size ≤ a → K.lookup a = none) (hroom : A.depth < recursionLimit)
    (hq : ∀ h' tk dx, IniEnd hp h' x C dx (fun y => if y = f2 then some v2 else if y = f1 then some v1 else none) → R (.ok (.ret .none)) ⟨h', g, d, tk, os⟩) :
    codeAny (model prog w) A (.call (.ref fI) ⟨.ref x :: [v1, v2], []⟩) R ⟨hp, g, d, t, os⟩ := by
  obtain ⟨kd, nms, ig, ico, mr⟩ := sc
  obtain rfl : kd = .function := S.kind
  obtain ⟨oc, od, kV, doc, pm, an, cda, cc, ct, osl, ccl, cdd, vs, ccs, file, tf, cl, cld, csl, lf, hcd, lc, hvs, hfile, lcc⟩ := I.fn
  obtain ⟨pp, hpar⟩ := S.first
  have nself : ∀ f ∈ ([f1, f2] : List Str), f ≠ (Str.ofString "self") := fun f hf => by simpa using (S.loc f hf).2.2
  have nd : ((((Str.ofString "self", Value.ref x) :: ([f1, f2] : List Str).zip [v1, v2]) : List (Str × Value)).map (·.1)).Nodup := by
    show (Str.ofString "self" :: ([f1, f2] : List Str)).Nodup
    exact List.nodup_cons.mpr ⟨fun z => nself _ z rfl, S.nd⟩
  refine ks_codeAny_call_defAt (fd := ksFn "__init__" qual par (xB2 f1 f2 p0 p1 p2 p3 p4 e1 a1 b1 c1 d1 e2 a2 b2 c2 d2) ⟨.function, nms, ig, ico, mr⟩ .none kV doc pm an (.ref cda) ct cc) (body := xB2 f1 f2 p0 p1 p2 p3 p4 e1 a1 b1 c1 d1 e2 a2 b2 c2 d2) (binds := (Str.ofString "self", .ref x) :: ([f1, f2] : List Str).zip [v1, v2]) hroom (X _ _ lf) rfl hlim (codeRec_of X hcd) rfl
    (.of_eq (S.bind qual _ kV doc pm an _ ct cc _ _ rfl)) S.cell (fun y hy => ?_) (fun h₁ hns k₁ => ?_) S.co S.gen S.kind
  · rcases List.mem_cons.mp hy with rfl | hy
    · exact S.slf
    · exact (S.loc y.1 (List.of_mem_zip (a := y.1) (b := y.2) hy).1).1
  have X₁ : K.In h₁ := X.keeps k₁
  have hx₁ := k₁ _ _ hx
  have hLx : hp.objs.size ≠ x := Nat.ne_of_gt (Heap.lt_size hx)
  have ms := look_rev nd (y := Str.ofString "self") (v := .ref x) (List.mem_cons_self ..)
  have m1 := look_rev nd (y := f1) (v := v1) (by simp)
  have m2 := look_rev nd (y := f2) (v := v2) (by simp)
  refine ks_wpAt_execs_cons (ks_wpAt_Expr_any ?_ rfl rfl)
  refine sup_init (us := [v1, v2]) T lf lc hvs hfile lcc I X₁ (G.keeps k₁) hns hx₁ hpar ms S.kind S.sup S.cls S.slf (fun s₁ Q E hn q => ?_) (by rw [sizeLine_eq]; show 2 ≤ 16777216; decide) (fun h₂ t1 tk₂ k₂ hx₂ => ?_) (call_eq rfl hline) rfl rfl
  · show wpAny _ _ (spliced (backTo p3 (starEach [.Name f1 e1, .Name f2 e2] _))) _ _ _
    refine Calls.spliced_cons (wpAny_Name (wpAny_loadName_local S.kind (S.loc f1 (by simp)).1 hn m1 ?_) (S.loc f1 (by simp)).2.1)
    refine Calls.spliced_cons (wpAny_Name (wpAny_loadName_local S.kind (S.loc f2 (by simp)).1 hn m2 ?_) (S.loc f2 (by simp)).2.1)
    exact Calls.spliced_nil q
  · have X₂ : K.In h₂ := PySem.LowK.kept_but X₁ hnx k₂
    have hns₂ : h₂.Ns hp.objs.size _ := sub_keep (dx := x) hns hLx k₂
    show _root_.PySem.wpAt _ _ _ _ _ _ _
    refine _root_.PySem.wpAt_of_wpAny ?_
    have big : hp.objs.size < h₂.objs.size := hns₂.lt
    refine ini_set1 T (hno f1 (by simp)) X₂ hns₂ hLx hnx hx₂ ms m1 S.kind S.slf (S.loc f1 (by simp)).1 (S.loc f1 (by simp)).2.1 (fun h₃ tk₃ dx k₃ dn dne hx₃ hn₃ hns₃ X₃ => ?_) rfl
    have dL : hp.objs.size ≠ dx := by omega
    have ndx : K.lookup dx = none := hnew dx (by omega)
    refine ini_set2 T (hno f2 (by simp)) X₃ hns₃ dL ndx hx₃ hn₃ (Within.cons f1 v1 Within.nil) (show 1 ≤ 1000 by decide) (Ne.symm dne) ms m2 S.kind S.slf (S.loc f2 (by simp)).1 (S.loc f2 (by simp)).2.1 (fun h₄ tk₄ k₄ hn₄ hns₄ X₄ => ?_) rfl
    refine wpAny_execs_nil ?_
    exact hq h₄ _ dx ⟨fun b o hb e => k₄ b o (fun z => absurd (Heap.lt_size e) (Nat.not_lt.mpr (by rw [z]; exact Nat.le_of_lt (Nat.lt_of_lt_of_le big dn)))) (k₃ b o hb (k₂ b o hb (k₁ b o e))), ⟨t1, k₄ _ _ (Ne.symm dne) hx₃⟩, by omega, dne, hn₄⟩
/-- what an own __init__ does to a fresh exception, whatever its arguments us: the fields -/
def IniOk (prog : Program) (w : World) (K : Frag) (mg : Str → Option Value) (C fI : Addr) (n : Nat) (m : List Value → Str → Option Value) : Prop :=
  ∀ (A : Around) (R : Result → Shared → Prop) (us : List Value) (hp : Heap) (g : Array GenState) (d : Drawn) (t : Nat) (os : OsState) (x t0 : Addr), us.length = n → K.In hp → GlobAt mg hp → hp.NoLimit → hp.get? x = some (excO C t0) → K.lookup x = none → (∀ a, hp.objs.size ≤ a → K.lookup a = none) → A.depth < recursionLimit →
    (∀ h' tk dx, IniEnd hp h' x C dx (m us) → R (.ok (.ret .none)) ⟨h', g, d, tk, os⟩) → codeAny (model prog w) A (.call (.ref fI) ⟨.ref x :: us, []⟩) R ⟨hp, g, d, t, os⟩
/-- a made exception with its own dict d -/
structure OwnMade (h h' : Heap) (e C d : Addr) (m : Str → Option Value) : Prop where
  keep : ∀ b o, h.get? b = some o → h'.get? b = some o
  new : h.objs.size ≤ e
  obj : ∃ oe vs, h'.get? e = some oe ∧ oe.cls = .ref C ∧ oe.dict = some d ∧ oe.data = .fields vs ∧ vs[1]? = some .none
  dbig : h.objs.size ≤ d
  dne : d ≠ e
  ns : h'.Ns1 d m
theorem x_made {cn : Str} {n : Nat} {m : List Value → Str → Option Value} {us : List Value} {s : Shared} {R : Result → Shared → Prop} (T : XCls K mg cn C) (hi : findIn K (.ref C) "__init__" = some (some (.ref fI))) (ht : typeIn K (.ref fI) = some (.type "function"))
    (I : IniOk prog w K mg C fI n m) (hn : us.length = n) (hn2 : n ≤ 1000) (X : K.In s.heap) (G : GlobAt mg s.heap) (hlim : s.heap.NoLimit) (hroom : A.depth + 1 < recursionLimit)
    (hq : ∀ h' tk e d, OwnMade s.heap h' e C d (m us) → R (.ok (.ret (.ref e))) { s with heap := h', toks := tk }) :
    codeAny (model prog w) A (.call (.ref C) ⟨us, []⟩) R s := by
  obtain ⟨nm, q, N, bs, bm, sn, sub, ab, col, dd, k0, k1, k2, k3, k5, hC, hbm⟩ := T.cls
  obtain ⟨hp, g, dr, tk, os⟩ := s
  have k : ∀ b o, hp.get? b = some o → ((hp.push (kdv_tup us)).push (excO C hp.objs.size)).get? b = some o := fun b o e => Heap.get?_push_of_some _ (Heap.get?_push_of_some _ e)
  have hget : ((hp.push (kdv_tup us)).push (excO C hp.objs.size)).get? (hp.objs.size + 1) = some (excO C hp.objs.size) := by heap_get
  have hnew : ∀ a, hp.objs.size ≤ a → K.lookup a = none := fun a ha => by
    cases e : K.lookup a with
    | none => rfl
    | some o =>
      have z : hp.get? a = some o := X _ _ e
      exact absurd (Heap.lt_size z) (Nat.not_lt.mpr ha)
  have sz : ((hp.push (kdv_tup us)).push (excO C hp.objs.size)).objs.size = hp.objs.size + 1 + 1 := by rw [Heap.size_push, Heap.size_push]
  refine call_own F.excBase_ValueError (fun X => refsVE_contains X bm hbm) (X _ _ hC) (looks_findIn X hi) (fun self => bind_fn X self ht) (by rw [hn, sizeLine_eq]; omega) ?_
  refine I _ _ us ((hp.push (kdv_tup us)).push (excO C hp.objs.size)) g dr tk os (hp.objs.size + 1) hp.objs.size hn (X.keeps k) (G.keeps k) (hlim.keeps k) hget (hnew _ (by omega)) (fun a ha => hnew a (by omega)) hroom fun h' tk' dx ⟨k', ⟨t1, hx⟩, dn, dne, hns⟩ => ?_
  have old : ∀ b o, hp.get? b = some o → h'.get? b = some o := fun b o e => k' b o (Nat.ne_of_lt (Nat.lt_succ_of_lt (Heap.lt_size e))) (k b o e)
  exact ⟨rfl, hq h' tk' (hp.objs.size + 1) dx ⟨old, Nat.le_succ _, ⟨_, _, hx, rfl, rfl, rfl, rfl⟩, by rw [sz] at dn; exact Nat.le_trans (Nat.le_trans (Nat.le_succ _) (Nat.le_succ _)) dn, dne, hns⟩⟩
end
end DL
namespace DL
open PySem L2
section
variable {X : Cx} {C fI : Addr}
/-- the fields of a made exception -/
def fsM (fs : List Str) (us : List Value) : Str → Option Value := fun y => (fs.zip us).lookup y
theorem relO_zip {fs : List Str} : ∀ {vs : List V} {us : List Value}, Vals vs us → ∀ f, RelO ((fs.zip vs).lookup f) ((fs.zip us).lookup f) := by
  induction fs with
  | nil => intro vs us r f; exact True.intro
  | cons n fs ih =>
    intro vs us r f
    cases r with
    | nil => exact True.intro
    | cons h1 h2 =>
      rw [List.zip_cons_cons, List.zip_cons_cons, List.lookup_cons, List.lookup_cons]
      cases e : f == n with
      | true => exact h1
      | false => exact ih h2 f
/-- an own error's class, all of it -/
structure XC (X : Cx) (cn : Str) (fs : List Str) : Prop where
  ex : ∃ C fI, XCls X.K X.mg cn C ∧ PySem.W.findIn X.K (.ref C) "__init__" = some (some (.ref fI)) ∧ PySem.W.typeIn X.K (.ref fI) = some (.type "function") ∧ IniOk X.prog X.w X.K X.mg C fI fs.length (fsM fs)
def tMkX (mg : MG) (cn : Str) (fs : List Str) (ta : TA) : L2.St → Hp → XK → Prop := fun σ H Q => ta σ H fun vs H1 => vs.length = fs.length ∧ ∀ C d, mg cn = some (.ref C) → H1 d = none → Q (.ref C) (some d) (upd H1 d (.xd (fs.zip vs)))
theorem pmk_x {a : Expr} {as : List Expr} {ta : TA} {p pos : Pos} {cn : Str} {fs : List Str} {k : Nat} (T : XC X cn fs) (hl : fs.length ≤ 1000) (hr : Room k X.A) (ha : PA X (a :: as) ta) (hg : Gl X cn) (hd : (cn == ("__debug__" : Str)) = false)
    (he : starEach (a :: as) X.env = (false, eval a X.env) :: starEach as X.env := by rfl) (hpl : (backTo pos (starEach as X.env)).any (·.1) = false := by rfl) :
    PMk X (.Call (.Name cn p) (a :: as) [] pos) (tMkX X.mg cn fs ta) := by
  intro pins s σ H Q I h
  obtain ⟨C, fI, T, hi, ht, Io⟩ := T.ex
  refine wpAny_Call_Name_kw (ld_glob I hg T.gC ?_ hd)
  refine PySem.W.callWith_K (h₀ := X.base) I.ok.mod.kin T.kC (thn (ha.run pos pins s σ H _ I h) fun us s1 hh => ?_) he hpl
  obtain ⟨vs, H1, I1, r1, ev, q1⟩ := hh
  refine ⟨I1.kIn, ?_⟩
  show wpAny _ _ (call (.ref C) us) _ _ _
  have hlim := I1.nolimit
  have G : GlobAt X.mg s1.heap := ⟨I1.mod.glob.keeps I1.bk, let ⟨mb, h1, h2⟩ := I1.mod.blt; ⟨mb, h1.keeps I1.bk, h2⟩⟩
  obtain ⟨hp, g, dr, tk, os⟩ := s1
  refine wpAny_call (x_made T hi ht Io (by rw [← r1.length]; exact ev) hl I1.kIn G hlim (by have := hr.dp; omega) fun h' tk' e d M => ?_)
  show MkP X pins σ Q (.ref e) ⟨h', g, dr, tk', os⟩
  obtain ⟨oe, fv, hoe, hc, hd, hdat, h1⟩ := M.obj
  have hns := M.ns
  obtain ⟨G', g1, g2⟩ := restrict h' fun b => decide (b ≠ e)
  have gk : ∀ b, b ≠ e → G'.get? b = h'.get? b := fun b hb => g1 b (decide_eq_true hb)
  have ge : G'.get? e = none := g2 e (by simp)
  have old : ∀ b o, hp.get? b = some o → G'.get? b = some o := fun b o q => (gk b (Nat.ne_of_lt (Nat.lt_of_lt_of_le (Heap.lt_size q) M.new))).trans (M.keep b o q)
  have ob : ObjOk X.prog X.w (upd H1 d (.xd (fs.zip vs))) G' d (.xd (fs.zip vs)) :=
    ⟨_, hns.at (fun o q => (gk d M.dne).trans q), fun f => relO_zip r1 f⟩
  have J : Inv X pins σ (upd H1 d (.xd (fs.zip vs))) ⟨G', g, dr, tk', os⟩ := I1.laid (t' := tk') old M.dbig ob
  refine ⟨e, oe, fv, ⟨G', g, dr, tk', os⟩, _, .ref C, some d, rfl, J, fun b o q => ?_, ge, hoe, ⟨hc, hd⟩, hdat, h1, ?_, rfl, I1.bare, raises_own T.exC T.tyC, q1 C d T.gC (I1.hok.fresh M.dbig)⟩
  · by_cases hb : b = e
    · have q' : G'.get? b = some o := q
      rw [hb, ge] at q'; cases q'
    · exact (gk b hb).symm.trans q
  · rw [upd_ne (Ne.symm M.dne)]
    exact I1.hok.fresh M.new
/-- raise C(..) -/
def sRaise (cn : Str) (fs : List Str) (as : MA) : MS := fun env st => (as env st).toS env fun ds st1 => if ds.length = fs.length then .exc ⟨cn, fs.zip ds⟩ env st1 else .fail
theorem RepF.of_zip {K : PySem.W.Frag} {μ : List Addr} {H : Hp} {fs : List Str} : ∀ {ds : List D} {vs : List V}, RepVs K μ H ds vs → RepF K μ H (fs.zip ds) (fs.zip vs) := by
  induction fs with
  | nil => intro ds vs r; exact .nil
  | cons n fs ih =>
    intro ds vs r
    cases r with
    | nil => exact .nil
    | cons h1 h2 => exact .cons h1 (ih h2)
theorem rs_raise {E : WX} {a : Expr} {as : List Expr} {mr : MA} {p pos pos2 : Pos} {cn : Str} {fs : List Str} {k : Nat} (hc : X.calm = true) (T : XC X cn fs) (hr : Room k X.A) (tk : Takes X E) (ha : RA X E (a :: as) mr) (hl : fs.length ≤ 1000 := by decide) (hg : Gl X cn := by rfl) (hd : (cn == ("__debug__" : Str)) = false := by decide)
    (he : starEach (a :: as) X.env = (false, eval a X.env) :: starEach as X.env := by rfl) (hpl : (backTo pos (starEach as X.env)).any (·.1) = false := by rfl) :
    RSt X E (.Raise (some (.Call (.Name cn p) (a :: as) [] pos)) none pos2) (sRaise cn fs mr) := ⟨PS.imp (ps_raise hc tk (pmk_x T hl hr ha.pa hg hd he hpl)) fun Dd σ H h => by
  obtain ⟨μ, env, st, rs, re, p⟩ := h
  refine tS_at rs re p fun μ1 st1 H1 ds vs ex rs1 re1 rv p => ?_
  by_cases hl : ds.length = fs.length
  · rw [if_pos hl] at p
    refine ⟨by rw [← rv.length]; exact hl, fun C d hm hd => ?_⟩
    have e1 : Ext μ1 H1 μ1 (upd H1 d (.xd (fs.zip vs))) := Ext.new1 hd
    exact p μ1 σ _ C (some d) e1 (rs1.new1 hd) (re1.mono e1 rs1.noTup) hm (.inr ⟨d, _, rfl, upd_same, RepF.of_zip (rv.mono e1 rs1.noTup)⟩)
  · rw [if_neg hl] at p; exact p.elim⟩
end
end DL
set_option Elab.async false
set_option linter.all false
set_option maxRecDepth 100000
/-! DL9: own errors: the end -/
namespace DL
open PySem PySem.W PySem.Calls PyProof.Rows PySem.HandSPX
section
variable {prog : Program} {w : World} {K : Frag} {mg : Str → Option Value} {C fI : Addr}
theorem IniEnd.to {h h' : Heap} {x C dx : Addr} {m m' : Str → Option Value} (e : IniEnd h h' x C dx m) (q : ∀ y, m y = m' y) : IniEnd h h' x C dx m' := by
  have : m = m' := funext q
  rw [← this]; exact e
theorem ini_ok1 {cn qual : Str} {par : Arguments} {sc : Scope} {f1 : Str} {p0 p1 p2 p3 p4 e1 a1 b1 c1 d1 : Pos} (hline : (p2.endLine == p3.line) = true)
    (T : XCls K mg cn C) (I : XIni prog K mg C qual par (xB1 f1 p0 p1 p2 p3 p4 e1 a1 b1 c1 d1) sc fI) (S : IniSc sc par [f1]) (hno : ∀ f ∈ ([f1] : List Str), findIn K (.ref C) f = some none) : IniOk prog w K mg C fI 1 (fsM [f1]) := by
  intro A R us hp g d t os x t0 hl X G hlim hx hnx hnew hroom hq
  match us, hl with
  | [v1], _ =>
    refine x_init1 hline T I S hno X G hlim hx hnx hnew hroom fun h' tk dx ie => hq h' tk dx (ie.to fun y => ?_)
    show _ = List.lookup y [(f1, v1)]
    rw [List.lookup_cons]
    by_cases hy : y = f1
    · rw [if_pos hy]; simp [hy]
    · rw [if_neg hy]
      have : (y == f1) = false := by simpa using hy
      rw [this]; rfl
theorem ini_ok2 {cn qual : Str} {par : Arguments} {sc : Scope} {f1 f2 : Str} {p0 p1 p2 p3 p4 e1 a1 b1 c1 d1 e2 a2 b2 c2 d2 : Pos} (hline : (p2.endLine == p3.line) = true)
    (T : XCls K mg cn C) (I : XIni prog K mg C qual par (xB2 f1 f2 p0 p1 p2 p3 p4 e1 a1 b1 c1 d1 e2 a2 b2 c2 d2) sc fI) (S : IniSc sc par [f1, f2]) (hno : ∀ f ∈ ([f1, f2] : List Str), findIn K (.ref C) f = some none) : IniOk prog w K mg C fI 2 (fsM [f1, f2]) := by
  intro A R us hp g d t os x t0 hl X G hlim hx hnx hnew hroom hq
  match us, hl with
  | [v1, v2], _ =>
    refine x_init2 hline T I S hno X G hlim hx hnx hnew hroom fun h' tk dx ie => hq h' tk dx (ie.to fun y => ?_)
    have h12 : f1 ≠ f2 := by have := S.nd; simp at this; exact this
    show _ = List.lookup y [(f1, v1), (f2, v2)]
    rw [List.lookup_cons, List.lookup_cons]
    by_cases hy : y = f2
    · rw [if_pos hy]
      have : (y == f1) = false := by rw [hy]; simpa using Ne.symm h12
      rw [this]; simp [hy]
    · rw [if_neg hy]
      by_cases hy1 : y = f1
      · rw [if_pos hy1]; simp [hy1]
      · rw [if_neg hy1]
        have e1 : (y == f1) = false := by simpa using hy1
        have e2 : (y == f2) = false := by simpa using hy
        rw [e1, e2]; rfl
end
end DL
set_option Elab.async false
set_option linter.all false
set_option maxRecDepth 100000
set_option maxHeartbeats 2000000
/-! DL10: list(zip(a, b)), a and b two lists or two tuples -/
namespace DL
open PySem PySem.W PySem.Calls PyProof.Rows
/-- an iterator over a list (b) or a tuple -/
def SIt (b : Bool) (h : Heap) (i l : Addr) (k : Nat) (xs : Array Value) : Prop :=
  match b with | true => h.IsListIter i l k ∧ h.IsList l xs | false => h.IsTupleIter i l k ∧ h.IsTuple l xs
theorem SIt.at {b : Bool} {h h' : Heap} {i l : Addr} {k : Nat} {xs : Array Value} (z : SIt b h i l k xs) (hi : ∀ o, h.get? i = some o → h'.get? i = some o) (hl : ∀ o, h.get? l = some o → h'.get? l = some o) : SIt b h' i l k xs := by
  cases b with
  | true => exact ⟨z.1.at hi, let ⟨o, e, r⟩ := z.2; ⟨o, hl _ e, r⟩⟩
  | false => exact ⟨z.1.at hi, let ⟨o, e, r⟩ := z.2; ⟨o, hl _ e, r⟩⟩
theorem SIt.lt {b : Bool} {h : Heap} {i l : Addr} {k : Nat} {xs : Array Value} (z : SIt b h i l k xs) : i < h.objs.size := by
  cases b with
  | true => obtain ⟨⟨_, e, _⟩, _⟩ := z; exact Heap.lt_size e
  | false => obtain ⟨⟨_, e, _⟩, _⟩ := z; exact Heap.lt_size e
theorem SIt.ltl {b : Bool} {h : Heap} {i l : Addr} {k : Nat} {xs : Array Value} (z : SIt b h i l k xs) : l < h.objs.size := by
  cases b with
  | true => obtain ⟨_, ⟨_, e, _⟩⟩ := z; exact Heap.lt_size e
  | false => obtain ⟨_, ⟨_, e, _⟩⟩ := z; exact Heap.lt_size e
section
variable {prog : Program} {w : World} {A : Around} {E : Value → Shared → Prop} {s : Shared} {bb : Bool}
theorem nx_item {i l : Addr} {k : Nat} {xs : Array Value} {x : Value} {Q : Value → Shared → Prop} (h1 : SIt bb s.heap i l k xs) (hne : l ≠ i) (hx : xs[k]? = some x)
    (hQ : ∀ h', SIt bb h' i l (k + 1) xs → Heap.SameBut i s.heap h' → Q x { s with heap := h' }) : wpAny (model prog w) A (Builtin.SmallTypes.nextOf (.ref i)) Q E s := by
  cases bb with
  | true => exact wpAny_nextOf_list_item h1.1 h1.2 hx fun h' a b => hQ h' ⟨a, h1.2.extBut b.extBut hne⟩ b
  | false => exact RZ.nextOf_tuple_item h1.1 h1.2 hx fun h' a b => hQ h' ⟨a, h1.2.extBut b.extBut hne⟩ b
theorem nx_end {i l : Addr} {k : Nat} {xs : Array Value} {Q : Value → Shared → Prop} (hh : A.handled = none) (h1 : SIt bb s.heap i l k xs) (hx : xs[k]? = none)
    (hE : ∀ h' e, Heap.ExtBut i s.heap h' → (∃ o, h'.get? e = some o ∧ o.cls = .type "StopIteration") → E (.ref e) { s with heap := h' }) : wpAny (model prog w) A (Builtin.SmallTypes.nextOf (.ref i)) Q E s := by
  cases bb with
  | true => exact wpAny_nextOf_list_end hh h1.1 h1.2 hx hE
  | false => exact RZ.nextOf_tuple_end hh h1.1 h1.2 hx hE
theorem zh_item {z TI TO T i1 i2 l1 l2 : Addr} {f : Bool} {oT : Obj} {k1 k2 : Nat} {xs ys : Array Value} {x y : Value} {Q : Value → Shared → Prop} (D : ZipApart z TI TO i1 i2 l1 l2)
    (hz : IsZipHeld s.heap z TI TO T f) (hT : s.heap.get? T = some oT) (hTI : IsPair s.heap TI (.ref i1) (.ref i2))
    (h1 : SIt bb s.heap i1 l1 k1 xs) (h2 : SIt bb s.heap i2 l2 k2 ys) (hx : xs[k1]? = some x) (hy : ys[k2]? = some y)
    (hQ : ∀ h', IsZipHeld h' z TI TO T true → SIt bb h' i1 l1 (k1 + 1) xs → SIt bb h' i2 l2 (k2 + 1) ys → IsPair h' s.heap.objs.size x y → h'.objs.size = s.heap.objs.size + 1 →
      (∀ c o, c ≠ z → c ≠ i1 → c ≠ i2 → s.heap.get? c = some o → h'.get? c = some o) → Q (.ref s.heap.objs.size) { s with heap := h' }) :
    wpAny (model prog w) A (Builtin.«zip.__next__» ⟨[.ref z], []⟩) (fun fin s' => ∃ v, fin = .done (.ret v) ∧ Q v s') E s := by
  show wpAny _ _ (field (.ref z) 2 >>= _) _ _ _
  refine wpAny_bind (wpAny_field hz rfl (x := .bool false) rfl ?_)
  show wpAny _ _ (field (.ref z) 3 >>= _) _ _ _
  refine wpAny_bind (wpAny_field hz rfl (x := .ref TI) rfl ?_)
  refine wpAny_bind (wpAny_seqItems hTI rfl ?_)
  show wpAny _ _ (Builtin.SmallTypes.ownedTupleIsFree (.ref z) >>= _) _ _ _
  refine wpAny_bind (wpAny_tupleHeld_zip hz hT fun h₁ hz₁ hs₁ => ?_)
  simp only [Bool.false_eq_true, if_false]
  refine wpAny_bind ?_
  rw [← Array.forIn_toList]
  simp only [List.forIn_cons, List.forIn_nil]
  have e1 : ∀ c o, c ≠ z → s.heap.get? c = some o → h₁.get? c = some o := fun c o hc e => hs₁.extBut _ _ hc e
  refine wpAny_bind (wpAny_bind (wpAny_holding ?_))
  show wpAny _ _ (Builtin.SmallTypes.nextOf (.ref i1) >>= _) _ _ _
  refine wpAny_bind (nx_item (s := { s with heap := h₁ }) (h1.at (fun o => e1 _ o D.i1z) (fun o => e1 _ o D.l1z)) D.l1i1 hx fun h₂ h1₂ hs₂ => wpAny_pure ?_)
  have e2 : ∀ c o, c ≠ i1 → h₁.get? c = some o → h₂.get? c = some o := fun c o hc e => hs₂.extBut _ _ hc e
  refine wpAny_pure ?_
  refine wpAny_bind (wpAny_bind (wpAny_holding ?_))
  show wpAny _ _ (Builtin.SmallTypes.nextOf (.ref i2) >>= _) _ _ _
  refine wpAny_bind (nx_item (s := { s with heap := h₂ }) (h2.at (fun o e => e2 _ o D.i12.symm (e1 _ o D.i2z e)) (fun o e => e2 _ o D.l2i1 (e1 _ o D.l2z e))) D.l2i2 hy fun h₃ h2₃ hs₃ => wpAny_pure ?_)
  have e3 : ∀ c o, c ≠ i2 → h₂.get? c = some o → h₃.get? c = some o := fun c o hc e => hs₃.extBut _ _ hc e
  refine wpAny_pure (wpAny_pure ?_)
  show wpAny _ _ (newTuple [x, y] >>= _) _ _ _
  refine wpAny_bind (wpAny_newTuple ?_)
  have hsz : h₃.objs.size = s.heap.objs.size := by rw [hs₃.1, hs₂.1, hs₁.1]
  have hz₃ : IsZipHeld h₃ z TI TO T true := e3 _ _ D.i2z.symm (e2 _ _ D.i1z.symm hz₁)
  have hk : ∀ c o, c ≠ z → c ≠ i1 → c ≠ i2 → s.heap.get? c = some o → h₃.get? c = some o := fun c o c1 c2 c3 e => e3 _ _ c3 (e2 _ _ c2 (e1 _ _ c1 e))
  refine wpAny_pure ⟨_, rfl, ?_⟩
  show Q (.ref h₃.objs.size) _
  have hp : IsPair (h₃.push { cls := .type "tuple", data := .seq #[x, y] }) h₃.objs.size x y := Heap.get?_push_size _ rfl
  have hz4 : (h₃.push { cls := .type "tuple", data := .seq #[x, y] }).objs.size = h₃.objs.size + 1 := Heap.size_push ..
  rw [hsz] at hp hz4 ⊢
  have up : ∀ c o, h₃.get? c = some o → (h₃.push { cls := .type "tuple", data := .seq #[x, y] }).get? c = some o := fun c o e => Heap.get?_push_of_some _ e
  exact hQ _ (up _ _ hz₃) (h1₂.at (fun o e => up _ o (e3 _ o D.i12 e)) (fun o e => up _ o (e3 _ o D.l1i2 e))) (h2₃.at (fun o e => up _ o e) (fun o e => up _ o e)) hp hz4 fun c o c1 c2 c3 e => up _ _ (hk c o c1 c2 c3 e)
theorem zh_end {z TI TO T i1 i2 l1 l2 : Addr} {f : Bool} {oT : Obj} {k1 k2 : Nat} {xs ys : Array Value} {Q : Fin → Shared → Prop} (hh : A.handled = none) (D : ZipApart z TI TO i1 i2 l1 l2)
    (hz : IsZipHeld s.heap z TI TO T f) (hT : s.heap.get? T = some oT) (hTI : IsPair s.heap TI (.ref i1) (.ref i2))
    (h1 : SIt bb s.heap i1 l1 k1 xs) (h2 : SIt bb s.heap i2 l2 k2 ys) (hend : xs[k1]? = none ∨ ys[k2]? = none)
    (hE : ∀ h' e, (∀ c o, c ≠ z → c ≠ i1 → c ≠ i2 → s.heap.get? c = some o → h'.get? c = some o) → (∃ o, h'.get? e = some o ∧ o.cls = .type "StopIteration") → E (.ref e) { s with heap := h' }) :
    wpAny (model prog w) A (Builtin.«zip.__next__» ⟨[.ref z], []⟩) Q E s := by
  show wpAny _ _ (field (.ref z) 2 >>= _) _ _ _
  refine wpAny_bind (wpAny_field hz rfl (x := .bool false) rfl ?_)
  show wpAny _ _ (field (.ref z) 3 >>= _) _ _ _
  refine wpAny_bind (wpAny_field hz rfl (x := .ref TI) rfl ?_)
  refine wpAny_bind (wpAny_seqItems hTI rfl ?_)
  show wpAny _ _ (Builtin.SmallTypes.ownedTupleIsFree (.ref z) >>= _) _ _ _
  refine wpAny_bind (wpAny_tupleHeld_zip hz hT fun h₁ hz₁ hs₁ => ?_)
  simp only [Bool.false_eq_true, if_false]
  refine wpAny_bind ?_
  rw [← Array.forIn_toList]
  simp only [List.forIn_cons, List.forIn_nil]
  have e1 : ∀ c o, c ≠ z → s.heap.get? c = some o → h₁.get? c = some o := fun c o hc e => hs₁.extBut _ _ hc e
  refine wpAny_bind (wpAny_bind (wpAny_holding ?_))
  show wpAny _ _ (Builtin.SmallTypes.nextOf (.ref i1) >>= _) _ _ _
  have h1' := h1.at (fun o => e1 _ o D.i1z) (fun o => e1 _ o D.l1z)
  cases hx : xs[k1]? with
  | none =>
    refine wpAny_bind (nx_end (s := { s with heap := h₁ }) hh h1' hx fun h₂ e hs₂ he => ?_)
    exact hE h₂ e (fun c o c1 c2 _ x => hs₂ _ _ c2 (e1 _ _ c1 x)) he
  | some x =>
    have hy : ys[k2]? = none := by rcases hend with h | h; rw [hx] at h; cases h; exact h
    refine wpAny_bind (nx_item (s := { s with heap := h₁ }) h1' D.l1i1 hx fun h₂ h1₂ hs₂ => wpAny_pure ?_)
    have e2 : ∀ c o, c ≠ i1 → h₁.get? c = some o → h₂.get? c = some o := fun c o hc e => hs₂.extBut _ _ hc e
    refine wpAny_pure ?_
    refine wpAny_bind (wpAny_bind (wpAny_holding ?_))
    show wpAny _ _ (Builtin.SmallTypes.nextOf (.ref i2) >>= _) _ _ _
    refine wpAny_bind (nx_end (s := { s with heap := h₂ }) hh (h2.at (fun o e => e2 _ o D.i12.symm (e1 _ o D.i2z e)) (fun o e => e2 _ o D.l2i1 (e1 _ o D.l2z e))) hy fun h₃ e hs₃ he => ?_)
    exact hE h₃ e (fun c o c1 c2 c3 x => hs₃ _ _ c3 (e2 _ _ c2 (e1 _ _ c1 x))) he
/-- a zip walked by list(..): its tuple free (at the start) or still out -/
structure ZSt (bb : Bool) (z TI TO i1 i2 l1 l2 : Addr) (xs ys : Array Value) (S : Addr) (k : Nat) (h : Heap) : Prop where
  ti : IsPair h TI (.ref i1) (.ref i2)
  a1 : SIt bb h i1 l1 k xs
  a2 : SIt bb h i2 l2 k ys
  st : (IsZip h z TI TO .none ∧ ∃ a b, IsPair h TO a b) ∨ ∃ T f oT, IsZipHeld h z TI TO T f ∧ h.get? T = some oT ∧ T ≠ S
theorem ZSt.keep {z TI TO i1 i2 l1 l2 : Addr} {xs ys : Array Value} {S : Addr} {k : Nat} {h h' : Heap} (Z : ZSt bb z TI TO i1 i2 l1 l2 xs ys S k h) (e : ∀ b o, b ≠ S → h.get? b = some o → h'.get? b = some o)
    (n1 : z ≠ S) (n2 : TI ≠ S) (n3 : TO ≠ S) (n4 : i1 ≠ S) (n5 : i2 ≠ S) (n6 : l1 ≠ S) (n7 : l2 ≠ S) : ZSt bb z TI TO i1 i2 l1 l2 xs ys S k h' := by
  refine ⟨e _ _ n2 Z.ti, Z.a1.at (fun o => e _ o n4) (fun o => e _ o n6), Z.a2.at (fun o => e _ o n5) (fun o => e _ o n7), ?_⟩
  rcases Z.st with ⟨a, b, c, d⟩ | ⟨T, f, oT, a, b, c⟩
  · exact .inl ⟨e _ _ n1 a, b, c, e _ _ n3 d⟩
  · exact .inr ⟨T, f, oT, e _ _ n1 a, e _ _ c b, c⟩
theorem z_item {z TI TO i1 i2 l1 l2 S : Addr} {xs ys : Array Value} {k : Nat} {x y : Value} {Q : Option Value → Shared → Prop} (D : ZipApart z TI TO i1 i2 l1 l2) (Z : ZSt bb z TI TO i1 i2 l1 l2 xs ys S k s.heap) (hS : S < s.heap.objs.size) (hx : xs[k]? = some x) (hy : ys[k]? = some y)
    (hQ : ∀ h', ZSt bb z TI TO i1 i2 l1 l2 xs ys S (k + 1) h' → IsPair h' s.heap.objs.size x y → h'.objs.size = s.heap.objs.size + 1 →
      (∀ c o, c ≠ z → c ≠ TO → c ≠ i1 → c ≠ i2 → s.heap.get? c = some o → h'.get? c = some o) → Q (some (.ref s.heap.objs.size)) { s with heap := h' }) :
    wpAny (model prog w) A (pyNext (.ref z)) Q E s := by
  rcases Z.st with ⟨hz, a, b, hTO⟩ | ⟨T, f, oT, hz, hT, hTS⟩
  · cases bb with
    | true =>
      refine wpAny_pyNext_zip_item D hz Z.ti hTO Z.a1.1 Z.a2.1 Z.a1.2 Z.a2.2 hx hy fun h' b1 b2 b3 b4 b5 b6 b7 => hQ h' ⟨b7 _ _ D.TIz D.TITO D.TIi1 D.TIi2 Z.ti, ⟨b3, ?_⟩, ⟨b4, ?_⟩, .inr ⟨_, _, _, b1, b5, Nat.ne_of_gt hS⟩⟩ b5 b6 b7
      · obtain ⟨o, e, r⟩ := Z.a1.2; exact ⟨o, b7 _ _ D.l1z D.l1TO D.l1i1 D.l1i2 e, r⟩
      · obtain ⟨o, e, r⟩ := Z.a2.2; exact ⟨o, b7 _ _ D.l2z D.l2TO D.l2i1 D.l2i2 e, r⟩
    | false =>
      refine RZ.pyNext_zipT_item D hz Z.ti hTO Z.a1.1 Z.a2.1 Z.a1.2 Z.a2.2 hx hy fun h' b1 b2 b3 b4 b5 b6 b7 => hQ h' ⟨b7 _ _ D.TIz D.TITO D.TIi1 D.TIi2 Z.ti, ⟨b3, ?_⟩, ⟨b4, ?_⟩, .inr ⟨_, _, _, b1, b5, Nat.ne_of_gt hS⟩⟩ b5 b6 b7
      · obtain ⟨o, e, r⟩ := Z.a1.2; exact ⟨o, b7 _ _ D.l1z D.l1TO D.l1i1 D.l1i2 e, r⟩
      · obtain ⟨o, e, r⟩ := Z.a2.2; exact ⟨o, b7 _ _ D.l2z D.l2TO D.l2i1 D.l2i2 e, r⟩
  · have hTy : s.TypeIs (.ref z) "zip" := ⟨_, hz, rfl⟩
    unfold pyNext
    refine wpAny_bind (wpAny_attempt (wpAny_callSpecial?_slot (name := Str.ofString "__next__") hTy F.slot_zip_next
      (wpAny_call_entry F.slot_zip_next hTy F.entry_zip_next
        (zh_item D hz hT Z.ti Z.a1 Z.a2 hx hy fun h' a1 a3 a4 a5 a6 a7 => wpAny_pure (hQ h' ⟨a7 _ _ D.TIz D.TIi1 D.TIi2 Z.ti, a3, a4, .inr ?_⟩ a5 a6 fun c o c1 _ c3 c4 e => a7 c o c1 c3 c4 e)) (F.args_zip_next_1 _))))
    by_cases h1 : T = z
    · exact ⟨T, true, _, a1, by rw [h1]; exact a1, hTS⟩
    · by_cases h2 : T = i1
      · obtain ⟨o, e⟩ : ∃ o, h'.get? i1 = some o := by
          cases bb with
          | true => obtain ⟨⟨o, e, _⟩, _⟩ := a3; exact ⟨o, e⟩
          | false => obtain ⟨⟨o, e, _⟩, _⟩ := a3; exact ⟨o, e⟩
        exact ⟨T, true, o, a1, by rw [h2]; exact e, hTS⟩
      · by_cases h3 : T = i2
        · obtain ⟨o, e⟩ : ∃ o, h'.get? i2 = some o := by
            cases bb with
            | true => obtain ⟨⟨o, e, _⟩, _⟩ := a4; exact ⟨o, e⟩
            | false => obtain ⟨⟨o, e, _⟩, _⟩ := a4; exact ⟨o, e⟩
          exact ⟨T, true, o, a1, by rw [h3]; exact e, hTS⟩
        · exact ⟨T, true, oT, a1, a7 _ _ h1 h2 h3 hT, hTS⟩
theorem z_end {z TI TO i1 i2 l1 l2 S : Addr} {xs ys : Array Value} {k : Nat} {Q : Option Value → Shared → Prop} (hh : A.handled = none) (D : ZipApart z TI TO i1 i2 l1 l2) (Z : ZSt bb z TI TO i1 i2 l1 l2 xs ys S k s.heap) (hend : xs[k]? = none ∨ ys[k]? = none)
    (hQ : ∀ h', (∀ c o, c ≠ z → c ≠ TO → c ≠ i1 → c ≠ i2 → s.heap.get? c = some o → h'.get? c = some o) → Q none { s with heap := h' }) : wpAny (model prog w) A (pyNext (.ref z)) Q E s := by
  rcases Z.st with ⟨hz, a, b, hTO⟩ | ⟨T, f, oT, hz, hT, hTS⟩
  · cases bb with
    | true => exact wpAny_pyNext_zip_end hh D hz Z.ti hTO Z.a1.1 Z.a2.1 Z.a1.2 Z.a2.2 hend hQ
    | false => exact RZ.pyNext_zipT_end hh D hz Z.ti hTO Z.a1.1 Z.a2.1 Z.a1.2 Z.a2.2 hend hQ
  · have hTy : s.TypeIs (.ref z) "zip" := ⟨_, hz, rfl⟩
    unfold pyNext
    refine wpAny_bind (wpAny_attempt (wpAny_callSpecial?_slot (name := Str.ofString "__next__") hTy F.slot_zip_next
      (wpAny_call_entry F.slot_zip_next hTy F.entry_zip_next (zh_end hh D hz hT Z.ti Z.a1 Z.a2 hend fun h' e hk he => ?_) (F.args_zip_next_1 _))))
    obtain ⟨o, ho, hc⟩ := he
    refine wpAny_bind (wpAny_isInstance (T := "StopIteration") (b := true) ⟨o, ho, hc⟩ isSubtype_stop ?_)
    exact wpAny_pure (hQ _ fun c o c1 _ c3 c4 e => hk c o c1 c3 c4 e)
end
end DL
set_option Elab.async false
set_option linter.all false
set_option maxRecDepth 100000
set_option maxHeartbeats 2000000
/-! DL11: list(zip(a, b)): the loop, the call, the rule -/
namespace DL
open PySem PySem.W PySem.Calls PyProof.Rows
theorem zip_no_len : typeLookup (.type "zip") "__len__" = pure none := am_miss_of_fast (by decide +kernel)
theorem zip_no_hint : typeLookup (.type "zip") "__length_hint__" = pure none := am_miss_of_fast (by decide +kernel)
/-- the addresses as hold the pairs of xs and ys -/
structure ZG (xs ys : Array Value) (lo : Addr) (h : Heap) (as : List Addr) : Prop where
  rise : as.Pairwise (· < ·)
  above : ∀ a ∈ as, lo < a
  pairs : ∀ (j : Nat) (a : Addr), as[j]? = some a → ∃ x y, xs[j]? = some x ∧ ys[j]? = some y ∧ h.get? a = some { cls := .type "tuple", data := .seq #[x, y] }
theorem ZG.there {xs ys : Array Value} {lo : Addr} {h : Heap} {as : List Addr} (g : ZG xs ys lo h as) {a : Addr} (ha : a ∈ as) : a < h.objs.size := by
  obtain ⟨j, hj⟩ := List.mem_iff_getElem?.mp ha
  obtain ⟨_, _, _, _, e⟩ := g.pairs j a hj
  exact Heap.lt_size e
section
variable {prog : Program} {w : World} {A : Around} {s : Shared} {R : Result → Shared → Prop} {bb : Bool}
theorem z_loop {S z TI TO i1 i2 l1 l2 : Addr} {xs ys : Array Value} (hh : A.handled = none) (D : ZipApart z TI TO i1 i2 l1 l2) (lo : Addr) (hlo : z ≤ lo) (hlo2 : TI ≤ lo) (hlo3 : TO ≤ lo) (hlo4 : i1 ≤ lo) (hlo5 : i2 ≤ lo) (hloS : S ≤ lo)
    (n1 : z ≠ S) (n2 : TI ≠ S) (n3 : TO ≠ S) (n4 : i1 ≠ S) (n5 : i2 ≠ S) (n6 : l1 ≠ S) (n7 : l2 ≠ S) (n : Nat) (hnx : n ≤ xs.size) (hny : n ≤ ys.size) (hend : xs[n]? = none ∨ ys[n]? = none) (hn : n ≤ sizeLine) (res : Value) {h₁ : Heap}
    (hR : ∀ h' tk acc c as, (∀ b o, b ≠ S → b ≠ z → b ≠ TO → b ≠ i1 → b ≠ i2 → h₁.get? b = some o → h'.get? b = some o) → h'.get? S = some { cls := .type "list", dict := none, data := .seq acc c, slots := #[] } → as.length = n → ZG xs ys lo h' as →
      acc.toList = as.map Value.ref → R (.ok (.ret res)) { s with heap := h', toks := tk }) :
    ∀ (k i : Nat) (h : Heap) (tk c : Nat) (acc : Array Value) (as : List Addr), n - i = k → i ≤ n → ZSt bb z TI TO i1 i2 l1 l2 xs ys S i h → (∀ b o, b ≠ S → b ≠ z → b ≠ TO → b ≠ i1 → b ≠ i2 → h₁.get? b = some o → h.get? b = some o) →
      h.get? S = some { cls := .type "list", dict := none, data := .seq acc c, slots := #[] } → acc.toList = as.map Value.ref → as.length = i → ZG xs ys lo h as → lo < h.objs.size →
      codeAny (model prog w) A (.builtin "list.extend.loop" ⟨[.ref S, .ref z, res], []⟩) R { s with heap := h, toks := tk } := by
  intro k
  induction k with
  | zero =>
    intro i h tk c acc as hk hi Z hkeep hS hacc hal hG hIs
    have hin : i = n := by omega
    subst hin
    refine codeAny_builtin PySem.F.entry_extend_loop ?_
    rw [Around.under_plainId PySem.F.plain_extend_loop _]
    show wpAny _ A.in1 (pyNext (.ref z) >>= _) _ _ _
    refine wpAny_bind (z_end (s := { s with heap := h, toks := tk }) (A := A.in1) hh D Z hend fun h' he => ?_)
    refine wpAny_pure (hR h' tk acc c as (fun b o h0 h1 h2 h3 h4 e => he b o h1 h2 h3 h4 (hkeep b o h0 h1 h2 h3 h4 e)) (he S _ n1.symm n3.symm n4.symm n5.symm hS) hal ⟨hG.rise, hG.above, fun j a hj => ?_⟩ hacc)
    obtain ⟨x, y, e1, e2, e3⟩ := hG.pairs j a hj
    have ab := hG.above a (List.mem_of_getElem? hj)
    exact ⟨x, y, e1, e2, he a _ (Nat.ne_of_gt (Nat.lt_of_le_of_lt hlo ab)) (Nat.ne_of_gt (Nat.lt_of_le_of_lt hlo3 ab)) (Nat.ne_of_gt (Nat.lt_of_le_of_lt hlo4 ab)) (Nat.ne_of_gt (Nat.lt_of_le_of_lt hlo5 ab)) e3⟩
  | succ k ih =>
    intro i h tk c acc as hk hi Z hkeep hS hacc hal hG hIs
    have hlt : i < n := by omega
    have hsz : acc.size = i := by rw [← Array.length_toList, hacc, List.length_map, hal]
    have hx : xs[i]? = some xs[i] := Array.getElem?_eq_getElem (by omega)
    have hy : ys[i]? = some ys[i] := Array.getElem?_eq_getElem (by omega)
    refine codeAny_builtin PySem.F.entry_extend_loop ?_
    rw [Around.under_plainId PySem.F.plain_extend_loop _]
    show wpAny _ A.in1 (pyNext (.ref z) >>= _) _ _ _
    refine wpAny_bind (z_item (s := { s with heap := h, toks := tk }) D Z (Heap.lt_size hS) hx hy fun h' Z' ht hz hkp => ?_)
    dsimp only at ht hz hkp ⊢
    have hS' := hkp S _ n1.symm n3.symm n4.symm n5.symm hS
    have up : ∀ b o, b ≠ S → h'.get? b = some o → (h'.update S (Obj.mapSeq (·.push (Value.ref h.objs.size)))).get? b = some o := fun b o hb e => (Heap.get?_update_other _ _ (Ne.symm hb)).trans e
    have hSl : S < h.objs.size := Heap.lt_size hS
    show wpAny _ A.in1 (updateSeq S (·.push (Value.ref h.objs.size)) >>= _) _ _ _
    refine wpAny_bind ?_
    refine wpAny_updateSeq hS' rfl (wpAny_pure ⟨plainId_quiet PySem.F.plain_extend_loop _, ih (i + 1) _ tk _ (acc.push (Value.ref h.objs.size)) (as ++ [h.objs.size]) (by omega) hlt (Z'.keep up n1 n2 n3 n4 n5 n6 n7)
      (fun b o h0 h1 h2 h3 h4 e => up b o h0 (hkp b o h1 h2 h3 h4 (hkeep b o h0 h1 h2 h3 h4 e))) (Heap.get?_update_self _ hS' rfl) (by rw [Array.toList_push, hacc, List.map_append]; rfl) (by rw [List.length_append, hal]; rfl) ⟨?_, ?_, ?_⟩ ?_⟩) (by rw [hsz]; omega) (by show (acc.push (Value.ref h.objs.size)).size ≤ sizeLine + 1; rw [Array.size_push, hsz]; omega)
    · refine List.pairwise_append.mpr ⟨hG.rise, List.pairwise_singleton _ _, fun a ha b hb => ?_⟩
      rw [List.mem_singleton.mp hb]
      exact hG.there ha
    · intro a ha
      rcases List.mem_append.mp ha with ha | ha
      · exact hG.above a ha
      · rw [List.mem_singleton.mp ha]; exact hIs
    · intro j b hj
      rcases Nat.lt_trichotomy j as.length with h1 | h1 | h1
      · rw [List.getElem?_append_left h1] at hj
        obtain ⟨x, y, q1, q2, e3⟩ := hG.pairs j b hj
        have hb := hG.above b (List.mem_of_getElem? hj)
        exact ⟨x, y, q1, q2, up b _ (Nat.ne_of_gt (Nat.lt_of_le_of_lt hloS hb)) (hkp b _ (Nat.ne_of_gt (Nat.lt_of_le_of_lt hlo hb)) (Nat.ne_of_gt (Nat.lt_of_le_of_lt hlo3 hb)) (Nat.ne_of_gt (Nat.lt_of_le_of_lt hlo4 hb)) (Nat.ne_of_gt (Nat.lt_of_le_of_lt hlo5 hb)) e3)⟩
      · subst h1
        have hb : h.objs.size = b := by simpa using hj
        subst hb
        exact ⟨xs[i], ys[i], by rw [hal]; exact hx, by rw [hal]; exact hy, up _ _ (Nat.ne_of_gt hSl) ht⟩
      · have hnone : (as ++ [h.objs.size])[j]? = none := List.getElem?_eq_none (by rw [List.length_append, List.length_singleton]; omega)
        rw [hnone] at hj; cases hj
    · have e : (h'.update S (Obj.mapSeq (·.push (Value.ref h.objs.size)))).get? h.objs.size = _ := up _ _ (Nat.ne_of_gt hSl) ht
      exact Nat.lt_trans hIs (Heap.lt_size e)
theorem z_hint {z : Addr} (hT : s.TypeIs (.ref z) "zip") {E : Value → Shared → Prop} {Q : Bool → Shared → Prop} (h : Q true s) : wpAny (model prog w) A (Builtin.List.listLengthHint (.ref z)) Q E s := by
  unfold Builtin.List.listLengthHint
  refine wpAny_bind (wpAny_specialOf hT zip_no_len ?_)
  simp only [pure_bind, Option.isSome_none, Bool.false_eq_true, if_false, show Builtin.List.silentSize none = false from rfl]
  refine wpAny_bind (wpAny_specialOf hT zip_no_hint ?_)
  exact wpAny_pure h
/-- where a zip is whole ahead of its walk -/
structure Z0 (bb : Bool) (z TI TO i1 i2 l1 l2 : Addr) (xs ys : Array Value) (h : Heap) : Prop where
  ti : IsPair h TI (.ref i1) (.ref i2)
  a1 : SIt bb h i1 l1 0 xs
  a2 : SIt bb h i2 l2 0 ys
  zz : IsZip h z TI TO .none
  tt : ∃ a b, IsPair h TO a b
theorem Z0.keep {z TI TO i1 i2 l1 l2 : Addr} {xs ys : Array Value} {S : Addr} {h h' : Heap} (Z : Z0 bb z TI TO i1 i2 l1 l2 xs ys h) (e : ∀ b o, b ≠ S → h.get? b = some o → h'.get? b = some o)
    (n1 : z ≠ S) (n2 : TI ≠ S) (n3 : TO ≠ S) (n4 : i1 ≠ S) (n5 : i2 ≠ S) (n6 : l1 ≠ S) (n7 : l2 ≠ S) : Z0 bb z TI TO i1 i2 l1 l2 xs ys h' := by
  refine ⟨e _ _ n2 Z.ti, Z.a1.at (fun o => e _ o n4) (fun o => e _ o n6), Z.a2.at (fun o => e _ o n5) (fun o => e _ o n7), e _ _ n1 Z.zz, ?_⟩
  obtain ⟨a, b, c⟩ := Z.tt
  exact ⟨a, b, e _ _ n3 c⟩
theorem z_extend {S z TI TO i1 i2 l1 l2 : Addr} {xs ys : Array Value} (hh : A.handled = none) (D : ZipApart z TI TO i1 i2 l1 l2) (Z : Z0 bb z TI TO i1 i2 l1 l2 xs ys s.heap) (h1 : z < S) (h2 : TI < S) (h3 : TO < S) (h4 : i1 < S) (h5 : i2 < S) (h6 : l1 < S) (h7 : l2 < S)
    (n : Nat) (hnx : n ≤ xs.size) (hny : n ≤ ys.size) (hend : xs[n]? = none ∨ ys[n]? = none) (hn : n ≤ sizeLine) (res : Value) (c₀ : Nat) (hS : s.heap.get? S = some { cls := .type "list", data := .seq #[] c₀ })
    (hR : ∀ h' tk acc c as, (∀ b o, b ≠ S → b ≠ z → b ≠ TO → b ≠ i1 → b ≠ i2 → s.heap.get? b = some o → h'.get? b = some o) → h'.get? S = some { cls := .type "list", dict := none, data := .seq acc c, slots := #[] } → as.length = n → ZG xs ys S h' as →
      acc.toList = as.map Value.ref → R (.ok (.ret res)) { s with heap := h', toks := tk }) :
    wpAny (model prog w) A.in1 (Builtin.List.listExtendWith (.ref S) (.ref z) res)
      (fun fin s' => match fin with | .done f => R (.ok f) s' | .again c' => c'.quiet = true ∧ codeAny (model prog w) A c' R s') (fun e s' => R (.error e) s') s := by
  have hTz : s.TypeIs (.ref z) "zip" := ⟨_, Z.zz, rfl⟩
  have hSz : S ≠ z := Nat.ne_of_gt h1
  unfold Builtin.List.listExtendWith
  refine wpAny_bind (wpAny_typeOf (T := "zip") hTz ?_)
  have q1 : Builtin.List.listSameRef (.ref S) (.ref z) = false := by simp [Builtin.List.listSameRef, hSz]
  have q2 : (Value.type "zip" == Value.type "list") = false := by decide
  have q3 : (Value.type "zip" == Value.type "tuple") = false := by decide
  simp only [q1, q2, q3, Bool.or_false, Bool.false_eq_true, if_false]
  refine wpAny_bind (wpAny_pyIter_zip Z.zz ?_)
  refine wpAny_bind (wpAny_holding (z_hint hTz ?_))
  have key : ∀ (h : Heap) (c₁ tk : Nat), (∀ b o, b ≠ S → s.heap.get? b = some o → h.get? b = some o) → h.get? S = some { cls := .type "list", data := .seq #[] c₁ } →
      codeAny (model prog w) A (.builtin "list.extend.loop" ⟨[.ref S, .ref z, res], []⟩) R { s with heap := h, toks := tk } := by
    intro h c₁ tk hk hS₁
    have Z' := Z.keep hk (Nat.ne_of_lt h1) (Nat.ne_of_lt h2) (Nat.ne_of_lt h3) (Nat.ne_of_lt h4) (Nat.ne_of_lt h5) (Nat.ne_of_lt h6) (Nat.ne_of_lt h7)
    refine z_loop (bb := bb) (S := S) (xs := xs) (ys := ys) (s := s) (h₁ := s.heap) hh D S (Nat.le_of_lt h1) (Nat.le_of_lt h2) (Nat.le_of_lt h3) (Nat.le_of_lt h4) (Nat.le_of_lt h5) (Nat.le_refl _)
      (Nat.ne_of_lt h1) (Nat.ne_of_lt h2) (Nat.ne_of_lt h3) (Nat.ne_of_lt h4) (Nat.ne_of_lt h5) (Nat.ne_of_lt h6) (Nat.ne_of_lt h7) n hnx hny hend hn res hR
      n 0 h tk c₁ #[] [] (Nat.sub_zero _) (Nat.zero_le _) ⟨Z'.ti, Z'.a1, Z'.a2, .inl ⟨Z'.zz, Z'.tt⟩⟩ (fun b o hb _ _ _ _ e => hk b o hb e) hS₁ rfl rfl ⟨List.Pairwise.nil, (fun _ ha => nomatch ha), (fun j a hj => by simp at hj)⟩ (Heap.lt_size hS₁)
  refine wpAny_ite_split (fun _ => ?_) (fun _ => wpAny_pure ⟨plainId_quiet PySem.F.plain_extend_loop _, key _ c₀ _ (fun b o _ e => e) hS⟩)
  refine wpAny_bind (wpAny_rule ?_)
  refine wpAny_bind ?_
  show wpAny _ _ (updateSeq S (·.push .none) >>= fun _ => updateSeq S (·.pop)) _ _ _
  refine wpAny_bind (wpAny_updateSeq hS rfl ?_)
  have hS₂ := Heap.get?_update_self (Obj.mapSeq (·.push Value.none)) hS rfl
  refine wpAny_updateSeq (hz := by seq_fits) hS₂ rfl ?_
  have hS₃ := Heap.get?_update_self (Obj.mapSeq (·.pop)) hS₂ rfl
  refine wpAny_pure ⟨plainId_quiet PySem.F.plain_extend_loop _, key _ _ _ (fun b o hb e => ?_) hS₃⟩
  exact (Heap.get?_update_other _ _ (Ne.symm hb)).trans ((Heap.get?_update_other _ _ (Ne.symm hb)).trans e)
theorem z_init {S z TI TO i1 i2 l1 l2 : Addr} {xs ys : Array Value} (hh : A.handled = none) (D : ZipApart z TI TO i1 i2 l1 l2) (Z : Z0 bb z TI TO i1 i2 l1 l2 xs ys s.heap) (h1 : z < S) (h2 : TI < S) (h3 : TO < S) (h4 : i1 < S) (h5 : i2 < S) (h6 : l1 < S) (h7 : l2 < S)
    (n : Nat) (hnx : n ≤ xs.size) (hny : n ≤ ys.size) (hend : xs[n]? = none ∨ ys[n]? = none) (hn : n ≤ sizeLine) (hS : s.heap.get? S = some { cls := .type "list", data := .seq #[] })
    (hR : ∀ h' tk acc c as, (∀ b o, b ≠ S → b ≠ z → b ≠ TO → b ≠ i1 → b ≠ i2 → s.heap.get? b = some o → h'.get? b = some o) → h'.get? S = some { cls := .type "list", dict := none, data := .seq acc c, slots := #[] } → as.length = n → ZG xs ys S h' as →
      acc.toList = as.map Value.ref → R (.ok (.ret .none)) { s with heap := h', toks := tk }) :
    wpAny (model prog w) A.in1 (Builtin.«list.__init__» ⟨[.ref S, .ref z], []⟩)
      (fun fin s' => match fin with | .done f => R (.ok f) s' | .again c' => c'.quiet = true ∧ codeAny (model prog w) A c' R s') (fun e s' => R (.error e) s') s := by
  show wpAny _ _ (do let old ← Builtin.List.listItems (.ref S); Builtin.List.listUpdate (.ref S) (fun _ => #[]); letGo old.toList.reverse; Builtin.List.listExtendWith (.ref S) (.ref z) .none) _ _ s
  refine wpAny_bind ?_
  unfold Builtin.List.listItems
  refine wpAny_bind (wpAny_seqItems hS rfl (wpAny_pure ?_))
  show wpAny _ _ (updateSeq S (fun _ => #[]) >>= fun _ => letGo (#[] : Array Value).toList.reverse >>= fun _ => Builtin.List.listExtendWith (.ref S) (.ref z) .none) _ _ s
  refine wpAny_bind (wpAny_updateSeq hS rfl ?_)
  have hS₂ := Heap.get?_update_self (Obj.mapSeq (fun _ => (#[] : Array Value))) hS rfl
  have oth : ∀ b o, b ≠ S → s.heap.get? b = some o → (s.heap.update S (Obj.mapSeq (fun _ => (#[] : Array Value)))).get? b = some o :=
    fun b o hb e => (Heap.get?_update_other _ _ (Ne.symm hb)).trans e
  refine wpAny_bind (wpAny_letGo ?_)
  refine z_extend (bb := bb) (xs := xs) (ys := ys) hh D (Z.keep oth (Nat.ne_of_lt h1) (Nat.ne_of_lt h2) (Nat.ne_of_lt h3) (Nat.ne_of_lt h4) (Nat.ne_of_lt h5) (Nat.ne_of_lt h6) (Nat.ne_of_lt h7)) h1 h2 h3 h4 h5 h6 h7 n hnx hny hend hn .none _ hS₂ (fun h' tk acc c as hk hS' hl hG hacc => ?_)
  exact hR h' tk acc c as (fun b o hb b1 b2 b3 b4 e => hk b o hb b1 b2 b3 b4 (oth b o hb e)) hS' hl hG hacc
theorem z_call {z TI TO i1 i2 l1 l2 : Addr} {xs ys : Array Value} {E : Value → Shared → Prop} {Q : Value → Shared → Prop} (hh : A.handled = none) (D : ZipApart z TI TO i1 i2 l1 l2) (Z : Z0 bb z TI TO i1 i2 l1 l2 xs ys s.heap)
    (n : Nat) (hnx : n ≤ xs.size) (hny : n ≤ ys.size) (hend : xs[n]? = none ∨ ys[n]? = none) (hn : n ≤ sizeLine)
    (hQ : ∀ h' tk acc c as, (∀ b o, b ≠ z → b ≠ TO → b ≠ i1 → b ≠ i2 → s.heap.get? b = some o → h'.get? b = some o) → h'.get? s.heap.objs.size = some { cls := .type "list", dict := none, data := .seq acc c, slots := #[] } → as.length = n → ZG xs ys s.heap.objs.size h' as →
      acc.toList = as.map Value.ref → Q (.ref s.heap.objs.size) { s with heap := h', toks := tk }) :
    wpAny (model prog w) A (call (.type "list") [.ref z]) Q E s := by
  refine callType_codes (Q₁ := fun obj s₁ => obj = .ref s.heap.objs.size ∧ s₁ = { s with heap := s.heap.push { cls := .type "list", data := .seq #[] } }) PySem.F.called_list (PySem.F.typeCall_list_1 _) PySem.F.entry_list_init
    (code_list_new _ ⟨rfl, rfl⟩) fun obj s₁ h₁ => ?_
  obtain ⟨rfl, rfl⟩ := h₁
  have hS : (s.heap.push { cls := .type "list", data := .seq #[] }).get? s.heap.objs.size = some { cls := .type "list", data := .seq #[] } := Heap.get?_push_size _ rfl
  have up : ∀ b o, b ≠ s.heap.objs.size → s.heap.get? b = some o → (s.heap.push { cls := .type "list", data := .seq #[] }).get? b = some o := fun b o _ e => Heap.get?_push_of_some _ e
  obtain ⟨ta, tb, htt⟩ := Z.tt
  have l1 := Heap.lt_size Z.zz
  have l2 := Heap.lt_size Z.ti
  have l3 := Heap.lt_size htt
  have l4 := Z.a1.lt
  have l5 := Z.a2.lt
  have l6 := Z.a1.ltl
  have l7 := Z.a2.ltl
  refine ⟨⟨_, hS, rfl⟩, PySem.F.args_list_init_2 _ _, z_init (bb := bb) (xs := xs) (ys := ys) (A := A.in1) (s := { s with heap := s.heap.push { cls := .type "list", data := .seq #[] } }) hh D
    (Z.keep up (Nat.ne_of_lt l1) (Nat.ne_of_lt l2) (Nat.ne_of_lt l3) (Nat.ne_of_lt l4) (Nat.ne_of_lt l5) (Nat.ne_of_lt l6) (Nat.ne_of_lt l7)) l1 l2 l3 l4 l5 l6 l7 n hnx hny hend hn hS (fun h' tk acc c as hk hS' hl hG hacc => ?_)⟩
  exact ⟨rfl, hQ h' tk acc c as (fun b o b1 b2 b3 b4 e => hk b o (Nat.ne_of_lt (Heap.lt_size e)) b1 b2 b3 b4 (Heap.get?_push_of_some _ e)) hS' hl hG hacc⟩
end
end DL
set_option Elab.async false
set_option linter.all false
set_option maxRecDepth 100000
set_option maxHeartbeats 2000000
/-! DL12: list(zip(a, b)): the rule -/
namespace DL
open PySem L2 PyProof.Rows
def putP : Hp → List Addr → List (V × V) → Hp
  | H, a :: as, p :: kvs => putP (upd H a (.tup [p.1, p.2])) as kvs
  | H, _, _ => H
theorem putP_off {b : Addr} : ∀ (as : List Addr) (kvs : List (V × V)) (H : Hp), b ∉ as → putP H as kvs b = H b
  | [], _, _, _ => rfl
  | _ :: _, [], _, _ => rfl
  | a :: as, p :: kvs, H, h => by
    show putP (upd H a (.tup [p.1, p.2])) as kvs b = H b
    rw [putP_off as kvs _ (fun z => h (List.mem_cons_of_mem _ z)), upd_ne (fun z => h (by rw [z]; exact List.mem_cons_self))]
theorem putP_at : ∀ (as : List Addr) (kvs : List (V × V)) (H : Hp), as.length = kvs.length → as.Nodup → ∀ (j : Nat) (a : Addr), as[j]? = some a → ∃ p, kvs[j]? = some p ∧ putP H as kvs a = some (.tup [p.1, p.2])
  | [], _, _, _, _, j, a, h => by simp at h
  | _ :: _, [], _, h, _, _, _, _ => by cases h
  | a :: as, p :: kvs, H, h, hn, j, b, hj => by
    have hn' := List.nodup_cons.mp hn
    cases j with
    | zero =>
      have e : a = b := Option.some.inj hj
      subst e
      refine ⟨p, rfl, ?_⟩
      show putP (upd H a (.tup [p.1, p.2])) as kvs a = some (.tup [p.1, p.2])
      rw [putP_off as kvs _ hn'.1, upd_same]
    | succ j => exact putP_at as kvs (upd H a (.tup [p.1, p.2])) (Nat.succ.inj h) hn'.2 j b (by simpa using hj)
section
variable {X : Cx} {pins : List (Addr × Obj)} {σ : L2.St} {H : Hp} {s : Shared}
theorem pairs_laid {h' : Heap} {tk : Nat} {S : Addr} {kvs : List (V × V)} {xs ys : Array Value} {acc : Array Value} {c : Nat} {as : List Addr} (I : Inv X pins σ H s) (hz : kvs.length ≤ sizeLine)
    (hkv : ∀ (j : Nat) (p : V × V) (x y : Value), kvs[j]? = some p → xs[j]? = some x → ys[j]? = some y → RelV p.1 x ∧ RelV p.2 y)
    (hk : ∀ b o, s.heap.get? b = some o → h'.get? b = some o) (hSz : s.heap.objs.size ≤ S) (hS : h'.get? S = some { cls := .type "list", dict := none, data := .seq acc c, slots := #[] }) (hl : as.length = kvs.length) (hG : ZG xs ys S h' as) (hacc : acc.toList = as.map Value.ref) :
    ∃ H' : Hp, (∀ b o, H b = some o → H' b = some o) ∧ H S = none ∧ H' S = some (.lst (as.map V.ref)) ∧ (∀ (j : Nat) (a : Addr), as[j]? = some a → ∃ p, kvs[j]? = some p ∧ H' a = some (.tup [p.1, p.2])) ∧ Inv X pins σ H' { s with heap := h', toks := tk } := by
  have hSn : S ∉ as := fun z => Nat.lt_irrefl _ (hG.above _ z)
  have nd : as.Nodup := List.Pairwise.imp (fun {a b} (h : a < b) => Nat.ne_of_lt h) hG.rise
  have new : ∀ t ∈ as, H t = none := fun t ht => I.hok.fresh (Nat.le_of_lt (Nat.lt_of_le_of_lt hSz (hG.above t ht)))
  have newS : H S = none := I.hok.fresh hSz
  have atP := putP_at as kvs (upd H S (.lst (as.map V.ref))) hl nd
  have off : ∀ b, b ∉ as → b ≠ S → putP (upd H S (.lst (as.map V.ref))) as kvs b = H b := fun b h1 h2 => by rw [putP_off as kvs _ h1, upd_ne h2]
  have low : ∀ b o, s.heap.get? b = some o → b ∉ as ∧ b ≠ S := fun b o e => ⟨fun z => absurd (Heap.lt_size e) (Nat.not_lt.mpr (Nat.le_of_lt (Nat.lt_of_le_of_lt hSz (hG.above b z)))), Nat.ne_of_lt (Nat.lt_of_lt_of_le (Heap.lt_size e) hSz)⟩
  have kp : ∀ b u, H b = some u → (putP (upd H S (.lst (as.map V.ref))) as kvs) b = some u := fun b u e => by
    rw [off b (fun z => by rw [new b z] at e; cases e) (fun z => by rw [z, newS] at e; cases e)]
    exact e
  have eS : putP (upd H S (.lst (as.map V.ref))) as kvs S = some (.lst (as.map V.ref)) := by rw [putP_off as kvs _ hSn, upd_same]
  refine ⟨putP (upd H S (.lst (as.map V.ref))) as kvs, kp, newS, eS, atP, ?_⟩
  refine I.call' (ch := []) rfl ⟨fun b o q _ _ _ => hk b o q, fun b o q _ _ _ => ⟨o.slots, hk b o q⟩, fun b o q n _ => ?_, fun b o q _ => ⟨o, hk b o q⟩, fun b xs q => kp b _ q, fun b o u q => kp b _ q, fun b ps q => ⟨#[], by rw [kp b _ q]; simp⟩⟩ (fun b u q => ?_) I.bare fun b z => by simp at z
  · obtain ⟨z1, z2⟩ := low b o q
    rw [off b z1 z2]
    exact n
  · by_cases hb : b ∈ as
    · obtain ⟨j, ej⟩ := List.mem_iff_getElem?.mp hb
      obtain ⟨pk, e2, e3⟩ := atP j b ej
      rw [e3] at q
      cases q
      obtain ⟨x, y, f1, f2, f3⟩ := hG.pairs j b ej
      obtain ⟨g1, g2⟩ := hkv j pk x y e2 f1 f2
      exact ⟨by show 2 ≤ sizeLine; decide, [x, y], .cons g1 (.cons g2 .nil), ⟨_, f3, rfl, _, rfl⟩⟩
    · by_cases hb2 : b = S
      · rw [hb2] at q ⊢
        rw [eS] at q
        cases q
        refine ⟨by rw [List.length_map]; omega, acc.toList, c, by rw [hacc]; exact LiI.vals_refs as, ?_⟩
        rw [Array.toArray_toList]
        exact hS
      · rw [off b hb hb2] at q
        exact (I.hok b u q).stay (fun d v _ y => hk d v y) (fun d y => kp d _ y) fun d xs y => kp d _ y
/-- list(zip(..)): the arguments' values, the new list's address, the heap -/
def rLZ (K : PySem.W.Frag) : List V → Hp → VK → Prop := fun vs H Q => ∃ a b xs ys, vs = [.ref a, .ref b] ∧ ((SqL K H a xs ∧ SqL K H b ys) ∨ (SqT K H a xs ∧ SqT K H b ys)) ∧
  ∀ (H' : Hp) (p : Addr) (as : List Addr), (∀ b o, H b = some o → H' b = some o) → H p = none → H' p = some (.lst (as.map V.ref)) → as.length = (xs.zip ys).length → (∀ (j : Nat) (t : Addr), as[j]? = some t → ∃ q, (xs.zip ys)[j]? = some q ∧ H' t = some (.tup [q.1, q.2])) → Q (.ref p) H'
theorem pe_lz {e e2 : Expr} {ta : TA} {p p2 pos2 pos : Pos} (hc : X.calm = true) (hg : Gl X "list") (hm : X.mg "list" = none) (hg2 : Gl X "zip") (hm2 : X.mg "zip" = none) (ha : PA X [e, e2] ta)
    (hs : starEach [e, e2] X.env = (false, eval e X.env) :: starEach [e2] X.env := by rfl) (hpl : (backTo pos2 (starEach [e2] X.env)).any (·.1) = false := by rfl)
    (hs1 : starEach [.Call (.Name "zip" p2) [e, e2] [] pos2] X.env = (false, eval (.Call (.Name "zip" p2) [e, e2] [] pos2) X.env) :: starEach [] X.env := by rfl) :
    PE X (.Call (.Name "list" p) [.Call (.Name "zip" p2) [e, e2] [] pos2] [] pos) (tCB (rLZ X.K) ta) := by
  refine ⟨fun pins s σ H Q I h => ?_⟩
  refine wpAny_Call_Name_kw (ld_blt I hg hm PyProof.Rows.boot_list ?_)
  refine PyProof.Rows.callWith_type1 ?_ hs1 rfl
  rw [hs1]
  show wpAny _ _ (spliced ((false, eval (.Call (.Name "zip" p2) [e, e2] [] pos2) X.env) :: backTo pos (starEach [] X.env))) _ _ s
  refine Calls.spliced_cons ?_
  refine Call_ (ld_blt I hg2 hm2 PyProof.Rows.boot_zip (PyProof.Rows.callWith_type1 (thn (ha.run pos2 pins s σ H _ I h) fun us s1 ⟨vs, H1, I1, r1, q1⟩ => ?_) hs hpl))
  obtain ⟨a, b, xs, ys, ex, hq, q⟩ := q1
  subst ex
  cases r1 with
  | cons r rr =>
    cases rr with
    | cons r' rr =>
      cases rr
      cases r
      cases r'
      have fin : ∀ (bb : Bool) (its its2 : List Value), Vals xs its → Vals ys its2 → xs.length ≤ sizeLine → ∀ h', (∀ c o, s1.heap.get? c = some o → h'.get? c = some o) → h'.objs.size = s1.heap.objs.size + 5 → a < s1.heap.objs.size → b < s1.heap.objs.size →
          Z0 bb (s1.heap.objs.size + 4) (s1.heap.objs.size + 2) (s1.heap.objs.size + 3) s1.heap.objs.size (s1.heap.objs.size + 1) a b its.toArray its2.toArray h' →
          wpAny (model X.prog X.w) X.A (spliced (backTo pos (starEach [] X.env))) (fun us s₁ => wpAny (model X.prog X.w) X.A (call (.type "list") (.ref (s1.heap.objs.size + 4) :: us)) (EP X pins σ Q) X.xe s₁) X.xe { s1 with heap := h' } := by
        intro bb its its2 rv rv2 hz h' hk hsz la lb Z
        refine Calls.spliced_nil ?_
        have e1 := rv.length
        have e2 := rv2.length
        have hmin : (xs.zip ys).length = min its.length its2.length := by rw [List.length_zip, e1, e2]
        refine z_call (s := { s1 with heap := h' }) (bb := bb) (xs := its.toArray) (ys := its2.toArray) (I1.ok.hd hc) (PySem.W.ktu_apart s1.heap.objs.size a b la lb) Z (min its.length its2.length) (by simpa using Nat.min_le_left _ _) (by simpa using Nat.min_le_right _ _) ?_ (by omega) fun h'' tk acc c as hk2 hS hl hG hacc => ?_
        · rcases Nat.le_total its.length its2.length with z | z
          · exact .inl (by simp [Nat.min_eq_left z])
          · exact .inr (by simp [Nat.min_eq_right z])
        · have kv : ∀ (j : Nat) (p : V × V) (x y : Value), (xs.zip ys)[j]? = some p → its.toArray[j]? = some x → its2.toArray[j]? = some y → RelV p.1 x ∧ RelV p.2 y := fun j pq x y hj hx hy => by
            obtain ⟨j1, j2⟩ : xs[j]? = some pq.1 ∧ ys[j]? = some pq.2 := List.getElem?_zip_eq_some.mp hj
            obtain ⟨u, hu, ru⟩ := rv.get j1
            obtain ⟨u2, hu2, ru2⟩ := rv2.get j2
            have hx' : its[j]? = some x := by simpa using hx
            have hy' : its2[j]? = some y := by simpa using hy
            rw [hu] at hx'; cases hx'
            rw [hu2] at hy'; cases hy'
            exact ⟨ru, ru2⟩
          have kh : ∀ c o, s1.heap.get? c = some o → h''.get? c = some o := fun c o e => by
            have := Heap.lt_size e
            exact hk2 c o (Nat.ne_of_lt (Nat.lt_add_right 4 this)) (Nat.ne_of_lt (Nat.lt_add_right 3 this)) (Nat.ne_of_lt this) (Nat.ne_of_lt (Nat.lt_add_right 1 this)) (hk c o e)
          have zle : s1.heap.objs.size ≤ h'.objs.size := by omega
          obtain ⟨H', k1, k2, k3, k4, J⟩ := pairs_laid (tk := tk) (S := h'.objs.size) (kvs := xs.zip ys) (xs := its.toArray) (ys := its2.toArray) (acc := acc) (c := c) (as := as) I1 (by omega) kv kh zle hS (by omega) hG hacc
          exact ⟨.ref _, H', J, rfl, q H' _ as k1 k2 k3 (by omega) k4⟩
      rcases hq with ⟨hqx, hqy⟩ | ⟨hqx, hqy⟩
      · obtain ⟨its, rv, p1, hz⟩ := I1.list hqx
        obtain ⟨its2, rv2, p2', hz2⟩ := I1.list hqy
        refine call_zip_2 p1.isList p2'.isList fun h' hz' hTI hTO h1 h2 hsz hk => ?_
        have m1 := p1.lt
        have m2 := p2'.lt
        refine fin true its its2 rv rv2 hz h' hk hsz m1 m2 ⟨hTI, ⟨h1, ?_⟩, ⟨h2, ?_⟩, hz', ⟨_, _, hTO⟩⟩
        · obtain ⟨o, e, r⟩ := p1.isList; exact ⟨o, hk _ _ e, r⟩
        · obtain ⟨o, e, r⟩ := p2'.isList; exact ⟨o, hk _ _ e, r⟩
      · obtain ⟨its, rv, p1, hz⟩ := I1.tuple hqx
        obtain ⟨its2, rv2, p2', hz2⟩ := I1.tuple hqy
        refine RZ.call_zipT (show s1.heap.IsTuple a its.toArray from p1) (show s1.heap.IsTuple b its2.toArray from p2') fun h' hz' hTI hTO h1 h2 hsz hk => ?_
        obtain ⟨o1, ho1, r1⟩ := id p1
        obtain ⟨o2, ho2, r2⟩ := id p2'
        exact fin false its its2 rv rv2 hz h' hk hsz (Heap.lt_size ho1) (Heap.lt_size ho2) ⟨hTI, ⟨h1, ⟨o1, hk _ _ ho1, r1⟩⟩, ⟨h2, ⟨o2, hk _ _ ho2, r2⟩⟩, hz', ⟨_, _, hTO⟩⟩
end
end DL
set_option Elab.async false
set_option linter.all false
set_option maxRecDepth 100000
/-! DL13: list(zip(a, b)) over data -/
namespace DL
open PySem L2
section
variable {K : PySem.W.Frag} {mg : MG} {μ : List Addr} {H H' : Hp} {st : S}
theorem Ext.grow (k : ∀ b o, H b = some o → H' b = some o) : Ext μ H μ H' := ⟨⟨[], by simp⟩, fun _ h n => absurd h n, fun a o h _ => k a o h⟩
theorem Ext.growP (k : ∀ b o, H b = some o → H' b = some o) {p : Addr} (hp : H p = none) : Ext μ H (μ ++ [p]) H' := ⟨⟨[p], rfl⟩, fun a h n => by
    rcases List.mem_append.mp h with h | h
    · exact absurd h n
    · have e : a = p := by simpa using h
      rw [e]; exact hp, fun a o h _ => k a o h⟩
theorem RepC.mono {c : Cell} {a : Addr} {μ' : List Addr} (e : Ext μ H μ' H') (n : NoTup μ H) (ha : ∀ o, H a = some o → H' a = some o) (r : RepC K mg μ H c a) : RepC K mg μ' H' c a := by
  cases c with
  | lst xs => obtain ⟨vs, e1, rr⟩ := r; exact ⟨vs, ha _ e1, rr.mono e n⟩
  | dct xs => obtain ⟨vs, e1, rr⟩ := r; exact ⟨vs, ha _ e1, rr.mono e n⟩
  | ins cn fs => obtain ⟨C, dx, gs, hm, e1, rr⟩ := r; exact ⟨C, dx, gs, hm, ha _ e1, rr.mono e n⟩
theorem RelS.grow (r : RelS K mg μ st H) (k : ∀ b o, H b = some o → H' b = some o) : RelS K mg μ st H' :=
  ⟨r.len, r.nd, fun n c a h1 h2 => (r.at_ n c a h1 h2).mono (Ext.grow k) r.noTup (k a)⟩
/-- a new cell, in a heap that has more beside it -/
theorem RelS.pushG (r : RelS K mg μ st H) (k : ∀ b o, H b = some o → H' b = some o) {p : Addr} {c : Cell} (hp : H p = none) (hc : RepC K mg (μ ++ [p]) H' c p) : RelS K mg (μ ++ [p]) (st ++ [c]) H' := by
  have nt := r.noTup
  have hn := nt.fresh hp
  have ex : Ext μ H (μ ++ [p]) H' := Ext.growP k hp
  refine ⟨by simp [r.len], ?_, fun n c' a h1 h2 => ?_⟩
  · rw [List.nodup_append]
    refine ⟨r.nd, by simp, fun a ha b hb e => ?_⟩
    have e2 : b = p := by simpa using hb
    rw [e, e2] at ha; exact hn ha
  · by_cases hlt : n < st.length
    · rw [List.getElem?_append_left hlt] at h1
      rw [List.getElem?_append_left (by rw [r.len]; exact hlt)] at h2
      exact (r.at_ n c' a h1 h2).mono ex nt (k a)
    · have hl : n = st.length := by
        have := (List.getElem?_eq_some_iff.mp h1).1
        rw [List.length_append, List.length_singleton] at this
        omega
      subst hl
      rw [List.getElem?_append_right (Nat.le_refl _)] at h1
      rw [← r.len, List.getElem?_append_right (Nat.le_refl _)] at h2
      simp at h1 h2
      subst h1; subst h2
      exact hc
end

def gLZ : PA' := fun ds st => match ds with
  | [.tup xs, .tup ys] => some (.loc st.length, st ++ [.lst (zipD xs ys)])
  | [.loc n, .loc m] => match itemsOf (.loc n) st, itemsOf (.loc m) st with
    | some xs, some ys => some (.loc st.length, st ++ [.lst (zipD xs ys)])
    | _, _ => none
  | _ => none
section
variable {X : Cx} {E : WX}
theorem RepVs.zipT {K : PySem.W.Frag} {μ : List Addr} {H : Hp} : ∀ {xs ys : List D} {vs ws : List V} {as : List Addr}, RepVs K μ H xs vs → RepVs K μ H ys ws → as.length = (vs.zip ws).length →
    (∀ (j : Nat) (t : Addr), as[j]? = some t → ∃ q, (vs.zip ws)[j]? = some q ∧ H t = some (.tup [q.1, q.2])) → RepVs K μ H (zipD xs ys) (as.map V.ref)
  | [], ys, _, ws, as, .nil, r, hl, h => by
    have : as = [] := List.length_eq_zero_iff.mp (by simpa using hl)
    subst this; exact .nil
  | x :: xs, [], _, _, as, .cons _ _, .nil, hl, h => by
    have : as = [] := List.length_eq_zero_iff.mp (by simpa using hl)
    subst this; exact .nil
  | x :: xs, y :: ys, _, _, [], .cons _ _, .cons _ _, hl, h => by simp at hl
  | x :: xs, y :: ys, _, _, a :: as, .cons h1 h2, .cons g1 g2, hl, h => by
    obtain ⟨q, e1, e2⟩ := h 0 a rfl
    cases e1
    refine .cons (.tup (SqT.of e2) (.cons h1 (.cons g1 .nil))) (RepVs.zipT h2 g2 (by simpa using hl) fun j t ht => ?_)
    obtain ⟨q, e3, e4⟩ := h (j + 1) t (by simpa using ht)
    exact ⟨q, by simpa using e3, e4⟩
theorem re_lz {e e2 : Expr} {mr : MA} {p p2 pos2 pos : Pos} (hc : X.calm = true) (hm : X.mg "list" = none) (hm2 : X.mg "zip" = none) (ha : RA X E [e, e2] mr) (hg : Gl X "list" := by rfl) (hg2 : Gl X "zip" := by rfl)
    (hs : starEach [e, e2] X.env = (false, eval e X.env) :: starEach [e2] X.env := by rfl) (hpl : (backTo pos2 (starEach [e2] X.env)).any (·.1) = false := by rfl)
    (hs1 : starEach [.Call (.Name "zip" p2) [e, e2] [] pos2] X.env = (false, eval (.Call (.Name "zip" p2) [e, e2] [] pos2) X.env) :: starEach [] X.env := by rfl) :
    RE X E (.Call (.Name "list" p) [.Call (.Name "zip" p2) [e, e2] [] pos2] [] pos) (eP gLZ mr) := ⟨PE.imp (pe_lz hc hg hm hg2 hm2 ha.pa hs hpl hs1) fun σ H Q h => by
  obtain ⟨μ, env, st, rs, re, p⟩ := h
  refine tG_at rs re p fun μ1 st1 H1 ds vs ex rs1 re1 rv p => ?_
  obtain ⟨d, st', e, q⟩ := postO p
  have fin : ∀ (x y : D) (xs ys : List D) (a b : Addr) (ws zs : List V), RepVs X.K μ1 H1 xs ws → RepVs X.K μ1 H1 ys zs → some (D.loc st1.length, st1 ++ [Cell.lst (zipD xs ys)]) = some (d, st') → ((SqL X.K H1 a ws ∧ SqL X.K H1 b zs) ∨ (SqT X.K H1 a ws ∧ SqT X.K H1 b zs)) → rLZ X.K [.ref a, .ref b] H1 Q := by
    intro x y xs ys a b ws zs r1 r2 e hq
    cases e
    refine ⟨a, b, ws, zs, rfl, hq, fun H' p as k1 k2 k3 k4 k5 => ?_⟩
    have ex1 : Ext μ1 H1 (μ1 ++ [p]) H' := Ext.growP k1 k2
    exact q (μ1 ++ [p]) _ H' ex1 (rs1.pushG k1 k2 ⟨_, k3, RepVs.zipT (r1.mono ex1 rs1.noTup) (r2.mono ex1 rs1.noTup) k4 k5⟩) (.loc (by rw [← rs1.len]; simp))
  unfold gLZ at e
  split at e
  · cases rv with
    | cons r1 rr =>
      cases rr with
      | cons r2 rr =>
        cases rr
        cases r1 with
        | tup s1 t1 =>
          cases r2 with
          | tup s2 t2 => exact fin .non .non _ _ _ _ _ _ t1 t2 e (.inr ⟨s1, s2⟩)
  · cases rv with
    | cons r1 rr =>
      cases rr with
      | cons r2 rr =>
        cases rr
        split at e
        · rename_i xs ys e1 e2
          cases r1 with
          | loc hn =>
            cases r2 with
            | loc hm =>
              obtain ⟨ws, s1, t1⟩ := items_loc rs1 hn e1
              obtain ⟨zs, s2, t2⟩ := items_loc rs1 hm e2
              exact fin .non .non _ _ _ _ _ _ t1 t2 e (.inl ⟨s1, s2⟩)
        · cases e
  · cases e⟩
end
end DL
set_option Elab.async false
set_option linter.all false
set_option maxRecDepth 100000
set_option maxHeartbeats 2000000
namespace DL
open PySem PySem.W PySem.Calls PyProof.Rows
open PySem Builtin Float
def bits7 (a : Nat) : PySem.Str := ⟨#[48 + a / 64 % 2, 48 + a / 32 % 2, 48 + a / 16 % 2, 48 + a / 8 % 2, 48 + a / 4 % 2, 48 + a / 2 % 2, 48 + a % 2]⟩
def sp07 : FormatSpec := { fill := 48, align := 61, sign := none, noNeg0 := false, alt := false, width := some 7, grouping := none, precision := none, type := some 98 }
theorem parse07 : parseFormatSpec (Str.ofString "07b").cps.toList "int" 62 = .ok sp07 := by kernel_rfl
theorem digits07 : ∀ a : Fin 128, intField' sp07 (decide ((a.val : Int) < 0)) [] ((Nat.toDigits 2 ((a.val : Int)).natAbs).map fun c => c.toNat) [] 4 = bits7 a.val := by decide +kernel
theorem meets_07b (a : Nat) (h : a < 128) (t u : Tok) : Meets («int.__format__» ⟨[.int a t, .str (Str.ofString "07b") u], []⟩) (fun _ R s => ∀ t' k, R (.ok (.ret (.str (bits7 a) t'))) { s with toks := k }) := by
  apply KPc.meets_of
  intro prog w A s Q E hq
  have hne : ((Str.ofString "07b").length == 0) = false := by decide
  have hasc : (((Str.ofString "07b").cps.toList.drop 1).any (· ≥ 128) || ((Str.ofString "07b").cps.getD 0 0 ≥ 128 && !([60, 62, 61, 94] : List Nat).contains ((Str.ofString "07b").cps.getD 1 0))) = false := by decide +kernel
  have hp := parse07
  have hdg := digits07 ⟨a, h⟩
  dsimp only at hdg
  generalize Str.ofString "07b" = spec at *
  unfold Builtin.«int.__format__»
  simp only [selfAndOne, noKeywords, Int.intOfSelf, asInt?, asStr?, List.isEmpty_nil, if_true, pure_bind, bind_pure, bind_assoc, hne, hasc, Bool.false_eq_true, if_false,
    show (Value.str spec u == Value.none) = false from rfl]
  refine wpAny_bind (wpAny_typeNameOf (T := "str") (typeIs_str _ _ _) (by decide) fun _ => ?_)
  first | refine wpAny_bind (wpAny_typeNameOfCut_int ?_) | refine wpAny_bind (wpAny_typeNameOf_int ?_)
  simp only [hp, show sp07.type = some 98 from rfl, Option.getD_some]
  refine wpAny_ite_split (fun _ => ?_) (fun z => absurd (by decide +kernel) z)
  wp_delta
  refine wpAny_ite_split (fun z => absurd z (by decide)) (fun _ => ?_)
  dsimp only
  refine wpAny_ite_split (fun z => absurd z (by decide)) (fun _ => ?_)
  refine wpAny_ite_split (fun z => absurd z (by decide)) (fun _ => ?_)
  rw [if_pos (show ((98 : Nat) == 98) = true from rfl)]
  dsimp only
  refine wpAny_ite_split (fun z => absurd z (by decide)) (fun _ => ?_)
  refine wpAny_ite_split (fun z => absurd z (by decide)) (fun _ => ?_)
  have e : ∀ z : PySem.Str, z = bits7 a → wpAny (model prog w) A (retStr z) Q E s := fun z hz => by
    subst hz
    unfold retStr
    exact wpAny_bind (wpAny_mkStr (wpAny_pure (hq _ _)) (show 7 ≤ sizeLine by decide))
  refine e _ ?_
  simp only [show sp07.alt = false from rfl, show ((98 : Nat) == 88) = false from rfl, show ((2 : Nat) == 10) = false from rfl, Bool.false_eq_true, if_false]
  exact hdg
end DL
namespace DL
open PySem L2 PyProof.Rows
section
variable {X : Cx} {E : WX}
/-- f'{e:07b}' of a number below 128 -/
def gB7 : P1 := fun x st => match x with | .int i => if 0 ≤ i ∧ i < 128 then some (.str (bits7 i.toNat), st) else none | _ => none
theorem re_b7 {e : Expr} {m : ME} {j : Nat} {pos p1 p2 p3 : Pos} (he : RE X E e m) : RE X E (.JoinedStr [.FormattedValue e (-1) (some (.JoinedStr [.Constant (.str "07b") j p1] p2)) p3] pos) (eUn gB7 m) := by
  have h1 : PE X (.FormattedValue e (-1) (some (.JoinedStr [.Constant (.str "07b") j p1] p2)) p3) (fun σ H Q => tG X.K X.mg E (RepV X.K) m σ H fun x H1 => ∃ i : Nat, x = .int i ∧ i < 128 ∧ Q (.str (bits7 i)) H1) := by
    refine ⟨fun pins s σ H Q I h => ?_⟩
    refine wpAny_FormattedValue_spec (thn (he.pe.run pins s σ H _ I h) fun v s1 hv => ?_)
    obtain ⟨x, H1, I1, r1, i, rfl, hi, q⟩ := hv
    obtain ⟨t, rfl⟩ := r1
    have hc : PE X (.JoinedStr [.Constant (.str "07b") j p1] p2) (tC (.str "07b")) := pe_joined1 pe_str
    refine thn (hc.run pins s1 σ H1 (fun w H2 => w = .str "07b" ∧ H2 = H1) I1 ⟨rfl, rfl⟩) fun r s2 hr => ?_
    obtain ⟨w, H2, I2, r2, rfl, rfl⟩ := hr
    obtain ⟨t2, rfl⟩ := r2
    refine ⟨_, t2, rfl, ?_⟩
    refine PySem.W.KXf.field_int (y := bits7 i) (spec' := Str.ofString "07b") rfl (by decide) (by decide) (fun u => meets_07b i hi t u) fun t' k => ?_
    exact ⟨.str (bits7 i), _, I2.tok _, ⟨_, rfl⟩, q⟩
  refine ⟨PE.imp (pe_joined1 h1) fun σ H Q h => ?_⟩
  obtain ⟨μ, env, st, rs, re, p⟩ := h
  refine tG_at rs re p fun μ1 st1 H1 d x ex rs1 re1 rx p => ?_
  obtain ⟨d', st', e, q⟩ := postO p
  cases rx with
  | int i =>
    have e : (if 0 ≤ i ∧ i < 128 then some (D.str (bits7 i.toNat), st1) else none) = some (d', st') := e
    split at e
    · rename_i hi
      cases e
      exact ⟨i.toNat, by rw [Int.toNat_of_nonneg hi.1], by omega, q μ1 _ H1 (Ext.refl _ _) rs1 (.str _)⟩
    · cases e
  | _ => cases e
end
end DL
set_option Elab.async false
set_option linter.all false
set_option maxRecDepth 100000
/-! DL15: int(t, 2) -/
namespace DL
namespace Bn
open PySem PySem.Spec PyProof.Rows L2
open PySem.NumText PySem.Calls
open L2.Hx (bb bn wp_textB Hid typeCall_int_2 newCall_int_2)
def IsB (c : Nat) : Prop := c = 48 ∨ c = 49
def binNum (l : List Nat) : Nat := l.foldl (fun a c => a * 2 + (c - 48)) 0
theorem digit_bin {c : Nat} (h : IsB c) : digit? c = some (c - 48) := by
  unfold IsB at h
  unfold digit?
  rw [if_pos (bb (show 48 ≤ c by omega) (show c ≤ 57 by omega))]
theorem step_bin {ds : Array Nat} {b : Bool} {c : Nat} (h : IsB c) : PySem.NumText.step 2 (ds, b) c = some (ds.push (c - 48), true) := by
  unfold PySem.NumText.step
  rw [if_neg (by rw [beq_iff_eq]; unfold IsB at h; omega), digit_bin h]
  exact if_pos (by unfold IsB at h; omega)
theorem foldl_bin : ∀ (cs : List Nat) (ds : Array Nat), (∀ c ∈ cs, IsB c) → cs.foldlM (PySem.NumText.step 2) (ds, true) = some (cs.foldl (fun acc c => acc.push (c - 48)) ds, true)
  | [], _, _ => rfl
  | c :: cs, ds, h => by
    rw [List.foldlM_cons, step_bin (h c (List.mem_cons_self ..))]
    show cs.foldlM (PySem.NumText.step 2) (ds.push (c - 48), true) = _
    exact foldl_bin cs (ds.push (c - 48)) fun d hd => h d (List.mem_cons_of_mem _ hd)
theorem digits_bin {cs : List Nat} (h : ∀ c ∈ cs, IsB c) (hne : cs ≠ []) : digits? 2 cs = some (cs.foldl (fun acc c => acc.push (c - 48)) #[]) := by
  cases cs with
  | nil => exact absurd rfl hne
  | cons c cs =>
    unfold digits?
    rw [List.foldlM_cons, step_bin (h c (List.mem_cons_self ..))]
    show (cs.foldlM (PySem.NumText.step 2) ((#[] : Array Nat).push (c - 48), true)).bind _ = _
    rw [foldl_bin cs _ fun d hd => h d (List.mem_cons_of_mem _ hd)]
    rfl
theorem push_bin : ∀ (cs : List Nat) (ds : Array Nat), (cs.foldl (fun acc c => acc.push (c - 48)) ds).foldl (fun acc d => acc * 2 + d) 0 = cs.foldl (fun a c => a * 2 + (c - 48)) (ds.foldl (fun acc d => acc * 2 + d) 0)
  | [], _ => rfl
  | c :: cs, ds => by
    rw [List.foldl_cons, push_bin cs (ds.push (c - 48)), List.foldl_cons]
    congr 1
    simp
theorem dropB {cs : List Nat} (h : ∀ c ∈ cs, IsB c) : cs.dropWhile blank = cs := by
  cases cs with
  | nil => rfl
  | cons c cs => exact dropWhile_of (by have := h c (List.mem_cons_self ..); unfold IsB at this; omega)
theorem signB {cs : List Nat} (h : ∀ c ∈ cs, IsB c) : sign cs = (false, cs) := by
  cases cs with
  | nil => rfl
  | cons c cs =>
    have := h c (List.mem_cons_self ..)
    unfold IsB at this
    exact sign_of (by omega) (by omega)
theorem basedB {cs : List Nat} (h : ∀ c ∈ cs, IsB c) : based 2 cs = (2, false, cs) := by
  match cs, h with
  | [], _ => rfl
  | [a], h =>
    have ha := h a (List.mem_cons_self ..)
    rcases ha with rfl | rfl <;> rfl
  | a :: c :: r, h =>
    have ha := h a (List.mem_cons_self ..)
    have hc := h c (List.mem_cons_of_mem _ (List.mem_cons_self ..))
    rcases ha with rfl | rfl <;> rcases hc with rfl | rfl <;> rfl
theorem read_bin {cs : List Nat} (h : ∀ c ∈ cs, IsB c) (hne : cs ≠ []) : (int_private% "readNumeral") 0 2 cs = (int_private% "Numeral.value") ((binNum cs : Nat) : Int) := by
  have hr : ∀ c ∈ cs.reverse, IsB c := fun c hc => h c (List.mem_reverse.mp hc)
  refine (readNumeral_eq 0 2 cs).trans ?_
  rw [dropB h, signB h]
  show judge 0 false (based 2 cs).1 (based 2 cs).2.1 (digits? (based 2 cs).1 (((based 2 cs).2.2.reverse.dropWhile blank).reverse)) = _
  rw [basedB h]
  show judge 0 false 2 false (digits? 2 ((cs.reverse.dropWhile blank).reverse)) = _
  rw [dropB hr, List.reverse_reverse, digits_bin h hne]
  show (int_private% "Numeral.value") (((cs.foldl (fun acc c => acc.push (c - 48)) (#[] : Array Nat)).foldl (fun acc d => acc * 2 + d) 0 : Nat) : Int) = _
  have z : (#[] : Array Nat).foldl (fun acc d => acc * 2 + d) 0 = 0 := by first | rfl | simp
  rw [push_bin, z] <;> rfl
theorem seen_bin {x : Str} (h : ∀ c ∈ x.cps.toList, IsB c) : numTextOf x = x.cps.toList ∧ numSeenOf x = x.cps.toList := by
  have e1 : numTextOf x = x.cps.toList := by
    refine if_pos ?_
    rw [← Array.all_toList, List.all_eq_true]
    intro c hc
    have := h c hc
    unfold IsB at this
    exact decide_eq_true (by omega)
  refine ⟨e1, ?_⟩
  show (numTextOf x).takeWhile _ = _
  rw [e1]
  refine takeWhile_all fun c hc => ?_
  have := h c hc
  unfold IsB at this
  exact bne_iff_ne.mpr (by omega)
set_option maxHeartbeats 4000000 in
theorem gives_bin {x : PySem.Str} {u t : Tok} (hl : x.length ≤ 640) (h : ∀ c ∈ x.cps.toList, IsB c) (hne : x.cps.toList ≠ []) :
    Gives (Builtin.«int.__new__» ⟨[.type "int", .str x u, .int 2 t], []⟩) (.int ((binNum x.cps.toList : Nat) : Int)) :=
  .of_wp fun M A E s Q hQ => by
    obtain ⟨hp, g, d, tk, os⟩ := s
    have f1 := F.conv_sub_int
    have f2 := F.madeHere_int
    have f6 : typeOf (.str x u) = pure (.type "str") := rfl
    obtain ⟨e1, e2⟩ := seen_bin h
    have hs : (numSeenOf x).length ≤ 640 := by
      rw [e2, Array.length_toList]
      exact hl
    have hr : (int_private% "readNumeral") 0 2 (numSeenOf x) = (int_private% "Numeral.value") ((binNum x.cps.toList : Nat) : Int) := by
      rw [e2]
      exact read_bin h hne
    have ha : ((numSeenOf x).length == (numTextOf x).length) = true := by
      rw [e1, e2]
      exact beq_self_eq_true _
    have hk := Hid.mk (And.intro hs (And.intro hr ha))
    clear hs hr ha e1 e2 hl hne h
    repeat (any_goals (first
      | assumption
      | ((with_reducible show wpAny _ _ ((int_private% "intFromText") _ _ _) _ _ _); refine wp_textB hk.out.1 hk.out.2.1 hk.out.2.2 ?_)
      | wp_step))
    all_goals first | exact ⟨_, rfl, hQ⟩ | skip
theorem call_bin {prog : Program} {w : World} {A : Around} {E : Value → Shared → Prop} {s : Shared} {Q : Value → Shared → Prop} {x : PySem.Str} {u t : Tok} (hl : x.length ≤ 640) (h : ∀ c ∈ x.cps.toList, IsB c) (hne : x.cps.toList ≠ [])
    (hQ : Q (.int ((binNum x.cps.toList : Nat) : Int) s.toks) { s with toks := s.toks + 1 }) : wpAny (model prog w) A (call (.type "int") [.str x u, .int 2 t]) Q E s :=
  callType_new F.called_int F.newNe_int (typeCall_int_2 _ _) (newCall_int_2 _ _) (fun obj => F.initArgs_range_2 obj _ _) F.entry_int_new (gives_bin hl h hne).meets (show (Made.int ((binNum x.cps.toList : Nat) : Int)).post _ s from ⟨rfl, hQ⟩)
end Bn
open PySem L2
/-- int(t, 2) -/
def gIntB : PA' := fun ds st => match ds with
  | [.str x, .int 2] => if x.cps.size ≤ 640 ∧ x.cps.toList ≠ [] ∧ x.cps.toList.all (fun c => c == 48 || c == 49) = true then some (.int (Bn.binNum x.cps.toList), st) else none
  | _ => none
theorem cl_intB {X : Cx} : CallR X (.type "int") (rAM X.K X.mg gIntB) := by
  intro pins s σ H xs us Q I r h
  obtain ⟨μ, st, ds, d, st', rs, rv, e, q⟩ := h
  unfold gIntB at e
  split at e
  · rename_i x
    split at e
    · rename_i hx
      cases e
      cases rv with
      | cons r1 rr =>
        cases rr with
        | cons r2 rr =>
          cases rr
          cases r1
          cases r2
          obtain ⟨u, w', rfl, r1, r2⟩ := vals2 r
          obtain ⟨t1, rfl⟩ := r1
          obtain ⟨t2, rfl⟩ := r2
          refine Bn.call_bin (x := x) hx.1 (fun c hc => ?_) hx.2.1 ⟨.int _, H, I.tok _, ⟨_, rfl⟩, q μ _ H (Ext.refl _ _) rs (.int _)⟩
          have := List.all_eq_true.mp hx.2.2 c hc
          simp only [Bool.or_eq_true, beq_iff_eq] at this
          exact this
    · cases e
  · cases e
end DL
set_option Elab.async false
set_option linter.all false
set_option maxRecDepth 100000
/-! DL16: t[::-1], text * number, sep.join(..) -/
namespace DL
section
open PySem PySem.W PySem.Calls PyProof.Rows HT
variable {prog : Program} {w : World} {A : Around} {E : Value → Shared → Prop} {s : Shared}
theorem rev_pick (xs : Array Value) : ((List.range xs.size).filterMap fun (k : Nat) => xs[((xs.size : Int) - 1 + (k : Int) * (-1)).toNat]?).toArray = xs.toList.reverse.toArray := by
  congr 1
  apply List.ext_getElem?
  intro i
  have hall : ∀ k ∈ List.range xs.size, xs[((xs.size : Int) - 1 + (k : Int) * (-1)).toNat]? = some (xs.toList.reverse.getD k .none) := fun k hk => by
    have hk' : k < xs.size := List.mem_range.mp hk
    have e : ((xs.size : Int) - 1 + (k : Int) * (-1)).toNat = xs.size - 1 - k := by omega
    rw [e, List.getD_eq_getElem?_getD, List.getElem?_reverse (by simpa using hk')]
    have : xs.size - 1 - k < xs.size := by omega
    simp [this]
  have : ((List.range xs.size).filterMap fun (k : Nat) => xs[((xs.size : Int) - 1 + (k : Int) * (-1)).toNat]?) = (List.range xs.size).map fun k => xs.toList.reverse.getD k .none := by
    have gen : ∀ l : List Nat, (∀ k ∈ l, xs[((xs.size : Int) - 1 + (k : Int) * (-1)).toNat]? = some (xs.toList.reverse.getD k .none)) → (l.filterMap fun (k : Nat) => xs[((xs.size : Int) - 1 + (k : Int) * (-1)).toNat]?) = l.map fun k => xs.toList.reverse.getD k .none := by
      intro l
      induction l with
      | nil => intro _; rfl
      | cons a l ih =>
        intro h
        rw [List.filterMap_cons, h a (List.mem_cons_self ..), List.map_cons, ih fun k hk => h k (List.mem_cons_of_mem _ hk)]
    exact gen _ hall
  rw [this, List.getElem?_map]
  by_cases hi : i < xs.size
  · rw [List.getElem?_range hi]
    show some (xs.toList.reverse.getD i .none) = _
    rw [List.getD_eq_getElem?_getD]
    have : i < xs.toList.reverse.length := by simpa using hi
    rw [List.getElem?_eq_getElem this]
    rfl
  · rw [List.getElem?_eq_none (by simpa using hi)]
    rw [List.getElem?_eq_none (by simpa using hi)]
    rfl
theorem sliceApplied_rev {sl : Addr} {vs : Value} {n : Nat} {Q : Int × Int × Nat → Shared → Prop} (hs : s.heap.IsSliceOf sl .none .none vs) (ps : IsPart vs (some (-1)))
    (h : Q ((n : Int) - 1, -1, n) s) : wpAny (model prog w) A (Builtin.Slice.sliceApplied (.ref sl) (pure (n : Int))) Q E s := by
  obtain ⟨os, hos, hcs, hds⟩ := id hs
  unfold Builtin.Slice.sliceApplied Builtin.Slice.sliceFields
  refine wpAny_bind (wpAny_bind (wpAny_field hos hds (x := .none) rfl (wpAny_bind (wpAny_field hos hds (x := .none) rfl (wpAny_bind (wpAny_field hos hds (x := vs) rfl (wpAny_pure ?_)))))))
  refine wpAny_bind (slicePart_ ps ?_)
  show wpAny _ _ (if ((-1 : Int) == 0) = true then _ else _) _ _ s
  rw [if_neg (by decide)]
  refine wpAny_bind (slicePart_none (wpAny_bind (slicePart_none (wpAny_bind (wpAny_pure ?_)))))
  have ea : Builtin.Slice.sliceAdjust none none (-1) (n : Int) = ((n : Int) - 1, -1) := by
    unfold Builtin.Slice.sliceAdjust
    rfl
  show wpAny _ _ (match Builtin.Slice.sliceAdjust none none (-1) (n : Int) with | (lo, hi) => pure (lo, (-1 : Int), Builtin.Slice.slicePlaces lo hi (-1))) _ _ s
  rw [ea]
  show wpAny _ _ (pure ((n : Int) - 1, (-1 : Int), Builtin.Slice.slicePlaces ((n : Int) - 1) (-1) (-1))) _ _ s
  have ep : Builtin.Slice.slicePlaces ((n : Int) - 1) (-1) (-1) = n := by
    unfold Builtin.Slice.slicePlaces
    rw [if_neg (by decide)]
    by_cases hn : 0 < n
    · rw [if_pos (by omega)]
      show (((n : Int) - 1 - -1 - 1) / (- -1) + 1).toNat = n
      rw [show (- -1 : Int) = 1 from rfl, Int.ediv_one]
      omega
    · rw [if_neg (by omega)]
      show (0 : Int).toNat = n
      omega
  rw [ep]
  exact wpAny_pure h
theorem getItem_tuple_rev {t sl : Addr} {items : Array Value} {vs : Value} {Q : Value → Shared → Prop} (ht : IsTup s.heap t items) (hs : s.heap.IsSliceOf sl .none .none vs) (ps : IsPart vs (some (-1)))
    (h : Q (.ref s.heap.objs.size) { s with heap := s.heap.push { cls := .type "tuple", data := .seq items.toList.reverse.toArray } })
    (hsz : items.size ≤ sizeLine) : wpAny (model prog w) A (getItem (.ref t) (.ref sl)) Q E s := by
  have htake : sizeOk (.seq items.toList.reverse.toArray) := by
    show items.toList.reverse.toArray.size ≤ sizeLine
    rw [List.size_toArray, List.length_reverse, Array.length_toList]
    exact hsz
  obtain ⟨os, hos, hcs, hds⟩ := id hs
  have hTs : s.TypeIs (.ref sl) "slice" := ⟨os, hos, hcs⟩
  unfold getItem
  try with_reducible refine wpAny_holding ?_
  first | refine wpAny_bind (wpAny_pure ?_) | skip
  refine wpAny_bind (wpAny_sequenceKey ht.typeIs (by decide) ?_)
  refine wpAny_bind (wpAny_callSpecial?_slot (name := Str.ofString "__getitem__") ht.typeIs PyProof.Rows.slot_tuple_getitem
    (wpAny_call_entry PyProof.Rows.slot_tuple_getitem ht.typeIs entry_tuple_getitem ?_ (args_tuple_getitem _ _)))
  show wpAny _ _ (Builtin.Tuple.tupleItemsOf (.ref t) >>= _) _ _ s
  refine wpAny_bind (tupleItemsOf_ ht ?_)
  refine wpAny_bind (wpAny_typeOf hTs ?_)
  rw [if_pos (by decide)]
  refine wpAny_bind (sliceApplied_rev hs ps ?_)
  have hno : ¬ ((((items.size : Int) - 1) == 0 && (-1 : Int) == 1 && items.size == items.size) = true) := by
    intro q
    rw [Bool.and_eq_true, Bool.and_eq_true] at q
    exact absurd q.1.2 (by decide)
  show wpAny _ _ (if ((((items.size : Int) - 1) == 0 && (-1 : Int) == 1 && items.size == items.size) = true) then _ else _) _ _ s
  rw [if_neg hno, rev_pick]
  first
    | exact wpAny_bind (m := Builtin.Tuple.tupleExact _) (wpAny_newObj_type (wpAny_pure ⟨_, rfl, wpAny_pure h⟩) htake)
    | exact wpAny_bind (m := Builtin.Tuple.tupleExact _) (wpAny_newObj_type (wpAny_bind (wpAny_pure (wpAny_pure ⟨_, rfl, wpAny_pure h⟩))) htake)
    | exact wpAny_bind (wpAny_bind (m := Builtin.Tuple.tupleExact _) (wpAny_newObj_type (wpAny_pure (wpAny_pure ⟨_, rfl, wpAny_pure h⟩)) htake))
    | exact wpAny_bind (wpAny_bind (m := Builtin.Tuple.tupleExact _) (wpAny_newObj_type (wpAny_pure ⟨_, rfl, wpAny_pure h⟩) htake))
end
section
open PySem PySem.Spec PyProof.Rows L2
variable {X : Cx}
def tRevT (K : PySem.W.Frag) (te : TE) : TE := fun σ H Q => te σ H fun x H1 => ∃ a xs, x = .ref a ∧ ((SqL K H1 a xs ∧ ∀ p, H1 p = none → Q (.ref p) (upd H1 p (.lst xs.reverse))) ∨ (SqT K H1 a xs ∧ ∀ p, H1 p = none → Q (.ref p) (upd H1 p (.tup xs.reverse))))
theorem pe_revT {e : Expr} {te : TE} {k : Nat} {p1 p2 p3 pos : Pos} (he : PE X e te) : PE X (.Subscript e (.Slice none none (some (.UnaryOp .USub (.Constant (.int 1) k p1) p2)) p3) pos) (tRevT X.K te) := by
  refine ⟨fun pins s σ H Q I h => ?_⟩
  refine Subscript_ (thn (he.run pins s σ H _ I h) fun v s1 ⟨x, H1, I1, r1, q1⟩ => ?_)
  obtain ⟨a, xs, ex, q⟩ := q1
  subst ex
  cases r1
  have hst : PO X (some (.UnaryOp .USub (.Constant (.int 1) k p1) p2)) (tPart (tUn (rU fun i => .int (-i)) (tC (.int 1)))) := po_some (pe_un un_neg pe_int)
  refine wpAny_Slice (thn (po_none.run pins s1 σ H1 (fun o H2 => o = none ∧ H2 = H1) I1 ⟨rfl, rfl⟩) fun vl s2 ⟨l, H2, I2, pl, el, e2⟩ => ?_)
  subst el e2
  refine thn (po_none.run pins s2 σ H2 (fun o H3 => o = none ∧ H3 = H2) I2 ⟨rfl, rfl⟩) fun vu s3 ⟨u, H3, I3, pu, eu, e3⟩ => ?_
  subst eu e3
  refine thn (hst.run pins s3 σ H3 (fun o H4 => o = some (-1) ∧ H4 = H3) I3 ⟨1, rfl, -1, rfl, rfl, rfl⟩) fun vs s4 ⟨o, H4, I4, ps, eo, e4⟩ => ?_
  subst eo e4
  have I5 : Inv X pins σ H4 { s4 with heap := s4.heap.push { cls := .type "slice", data := .fields #[vl, vu, vs] } } := I4.kept (t' := s4.toks) fun b ob q => Heap.get?_push_of_some _ q
  show wpAny (model X.prog X.w) X.A (subscriptTail e (.Slice none none (some (.UnaryOp .USub (.Constant (.int 1) k p1) p2)) p3) (.ref a) (.ref s4.heap.objs.size)) (EP X pins σ Q) X.xe { s4 with heap := s4.heap.push { cls := .type "slice", data := .fields #[vl, vu, vs] } }
  rcases q with ⟨hx, q⟩ | ⟨hx, q⟩
  · obtain ⟨its, r, ht, hz⟩ := I5.list hx
    have hlen := r.length
    refine tail_any (ops := [.ref a, .ref s4.heap.objs.size]) ht.isList.typeIs (PySem.slot_list_getitem.lookup) ?_ (by with_unfolding_all rfl)
    refine wpAny_getItem_list_slice ht.isList (Heap.IsSliceOf.new _ vl vu vs) pl pu ps (by decide) ?_ (by rw [List.size_toArray]; omega)
    rw [PySem.W.krv_pick]
    refine ⟨.ref _, _, I5.laid (t' := s4.toks) (o := .lst xs.reverse) (fun b ob q => Heap.get?_push_of_some _ q) (Nat.le_refl _) ?_, rfl, q _ (I5.hok.fresh (Nat.le_refl _))⟩
    exact ⟨by rw [List.length_reverse]; exact hz, _, 0, r.reverse, Heap.get?_push_size _ rfl⟩
  · cases pl
    cases pu
    obtain ⟨its, r, ht, hz⟩ := I5.tuple hx
    have hlen := r.length
    refine tail_any (ops := [.ref a, .ref s4.heap.objs.size]) ht.typeIs (PyProof.Rows.slot_tuple_getitem.lookup) ?_ (by with_unfolding_all rfl)
    refine getItem_tuple_rev ht (Heap.IsSliceOf.new _ .none .none vs) ps ?_ (by rw [List.size_toArray]; omega)
    refine ⟨.ref _, _, I5.laid (t' := s4.toks) (o := .tup xs.reverse) (fun b ob q => Heap.get?_push_of_some _ q) (Nat.le_refl _) ?_, rfl, q _ (I5.hok.fresh (Nat.le_refl _))⟩
    exact ⟨by rw [List.length_reverse]; exact hz, _, r.reverse, IsTup.new _ _⟩
end
open PySem L2
def gRev : P1 := fun x st => match x with
  | .tup xs => some (.tup xs.reverse, st)
  | .loc n => match itemsOf (.loc n) st with | some xs => some (.loc st.length, st ++ [.lst xs.reverse]) | none => none
  | _ => none
theorem re_rev {X : Cx} {E : WX} {e : Expr} {m : ME} {k : Nat} {p1 p2 p3 pos : Pos} (he : RE X E e m) : RE X E (.Subscript e (.Slice none none (some (.UnaryOp .USub (.Constant (.int 1) k p1) p2)) p3) pos) (eUn gRev m) := ⟨PE.imp (pe_revT he.pe) fun σ H Q h => by
  obtain ⟨μ, env, st, rs, re, p⟩ := h
  refine tG_at rs re p fun μ1 st1 H1 d x ex rs1 re1 rx p => ?_
  obtain ⟨d', st', e, q⟩ := postO p
  unfold gRev at e
  split at e
  · cases e
    cases rx with
    | tup h1 h2 =>
      refine ⟨_, _, rfl, .inr ⟨h1, fun a ha => ?_⟩⟩
      exact q μ1 _ _ (Ext.new1 ha) (rs1.new1 ha) (.tup (SqT.of upd_same) (h2.reverse.mono (Ext.new1 ha) rs1.noTup))
  · split at e
    · rename_i xs hx
      cases e
      cases rx with
      | loc hn =>
        obtain ⟨vs, hq, hv⟩ := items_loc rs1 hn hx
        exact ⟨_, _, rfl, .inl ⟨hq, fun a ha => post_new (σ := σ) rs1 hv.reverse ha q⟩⟩
    · cases e
  · cases e⟩
/-- text * number, number below 1000 -/
noncomputable def bMulS : P2 := fun x y st => match x, y with
  | .str a, .int n => if 0 ≤ n ∧ n ≤ 1000 ∧ a.length ≤ 1000 then some (.str ⟨(List.replicate n.toNat a.cps).foldl (· ++ ·) #[]⟩, st) else none
  | _, _ => bMul x y st
theorem rep_one (a : PySem.Str) : (⟨(List.replicate (1 : Int).toNat a.cps).foldl (· ++ ·) #[]⟩ : PySem.Str) = a := by
  show (⟨#[] ++ a.cps⟩ : PySem.Str) = a
  rw [Array.empty_append]
theorem o_mulS {X : Cx} : OpR X (binaryOp .Mult) (r2M X.K X.mg bMulS) := by
  intro pins s σ H x y v u Q I rx ry q
  obtain ⟨μ, st, d1, d2, d, st', rs, r1, r2, e, q⟩ := q
  unfold bMulS at e
  split at e
  · rename_i a n
    split at e
    · rename_i hn
      cases e
      cases r1
      cases r2
      obtain ⟨t, rfl⟩ := rx
      obtain ⟨t2, rfl⟩ := ry
      have hlen : a.length * n.toNat ≤ 1000000 := Nat.mul_le_mul (show a.length ≤ 1000 from hn.2.2) (show n.toNat ≤ 1000 by omega)
      refine PySem.P.mul_str (by simp; omega) (fun h1 h2 h3 => ?_) (fun h1 h2 => ?_) ?_
      · have hpos : 0 < n := by omega
        have : (2 ^ 63 - 1) / n ≥ 9223372036854775 := by
          rw [ge_iff_le, Int.le_ediv_iff_mul_le hpos]
          omega
        have e3 : (a.length : Int) ≤ 1000 := by exact_mod_cast hn.2.2
        omega
      · refine decide_eq_false ?_
        rw [sizeLine_eq]
        omega
      · by_cases h1 : n < 1
        · rw [if_pos h1]
          have hz : n = 0 := by omega
          subst hz
          refine ⟨by decide, ?_⟩
          exact ⟨.str PySem.Str.empty, H, I.tok _, ⟨_, rfl⟩, q μ _ H (Ext.refl _ _) rs (.str _)⟩
        · rw [if_neg h1]
          by_cases h2 : (n == 1 || a.length == 0) = true
          · rw [if_pos h2]
            have ea : (⟨(List.replicate n.toNat a.cps).foldl (· ++ ·) #[]⟩ : PySem.Str) = a := by
              rw [Bool.or_eq_true, beq_iff_eq, beq_iff_eq] at h2
              rcases h2 with h2 | h2
              · rw [h2]; exact rep_one a
              · have hc : a.cps = #[] := Array.eq_empty_of_size_eq_zero h2
                have : ∀ k, (List.replicate k (#[] : Array Nat)).foldl (· ++ ·) #[] = #[] := by
                  intro k
                  induction k with
                  | zero => rfl
                  | succ k ih => rw [List.replicate_succ, List.foldl_cons]; exact ih
                rw [hc, this, ← hc]
            exact ⟨.str a, H, I, ⟨_, rfl⟩, by rw [← ea]; exact q μ _ H (Ext.refl _ _) rs (by rw [ea]; exact .str _)⟩
          · rw [if_neg h2]
            refine ⟨?_, ⟨.str _, H, I.tok _, ⟨_, rfl⟩, q μ _ H (Ext.refl _ _) rs (.str _)⟩⟩
            have sz : ∀ (k : Nat) (z : Array Nat), ((List.replicate k a.cps).foldl (· ++ ·) z).size = z.size + k * a.cps.size := by
              intro k
              induction k with
              | zero => intro z; simp
              | succ k ih => intro z; rw [List.replicate_succ, List.foldl_cons, ih, Array.size_append, Nat.succ_mul]; omega
            show ((List.replicate n.toNat a.cps).foldl (· ++ ·) #[]).size ≤ sizeLine
            rw [sz, sizeLine_eq]
            have : n.toNat * a.cps.size = a.length * n.toNat := Nat.mul_comm _ _
            simp
            omega
    · cases e
  · exact o_mul pins s σ H x y v u Q I rx ry ⟨μ, st, d1, d2, d, st', rs, r1, r2, e, q⟩
/-- the texts of a list of data -/
def strsD : List D → Option (List PySem.Str)
  | [] => some []
  | .str x :: ds => (strsD ds).map (x :: ·)
  | _ => none
theorem strsD_vals {K : PySem.W.Frag} {μ : List Addr} {H : Hp} : ∀ {ds : List D} {vs : List V} {ys : List PySem.Str}, strsD ds = some ys → RepVs K μ H ds vs → vs = ys.map V.str
  | [], _, _, h, .nil => by cases h; rfl
  | .str x :: ds, _, _, h, .cons h1 h2 => by
    have h : (strsD ds).map (x :: ·) = _ := h
    cases e : strsD ds with
    | none => rw [e] at h; cases h
    | some zs => rw [e] at h; cases h; cases h1; rw [strsD_vals e h2]; rfl
  | .non :: _, _, _, h, _ => by cases h
  | .bl _ :: _, _, _, h, _ => by cases h
  | .int _ :: _, _, _, h, _ => by cases h
  | .tup _ :: _, _, _, h, _ => by cases h
  | .loc _ :: _, _, _, h, _ => by cases h
  | .fro _ :: _, _, _, h, _ => by cases h
  | .exo _ _ _ _ :: _, _, _, h, _ => by cases h
def gJoin : PA' := fun ds st => match ds with
  | [.str a, x] => match itemsOf x st with
    | some xs => match strsD xs with
      | some ys => if (ys.map (·.length)).sum + ys.length * a.length ≤ 16777216 then some (.str (Txt.join a ys), st) else none
      | none => none
    | none => none
  | _ => none
theorem ml_join {X : Cx} : MtR X "str.join" (rMM X.K X.mg gJoin) := by
  intro pins s σ H x xs v us Q I rx rv q
  obtain ⟨μ, st, ds, d, st', rs, r, e, q⟩ := q
  unfold gJoin at e
  split at e
  · rename_i a y
    obtain ⟨v1, v2, ev, r1, r2⟩ := vs2 r
    obtain ⟨rfl, rfl⟩ := List.cons.inj ev
    split at e
    · rename_i xs hx
      split at e
      · rename_i ys hy
        split at e
        · rename_i hz
          cases e
          cases r1
          obtain ⟨p, vs, rfl, hq, hv⟩ := items_ok rs r2 hx
          have ev := strsD_vals hy hv
          subst ev
          exact mt_join pins s σ H _ _ v us Q I rx rv ⟨a, p, ys, rfl, rfl, hq.symm, hz, q μ _ H (Ext.refl _ _) rs (.str _)⟩
        · cases e
      · cases e
    · cases e
  · cases e
end DL
set_option Elab.async false
set_option linter.all false
set_option maxRecDepth 100000
/-! DL17: the rules as the printed terms use them -/
namespace DL
open PySem L2
section
variable {X : Cx} {E : WX} {e e2 : Expr} {es : List Expr} {m : ME} {mr : MA} {pos p : Pos}
theorem re_gi {x : Str} {i : Int} (h : ∃ t, X.mg x = some (.int i t)) (hg : Gl X x := by rfl) (hd : (x == ("__debug__" : Str)) = false := by decide) : RE X E (.Name x pos) (eC (.int i)) := let ⟨_, h⟩ := h; re_gint hg h hd
theorem re_gs {x : Str} {i : Str} (h : ∃ t, X.mg x = some (.str i t)) (hg : Gl X x := by rfl) (hd : (x == ("__debug__" : Str)) = false := by decide) : RE X E (.Name x pos) (eC (.str i)) := let ⟨_, h⟩ := h; re_gstr hg h hd
def gNeg : P1 := fun x st => match x with | .int i => some (.int (-i), st) | _ => none
theorem u_neg : UnR X (unaryOp .USub) (r1M X.K X.mg gNeg) := by
  intro pins s σ H x v Q I rx h
  obtain ⟨μ, st, d1, d, st', rs, r1, e, q⟩ := h
  unfold gNeg at e
  split at e
  · cases e
    cases r1
    exact un_neg pins s σ H _ v Q I rx ⟨_, rfl, q μ _ H (Ext.refl _ _) rs (.int _)⟩
  · cases e
theorem re_neg (h : RE X E e m) : RE X E (.UnaryOp .USub e pos) (eUn gNeg m) := re_un u_neg h
theorem re_len (hm : X.mg "len" = none) (ha : RA X E (e :: es) mr) (hg : Gl X "len" := by rfl) (he : starEach (e :: es) X.env = (false, eval e X.env) :: starEach es X.env := by rfl) (hpl : (backTo pos (starEach es X.env)).any (·.1) = false := by rfl) :
    RE X E (.Call (.Name "len" p) (e :: es) [] pos) (eP gLen mr) := re_cb cl_len hg hm boot_len ha (by decide) (by decide) he hpl
theorem re_abs (hm : X.mg "abs" = none) (ha : RA X E (e :: es) mr) (hg : Gl X "abs" := by rfl) (he : starEach (e :: es) X.env = (false, eval e X.env) :: starEach es X.env := by rfl) (hpl : (backTo pos (starEach es X.env)).any (·.1) = false := by rfl) :
    RE X E (.Call (.Name "abs" p) (e :: es) [] pos) (eP gAbs mr) := re_cb cl_abs hg hm PyProof.Rows.boot_abs ha (by decide) (by decide) he hpl
theorem re_toint (hm : X.mg "int" = none) (ha : RA X E (e :: es) mr) (hg : Gl X "int" := by rfl) (he : starEach (e :: es) X.env = (false, eval e X.env) :: starEach es X.env := by rfl) (hpl : (backTo pos (starEach es X.env)).any (·.1) = false := by rfl) :
    RE X E (.Call (.Name "int" p) (e :: es) [] pos) (eP gInt mr) := re_cty cl_int hg hm PyProof.Rows.boot_int ha (by decide) (by decide) he hpl
theorem re_tobin (hm : X.mg "int" = none) (ha : RA X E (e :: es) mr) (hg : Gl X "int" := by rfl) (he : starEach (e :: es) X.env = (false, eval e X.env) :: starEach es X.env := by rfl) (hpl : (backTo pos (starEach es X.env)).any (·.1) = false := by rfl) :
    RE X E (.Call (.Name "int" p) (e :: es) [] pos) (eP gIntB mr) := re_cty cl_intB hg hm PyProof.Rows.boot_int ha (by decide) (by decide) he hpl
theorem re_tolist (hm : X.mg "list" = none) (ha : RA X E (e :: es) mr) (hg : Gl X "list" := by rfl) (he : starEach (e :: es) X.env = (false, eval e X.env) :: starEach es X.env := by rfl) (hpl : (backTo pos (starEach es X.env)).any (·.1) = false := by rfl) :
    RE X E (.Call (.Name "list" p) (e :: es) [] pos) (eP gList mr) := re_cty cl_list hg hm PyProof.Rows.boot_list ha (by decide) (by decide) he hpl
theorem re_totup (hm : X.mg "tuple" = none) (ha : RA X E (e :: es) mr) (hg : Gl X "tuple" := by rfl) (he : starEach (e :: es) X.env = (false, eval e X.env) :: starEach es X.env := by rfl) (hpl : (backTo pos (starEach es X.env)).any (·.1) = false := by rfl) :
    RE X E (.Call (.Name "tuple" p) (e :: es) [] pos) (eP gTuple mr) := re_cty cl_tuple hg hm PyProof.Rows.boot_tuple ha (by decide) (by decide) he hpl
end
def bAddI : P2 := fun x y st => match x, y with | .int i, .int j => some (.int (i + j), st) | _, _ => none
theorem io_addI {X : Cx} : OpR X (inplaceOp .Add) (r2M X.K X.mg bAddI) := o_ints0 iop_add fun x y st d st' h => by
  unfold bAddI at h
  split at h
  · cases h; exact ⟨_, _, rfl, rfl, rfl, rfl⟩
  · cases h
/-! ### a comprehension's block, by a test -/
def blkB (N : List Str) (sc scope : Scope) (own : List (Str × Nat)) : Bool :=
  decide (scope.kind = .function) && (scope.names.all fun y => decide (scope.names.lookup y.1 = some y.2)) && (own.all fun p => decide (N[p.2]? = some p.1)) &&
  (scope.names.all fun y => !decide (y.2 = .free) || decide (sc.names.lookup y.1 = some .cell) || decide (sc.names.lookup y.1 = some .free)) &&
  (scope.names.all fun y => !(decide (y.2 = .local) || decide (y.2 = .cell)) || (own.any fun p => decide (p.1 = y.1)) || !(N.any fun n => decide (n = y.1)))
theorem blk_of {N : List Str} {sc scope : Scope} {own : List (Str × Nat)} (h : blkB N sc scope own = true) : BlkOk N sc scope own := by
  unfold blkB at h
  simp only [Bool.and_eq_true] at h
  obtain ⟨⟨⟨⟨h1, h2⟩, h3⟩, h4⟩, h5⟩ := h
  refine ⟨of_decide_eq_true h1, fun y hy => of_decide_eq_true (List.all_eq_true.mp h2 y hy), fun q hq => of_decide_eq_true (List.all_eq_true.mp h3 q hq), fun y hy hf => ?_, fun y hy hf => ?_⟩
  · have z := List.all_eq_true.mp h4 y hy
    simp only [Bool.or_eq_true, decide_eq_true_eq, Bool.not_eq_true', decide_eq_false_iff_not] at z
    rcases z with (z | z) | z
    · exact absurd hf z
    · exact .inl z
    · exact .inr z
  · have z := List.all_eq_true.mp h5 y hy
    simp only [Bool.or_eq_true, decide_eq_true_eq, Bool.not_eq_true', Bool.or_eq_false_iff, decide_eq_false_iff_not] at z
    rcases z with (z | z) | z
    · rcases hf with hf | hf
      · exact absurd hf z.1
      · exact absurd hf z.2
    · left
      obtain ⟨q, hq, e⟩ := List.any_eq_true.mp z
      exact List.mem_map.mpr ⟨q, hq, of_decide_eq_true e⟩
    · right
      intro hn
      have := List.any_eq_false.mp z y.1 hn
      simp at this
/-! ### a, b = x, y with plain names -/
def sPar (is : List Nat) (as : MA) : MS := fun env st => (as env st).toS env fun ds st1 => if ds.length = is.length then .nx ((is.zip ds).foldl (fun e p => e.set p.1 (some p.2)) env) st1 else .fail
section
variable {X : Cx} {E : WX} {mr : MA} {pos : Pos}
theorem rs_par (i j : Nat) {x y : Str} {a b : Expr} {px py pt : Pos} {kt k2 pt2} (hN : X.N.Nodup) (hc : X.calm = true) (ha : RA X E [a, b] mr) (hi : X.N[i]? = some x := by rfl) (hj : X.N[j]? = some y := by rfl) (hij : i ≠ j := by decide)
    (hx : X.env.scope.names.lookup x = some .local := by rfl) (hy : X.env.scope.names.lookup y = some .local := by rfl)
    (hw : swappedStores [.Tuple [.Name x px, .Name y py] kt pt] (.Tuple [a, b] k2 pt2) X.env = pure (some [x, y]) := by rfl)
    (hs : swapsWithSole [.Tuple [.Name x px, .Name y py] kt pt] (.Tuple [a, b] k2 pt2) pos.line X.env = pure false := by rfl) :
    RSt X E (.Assign [.Tuple [.Name x px, .Name y py] kt pt] (.Tuple [a, b] k2 pt2) pos) (sPar [i, j] mr) := ⟨PS.imp (ps_par hc hN hi hj hij hx hy ha.pa hw hs) fun Dd σ H h => by
  obtain ⟨μ, env, st, rs, re, p⟩ := h
  refine tS_at rs re p fun μ1 st1 H1 ds vs ex rs re rv p => ?_
  by_cases hl : ds.length = [i, j].length
  · rw [if_pos hl] at p
    match ds, hl, rv, p with
    | [d1, d2], _, .cons r1 (.cons r2 .nil), p => exact ⟨_, _, rfl, p μ1 _ H1 (Ext.refl _ _) rs ((re.set r1 i).set r2 j)⟩
  · rw [if_neg hl] at p; exact p.elim⟩
theorem rs_par3 (i j l : Nat) {x y z : Str} {a b c : Expr} {px py pz pt : Pos} {kt k2 pt2} (hN : X.N.Nodup) (hc : X.calm = true) (ha : RA X E [a, b, c] mr) (hi : X.N[i]? = some x := by rfl) (hj : X.N[j]? = some y := by rfl) (hl : X.N[l]? = some z := by rfl) (hij : i ≠ j := by decide) (hil : i ≠ l := by decide) (hjl : j ≠ l := by decide)
    (hx : X.env.scope.names.lookup x = some .local := by rfl) (hy : X.env.scope.names.lookup y = some .local := by rfl) (hz : X.env.scope.names.lookup z = some .local := by rfl)
    (hw : swappedStores [.Tuple [.Name x px, .Name y py, .Name z pz] kt pt] (.Tuple [a, b, c] k2 pt2) X.env = pure (some [x, y, z]) := by rfl)
    (hs : swapsWithSole [.Tuple [.Name x px, .Name y py, .Name z pz] kt pt] (.Tuple [a, b, c] k2 pt2) pos.line X.env = pure false := by rfl) :
    RSt X E (.Assign [.Tuple [.Name x px, .Name y py, .Name z pz] kt pt] (.Tuple [a, b, c] k2 pt2) pos) (sPar [i, j, l] mr) := ⟨PS.imp (ps_par3 hc hN hi hj hl hij hil hjl hx hy hz ha.pa hw hs) fun Dd σ H h => by
  obtain ⟨μ, env, st, rs, re, p⟩ := h
  refine tS_at rs re p fun μ1 st1 H1 ds vs ex rs re rv p => ?_
  by_cases hl : ds.length = [i, j, l].length
  · rw [if_pos hl] at p
    match ds, hl, rv, p with
    | [d1, d2, d3], _, .cons r1 (.cons r2 (.cons r3 .nil)), p => exact ⟨_, _, _, rfl, p μ1 _ H1 (Ext.refl _ _) rs (((re.set r1 i).set r2 j).set r3 l)⟩
  · rw [if_neg hl] at p; exact p.elim⟩
end
/-! ### own errors -/
structure XCk (P : Program) (w : World) (K : PySem.W.Frag) (mg : MG) (cn : Str) (fs : List Str) : Prop where
  ex : ∃ C fI, XCls K mg cn C ∧ PySem.W.findIn K (.ref C) "__init__" = some (some (.ref fI)) ∧ PySem.W.typeIn K (.ref fI) = some (.type "function") ∧ IniOk P w K mg C fI fs.length (fsM fs)
theorem XCk.xc {X : Cx} {cn : Str} {fs : List Str} (h : XCk X.prog X.w X.K X.mg cn fs) : XC X cn fs := ⟨h.ex⟩
theorem XCk.at_ {P : Program} {w : World} {K : PySem.W.Frag} {mg : MG} {cn : Str} {fs : List Str} (h : XCk P w K mg cn fs) : ∃ C, mg cn = some (.ref C) := let ⟨C, _, T, _⟩ := h.ex; ⟨C, T.gC⟩
/-- a def, from what stands of it -/
structure FnT (K : PySem.W.Frag) (mg : MG) (x : Str) (st : Stmt) (ps : List Str) : Prop where
  ex : ∃ (f : Addr) (fd : FuncData), Fun K x x st f fd ∧ mg x = some (.ref f) ∧ Binds K fd ps []
theorem FnT.cd {P : Program} {w : World} {K : PySem.W.Frag} {mg : MG} {base : Heap} {x : Str} {st : Stmt} {ps N : List Str} {k np nN : Nat} {b : MS} (T : FnT K mg x st ps) (S : FnScope N ps (defScope st)) (hp : ps.length = np) (hn : N.length = nN)
    (hb : ∀ (f : Addr) (cdv : Value) (A : Around) (outer : List Env) (s : Shared) (H : Hp) (E : XK), Room k (A.deeper (PyProof.Rows.envOfC x (defScope st) s.heap.objs.size f cdv)) →
      RSs (cxOf (L2.CX P w) P w K mg base N x (defScope st) f cdv A outer s H E) (wx E) (defBody st) b) : Cd P w K mg base (k + 1) x np (runF np nN b) := by
  obtain ⟨f, fd, F, hm, hB⟩ := T.ex
  exact ⟨f, fd, ps, hp, fn_ok F S hp hn (hb f), hm, F.kp, hB⟩
theorem fnt_mk {K : PySem.W.Frag} {h : Heap} {mg : MG} {x : Str} {st : Stmt} {ps : List Str} {f : Addr} {oc : Value} {od an : Option Addr} {osl : Array (Option Value)} {kV doc pm cdv ct : Value} (X : K.In h) (G : h.Ns mainGlobals mg) (a : PySem.W.nsIn K mainGlobals x = some (some (.ref f)))
    (l : K.lookup f = some ⟨oc, od, .func (PySem.W.fnOf x x (defArgs st) (defBody st) (defScope st) .none kV doc pm an cdv ct), osl⟩) (c : PySem.W.codeIn K cdv x = true) (k : PySem.W.keepIn K (.ref f) = true)
    (hb : ∀ (kV doc pm : Value) (an : Option Addr) (cdv ct : Value) (us : List Value), us.length = ps.length → bindArgs (PySem.W.fnOf x x (defArgs st) (defBody st) (defScope st) .none kV doc pm an cdv ct) ⟨us, []⟩ = pure (ps.zip us)) : FnT K mg x st ps :=
  have F := fun_mk l c k
  ⟨f, _, F, PySem.W.mg_of X G a, F.binds hb⟩
/-- a def in a class -/
def inCls : Stmt → Nat → Stmt
  | .ClassDef _ _ _ body _ _ _ _ _ _ _, i => body.getD i (.Pass ⟨0, 0, 0, 0⟩)
  | s, _ => s
/-! ### the end -/
theorem fro_of {K : PySem.W.Frag} {H : Hp} {a : Addr} {xs : List V} (hO : Only H) (h : SqL K H a xs) : FroL K H a xs := by
  rcases h with (h | h) | h
  · rcases hO a with z | ⟨o, ys, z⟩
    · rw [h] at z; cases z
    · rw [h] at z; cases z
  · exact .inl h
  · exact .inr h
theorem walk_dl {l : PySem.W.OpenLaw} {k : Nat} {q : Program} {loose : List Str} {XP : (Str → Option Value) → Heap → Prop} {YP : World → Heap → Prop} {d : DefRec} {K : Params → PySem.W.Frag} {g : MF} (hn : l.most = some 63) (hdf : d.params.defaults = []) (hr : Room k callerA) (hY : ∀ (w : World) (h : Heap), YP w h → (K w.params).In h)
    (F : ∀ (w : World) (mg : Str → Option Value) (fa : Addr) (h : Heap), (K w.params).In h → h.Ns mainGlobals mg → mg d.name = some (.ref fa) →
      ∃ fd : FuncData, (∀ (s : Shared) (u : Value), BindsTo s fd ⟨[u], []⟩ [("script", u)]) ∧ ∀ base : Heap, (K w.params).In base → base.Ns mainGlobals mg → FnOk l.prog w (K w.params) mg base (L2.CX l.prog w) k fa fd ["script"] (spM (K w.params) mg g))
    (hg : ∀ ns : List Int, ns.length ≤ 63 → (∀ z ∈ ns, Builtin.Int.intBits z ≤ 1048576) → ∃ st', g [.fro ns] [] = .ok (.bl true) st') :
    PySem.W.WalkO q loose XP YP l.row.toRowW d [] (fun f vs => PySem.call f vs) := by
  refine L2.walk_ofB (n := 63) (k := k) (x := "script") (CX := fun w => L2.CX l.prog w) (sp := fun w vs H Q E => ∃ (a : Addr) (ns : List Int), vs = [.ref a] ∧ ns.length ≤ 63 ∧ (∀ z ∈ ns, Builtin.Int.intBits z ≤ 1048576) ∧ FroL (K w.params) H a (ns.map V.int) ∧ ∀ H', Q (.bl true) H') hn (by decide) hdf hr hY (fun w mg fa h KX G hmg => ?_) (fun w H a ns hl hb hO hS => ⟨a, ns, rfl, hl, hb, fro_of hO hS, fun _ => rfl⟩) (fun w H s e s' z => ?_)
  · obtain ⟨fd, h1, h2⟩ := F w mg fa h KX G hmg
    refine ⟨fd, h1, fun base kb gb => (h2 base kb gb).imp fun vs H Q E hh => ?_⟩
    obtain ⟨a, ns, rfl, hl, hb, hf, k⟩ := hh
    obtain ⟨st', eg⟩ := hg ns hl hb
    refine ⟨[], [.fro ns], [], ⟨rfl, List.nodup_nil, fun n c b hc hb => by simp at hc⟩, .cons (.fro hf) .nil, ?_⟩
    rw [eg]
    intro μ' v H' ex rs r
    cases r
    exact k H'
  · obtain ⟨_, _, _, _, _, _, _, _, _, _, _, _, zz⟩ := z
    exact zz
end DL
set_option Elab.async false
set_option linter.all false
set_option maxRecDepth 100000
/-! DL18: the functions evaluated -/
namespace DL
open PySem L2
section
variable (env : Ev) (st : S)
@[simp] theorem ev_V (i : Nat) : eV i env st = match env[i]? with | some (some d) => .ok d st | _ => .fail := rfl
@[simp] theorem ev_C (d : D) : eC d env st = .ok d st := rfl
@[simp] theorem ev_Bin (g : P2) (a b : ME) : eBin g a b env st = (a env st).bind fun x st1 => (b env st1).bind fun y st2 => ofO (g x y st2) := rfl
@[simp] theorem ev_Un (g : P1) (a : ME) : eUn g a env st = (a env st).bind fun x st1 => ofO (g x st1) := rfl
@[simp] theorem ev_aNil : aNil env st = .ok [] st := rfl
@[simp] theorem ev_aCons (a : ME) (r : MA) : aCons a r env st = (a env st).bind fun x st1 => (r env st1).bind fun ys st2 => .ok (x :: ys) st2 := rfl
@[simp] theorem ev_aStar (a : ME) (r : MA) : aStar a r env st = (a env st).bind fun x st1 => match itemsOf x st1 with | some xs => (r env st1).bind fun ys st2 => .ok (xs ++ ys) st2 | none => .fail := rfl
@[simp] theorem ev_Tup (as : MA) : eTup as env st = (as env st).bind fun ds st1 => if ds.length ≤ sizeLine then .ok (.tup ds) st1 else .fail := rfl
@[simp] theorem ev_Lst (as : MA) : eLst as env st = (as env st).bind fun ds st1 => if ds.length ≤ sizeLine then .ok (.loc st1.length) (st1 ++ [.lst ds]) else .fail := rfl
@[simp] theorem ev_P (g : PA') (as : MA) : eP g as env st = (as env st).bind fun ds st1 => ofO (g ds st1) := rfl
@[simp] theorem ev_M (T : String) (g : PA') (o : ME) (as : MA) : eM T g o as env st = (o env st).bind fun x st1 => if tyD st1 x = some T then (as env st1).bind fun ds st2 => ofO (g (x :: ds) st2) else .fail := rfl
@[simp] theorem ev_F (f : MF) (as : MA) : eF f as env st = (as env st).bind fun ds st1 => f ds st1 := rfl
@[simp] theorem ev_oN : oNone env st = .ok none st := rfl
@[simp] theorem ev_oS (a : ME) : oSome a env st = (a env st).bind fun x st1 => onI x fun i => .ok (some i) st1 := rfl
@[simp] theorem ev_Sl (g : D → Option Int → Option Int → S → Option (D × S)) (a : ME) (lo hi : MO) : eSl g a lo hi env st = (a env st).bind fun x st1 => (lo env st1).bind fun l st2 => (hi env st2).bind fun u st3 => ofO (g x l u st3) := rfl
@[simp] theorem ev_If (t : MT) (a b : ME) : eIf t a b env st = (t env st).bind fun c st1 => if c = true then a env st1 else b env st1 := rfl
@[simp] theorem ev_tV (a : ME) : tV a env st = (a env st).bind fun x st1 => onB x fun b => .ok b st1 := rfl
@[simp] theorem ev_tTru (a : ME) : tTru a env st = (a env st).bind fun x st1 => match truD x st1 with | some b => .ok b st1 | none => .fail := rfl
@[simp] theorem ev_tAnd (a b : MT) : tAnd a b env st = (a env st).bind fun c st1 => if c = true then b env st1 else .ok false st1 := rfl
@[simp] theorem ev_tOr (a b : MT) : tOr a b env st = (a env st).bind fun c st1 => if c = true then .ok true st1 else b env st1 := rfl
@[simp] theorem ev_tNot (a : MT) : tNot a env st = (a env st).bind fun c st1 => .ok (!c) st1 := rfl
@[simp] theorem ev_And (a b : ME) : eAnd a b env st = (a env st).bind fun x st1 => onB x fun k => if k = true then b env st1 else .ok (.bl false) st1 := rfl
@[simp] theorem ev_Or (a b : ME) : eOr a b env st = (a env st).bind fun x st1 => onB x fun k => if k = true then .ok (.bl true) st1 else b env st1 := rfl
@[simp] theorem ev_Not (a : ME) : eNot a env st = (a env st).bind fun x st1 => onB x fun b => .ok (.bl (!b)) st1 := rfl
@[simp] theorem ev_sNil : sNil env st = .nx env st := rfl
@[simp] theorem ev_sSeq (a b : MS) : sSeq a b env st = match a env st with | .nx env' st' => b env' st' | r => r := rfl
@[simp] theorem ev_sExpr (m : ME) : sExpr m env st = (m env st).toS env fun _ st1 => .nx env st1 := rfl
@[simp] theorem ev_sRet (m : ME) : sRet m env st = (m env st).toS env fun d st1 => .ret d st1 := rfl
@[simp] theorem ev_sRetN : sRetN env st = .ret .non st := rfl
@[simp] theorem ev_sBrk : sBrk env st = .brk env st := rfl
@[simp] theorem ev_sCnt : sCnt env st = .cnt env st := rfl
@[simp] theorem ev_sIf (t : MT) (a b : MS) : sIf t a b env st = (t env st).toS env fun c st1 => if c = true then a env st1 else b env st1 := rfl
@[simp] theorem ev_sSet (i : Nat) (m : ME) : sSet i m env st = (m env st).toS env fun d st1 => .nx (env.set i (some d)) st1 := rfl
@[simp] theorem ev_sAug (i : Nat) (g : P2) (m : ME) : sAug i g m env st = match env[i]? with
  | some (some x) => (m env st).toS env fun y st1 => match g x y st1 with | some (d, st2) => .nx (env.set i (some d)) st2 | none => .fail
  | _ => .fail := rfl
@[simp] theorem ev_gN (i : Nat) (d : D) : gN i d env st = some (env.set i (some d), st) := rfl
@[simp] theorem ev_gN0n : gN0 [] env st = some (env, st) := rfl
@[simp] theorem ev_gCc (g : MTg) (r : MTgs) (d : D) (ds : List D) : gC g r (d :: ds) env st = (g d env st).bind fun q => r ds q.1 q.2 := rfl
@[simp] theorem ev_gT (n : Nat) (g : MTgs) (xs : List D) : gT n g (.tup xs) env st = if xs.length = n then g xs env st else none := rfl
@[simp] theorem ev_gSubL (o i : ME) (d : D) : gSubL o i d env st = (o env st).get?.bind fun x => (i env x.2).get?.bind fun y => (gSet x.1 y.1 d y.2).map fun st3 => (env, st3) := rfl
@[simp] theorem ev_sAsg (m : ME) (g : MTg) : sAsg m g env st = (m env st).toS env fun d st1 => match g d env st1 with | some q => .nx q.1 q.2 | none => .fail := rfl
@[simp] theorem ev_sAugS (o i e : ME) (g : P2) : sAugS o i e g env st = (o env st).toS env fun x st1 => (i env st1).toS env fun y st2 => match gIxL x y st2 with
  | some (old, st3) => (e env st3).toS env fun z st4 => match g old z st4 with
    | some (new, st5) => match gSet x y new st5 with | some st6 => .nx env st6 | none => .fail
    | none => .fail
  | none => .fail := rfl
@[simp] theorem ev_sPar (is : List Nat) (as : MA) : sPar is as env st = (as env st).toS env fun ds st1 => if ds.length = is.length then .nx ((is.zip ds).foldl (fun e p => e.set p.1 (some p.2)) env) st1 else .fail := rfl
@[simp] theorem ev_sRaise (cn : Str) (fs : List Str) (as : MA) : sRaise cn fs as env st = (as env st).toS env fun ds st1 => if ds.length = fs.length then .exc ⟨cn, fs.zip ds⟩ env st1 else .fail := rfl
@[simp] theorem ev_sFor (it : MI) (g : MTg) (b : MS) : sFor it g b env st = (it env st).toS env fun q st1 => forL q.2 g b q.1 env st1 := rfl
@[simp] theorem ev_iSeq (m : ME) : iSeq m env st = (m env st).bind fun x st1 => match x with
  | .tup xs => .ok ((xs, fun _ => True) : List D × (S → Prop)) st1
  | .str z => .ok (signsOf z, fun _ => True) st1
  | .loc n => match st1[n]? with | some (.lst xs) => .ok (xs, fun s => s[n]? = some (.lst xs)) st1 | _ => .fail
  | _ => .fail := rfl
@[simp] theorem ev_iR1 (m : ME) : iR1 m env st = (m env st).bind fun x st1 => onI x fun j => if -(2 ^ 62) ≤ j ∧ j < 2 ^ 62 then .ok ((rngD 0 j, fun _ => True) : List D × (S → Prop)) st1 else .fail := rfl
@[simp] theorem ev_sTryAs (i : Nat) (mt : Str → Option Bool) (b : MS) (su : Addr → Option Addr → Str → MS) : sTryAs i mt b su env st = (b env st).catch fun x env' st' => match mt x.cls with
    | some true => asX i su x env' st'
    | some false => .exc x env' st'
    | none => .fail := rfl
@[simp] theorem ev_sTryOn (mt : Str → Option Bool) (b su : MS) : sTryOn mt b su env st = (b env st).catch fun x env' st' => match mt x.cls with
    | some true => noX (su env' st')
    | some false => .exc x env' st'
    | none => .fail := rfl
end
/-! ### prims at numbers -/
section
variable (st : S) (i j : Int)
@[simp] theorem pv_add : bAdd (.int i) (.int j) st = some (.int (i + j), st) := rfl
@[simp] theorem pv_addI : bAddI (.int i) (.int j) st = some (.int (i + j), st) := rfl
@[simp] theorem pv_sub : bSub (.int i) (.int j) st = some (.int (i - j), st) := rfl
@[simp] theorem pv_and : bAnd (.int i) (.int j) st = some (.int (Builtin.bitAnd i j), st) := rfl
@[simp] theorem pv_int (p : Int → Int → Bool) : cInt p (.int i) (.int j) st = some (.bl (p i j), st) := rfl
@[simp] theorem pv_neg : gNeg (.int i) st = some (.int (-i), st) := rfl
@[simp] theorem pv_abs : gAbs [.int i] st = some (.int (if i < 0 then -i else i), st) := rfl
@[simp] theorem pv_toint : gInt [.int i] st = some (.int i, st) := rfl
theorem pv_mod {i j : Int} (h : 0 < j) : bMod (.int i) (.int j) st = some (.int (i % j), st) := if_pos h
theorem pv_fdiv {i j : Int} (h : CDivW i j) : bFdiv (.int i) (.int j) st = some (.int (i / j), st) := if_pos h
theorem pv_mul {i j : Int} (h : CMul i j ∨ CMulW i j) : bMul (.int i) (.int j) st = some (.int (i * j), st) := if_pos h
theorem pv_shr {i j : Int} (h : 0 ≤ j) : bShr (.int i) (.int j) st = some (.int (i / 2 ^ j.toNat), st) := if_pos h
theorem pv_pow {i j : Int} (h : CPow i j) : bPow (.int i) (.int j) st = some (.int (i ^ j.toNat), st) := if_pos h
@[simp] theorem pv_lenT (xs : List D) : gLen [.tup xs] st = some (.int xs.length, st) := rfl
theorem pv_lenL {n : Nat} {xs : List D} (h : st[n]? = some (.lst xs)) : gLen [.loc n] st = some (.int xs.length, st) := by
  simp [gLen, itemsOf, h]
@[simp] theorem pv_itT (xs : List D) : itemsOf (.tup xs) st = some xs := rfl
theorem pv_itL {n : Nat} {xs : List D} (h : st[n]? = some (.lst xs)) : itemsOf (.loc n) st = some xs := by simp [itemsOf, h]
@[simp] theorem pv_tup (xs : List D) : gTuple [.tup xs] st = some (.tup xs, st) := rfl
theorem pv_tupL {n : Nat} {xs : List D} (h : st[n]? = some (.lst xs)) : gTuple [.loc n] st = some (.tup xs, st) := by simp [gTuple, itemsOf, h]
theorem pv_app {n : Nat} {xs : List D} {d : D} (h : st[n]? = some (.lst xs)) (hz : xs.length < sizeLine) : gAppend [.loc n, d] st = some (.non, st.set n (.lst (xs ++ [d]))) := by simp [gAppend, h, hz]
theorem pv_set {n j : Nat} {xs : List D} {k : Int} {d : D} (h : st[n]? = some (.lst xs)) (hj : ixN xs.length k = some j) : gSet (.loc n) (.int k) d st = some (st.set n (.lst (xs.set j d))) := by simp [gSet, h, hj]
theorem tyL {n : Nat} {xs : List D} (h : st[n]? = some (.lst xs)) : tyD st (.loc n) = some "list" := by simp [tyD, h]
end
theorem atI_nat {α : Type} {xs : List α} {k : Nat} {d : α} (h : xs[k]? = some d) : atI xs (k : Int) = some d := by
  have hk := (List.getElem?_eq_some_iff.mp h).1
  unfold atI ixN
  rw [if_pos (by omega), if_pos (by omega)]
  simpa using h
theorem pv_ixT {st : S} {xs : List D} {i : Int} {d : D} (h : atI xs i = some d) : gIx (.tup xs) (.int i) st = some (d, st) := by
  simp [gIx, itemsOf, h]
theorem pv_ixL {st : S} {n : Nat} {xs : List D} {i : Int} {d : D} (hn : st[n]? = some (.lst xs)) (h : atI xs i = some d) : gIx (.loc n) (.int i) st = some (d, st) := by
  simp [gIx, itemsOf, hn, h]
theorem runF_at {np nN : Nat} {b : MS} {ds : List D} {st : S} {r : RS} (hl : ds.length = np) (h : b (ent nN ds) st = r) : runF np nN b ds st = trim st (ofRS r) := by
  unfold runF
  rw [if_pos hl, h]
/-! ### loops -/
open Classical in
theorem for_inv {gd : S → Prop} {g : MTg} {b : MS} (Inv : Nat → Ev → S → Prop) {ds : List D} {env : Ev} {st : S} (h0 : Inv 0 env st)
    (step : ∀ i env st d, ds[i]? = some d → Inv i env st → ∃ env1 st1 env' st', g d env st = some (env1, st1) ∧ (b env1 st1 = .nx env' st' ∨ b env1 st1 = .cnt env' st') ∧ gd st' ∧ Inv (i + 1) env' st') :
    ∃ env' st', forL gd g b ds env st = .nx env' st' ∧ Inv ds.length env' st' := by
  suffices H : ∀ (l : List D) (k : Nat) (env : Ev) (st : S), (∀ j, l[j]? = ds[k + j]?) → Inv k env st → ∃ env' st', forL gd g b l env st = .nx env' st' ∧ Inv (k + l.length) env' st' by
    obtain ⟨env', st', h1, h2⟩ := H ds 0 env st (fun j => by rw [Nat.zero_add]) h0
    exact ⟨env', st', h1, by simpa using h2⟩
  intro l
  induction l with
  | nil => intro k env st _ h; exact ⟨env, st, rfl, h⟩
  | cons d l ih =>
    intro k env st hl h
    obtain ⟨env1, st1, env', st', e1, e2, e3, e4⟩ := step k env st d (by have := hl 0; simpa using this.symm) h
    obtain ⟨env2, st2, q1, q2⟩ := ih (k + 1) env' st' (fun j => by have := hl (j + 1); rw [List.getElem?_cons_succ] at this; rw [this]; congr 1; omega) e4
    refine ⟨env2, st2, ?_, by rw [List.length_cons, Nat.add_comm l.length, ← Nat.add_assoc]; exact q2⟩
    show (match g d env st with | none => RS.fail | some q => _) = _
    rw [e1]
    show (match b env1 st1 with | .nx env' st' => if gd st' then forL gd g b l env' st' else .fail | .cnt env' st' => if gd st' then forL gd g b l env' st' else .fail | .brk env' st' => .nx env' st' | r => r) = _
    rcases e2 with e2 | e2
    · rw [e2]; exact (if_pos e3).trans q1
    · rw [e2]; exact (if_pos e3).trans q1
open Classical in
theorem lc_inv {gd : S → Prop} {g : MTg} {t : MT} {e : ME} {env : Ev} (Inv : Nat → List D → S → Prop) {ds : List D} {st : S} (h0 : Inv 0 [] st)
    (step : ∀ i acc st d, ds[i]? = some d → Inv i acc st → ∃ env1 st1, g d env st = some (env1, st1) ∧ ∃ c st2, t env1 st1 = .ok c st2 ∧ (if c = true then ∃ y st', e env1 st2 = .ok y st' ∧ gd st' ∧ Inv (i + 1) (acc ++ [y]) st' else gd st2 ∧ Inv (i + 1) acc st2)) :
    ∃ zs st', lcL gd g t e env ds st = some (zs, st') ∧ Inv ds.length zs st' := by
  suffices H : ∀ (l : List D) (k : Nat) (acc : List D) (st : S), (∀ j, l[j]? = ds[k + j]?) → Inv k acc st → ∃ zs st', lcL gd g t e env l st = some (zs, st') ∧ Inv (k + l.length) (acc ++ zs) st' by
    obtain ⟨zs, st', h1, h2⟩ := H ds 0 [] st (fun j => by rw [Nat.zero_add]) h0
    exact ⟨zs, st', h1, by simpa using h2⟩
  intro l
  induction l with
  | nil => intro k acc st _ h; exact ⟨[], st, rfl, by simpa using h⟩
  | cons d l ih =>
    intro k acc st hl h
    obtain ⟨env1, st1, e1, c, st2, e2, e3⟩ := step k acc st d (by have := hl 0; simpa using this.symm) h
    have nxt : ∀ j, l[j]? = ds[k + 1 + j]? := fun j => by have := hl (j + 1); rw [List.getElem?_cons_succ] at this; rw [this]; congr 1; omega
    have un : lcL gd g t e env (d :: l) st = if c = true then (e env1 st2).get?.bind fun y => if gd y.2 then (lcL gd g t e env l y.2).map fun z => (y.1 :: z.1, z.2) else none else if gd st2 then lcL gd g t e env l st2 else none := by
      show ((g d env st).bind fun q => (t q.1 q.2).get?.bind fun c => _) = _
      rw [e1]
      show (t env1 st1).get?.bind _ = _
      rw [e2]
      rfl
    rw [un]
    cases c with
    | true =>
      rw [if_pos rfl] at e3
      obtain ⟨y, st', f1, f2, f3⟩ := e3
      obtain ⟨zs, st3, q1, q2⟩ := ih (k + 1) (acc ++ [y]) st' nxt f3
      refine ⟨y :: zs, st3, ?_, by rw [List.length_cons, Nat.add_comm l.length, ← Nat.add_assoc]; simpa using q2⟩
      rw [if_pos rfl, f1]
      show (if gd st' then (lcL gd g t e env l st').map fun z => (y :: z.1, z.2) else none) = _
      rw [q1]
      exact if_pos f2
    | false =>
      rw [if_neg Bool.false_ne_true] at e3
      obtain ⟨f2, f3⟩ := e3
      obtain ⟨zs, st3, q1, q2⟩ := ih (k + 1) acc st2 nxt f3
      refine ⟨zs, st3, ?_, by rw [List.length_cons, Nat.add_comm l.length, ← Nat.add_assoc]; exact q2⟩
      rw [if_neg Bool.false_ne_true]
      exact (if_pos f2).trans q1
theorem ev_lc {it : MI} {vs : List Nat} {g : MTg} {t : MT} {e : ME} {env : Ev} {st st1 st2 : S} {ds zs : List D} {gd : S → Prop} (h1 : it env st = .ok (ds, gd) st1) (h2 : lcL gd g t e (wipeE env vs) ds st1 = some (zs, st2)) (hz : zs.length ≤ sizeLine) :
    eLc it vs g t e env st = .ok (.loc st2.length) (st2 ++ [.lst zs]) := by
  show ((it env st).bind fun q st1 => match lcL q.2 g t e (wipeE env vs) q.1 st1 with
  | some z => if z.1.length ≤ sizeLine then R.ok (D.loc z.2.length) (z.2 ++ [.lst z.1]) else .fail
  | none => .fail) = _
  rw [h1]
  show (match lcL gd g t e (wipeE env vs) ds st1 with | some z => _ | none => _) = _
  rw [h2]
  exact if_pos hz
theorem wh_go {c : MT} {b : MS} {env env' : Ev} {st st1 st' : S} (h1 : c env st = .ok true st1) (h2 : b env st1 = .nx env' st' ∨ b env st1 = .cnt env' st') : sWhile c b env st = sWhile c b env' st' := by
  rw [sWhile_eq c b env st]
  show (c env st).toS env _ = _
  rw [h1]
  show (if true = true then (match b env st1 with | .nx env' st' => sWhile c b env' st' | .cnt env' st' => sWhile c b env' st' | .brk env' st' => .nx env' st' | r => r) else RS.nx env st1) = _
  rw [if_pos rfl]
  rcases h2 with h2 | h2 <;> rw [h2]
theorem wh_end {c : MT} {b : MS} {env : Ev} {st st1 : S} (h1 : c env st = .ok false st1) : sWhile c b env st = .nx env st1 := by
  rw [sWhile_eq c b env st]
  show (c env st).toS env _ = _
  rw [h1]
  rfl
theorem wh_out {c : MT} {b : MS} {env : Ev} {st st1 : S} {r : RS} (h1 : c env st = .ok true st1) (h2 : b env st1 = r) (h3 : (∃ d s, r = .ret d s) ∨ ∃ x e s, r = .exc x e s) : sWhile c b env st = r := by
  rw [sWhile_eq c b env st]
  show (c env st).toS env _ = _
  rw [h1]
  show (if true = true then (match b env st1 with | .nx env' st' => sWhile c b env' st' | .cnt env' st' => sWhile c b env' st' | .brk env' st' => .nx env' st' | r => r) else RS.nx env st1) = _
  rw [if_pos rfl, h2]
  rcases h3 with ⟨d, s, rfl⟩ | ⟨x, e, s, rfl⟩ <;> rfl
theorem rngD_get {n : Nat} {i : Nat} {d : D} (h : (rngD 0 (n : Int))[i]? = some d) : i < n ∧ d = .int i := by
  unfold rngD at h
  rw [List.getElem?_map] at h
  by_cases hi : i < n
  · rw [List.getElem?_range (by omega)] at h
    simp at h
    exact ⟨hi, h.symm⟩
  · rw [List.getElem?_eq_none (by simp; omega)] at h
    cases h
theorem rngD_len (n : Nat) : (rngD 0 (n : Int)).length = n := by unfold rngD; simp
end DL
set_option Elab.async false
set_option linter.all false
set_option maxRecDepth 100000
/-! DL19: == and != at plain data -/
namespace DL
open PySem L2
open Classical in
theorem forL_nx {gd : S → Prop} {g : MTg} {b : MS} {d : D} {ds : List D} {env e1 e' : Ev} {st s1 s' : S} (h : g d env st = some (e1, s1)) (hb : b e1 s1 = .nx e' s' ∨ b e1 s1 = .cnt e' s') (hg : gd s') : forL gd g b (d :: ds) env st = forL gd g b ds e' s' := by
  show (match g d env st with | none => RS.fail | some q => match b q.1 q.2 with | .nx env' st' => if gd st' then forL gd g b ds env' st' else .fail | .cnt env' st' => if gd st' then forL gd g b ds env' st' else .fail | .brk env' st' => .nx env' st' | r => r) = _
  rw [h]
  dsimp only
  rcases hb with hb | hb
  · rw [hb]; exact if_pos hg
  · rw [hb]; exact if_pos hg
open Classical in
theorem forL_brk {gd : S → Prop} {g : MTg} {b : MS} {d : D} {ds : List D} {env e1 e' : Ev} {st s1 s' : S} (h : g d env st = some (e1, s1)) (hb : b e1 s1 = .brk e' s') : forL gd g b (d :: ds) env st = .nx e' s' := by
  show (match g d env st with | none => RS.fail | some q => match b q.1 q.2 with | .nx env' st' => if gd st' then forL gd g b ds env' st' else .fail | .cnt env' st' => if gd st' then forL gd g b ds env' st' else .fail | .brk env' st' => .nx env' st' | r => r) = _
  rw [h]
  dsimp only
  rw [hb]
open Classical in
theorem forL_ret {gd : S → Prop} {g : MTg} {b : MS} {d r : D} {ds : List D} {env e1 : Ev} {st s1 s' : S} (h : g d env st = some (e1, s1)) (hb : b e1 s1 = .ret r s') : forL gd g b (d :: ds) env st = .ret r s' := by
  show (match g d env st with | none => RS.fail | some q => match b q.1 q.2 with | .nx env' st' => if gd st' then forL gd g b ds env' st' else .fail | .cnt env' st' => if gd st' then forL gd g b ds env' st' else .fail | .brk env' st' => .nx env' st' | r => r) = _
  rw [h]
  dsimp only
  rw [hb]
abbrev nD (k : Nat) : D := .int (k : Int)
/-- flat data: its word as data -/
def flatP : D → Option PyData
  | .non => some .none
  | .bl b => some (.bool b)
  | .int i => some (.int i)
  | .str x => if PyData.strOk x = true then some (.str x) else none
  | _ => none
theorem dat_flat {st : S} {d : D} {p : PyData} (h : flatP d = some p) : dat st d = some p ∧ p.canLay0 = true ∧ p.depth = 0 ∧ ∀ k, res st (k + 1) d = some p := by
  cases d with
  | non => cases h; exact ⟨rfl, rfl, rfl, fun _ => rfl⟩
  | bl b => cases h; exact ⟨rfl, rfl, rfl, fun _ => rfl⟩
  | int i => cases h; exact ⟨rfl, rfl, rfl, fun _ => rfl⟩
  | str x =>
    have h : (if PyData.strOk x = true then some (PyData.str x) else none) = some p := h
    by_cases hx : PyData.strOk x = true
    · rw [if_pos hx] at h
      cases h
      refine ⟨?_, by simpa [PyData.canLay0] using hx, rfl, fun _ => rfl⟩
      unfold dat
      have e : res st 66 (.str x) = some (.str x) := rfl
      rw [e]
      have s : SeqAt.shaped (.str x) = true := by
        unfold SeqAt.shaped
        simp [PyData.canLay0, PyData.depth, hx]
      exact if_pos s
    · rw [if_neg hx] at h; cases h
  | tup _ => cases h
  | loc _ => cases h
  | fro _ => cases h
  | exo _ _ _ _ => cases h
theorem cEq_flat {st : S} {x y : D} {p q : PyData} (h1 : flatP x = some p) (h2 : flatP y = some q) : cEq x y st = some (.bl (PyData.eqv p q), st) := by
  unfold cEq
  rw [(dat_flat h1).1, (dat_flat h2).1]
theorem cNe_flat {st : S} {x y : D} {p q : PyData} (h1 : flatP x = some p) (h2 : flatP y = some q) : cNe x y st = some (.bl (!PyData.eqv p q), st) := by
  unfold cNe
  rw [(dat_flat h1).1, (dat_flat h2).1]
@[simp] theorem cEq_int (st : S) (i j : Int) : cEq (.int i) (.int j) st = some (.bl (decide (i = j)), st) := by
  rw [cEq_flat rfl rfl]
  simp only [PyData.eqv]
  rfl
@[simp] theorem cNe_int (st : S) (i j : Int) : cNe (.int i) (.int j) st = some (.bl (!decide (i = j)), st) := by
  rw [cNe_flat rfl rfl]
  simp only [PyData.eqv]
  rfl
@[simp] theorem cEq_bl (st : S) (i j : Bool) : cEq (.bl i) (.bl j) st = some (.bl (i == j), st) := by
  rw [cEq_flat rfl rfl]
  simp only [PyData.eqv]
@[simp] theorem cNe_bl (st : S) (i j : Bool) : cNe (.bl i) (.bl j) st = some (.bl (!(i == j)), st) := by
  rw [cNe_flat rfl rfl]
  simp only [PyData.eqv]
theorem eqvAll_nat : ∀ l m : List Nat, PyData.eqvAll (l.map fun (k : Nat) => PyData.int (k : Int)) (m.map fun (k : Nat) => PyData.int (k : Int)) = decide (l = m)
  | [], [] => by simp [PyData.eqvAll]
  | [], _ :: _ => by simp [PyData.eqvAll]
  | _ :: _, [] => by simp [PyData.eqvAll]
  | a :: l, b :: m => by
    rw [List.map_cons, List.map_cons]
    simp only [PyData.eqvAll, PyData.eqv, eqvAll_nat l m]
    by_cases h1 : a = b
    · subst h1
      simp
    · have : ((a : Int) == (b : Int)) = false := by simp; omega
      rw [this]
      simp [h1]
theorem dat_nat (st : S) (l : List Nat) : dat st (.tup (l.map nD)) = some (.tuple (l.map fun (k : Nat) => PyData.int (k : Int))) := by
  unfold dat
  have e : res st 66 (.tup (l.map nD)) = some (.tuple (l.map fun (k : Nat) => PyData.int (k : Int))) := by
    show ((l.map nD).mapM (res st 65)).map PyData.tuple = _
    have : (l.map nD).mapM (res st 65) = some (l.map fun (k : Nat) => PyData.int (k : Int)) := by
      induction l with
      | nil => rfl
      | cons a l ih =>
        rw [List.map_cons, List.mapM_cons, ih]
        rfl
    rw [this]; rfl
  rw [e]
  have s : SeqAt.shaped (.tuple (l.map fun (k : Nat) => PyData.int (k : Int))) = true := by
    unfold SeqAt.shaped
    have h1 : ∀ l : List Nat, PyData.canLayAll0 (l.map fun (k : Nat) => PyData.int (k : Int)) = true := by
      intro l
      induction l with
      | nil => rfl
      | cons a l ih => rw [List.map_cons]; simp [PyData.canLayAll0, PyData.canLay0, ih]
    have h2 : ∀ l : List Nat, PyData.depthAll (l.map fun (k : Nat) => PyData.int (k : Int)) = 0 := by
      intro l
      induction l with
      | nil => rfl
      | cons a l ih => rw [List.map_cons]; simp [PyData.depthAll, PyData.depth, ih]
    simp [PyData.canLay0, PyData.depth, h1, h2]
  exact if_pos s
theorem cEq_nat (st : S) (l m : List Nat) : cEq (.tup (l.map nD)) (.tup (m.map nD)) st = some (.bl (decide (l = m)), st) := by
  unfold cEq
  rw [dat_nat, dat_nat]
  simp only [PyData.eqv, eqvAll_nat]
theorem noloc_nat (l : List Nat) : noloc (.tup (l.map nD)) = true := by
  show nolocs _ = true
  rw [nolocs_iff]
  intro d hd
  obtain ⟨k, _, rfl⟩ := List.mem_map.mp hd
  rfl
theorem set_last {α : Type} (l : List α) (a b : α) : (l ++ [a]).set l.length b = l ++ [b] := by
  induction l with
  | nil => rfl
  | cons x l ih => simp [ih]
theorem get_last {α : Type} (l : List α) (a : α) : (l ++ [a])[l.length]? = some a := by simp
end DL
set_option Elab.async false
set_option linter.all false
set_option maxRecDepth 100000
set_option maxHeartbeats 1000000
/-! DL20: what the laws draw from their script -/
namespace DL
open PySem L2
def wf (st : S) : Prop := ∀ c ∈ st, lowC st.length c = true
theorem set_at {st : S} {k : Nat} {c c' : Cell} (h : st[k]? = some c) : (st.set k c')[k]? = some c' := by
  rw [List.getElem?_set_self (List.getElem?_eq_some_iff.mp h).1]
theorem set_same {st : S} {k : Nat} {c : Cell} (h : st[k]? = some c) : st.set k c = st := by
  obtain ⟨h1, h2⟩ := List.getElem?_eq_some_iff.mp h
  rw [← h2]; exact List.set_getElem_self h1
abbrev bagL (m b s i : Nat) : List D := [nD b, nD s, nD i, .loc m]
noncomputable abbrev tkA : MS := sSeq (sSet 2 (eBin gIx (eBin bAdd (eSl gSl (eBin gIx (eV 0) (eC (.int 3))) (oSome (eBin gIx (eV 0) (eC (.int 2)))) oNone) (eLst (aCons (eC (.int 0)) aNil))) (eC (.int 0))))
  (sSeq (sAugS (eV 0) (eC (.int 2)) (eC (.int 1)) bAddI)
  (sSeq (sIf (tV (eBin cGe (eV 2) (eBin bPow (eC (.int 10)) (eC (.int 18)))))
  (sAsg (eV 2) (gSubL (eV 0) (eC (.int 0))))
  sNil)
  (sSeq (sSet 3 (eBin bAdd (eBin bAdd (eBin bMul (eBin gIx (eV 0) (eC (.int 1))) (eC (.int 48271))) (eBin bMod (eP gInt (aCons (eV 2) aNil)) (eC (.int 2147483647)))) (eBin bMul (eC (.int 7919)) (eBin gIx (eV 0) (eC (.int 2))))))
  (sAsg (eBin bMod (eP gInt (aCons (eV 3) aNil)) (eC (.int 2147483647))) (gSubL (eV 0) (eC (.int 1)))))))
noncomputable abbrev tkB : MS := sSeq (sSet 4 (eBin bMod (eP gInt (aCons (eBin gIx (eV 0) (eC (.int 0))) aNil)) (eV 1)))
  (sSeq (sAsg (eBin bFdiv (eP gInt (aCons (eBin gIx (eV 0) (eC (.int 0))) aNil)) (eV 1)) (gSubL (eV 0) (eC (.int 0))))
  (sRet (eV 4)))
noncomputable abbrev tkC : MS := sSeq (sSet 5 (eBin bMod (eP gInt (aCons (eBin bMul (eBin bAdd (eBin gIx (eV 0) (eC (.int 1))) (eC (.int 1))) (eC (.int 39373))) aNil)) (eC (.int 1000000007))))
  (sSeq (sSet 6 (eBin bMod (eP gInt (aCons (eBin bMul (eBin bMod (eP gInt (aCons (eBin bMul (eV 5) (eV 5)) aNil)) (eC (.int 998244353))) (eC (.int 30011))) aNil)) (eC (.int 998244353))))
  (sRet (eBin bMod (eP gInt (aCons (eBin bFdiv (eV 6) (eC (.int 7))) aNil)) (eV 1))))
noncomputable abbrev bTake : MS := sSeq (sIf (tV (eBin cEq (eBin gIx (eV 0) (eC (.int 0))) (eC (.int 0)))) tkA sNil)
  (sSeq (sIf (tV (eBin cGt (eBin gIx (eV 0) (eC (.int 0))) (eC (.int 0)))) tkB sNil) tkC)
section
variable {st : S} {k m b s i : Nat} {j : S}
theorem bag_at {c : Cell} (hk : k < st.length) : (st.set k c ++ j)[k]? = some c := by
  rw [List.getElem?_append_left (by simpa using hk), List.getElem?_set_self hk]
theorem bag_ne {c c' : Cell} {n : Nat} (hn : st[n]? = some c') (h : n ≠ k) : (st.set k c ++ j)[n]? = some c' := by
  rw [List.getElem?_append_left (by simpa using (List.getElem?_eq_some_iff.mp hn).1), List.getElem?_set_ne (Ne.symm h)]; exact hn
theorem bag_set {c c' : Cell} (hk : k < st.length) : (st.set k c ++ j).set k c' = st.set k c' ++ j := by
  rw [List.set_append_left _ _ (by simpa using hk), List.set_set]
variable (hk : k < st.length)
include hk
theorem ix0 : gIx (.loc k) (.int 0) (st.set k (.lst (bagL m b s i)) ++ j) = some (nD b, st.set k (.lst (bagL m b s i)) ++ j) := pv_ixL (bag_at hk) rfl
theorem ix1 : gIx (.loc k) (.int 1) (st.set k (.lst (bagL m b s i)) ++ j) = some (nD s, st.set k (.lst (bagL m b s i)) ++ j) := pv_ixL (bag_at hk) rfl
theorem ix2 : gIx (.loc k) (.int 2) (st.set k (.lst (bagL m b s i)) ++ j) = some (nD i, st.set k (.lst (bagL m b s i)) ++ j) := pv_ixL (bag_at hk) rfl
theorem ix3 : gIx (.loc k) (.int 3) (st.set k (.lst (bagL m b s i)) ++ j) = some (.loc m, st.set k (.lst (bagL m b s i)) ++ j) := pv_ixL (bag_at hk) rfl
theorem set0 (x : Nat) : gSet (.loc k) (.int 0) (nD x) (st.set k (.lst (bagL m b s i)) ++ j) = some (st.set k (.lst (bagL m x s i)) ++ j) := by
  rw [pv_set _ (bag_at hk) (j := 0) rfl, bag_set hk]; rfl
theorem set1 (x : Nat) : gSet (.loc k) (.int 1) (nD x) (st.set k (.lst (bagL m b s i)) ++ j) = some (st.set k (.lst (bagL m b x i)) ++ j) := by
  rw [pv_set _ (bag_at hk) (j := 1) rfl, bag_set hk]; rfl
theorem set2 (x : Nat) : gSet (.loc k) (.int 2) (nD x) (st.set k (.lst (bagL m b s i)) ++ j) = some (st.set k (.lst (bagL m b s x)) ++ j) := by
  rw [pv_set _ (bag_at hk) (j := 2) rfl, bag_set hk]; rfl
theorem gixl2 : gIxL (.loc k) (.int 2) (st.set k (.lst (bagL m b s i)) ++ j) = some (nD i, st.set k (.lst (bagL m b s i)) ++ j) := by
  simp [gIxL, bag_at hk]
end
theorem tkA_ok {st : S} {k m s i : Nat} {j : S} {cells : List Nat} (hk : k < st.length) (hm : st[m]? = some (.lst (cells.map nD))) (hkm : m ≠ k) (hc : cells.length ≤ 63) (hs : s < 2147483647) (d : D) (o4 o5 o6 : Option D) :
    ∃ b' s' j' w2 w3, s' < 2147483647 ∧ tkA [some (.loc k), some d, none, none, o4, o5, o6] (st.set k (.lst (bagL m 0 s i)) ++ j) = .nx [some (.loc k), some d, w2, w3, o4, o5, o6] (st.set k (.lst (bagL m b' s' (i + 1))) ++ j') := by
  let s0 := st.set k (.lst (bagL m 0 s i)) ++ j
  have hm0 : s0[m]? = some (.lst (cells.map nD)) := bag_ne hm hkm
  let j1 := j ++ [Cell.lst ((cells.drop i).map nD)]
  let j2 := j1 ++ [Cell.lst [nD 0]]
  let j3 := j2 ++ [Cell.lst ((cells.drop i).map nD ++ [nD 0])]
  let x := (cells.drop i ++ [0]).headD 0
  have app : ∀ (q : S) (c : Cell), st.set k (.lst (bagL m 0 s i)) ++ q ++ [c] = st.set k (.lst (bagL m 0 s i)) ++ (q ++ [c]) := fun q c => List.append_assoc ..
  have hsl : gSl (.loc m) (some (i : Int)) none s0 = some (.loc s0.length, st.set k (.lst (bagL m 0 s i)) ++ j1) := by
    show (match itemsOf (.loc m) s0 with | some xs => some (D.loc s0.length, s0 ++ [Cell.lst (cutD xs (some (i : Int)) none)]) | none => none) = _
    rw [pv_itL s0 hm0]
    dsimp only
    have e : cutD (cells.map nD) (some (i : Int)) none = (cells.drop i).map nD := by
      unfold cutD
      rw [HT.sIx_nat]
      show ((cells.map nD).drop (min i (cells.map nD).length)).take ((cells.map nD).length - min i (cells.map nD).length) = _
      rw [List.map_drop]
      rcases Nat.le_total i (cells.map nD).length with h | h
      · rw [Nat.min_eq_left h, List.take_of_length_le (by simp)]
      · rw [Nat.min_eq_right h, Nat.sub_self, List.take_zero, List.drop_of_length_le h]
    rw [e]
    show some (D.loc s0.length, s0 ++ [Cell.lst ((cells.drop i).map nD)]) = _
    rw [app]
  have l1 : (st.set k (.lst (bagL m 0 s i)) ++ j1)[s0.length]? = some (Cell.lst ((cells.drop i).map nD)) := by
    rw [← app]; exact get_last _ _
  have l2 : (st.set k (.lst (bagL m 0 s i)) ++ j2)[(st.set k (.lst (bagL m 0 s i)) ++ j1).length]? = some (Cell.lst [nD 0]) := by
    show (st.set k (.lst (bagL m 0 s i)) ++ (j1 ++ [Cell.lst [nD 0]]))[_]? = _
    rw [← app]; exact get_last _ _
  have l1' : (st.set k (.lst (bagL m 0 s i)) ++ j2)[s0.length]? = some (Cell.lst ((cells.drop i).map nD)) := by
    show (st.set k (.lst (bagL m 0 s i)) ++ (j1 ++ [Cell.lst [nD 0]]))[_]? = _
    rw [← app, List.getElem?_append_left (List.getElem?_eq_some_iff.mp l1).1]; exact l1
  have hadd : bAdd (.loc s0.length) (.loc (st.set k (.lst (bagL m 0 s i)) ++ j1).length) (st.set k (.lst (bagL m 0 s i)) ++ j2) = some (.loc (st.set k (.lst (bagL m 0 s i)) ++ j2).length, st.set k (.lst (bagL m 0 s i)) ++ j3) := by
    unfold bAdd
    dsimp only
    rw [l1', l2]
    refine (if_pos (by rw [sizeLine_eq]; simp; omega)).trans ?_
    rw [app]
  have hh : gIx (.loc (st.set k (.lst (bagL m 0 s i)) ++ j2).length) (.int 0) (st.set k (.lst (bagL m 0 s i)) ++ j3) = some (nD x, st.set k (.lst (bagL m 0 s i)) ++ j3) := by
    refine pv_ixL (xs := (cells.drop i).map nD ++ [nD 0]) (by show (st.set k (.lst (bagL m 0 s i)) ++ (j2 ++ [_]))[_]? = _; rw [← app]; exact get_last _ _) ?_
    show atI _ ((0 : Nat) : Int) = _
    refine atI_nat ?_
    show ((cells.drop i).map nD ++ [nD 0])[0]? = some (nD x)
    cases e : cells.drop i with
    | nil => simp [x, e]
    | cons a l => simp [x, e]
  have one : [D.int 0].length ≤ sizeLine := by rw [sizeLine_eq]; show 1 ≤ 16777216; decide
  have pw : ∀ q : S, bPow (.int 10) (.int 18) q = some (.int ((10 : Int) ^ (18 : Int).toNat), q) := fun q => pv_pow q ⟨by decide, by decide, by decide⟩
  have ii : ((i : Int) + 1) = ((i + 1 : Nat) : Int) := by omega
  -- behind the sixth row
  have rest : ∀ b' : Nat, (sSeq (sSet 3 (eBin bAdd (eBin bAdd (eBin bMul (eBin gIx (eV 0) (eC (.int 1))) (eC (.int 48271))) (eBin bMod (eP gInt (aCons (eV 2) aNil)) (eC (.int 2147483647)))) (eBin bMul (eC (.int 7919)) (eBin gIx (eV 0) (eC (.int 2))))))
      (sAsg (eBin bMod (eP gInt (aCons (eV 3) aNil)) (eC (.int 2147483647))) (gSubL (eV 0) (eC (.int 1))))) [some (.loc k), some d, some (nD x), none, o4, o5, o6] (st.set k (.lst (bagL m b' s (i + 1))) ++ j3) =
      .nx [some (.loc k), some d, some (nD x), some (nD (s * 48271 + x % 2147483647 + 7919 * (i + 1))), o4, o5, o6] (st.set k (.lst (bagL m b' ((s * 48271 + x % 2147483647 + 7919 * (i + 1)) % 2147483647) (i + 1))) ++ j3) := fun b' => by
    have m1 : ∀ q : S, bMul (nD s) (.int 48271) q = some (.int ((s : Int) * 48271), q) := fun q => pv_mul q (.inl (.inr ⟨by decide, by decide⟩))
    have m2 : ∀ q : S, bMul (.int 7919) (nD (i + 1)) q = some (.int (7919 * ((i + 1 : Nat) : Int)), q) := fun q => pv_mul q (.inl (.inl ⟨by decide, by decide⟩))
    have e1 : (s : Int) * 48271 + (x : Int) % 2147483647 + 7919 * ((i + 1 : Nat) : Int) = ((s * 48271 + x % 2147483647 + 7919 * (i + 1) : Nat) : Int) := by omega
    have e2 : ((s * 48271 + x % 2147483647 + 7919 * (i + 1) : Nat) : Int) % 2147483647 = (((s * 48271 + x % 2147483647 + 7919 * (i + 1)) % 2147483647 : Nat) : Int) := by omega
    simp only [ev_sSeq, ev_sSet, ev_Bin, ev_V, ev_C, ev_P, ev_aCons, ev_aNil, List.getElem?_cons_zero, List.getElem?_cons_succ, R.bind, ix1 hk, ix2 hk, ofO, m1, m2, pv_toint, pv_mod _ (show (0 : Int) < 2147483647 by decide), pv_add, R.toS, e1, List.set_cons_succ, List.set_cons_zero,
      ev_sAsg, e2, ev_gSubL, R.get?, Option.bind_some, set1 hk, Option.map_some]
  have head : ∀ r : MS, (sSeq (sSet 2 (eBin gIx (eBin bAdd (eSl gSl (eBin gIx (eV 0) (eC (.int 3))) (oSome (eBin gIx (eV 0) (eC (.int 2)))) oNone) (eLst (aCons (eC (.int 0)) aNil))) (eC (.int 0)))) (sSeq (sAugS (eV 0) (eC (.int 2)) (eC (.int 1)) bAddI) r)) [some (.loc k), some d, none, none, o4, o5, o6] s0 =
      r [some (.loc k), some d, some (nD x), none, o4, o5, o6] (st.set k (.lst (bagL m 0 s (i + 1))) ++ j3) := fun r => by
    simp only [ev_sSeq, ev_sSet, ev_Bin, ev_Sl, ev_V, ev_C, ev_oS, ev_oN, List.getElem?_cons_zero, List.getElem?_cons_succ, R.bind, s0, ix3 hk, ix2 hk, ofO, onI]
    rw [show gSl (.loc m) (some (i : Int)) none (st.set k (.lst (bagL m 0 s i)) ++ j) = _ from hsl]
    simp only [ofO, R.bind, ev_Lst, ev_aCons, ev_C, ev_aNil]
    rw [if_pos one]
    simp only [R.bind]
    rw [app]
    rw [show bAdd (.loc s0.length) (.loc (st.set k (.lst (bagL m 0 s i)) ++ j1).length) (st.set k (.lst (bagL m 0 s i)) ++ (j1 ++ [Cell.lst [D.int 0]])) = _ from hadd]
    simp only [ofO, R.bind, hh, R.toS, List.set_cons_succ, List.set_cons_zero, ev_sAugS, ev_V, ev_C, List.getElem?_cons_zero, gixl2 hk, pv_addI, ii, set2 hk]
  by_cases hx : (10 : Int) ^ (18 : Int).toNat ≤ (x : Int)
  · refine ⟨x, (s * 48271 + x % 2147483647 + 7919 * (i + 1)) % 2147483647, j3, some (nD x), some (nD (s * 48271 + x % 2147483647 + 7919 * (i + 1))), Nat.mod_lt _ (by decide), ?_⟩
    refine (head _).trans ?_
    rw [ev_sSeq]
    simp only [ev_sIf, ev_tV, ev_Bin, ev_V, ev_C, List.getElem?_cons_zero, List.getElem?_cons_succ, R.bind, pw, ofO, pv_int, onB, R.toS, decide_eq_true hx, if_true, ev_sAsg, ev_gSubL, R.get?, Option.bind_some, set0 hk, Option.map_some]
    exact rest x
  · refine ⟨0, (s * 48271 + x % 2147483647 + 7919 * (i + 1)) % 2147483647, j3, some (nD x), some (nD (s * 48271 + x % 2147483647 + 7919 * (i + 1))), Nat.mod_lt _ (by decide), ?_⟩
    refine (head _).trans ?_
    rw [ev_sSeq]
    simp only [ev_sIf, ev_tV, ev_Bin, ev_V, ev_C, List.getElem?_cons_zero, List.getElem?_cons_succ, R.bind, pw, ofO, pv_int, onB, R.toS, decide_eq_false hx, Bool.false_eq_true, if_false, ev_sNil]
    exact rest 0
end DL
set_option Elab.async false
set_option linter.all false
set_option maxRecDepth 100000
set_option maxHeartbeats 1000000
/-! DL21: a draw, whole -/
namespace DL
open PySem L2
theorem tkB_ok {st : S} {k m b s i n : Nat} {j : S} (hk : k < st.length) (hn : 0 < n) (hn2 : n < 2 ^ 64) (o2 o3 o4 o5 o6 : Option D) :
    tkB [some (.loc k), some (nD n), o2, o3, o4, o5, o6] (st.set k (.lst (bagL m b s i)) ++ j) = .ret (nD (b % n)) (st.set k (.lst (bagL m (b / n) s i)) ++ j) := by
  have e1 : (b : Int) % (n : Int) = ((b % n : Nat) : Int) := by norm_cast
  have e2 : (b : Int) / (n : Int) = ((b / n : Nat) : Int) := by norm_cast
  have hp : (0 : Int) < (n : Int) := by omega
  have dv : ∀ q : S, bFdiv (nD b) (nD n) q = some (.int ((b : Int) / (n : Int)), q) := fun q => pv_fdiv q ⟨hp, by
    have : (n : Int).natAbs = n := rfl
    rw [this]
    exact Nat.lt_trans ((Nat.log2_lt (by omega)).mpr hn2) (by decide)⟩
  simp only [ev_sSeq, ev_sSet, ev_Bin, ev_P, ev_aCons, ev_aNil, ev_V, ev_C, List.getElem?_cons_zero, List.getElem?_cons_succ, R.bind, ix0 hk, ofO, pv_toint, pv_mod _ hp, e1, R.toS, List.set_cons_succ, List.set_cons_zero,
    ev_sAsg, dv, e2, ev_gSubL, R.get?, Option.bind_some, set0 hk, Option.map_some, ev_sRet]
theorem tkC_ok {st : S} {k m b s i n : Nat} {j : S} (hk : k < st.length) (hs : s < 2147483647) (hn : 0 < n) (o2 o3 o4 o5 o6 : Option D) :
    ∃ v, v < n ∧ tkC [some (.loc k), some (nD n), o2, o3, o4, o5, o6] (st.set k (.lst (bagL m b s i)) ++ j) = .ret (nD v) (st.set k (.lst (bagL m b s i)) ++ j) := by
  have hp : (0 : Int) < (n : Int) := by omega
  let q1 := (s + 1) * 39373 % 1000000007
  let q2 := (q1 * q1 % 998244353) * 30011 % 998244353
  have h1 : q1 < 1000000007 := Nat.mod_lt _ (by decide)
  refine ⟨(q2 / 7) % n, Nat.mod_lt _ hn, ?_⟩
  have a1 : ((s : Int) + 1) * 39373 = (((s + 1) * 39373 : Nat) : Int) := by omega
  have a2 : (((s + 1) * 39373 : Nat) : Int) % 1000000007 = (q1 : Int) := (Int.natCast_emod _ _).symm
  have a3 : (q1 : Int) * (q1 : Int) = ((q1 * q1 : Nat) : Int) := by norm_cast
  have a4 : ((q1 * q1 : Nat) : Int) % 998244353 = ((q1 * q1 % 998244353 : Nat) : Int) := (Int.natCast_emod _ _).symm
  have a5 : ((q1 * q1 % 998244353 : Nat) : Int) * 30011 = ((q1 * q1 % 998244353 * 30011 : Nat) : Int) := by norm_cast
  have a6 : ((q1 * q1 % 998244353 * 30011 : Nat) : Int) % 998244353 = (q2 : Int) := (Int.natCast_emod _ _).symm
  have a7 : (q2 : Int) / 7 = ((q2 / 7 : Nat) : Int) := by norm_cast
  have a8 : ((q2 / 7 : Nat) : Int) % (n : Int) = ((q2 / 7 % n : Nat) : Int) := by norm_cast
  have m1 : ∀ q : S, bMul (.int ((s : Int) + 1)) (.int 39373) q = some (.int (((s : Int) + 1) * 39373), q) := fun q => pv_mul q (.inl (.inr ⟨by decide, by decide⟩))
  have m2 : ∀ q : S, bMul (.int (q1 : Int)) (.int (q1 : Int)) q = some (.int ((q1 : Int) * (q1 : Int)), q) := fun q => pv_mul q (.inl (.inr ⟨by omega, by omega⟩))
  have m3 : ∀ q : S, bMul (.int ((q1 * q1 % 998244353 : Nat) : Int)) (.int 30011) q = some (.int (((q1 * q1 % 998244353 : Nat) : Int) * 30011), q) := fun q => pv_mul q (.inl (.inr ⟨by decide, by decide⟩))
  have dv : ∀ q : S, bFdiv (.int (q2 : Int)) (.int 7) q = some (.int ((q2 : Int) / 7), q) := fun q => pv_fdiv q ⟨by decide, by decide⟩
  simp only [ev_sSeq, ev_sSet, ev_Bin, ev_P, ev_aCons, ev_aNil, ev_V, ev_C, List.getElem?_cons_zero, List.getElem?_cons_succ, R.bind, ix1 hk, ofO, pv_add, m1, a1, pv_toint, pv_mod _ (show (0 : Int) < 1000000007 by decide), a2, R.toS, List.set_cons_succ, List.set_cons_zero,
    m2, a3, pv_mod _ (show (0 : Int) < 998244353 by decide), a4, m3, a5, a6, ev_sRet, dv, a7, pv_mod _ hp, a8]
/-- the bag at k, its numbers at m -/
structure Bag (st : S) (k m : Nat) (cells : List Nat) : Prop where
  wf : wf st
  ne : m ≠ k
  cs : st[m]? = some (.lst (cells.map nD))
  ln : cells.length ≤ 63
  bg : ∃ b s i : Nat, s < 2147483647 ∧ st[k]? = some (.lst (bagL m b s i))
theorem Bag.lt {st : S} {k m : Nat} {cells : List Nat} (B : Bag st k m cells) : k < st.length := by
  obtain ⟨b, s, i, _, h⟩ := B.bg
  exact (List.getElem?_eq_some_iff.mp h).1
theorem wf_set {st : S} {k : Nat} {c : Cell} (h : wf st) (hc : lowC st.length c = true) : wf (st.set k c) := by
  intro x hx
  rw [List.length_set]
  rcases List.mem_or_eq_of_mem_set hx with hx | rfl
  · exact h x hx
  · exact hc
theorem Bag.put {st : S} {k m b s i : Nat} {cells : List Nat} (B : Bag st k m cells) (hs : s < 2147483647) : Bag (st.set k (.lst (bagL m b s i))) k m cells := by
  refine ⟨wf_set B.wf ?_, B.ne, by rw [List.getElem?_set_ne (Ne.symm B.ne)]; exact B.cs, B.ln, b, s, i, hs, by rw [List.getElem?_set_self B.lt]⟩
  have hm := (List.getElem?_eq_some_iff.mp B.cs).1
  show lowDs st.length (bagL m b s i) = true
  simp [lowDs, lowD, hm]
theorem take_ok {st : S} {k m n : Nat} {cells : List Nat} (B : Bag st k m cells) (hn : 0 < n) (hn2 : n < 2 ^ 64) :
    ∃ v b s i, v < n ∧ s < 2147483647 ∧ runF 2 7 bTake [.loc k, nD n] st = .ok (nD v) (st.set k (.lst (bagL m b s i))) := by
  obtain ⟨b, s, i, hs, hk⟩ := B.bg
  have hl := B.lt
  have e0 : st = st.set k (.lst (bagL m b s i)) ++ [] := by rw [List.append_nil, set_same hk]
  have he : ent 7 [.loc k, nD n] = [some (.loc k), some (nD n), none, none, none, none, none] := rfl
  -- what is behind the first clause
  have fin : ∀ (b s i : Nat) (j : S) (o2 o3 : Option D), s < 2147483647 → ∃ v b' , v < n ∧ (sSeq (sIf (tV (eBin cGt (eBin gIx (eV 0) (eC (.int 0))) (eC (.int 0)))) tkB sNil) tkC) [some (.loc k), some (nD n), o2, o3, none, none, none] (st.set k (.lst (bagL m b s i)) ++ j) =
      .ret (nD v) (st.set k (.lst (bagL m b' s i)) ++ j) := by
    intro b s i j o2 o3 hs
    by_cases hb : (0 : Int) < (b : Int)
    · refine ⟨b % n, b / n, Nat.mod_lt _ hn, ?_⟩
      rw [ev_sSeq]
      simp only [ev_sIf, ev_tV, ev_Bin, ev_V, ev_C, List.getElem?_cons_zero, List.getElem?_cons_succ, R.bind, ix0 hl, ofO, pv_int, onB, R.toS, decide_eq_true hb, if_true]
      rw [tkB_ok hl hn hn2]
    · obtain ⟨v, hv, ev⟩ := tkC_ok (b := b) (i := i) (m := m) (j := j) hl hs hn o2 o3 none none none
      refine ⟨v, b, hv, ?_⟩
      rw [ev_sSeq]
      simp only [ev_sIf, ev_tV, ev_Bin, ev_V, ev_C, List.getElem?_cons_zero, List.getElem?_cons_succ, R.bind, ix0 hl, ofO, pv_int, onB, R.toS, decide_eq_false hb, Bool.false_eq_true, if_false, ev_sNil]
      exact ev
  have whole : ∃ v b' s' i' j, v < n ∧ s' < 2147483647 ∧ bTake (ent 7 [.loc k, nD n]) st = .ret (nD v) (st.set k (.lst (bagL m b' s' i')) ++ j) := by
    rw [he]
    by_cases hb : b = 0
    · subst hb
      obtain ⟨b1, s1, j1, w2, w3, hs1, ea⟩ := tkA_ok (j := []) hl B.cs B.ne B.ln hs (nD n) none none none
      obtain ⟨v, b2, hv, ef⟩ := fin b1 s1 (i + 1) j1 w2 w3 hs1
      refine ⟨v, b2, s1, i + 1, j1, hv, hs1, ?_⟩
      have c0 : (sIf (tV (eBin cEq (eBin gIx (eV 0) (eC (.int 0))) (eC (.int 0)))) tkA sNil) [some (.loc k), some (nD n), none, none, none, none, none] st = tkA [some (.loc k), some (nD n), none, none, none, none, none] (st.set k (.lst (bagL m 0 s i)) ++ []) := by
        rw [← e0]
        have ixs : gIx (.loc k) (.int 0) st = some (nD 0, st) := pv_ixL hk rfl
        simp only [ev_sIf, ev_tV, ev_Bin, ev_V, ev_C, List.getElem?_cons_zero, List.getElem?_cons_succ, R.bind, ixs, ofO, cEq_int, onB, R.toS]
        rw [decide_eq_true (show ((0 : Nat) : Int) = 0 by rfl), if_pos rfl]
      delta bTake
      rw [ev_sSeq, c0, ea]
      exact ef
    · obtain ⟨v, b2, hv, ef⟩ := fin b s i [] none none hs
      refine ⟨v, b2, s, i, [], hv, hs, ?_⟩
      have c0 : (sIf (tV (eBin cEq (eBin gIx (eV 0) (eC (.int 0))) (eC (.int 0)))) tkA sNil) [some (.loc k), some (nD n), none, none, none, none, none] st = .nx [some (.loc k), some (nD n), none, none, none, none, none] st := by
        have ixs : gIx (.loc k) (.int 0) st = some (nD b, st) := pv_ixL hk rfl
        simp only [ev_sIf, ev_tV, ev_Bin, ev_V, ev_C, List.getElem?_cons_zero, List.getElem?_cons_succ, R.bind, ixs, ofO, cEq_int, onB, R.toS]
        rw [decide_eq_false (show ¬ ((b : Int) = 0) by omega), if_neg (by decide)]
        rfl
      delta bTake
      rw [ev_sSeq, c0]
      dsimp only
      rw [← e0] at ef
      exact ef
  obtain ⟨v, b', s', i', j, hv, hs', ew⟩ := whole
  refine ⟨v, b', s', i', hv, hs', (runF_at rfl ew).trans ?_⟩
  refine trim_low (by simp) rfl fun c hc => ?_
  have := (B.put (b := b') (i := i') hs').wf c hc
  simpa using this
end DL
set_option Elab.async false
set_option linter.all false
set_option maxRecDepth 100000
set_option maxHeartbeats 1000000
/-! DL22: steps that keep the bag -/
namespace DL
open PySem L2
mutual
theorem lowD_mono {n n' : Nat} (h : n ≤ n') : ∀ {d : D}, lowD n d = true → lowD n' d = true
  | .non, _ => rfl
  | .bl _, _ => rfl
  | .int _, _ => rfl
  | .str _, _ => rfl
  | .tup xs, z => lowDs_mono h (l := xs) z
  | .loc k, z => decide_eq_true (Nat.lt_of_lt_of_le (of_decide_eq_true (show decide (k < n) = true from z)) h)
  | .fro _, _ => rfl
  | .exo _ _ _ _, z => Bool.noConfusion z
theorem lowDs_mono {n n' : Nat} (h : n ≤ n') : ∀ {l : List D}, lowDs n l = true → lowDs n' l = true
  | [], _ => rfl
  | d :: l, z => by
    obtain ⟨z1, z2⟩ := Bool.and_eq_true_iff.mp (show (lowD n d && lowDs n l) = true from z)
    exact Bool.and_eq_true_iff.mpr ⟨lowD_mono h z1, lowDs_mono h z2⟩
end
theorem lowC_mono {n n' : Nat} (h : n ≤ n') {c : Cell} (z : lowC n c = true) : lowC n' c = true := by
  cases c with
  | lst xs => exact lowDs_mono h (l := xs) z
  | dct kvs => exact List.all_eq_true.mpr fun p hp => lowD_mono h (List.all_eq_true.mp (show (kvs.all fun p => lowD n p.2) = true from z) p hp)
  | ins cn fs => exact List.all_eq_true.mpr fun p hp => lowD_mono h (List.all_eq_true.mp (show (fs.all fun p => lowD n p.2) = true from z) p hp)
theorem wf_push {st : S} {c : Cell} (h : wf st) (hc : lowC (st.length + 1) c = true) : wf (st ++ [c]) := by
  intro x hx
  rw [List.length_append, List.length_singleton]
  rcases List.mem_append.mp hx with hx | hx
  · exact lowC_mono (Nat.le_succ _) (h x hx)
  · rw [List.mem_singleton.mp hx]; exact hc
theorem lowDs_nat (n : Nat) (l : List Nat) : lowDs n (l.map nD) = true := by
  rw [lowDs_iff]
  intro d hd
  obtain ⟨x, _, rfl⟩ := List.mem_map.mp hd
  rfl
theorem Bag.push {st : S} {k m : Nat} {cells : List Nat} {c : Cell} (B : Bag st k m cells) (hc : lowC (st.length + 1) c = true) : Bag (st ++ [c]) k m cells := by
  have hm := (List.getElem?_eq_some_iff.mp B.cs).1
  obtain ⟨b, s, i, hs, hk⟩ := B.bg
  exact ⟨wf_push B.wf hc, B.ne, by rw [List.getElem?_append_left hm]; exact B.cs, B.ln, b, s, i, hs, by rw [List.getElem?_append_left B.lt]; exact hk⟩
/-- behind some steps: the bag stands, the other cells are as they were -/
structure Nx (k m : Nat) (cells : List Nat) (st st' : S) : Prop where
  bag : Bag st' k m cells
  len : st.length ≤ st'.length
  old : ∀ n, n < st.length → n ≠ k → st'[n]? = st[n]?
section
variable {k m : Nat} {cells : List Nat} {st st' st'' : S}
theorem Nx.refl (B : Bag st k m cells) : Nx k m cells st st := ⟨B, Nat.le_refl _, fun _ _ _ => rfl⟩
theorem Nx.trans (a : Nx k m cells st st') (b : Nx k m cells st' st'') : Nx k m cells st st'' := ⟨b.bag, Nat.le_trans a.len b.len, fun n h1 h2 => (b.old n (Nat.lt_of_lt_of_le h1 a.len) h2).trans (a.old n h1 h2)⟩
theorem Nx.push (B : Bag st k m cells) {c : Cell} (hc : lowC (st.length + 1) c = true) : Nx k m cells st (st ++ [c]) := ⟨B.push hc, by simp, fun n h _ => List.getElem?_append_left h⟩
theorem Nx.put (B : Bag st k m cells) {b s i : Nat} (hs : s < 2147483647) : Nx k m cells st (st.set k (.lst (bagL m b s i))) := ⟨B.put hs, by simp, fun n _ h2 => List.getElem?_set_ne (Ne.symm h2)⟩
theorem Nx.at_ (a : Nx k m cells st st') {n : Nat} {c : Cell} (h : st[n]? = some c) (hn : n ≠ k) : st'[n]? = some c := (a.old n (List.getElem?_eq_some_iff.mp h).1 hn).trans h
noncomputable abbrev fTake : MF := runF 2 7 bTake
noncomputable abbrev bSome : MS := sRet (eBin gIx (eV 1) (eF (runF 2 7 bTake) (aCons (eV 0) (aCons (eP gLen (aCons (eV 1) aNil)) aNil))))
theorem take_nx (B : Bag st k m cells) {n : Nat} (hn : 0 < n) (hn2 : n < 2 ^ 64) : ∃ v st', v < n ∧ runF 2 7 bTake [.loc k, nD n] st = .ok (nD v) st' ∧ Nx k m cells st st' ∧ st'.length = st.length := by
  obtain ⟨v, b, s, i, hv, hs, e⟩ := take_ok B hn hn2
  exact ⟨v, _, hv, e, Nx.put B hs, by simp⟩
theorem some_nx (B : Bag st k m cells) {j : Nat} {xs : List D} (hj : st[j]? = some (.lst xs)) (hjk : j ≠ k) (h0 : xs ≠ []) (hz : xs.length < 2 ^ 64) : ∃ d st', d ∈ xs ∧ runF 2 2 bSome [.loc k, .loc j] st = .ok d st' ∧ Nx k m cells st st' ∧ st'.length = st.length := by
  have hpos : 0 < xs.length := List.length_pos_iff.mpr h0
  obtain ⟨v, b, s, i, hv, hs, e⟩ := take_ok B hpos hz
  have hx : xs[v]? = some xs[v] := List.getElem?_eq_getElem hv
  have hj2 : (st.set k (.lst (bagL m b s i)))[j]? = some (.lst xs) := by rw [List.getElem?_set_ne (Ne.symm hjk)]; exact hj
  refine ⟨xs[v], st.set k (.lst (bagL m b s i)), List.getElem_mem hv, ?_, Nx.put B hs, by simp⟩
  have hb : bSome (ent 2 [.loc k, .loc j]) st = .ret xs[v] (st.set k (.lst (bagL m b s i)) ++ []) := by
    have he : ent 2 [.loc k, .loc j] = [some (.loc k), some (.loc j)] := rfl
    rw [he, List.append_nil]
    simp only [ev_sRet, ev_Bin, ev_V, ev_F, ev_aCons, ev_P, ev_aNil, List.getElem?_cons_zero, List.getElem?_cons_succ, R.bind, pv_lenL st hj, ofO]
    rw [e]
    simp only [R.bind, pv_ixL hj2 (atI_nat hx), ofO, R.toS]
  refine (runF_at rfl hb).trans (trim_low (by simp) ?_ fun c hc => ?_)
  · have hl := B.wf _ (List.mem_of_getElem? hj)
    exact lowDs_iff.mp (show lowDs st.length xs = true from hl) _ (List.getElem_mem hv)
  · have := (B.put (b := b) (i := i) hs).wf c hc
    simpa using this
theorem lc_draw {Q : D → Prop} {v : Nat} {el : ME} {env : Ev} (hel : ∀ st d, Bag st k m cells → ∃ x st', Q x ∧ el (env.set v (some d)) st = .ok x st' ∧ Nx k m cells st st') {ds : List D} (B : Bag st k m cells) :
    ∃ zs st', zs.length = ds.length ∧ (∀ x ∈ zs, Q x) ∧ lcL (fun _ => True) (gN v) tYes' el env ds st = some (zs, st') ∧ Nx k m cells st st' := by
  obtain ⟨zs, st', e, hl, hQ, hN⟩ := lc_inv (gd := fun _ => True) (g := gN v) (t := tYes') (e := el) (env := env) (fun i acc s => acc.length = i ∧ (∀ x ∈ acc, Q x) ∧ Nx k m cells st s) (ds := ds) (st := st) ⟨rfl, (fun x hx => nomatch hx), Nx.refl B⟩ (by
    rintro i acc s d hd ⟨h1, h2, h3⟩
    obtain ⟨x, s', hx, e, hn⟩ := hel s d h3.bag
    refine ⟨_, _, rfl, true, s, rfl, ?_⟩
    rw [if_pos rfl]
    exact ⟨x, s', e, trivial, by simp [h1], fun y hy => by
      rcases List.mem_append.mp hy with hy | hy
      · exact h2 y hy
      · rw [List.mem_singleton.mp hy]; exact hx, h3.trans hn⟩)
  exact ⟨zs, st', hl, hQ, e, hN⟩
end
theorem nats_of {zs : List D} {P : Nat → Prop} (h : ∀ x ∈ zs, ∃ n, P n ∧ x = nD n) : ∃ l : List Nat, (∀ n ∈ l, P n) ∧ zs = l.map nD := by
  induction zs with
  | nil => exact ⟨[], (fun n hn => nomatch hn), rfl⟩
  | cons z zs ih =>
    obtain ⟨l, h1, rfl⟩ := ih fun x hx => h x (List.mem_cons_of_mem _ hx)
    obtain ⟨n, hn, rfl⟩ := h z (List.mem_cons_self ..)
    exact ⟨n :: l, fun y hy => by rcases List.mem_cons.mp hy with rfl | hy; exact hn; exact h1 y hy, rfl⟩
noncomputable abbrev bBag : MS := sRet (eLst (aCons (eC (.int 0)) (aCons (eC (.int 1234567891)) (aCons (eC (.int 0)) (aCons (eLc (iSeq (eSl gSl (eV 0) oNone (oSome (eC (.int 63))))) [1] (gN 1) tYes' (eP gAbs (aCons (eV 1) aNil))) aNil)))))
theorem bag_ok (ns : List Int) : ∃ (st : S) (cells : List Nat), runF 1 2 bBag [.fro ns] [] = .ok (.loc 2) st ∧ Bag st 2 1 cells ∧ st.length = 3 := by
  let xs := (cutD ns none (some 63)).map D.int
  have hz : xs.length ≤ 63 := by
    show ((cutD ns none (some 63)).map D.int).length ≤ 63
    unfold cutD
    rw [List.length_map, List.length_take]
    have : HT.sIx ns.length ns.length (some 63) - HT.sIx ns.length 0 none ≤ 63 := by
      show (if (63 : Int) < 0 then ((63 : Int) + (ns.length : Int)).toNat else min (63 : Int).toNat ns.length) - 0 ≤ 63
      rw [if_neg (by decide), Nat.sub_zero]
      exact Nat.min_le_left _ _
    omega
  obtain ⟨zs, st', e, hl, hQ, hs⟩ := lc_inv (gd := fun s => s[0]? = some (.lst xs)) (g := gN 1) (t := tYes') (e := eP gAbs (aCons (eV 1) aNil)) (env := [some (.fro ns), none]) (fun i acc s => acc.length = i ∧ (∀ x ∈ acc, ∃ n : Nat, True ∧ x = nD n) ∧ s = [.lst xs]) (ds := xs) (st := [.lst xs]) ⟨rfl, (fun x hx => nomatch hx), rfl⟩ (by
    rintro i acc s d hd ⟨h1, h2, rfl⟩
    obtain ⟨z, _, rfl⟩ := List.mem_map.mp (List.mem_of_getElem? hd)
    refine ⟨_, _, rfl, true, _, rfl, ?_⟩
    rw [if_pos rfl]
    refine ⟨.int (if z < 0 then -z else z), [.lst xs], rfl, rfl, by simp [h1], fun y hy => ?_, rfl⟩
    rcases List.mem_append.mp hy with hy | hy
    · exact h2 y hy
    · rw [List.mem_singleton.mp hy]
      refine ⟨z.natAbs, trivial, ?_⟩
      congr 1
      split <;> omega)
  subst hs
  obtain ⟨cells, _, rfl⟩ := nats_of hQ
  have hit : iSeq (eSl gSl (eV 0) oNone (oSome (eC (.int 63)))) [some (.fro ns), none] [] = .ok (xs, fun s => s[0]? = some (.lst xs)) [.lst xs] := rfl
  have hlc := ev_lc hit (vs := [1]) (g := gN 1) (t := tYes') (e := eP gAbs (aCons (eV 1) aNil)) (zs := cells.map nD) (st2 := [.lst xs]) e (by rw [sizeLine_eq]; omega)
  have hb : bBag (ent 2 [.fro ns]) [] = .ret (.loc 2) [.lst xs, .lst (cells.map nD), .lst (bagL 1 0 1234567891 0)] := by
    have he : ent 2 [.fro ns] = [some (.fro ns), none] := rfl
    rw [he]
    have four : (4 : Nat) ≤ sizeLine := by rw [sizeLine_eq]; decide
    simp only [ev_sRet, ev_Lst, ev_aCons, ev_C, ev_aNil, R.bind]
    rw [hlc]
    simp only [R.bind]
    refine (congrArg (fun r => R.toS [some (.fro ns), none] r fun d st1 => RS.ret d st1) (if_pos four)).trans ?_
    rfl
  refine ⟨_, cells, (runF_at rfl hb).trans (trim_loc (Nat.zero_le _)), ⟨?_, by decide, rfl, by rw [← List.length_map, hl]; exact hz, 0, 1234567891, 0, by decide, rfl⟩, rfl⟩
  intro c hc
  have low : lowDs 3 xs = true := by
    rw [lowDs_iff]
    intro d hd
    obtain ⟨x, _, rfl⟩ := List.mem_map.mp hd
    rfl
  simp only [List.mem_cons, List.mem_nil_iff, or_false] at hc
  rcases hc with rfl | rfl | rfl
  · exact low
  · exact lowDs_nat 3 cells
  · rfl
end DL
set_option Elab.async false
set_option linter.all false
set_option maxRecDepth 100000
set_option maxHeartbeats 1000000
/-! DL23: alike data are found alike -/
namespace DL
open PySem L2
mutual
/-- alike, with n parts -/
inductive Sm (st : S) : Nat → D → D → Prop
  | flat {d : D} {p : PyData} : flatP d = some p → Sm st 1 d d
  | tup {n : Nat} {xs ys : List D} : SmL st n xs ys → Sm st (n + 1) (.tup xs) (.tup ys)
  | lst {n i j : Nat} {xs ys : List D} : st[i]? = some (.lst xs) → st[j]? = some (.lst ys) → SmL st n xs ys → Sm st (n + 1) (.loc i) (.loc j)
inductive SmL (st : S) : Nat → List D → List D → Prop
  | nil : SmL st 0 [] []
  | cons {n m : Nat} {x y : D} {xs ys : List D} : Sm st n x y → SmL st m xs ys → SmL st (n + m) (x :: xs) (y :: ys)
end
/-- pairs that are alike, n parts in all -/
inductive SmP (st : S) : Nat → List D → Prop
  | nil : SmP st 0 []
  | cons {n m : Nat} {x y : D} {ps : List D} : Sm st n x y → SmP st m ps → SmP st (n + m) (.tup [x, y] :: ps)
theorem SmP.snoc {st : S} {n m : Nat} {ps qs : List D} (h : SmP st n ps) (g : SmP st m qs) : SmP st (n + m) (ps ++ qs) := by
  induction h with
  | nil => rw [Nat.zero_add]; exact g
  | @cons a b x y ps h1 h2 ih => rw [Nat.add_assoc]; exact .cons h1 ih
theorem SmL.zip {st : S} : ∀ {xs ys : List D} {n : Nat}, SmL st n xs ys → SmP st n (zipD xs ys) ∧ xs.length = ys.length ∧ (zipD xs ys).length = xs.length
  | _, _, _, .nil => ⟨.nil, rfl, rfl⟩
  | _, _, _, .cons h1 h2 => ⟨.cons h1 h2.zip.1, by rw [List.length_cons, List.length_cons, h2.zip.2.1], by
      have := h2.zip.2.2
      show (zipD _ _).length + 1 = _
      rw [this]; rfl⟩
theorem Sm.pos {st : S} {n : Nat} {x y : D} (h : Sm st n x y) : 1 ≤ n := by
  cases h with
  | flat _ => exact Nat.le_refl _
  | tup _ => exact Nat.succ_le_succ (Nat.zero_le _)
  | lst _ _ _ => exact Nat.succ_le_succ (Nat.zero_le _)
theorem SmL.le {st : S} : ∀ {xs ys : List D} {n : Nat}, SmL st n xs ys → xs.length ≤ n
  | _, _, _, .nil => Nat.le_refl _
  | _, _, _, .cons h1 h2 => by
    have := h2.le
    have h := h1.pos
    rw [List.length_cons]; omega
theorem SmP.le {st : S} {n : Nat} {ps : List D} (h : SmP st n ps) : ps.length ≤ n := by
  induction h with
  | nil => exact Nat.le_refl _
  | cons h1 _ ih =>
    have h := h1.pos
    rw [List.length_cons]; omega
noncomputable abbrev akB : MS := sSeq (sAsg (eBin gIx (eV 2) (eV 3)) (gT 2 (gC (gN 4) (gC (gN 5) gN0))))
  (sSeq (sAug 3 bAddI (eC (.int 1)))
  (sSeq (sIf (tOr (tV (eBin cNe (eUn (gIsi ["bool"]) (eV 4)) (eUn (gIsi ["bool"]) (eV 5)))) (tV (eBin cNe (eUn (gIsi ["str"]) (eV 4)) (eUn (gIsi ["str"]) (eV 5)))))
  (sRet (eC (.bl false)))
  sNil)
  (sSeq (sIf (tV (eBin cNe (eUn (gIsi ["tuple", "list"]) (eV 4)) (eUn (gIsi ["tuple", "list"]) (eV 5))))
  (sRet (eC (.bl false)))
  sNil)
  (sIf (tTru (eUn (gIsi ["tuple", "list"]) (eV 4)))
  (sSeq (sIf (tOr (tV (eBin cNe (eUn (gIsi ["tuple"]) (eV 4)) (eUn (gIsi ["tuple"]) (eV 5)))) (tV (eBin cNe (eP gLen (aCons (eV 4) aNil)) (eP gLen (aCons (eV 5) aNil)))))
  (sRet (eC (.bl false)))
  sNil)
  (sExpr (eM "list" gExtend (eV 2) (aCons (eP gLZ (aCons (eV 4) (aCons (eV 5) aNil))) aNil))))
  (sIf (tV (eBin cNe (eV 4) (eV 5)))
  (sRet (eC (.bl false)))
  sNil)))))
noncomputable abbrev akL : MS := sWhile (tV (eBin cLt (eV 3) (eP gLen (aCons (eV 2) aNil)))) akB
noncomputable abbrev bAlike : MS := sSeq (sPar [2, 3] (aCons (eLst (aCons (eTup (aCons (eV 0) (aCons (eV 1) aNil))) aNil)) (aCons (eC (.int 0)) aNil)))
  (sSeq akL (sRet (eC (.bl true))))
section
variable {st : S}
theorem pre_at {st j : S} {c c' : Cell} {n : Nat} (h : st[n]? = some c') : (st ++ [c] ++ j)[n]? = some c' := by
  rw [List.append_assoc, List.getElem?_append_left (List.getElem?_eq_some_iff.mp h).1]; exact h
theorem mid_at {st j : S} {c : Cell} : (st ++ [c] ++ j)[st.length]? = some c := by
  rw [List.append_assoc, List.getElem?_append_right (Nat.le_refl _), Nat.sub_self]; rfl
theorem mid_set {st j : S} {c c' : Cell} : (st ++ [c] ++ j).set st.length c' = st ++ [c'] ++ j := by
  rw [List.append_assoc, List.set_append_right _ _ (Nat.le_refl _), Nat.sub_self, List.append_assoc]; rfl
theorem isi_ty {s : S} {d : D} {t : String} (h : tyD s d = some t) (Ts : List String) : gIsi Ts d s = some (.bl (Ts.any (isTy t)), s) := by unfold gIsi; rw [h]
theorem Sm.ty {n : Nat} {x y : D} (h : Sm st n x y) (c : Cell) (j : S) : ∃ t, tyD (st ++ [c] ++ j) x = some t ∧ tyD (st ++ [c] ++ j) y = some t := by
  cases h with
  | flat h => cases x <;> first | exact ⟨_, rfl, rfl⟩ | cases h
  | tup _ => exact ⟨_, rfl, rfl⟩
  | lst h1 h2 _ => exact ⟨_, tyL _ (pre_at h1), tyL _ (pre_at h2)⟩
theorem akS {x0 y0 x y z : D} {p a L : Nat} {t : String} {s s2 s3 : S} (q1 : ∀ Ts, gIsi Ts x s = some (.bl (Ts.any (isTy t)), s)) (q2 : ∀ Ts, gIsi Ts y s = some (.bl (Ts.any (isTy t)), s)) (ht : (["tuple", "list"].any (isTy t)) = true)
    (l1 : gLen [x] s = some (.int L, s)) (l2 : gLen [y] s = some (.int L, s)) (hlz : gLZ [x, y] s = some (z, s2)) (tyl : tyD s (.loc p) = some "list") (hex : gExtend [.loc p, z] s2 = some (.non, s3)) (els : MS) :
    (sIf (tTru (eUn (gIsi ["tuple", "list"]) (eV 4)))
      (sSeq (sIf (tOr (tV (eBin cNe (eUn (gIsi ["tuple"]) (eV 4)) (eUn (gIsi ["tuple"]) (eV 5)))) (tV (eBin cNe (eP gLen (aCons (eV 4) aNil)) (eP gLen (aCons (eV 5) aNil)))))
      (sRet (eC (.bl false)))
      sNil)
      (sExpr (eM "list" gExtend (eV 2) (aCons (eP gLZ (aCons (eV 4) (aCons (eV 5) aNil))) aNil)))) els)
      [some x0, some y0, some (.loc p), some (nD a), some x, some y] s = .nx [some x0, some y0, some (.loc p), some (nD a), some x, some y] s3 := by
  have v4 : (eBin cNe (eUn (gIsi ["tuple"]) (eV 4)) (eUn (gIsi ["tuple"]) (eV 5))) [some x0, some y0, some (.loc p), some (nD a), some x, some y] s = .ok (.bl false) s := by
    simp only [ev_Bin, ev_Un, ev_V, List.getElem?_cons_zero, List.getElem?_cons_succ, R.bind, q1, q2, ofO, cNe_bl]
    simp
  have v5 : (eBin cNe (eP gLen (aCons (eV 4) aNil)) (eP gLen (aCons (eV 5) aNil))) [some x0, some y0, some (.loc p), some (nD a), some x, some y] s = .ok (.bl false) s := by
    simp only [ev_Bin, ev_P, ev_aCons, ev_aNil, ev_V, List.getElem?_cons_zero, List.getElem?_cons_succ, R.bind, l1, l2, ofO, cNe_int]
    simp
  have v6 : (eM "list" gExtend (eV 2) (aCons (eP gLZ (aCons (eV 4) (aCons (eV 5) aNil))) aNil)) [some x0, some y0, some (.loc p), some (nD a), some x, some y] s = .ok .non s3 := by
    simp only [ev_M, ev_P, ev_aCons, ev_aNil, ev_V, List.getElem?_cons_zero, List.getElem?_cons_succ, R.bind, tyl, if_true, hlz, ofO, hex]
  have v7 : (tTru (eUn (gIsi ["tuple", "list"]) (eV 4))) [some x0, some y0, some (.loc p), some (nD a), some x, some y] s = .ok true s := by
    simp only [ev_tTru, ev_Un, ev_V, List.getElem?_cons_zero, List.getElem?_cons_succ, R.bind, q1, ofO, truD, ht]
  rw [ev_sIf, v7]
  simp only [R.toS, if_true]
  rw [ev_sSeq, ev_sIf, ev_tOr, ev_tV, v4]
  simp only [R.bind, onB, ev_tV, v5, R.toS, Bool.false_eq_true, if_false, ev_sNil]
  rw [ev_sExpr, v6]
  rfl
theorem akB_ok {x0 y0 : D} {o4 o5 : Option D} {ps : List D} {a : Nat} {x y : D} {n : Nat} {j : S} (hx : ps[a]? = some (.tup [x, y])) (h : Sm st n x y) (hz : ps.length + n ≤ 1000000) :
    ∃ ps' j', akB [some x0, some y0, some (.loc st.length), some (nD a), o4, o5] (st ++ [.lst ps] ++ j) = .nx [some x0, some y0, some (.loc st.length), some (nD (a + 1)), some x, some y] (st ++ [.lst (ps ++ ps')] ++ j') ∧ ∃ m, n = m + 1 ∧ SmP st m ps' ∧ ps'.length ≤ m := by
  obtain ⟨t, t1, t2⟩ := h.ty (.lst ps) j
  have hix : gIx (.loc st.length) (nD a) (st ++ [.lst ps] ++ j) = some (.tup [x, y], st ++ [.lst ps] ++ j) := pv_ixL mid_at (atI_nat hx)
  have ea : (a : Int) + 1 = ((a + 1 : Nat) : Int) := by omega
  have head : ∀ r : MS, (sSeq (sAsg (eBin gIx (eV 2) (eV 3)) (gT 2 (gC (gN 4) (gC (gN 5) gN0)))) (sSeq (sAug 3 bAddI (eC (.int 1))) (sSeq (sIf (tOr (tV (eBin cNe (eUn (gIsi ["bool"]) (eV 4)) (eUn (gIsi ["bool"]) (eV 5)))) (tV (eBin cNe (eUn (gIsi ["str"]) (eV 4)) (eUn (gIsi ["str"]) (eV 5)))))
      (sRet (eC (.bl false))) sNil) (sSeq (sIf (tV (eBin cNe (eUn (gIsi ["tuple", "list"]) (eV 4)) (eUn (gIsi ["tuple", "list"]) (eV 5)))) (sRet (eC (.bl false))) sNil) r)))) [some x0, some y0, some (.loc st.length), some (nD a), o4, o5] (st ++ [.lst ps] ++ j) =
      r [some x0, some y0, some (.loc st.length), some (nD (a + 1)), some x, some y] (st ++ [.lst ps] ++ j) := fun r => by
    have c1 : (sAsg (eBin gIx (eV 2) (eV 3)) (gT 2 (gC (gN 4) (gC (gN 5) gN0)))) [some x0, some y0, some (.loc st.length), some (nD a), o4, o5] (st ++ [.lst ps] ++ j) = .nx [some x0, some y0, some (.loc st.length), some (nD a), some x, some y] (st ++ [.lst ps] ++ j) := by
      simp only [ev_sAsg, ev_Bin, ev_V, List.getElem?_cons_zero, List.getElem?_cons_succ, R.bind]
      rw [hix]
      rfl
    have c2 : (sAug 3 bAddI (eC (.int 1))) [some x0, some y0, some (.loc st.length), some (nD a), some x, some y] (st ++ [.lst ps] ++ j) = .nx [some x0, some y0, some (.loc st.length), some (nD (a + 1)), some x, some y] (st ++ [.lst ps] ++ j) := by
      show RS.nx [some x0, some y0, some (.loc st.length), some (.int ((a : Int) + 1)), some x, some y] _ = _
      rw [ea]
    have q1 : ∀ Ts, gIsi Ts x (st ++ [.lst ps] ++ j) = some (.bl (Ts.any (isTy t)), st ++ [.lst ps] ++ j) := isi_ty t1
    have q2 : ∀ Ts, gIsi Ts y (st ++ [.lst ps] ++ j) = some (.bl (Ts.any (isTy t)), st ++ [.lst ps] ++ j) := isi_ty t2
    generalize st ++ [.lst ps] ++ j = s at *
    have v4 : ∀ Ts, (eBin cNe (eUn (gIsi Ts) (eV 4)) (eUn (gIsi Ts) (eV 5))) [some x0, some y0, some (.loc st.length), some (nD (a + 1)), some x, some y] s = .ok (.bl false) s := fun Ts => by
      simp only [ev_Bin, ev_Un, ev_V, List.getElem?_cons_zero, List.getElem?_cons_succ, R.bind, q1, q2, ofO, cNe_bl]
      simp
    rw [ev_sSeq, c1]
    dsimp only
    rw [ev_sSeq, c2]
    dsimp only
    rw [ev_sSeq, ev_sIf, ev_tOr, ev_tV, v4]
    simp only [R.bind, onB, ev_tV, v4, R.toS, Bool.false_eq_true, if_false, ev_sNil]
    rw [ev_sSeq, ev_sIf, ev_tV, v4]
    simp only [R.bind, onB, R.toS, Bool.false_eq_true, if_false, ev_sNil]
  cases h with
  | flat hf =>
    refine ⟨[], j, (head _).trans ?_, 0, rfl, .nil, Nat.le_refl _⟩
    have nt : (["tuple", "list"].any (isTy t)) = false := by
      cases x <;> first | (cases t1; decide) | cases hf
    have ne : cNe x x (st ++ [.lst ps] ++ j) = some (.bl false, st ++ [.lst ps] ++ j) := by
      rw [cNe_flat hf hf, SeqAt.eqv_refl _ (dat_flat (st := st) hf).2.1]
      rfl
    simp only [ev_sIf, ev_tTru, ev_Un, ev_V, List.getElem?_cons_zero, List.getElem?_cons_succ, R.bind, isi_ty t1, ofO, nt, R.toS, truD, Bool.false_eq_true, if_false, ev_tV, ev_Bin, ne, onB, ev_sNil, List.append_nil]
  | @tup m xs ys hl =>
    obtain ⟨zp, hle, hzl⟩ := hl.zip
    have hle2 := hl.le
    have hlz : gLZ [.tup xs, .tup ys] (st ++ [.lst ps] ++ j) = some (.loc (st ++ [Cell.lst ps] ++ j).length, st ++ [.lst ps] ++ (j ++ [.lst (zipD xs ys)])) := by
      show some (D.loc (st ++ [Cell.lst ps] ++ j).length, st ++ [Cell.lst ps] ++ j ++ [Cell.lst (zipD xs ys)]) = _
      rw [List.append_assoc _ j]
    have zat : (st ++ [Cell.lst ps] ++ (j ++ [Cell.lst (zipD xs ys)]))[(st ++ [Cell.lst ps] ++ j).length]? = some (.lst (zipD xs ys)) := by rw [← List.append_assoc _ j]; exact get_last _ _
    have hex : gExtend [.loc st.length, .loc (st ++ [Cell.lst ps] ++ j).length] (st ++ [.lst ps] ++ (j ++ [.lst (zipD xs ys)])) = some (.non, st ++ [.lst (ps ++ zipD xs ys)] ++ (j ++ [.lst (zipD xs ys)])) := by
      unfold gExtend
      dsimp only
      rw [mid_at, zat]
      refine (if_pos (by rw [sizeLine_eq, hzl]; omega)).trans ?_
      rw [mid_set]
    refine ⟨zipD xs ys, j ++ [.lst (zipD xs ys)], (head _).trans ?_, m, rfl, zp, by omega⟩
    exact akS (t := "tuple") (isi_ty rfl) (isi_ty rfl) rfl rfl (by rw [hle]; rfl) hlz (tyL _ mid_at) hex _
  | @lst m p q xs ys hi hj hl =>
    obtain ⟨zp, hle, hzl⟩ := hl.zip
    have hle2 := hl.le
    have hi2 := pre_at (c := .lst ps) (j := j) hi
    have hj2 := pre_at (c := .lst ps) (j := j) hj
    have hlz : gLZ [.loc p, .loc q] (st ++ [.lst ps] ++ j) = some (.loc (st ++ [Cell.lst ps] ++ j).length, st ++ [.lst ps] ++ (j ++ [.lst (zipD xs ys)])) := by
      unfold gLZ
      dsimp only
      rw [pv_itL _ hi2, pv_itL _ hj2]
      dsimp only
      rw [List.append_assoc _ j]
    have zat : (st ++ [Cell.lst ps] ++ (j ++ [Cell.lst (zipD xs ys)]))[(st ++ [Cell.lst ps] ++ j).length]? = some (.lst (zipD xs ys)) := by rw [← List.append_assoc _ j]; exact get_last _ _
    have hex : gExtend [.loc st.length, .loc (st ++ [Cell.lst ps] ++ j).length] (st ++ [.lst ps] ++ (j ++ [.lst (zipD xs ys)])) = some (.non, st ++ [.lst (ps ++ zipD xs ys)] ++ (j ++ [.lst (zipD xs ys)])) := by
      unfold gExtend
      dsimp only
      rw [mid_at, zat]
      refine (if_pos (by rw [sizeLine_eq, hzl]; omega)).trans ?_
      rw [mid_set]
    refine ⟨zipD xs ys, j ++ [.lst (zipD xs ys)], (head _).trans ?_, m, rfl, zp, by omega⟩
    exact akS (t := "list") (isi_ty (tyL _ hi2)) (isi_ty (tyL _ hj2)) rfl (pv_lenL _ hi2) (by rw [hle]; exact pv_lenL _ hj2) hlz (tyL _ mid_at) hex _
theorem drop_cons {α : Type} {l : List α} {a : Nat} {x : α} {r : List α} (h : l.drop a = x :: r) : l[a]? = some x ∧ l.drop (a + 1) = r ∧ a < l.length := by
  have hl : a < l.length := by
    apply Nat.lt_of_not_le
    intro z
    rw [List.drop_of_length_le z] at h
    cases h
  refine ⟨?_, ?_, hl⟩
  · have := congrArg (fun z => z[0]?) h
    simpa using this
  · rw [← List.drop_drop, h]; rfl
theorem akL_ok {x0 y0 : D} : ∀ (W : Nat) (ps : List D) (a : Nat) (j : S) (o4 o5 : Option D), SmP st W (ps.drop a) → a ≤ ps.length → a + W ≤ 500000 →
    ∃ env' ps' j', akL [some x0, some y0, some (.loc st.length), some (nD a), o4, o5] (st ++ [.lst ps] ++ j) = .nx env' (st ++ [.lst ps'] ++ j') := by
  intro W
  induction W using Nat.strongRecOn with
  | ind W ih =>
    intro ps a j o4 o5 hp ha hz
    have hlen : gLen [.loc st.length] (st ++ [.lst ps] ++ j) = some (.int ps.length, st ++ [.lst ps] ++ j) := pv_lenL _ mid_at
    have hpl := hp.le
    rw [List.length_drop] at hpl
    generalize hd : ps.drop a = r at hp
    cases hp with
    | nil =>
      have : ps.length ≤ a := by
        have := congrArg List.length hd
        simp at this
        omega
      refine ⟨_, ps, j, wh_end (st1 := st ++ [.lst ps] ++ j) ?_⟩
      have hn : ¬ ((a : Int) < (ps.length : Int)) := by omega
      simp only [ev_tV, ev_Bin, ev_V, ev_P, ev_aCons, ev_aNil, List.getElem?_cons_zero, List.getElem?_cons_succ, R.bind, hlen, ofO, pv_int, onB, decide_eq_false hn]
    | @cons n m x y qs hs hq =>
      obtain ⟨h1, h2, h3⟩ := drop_cons hd
      obtain ⟨ps', j', eb, m', rfl, hp', hl'⟩ := akB_ok (x0 := x0) (y0 := y0) (o4 := o4) (o5 := o5) (j := j) h1 hs (by omega)
      have hn : ((a : Int) < (ps.length : Int)) := by omega
      obtain ⟨env', ps2, j2, e2⟩ := ih (m + m') (by omega) (ps ++ ps') (a + 1) j' (some x) (some y) (by
        rw [List.drop_append_of_le_length (by omega), h2]
        exact hq.snoc hp') (by rw [List.length_append]; omega) (by omega)
      refine ⟨env', ps2, j2, (wh_go (st1 := st ++ [.lst ps] ++ j) ?_ (.inl eb)).trans e2⟩
      simp only [ev_tV, ev_Bin, ev_V, ev_P, ev_aCons, ev_aNil, List.getElem?_cons_zero, List.getElem?_cons_succ, R.bind, hlen, ofO, pv_int, onB, decide_eq_true hn]
theorem alike_ok {n : Nat} {x y : D} (h : Sm st n x y) (hz : n ≤ 400000) : runF 2 6 bAlike [x, y] st = .ok (.bl true) st := by
  obtain ⟨env', ps', j', e⟩ := akL_ok (st := st) (x0 := x) (y0 := y) n [.tup [x, y]] 0 [] none none (.cons (m := 0) h .nil) (by simp) (by omega)
  rw [List.append_nil] at e
  have hb : bAlike (ent 6 [x, y]) st = .ret (.bl true) (st ++ ([.lst ps'] ++ j')) := by
    have he : ent 6 [x, y] = [some x, some y, none, none, none, none] := rfl
    have two : (2 : Nat) ≤ sizeLine := by rw [sizeLine_eq]; decide
    have one : (1 : Nat) ≤ sizeLine := by rw [sizeLine_eq]; decide
    rw [he]
    have c0 : (sPar [2, 3] (aCons (eLst (aCons (eTup (aCons (eV 0) (aCons (eV 1) aNil))) aNil)) (aCons (eC (.int 0)) aNil))) [some x, some y, none, none, none, none] st = .nx [some x, some y, some (.loc st.length), some (nD 0), none, none] (st ++ [.lst [.tup [x, y]]]) := by
      simp [two, one]
    delta bAlike
    rw [ev_sSeq, c0]
    dsimp only
    rw [ev_sSeq, e]
    simp [R.toS]
  exact (runF_at rfl hb).trans (trim_ok rfl)
end
end DL
set_option Elab.async false
set_option linter.all false
set_option maxRecDepth 100000
set_option maxHeartbeats 1000000
/-! DL24: draws and comparisons as steps -/
namespace DL
open PySem L2
section
variable {k m : Nat} {cells : List Nat} {env : Ev} {s s1 s2 : S}
/-- a draw: eF of the taker at the bag's slot -/
theorem tk_ev {i n : Nat} {e : ME} (B : Bag s k m cells) (hi : env[i]? = some (some (.loc k))) (he : e env s = .ok (nD n) s) (hn : 0 < n) (hn2 : n < 2 ^ 64) :
    ∃ v s', v < n ∧ (eF (runF 2 7 bTake) (aCons (eV i) (aCons e aNil))) env s = .ok (nD v) s' ∧ Nx k m cells s s' := by
  obtain ⟨v, s', hv, e1, n1, _⟩ := take_nx B hn hn2
  refine ⟨v, s', hv, ?_, n1⟩
  simp only [ev_F, ev_aCons, ev_aNil, ev_V, hi, R.bind, he]
  exact e1
theorem r1_ev {e : ME} {n : Nat} (he : e env s = .ok (nD n) s1) (hn : n < 2 ^ 62) : iR1 e env s = .ok (rngD 0 (n : Int), fun _ => True) s1 := by
  have h1 : -(2 ^ 62 : Int) ≤ (n : Int) := by omega
  have h2 : (n : Int) < 2 ^ 62 := by omega
  simp only [ev_iR1, he, R.bind, onI]
  rw [if_pos ⟨h1, h2⟩]
/-- tuple([el for v in it]): every part drawn -/
theorem lc_tup {it : MI} {v : Nat} {el : ME} {ds : List D} {P : Nat → Prop} (N1 : Nx k m cells s s1) (h1 : it env s = .ok (ds, fun _ => True) s1) (hz : ds.length ≤ 1000000)
    (hel : ∀ st d, Bag st k m cells → ∃ x st', P x ∧ el ((wipeE env [v]).set v (some d)) st = .ok (nD x) st' ∧ Nx k m cells st st') :
    ∃ (l : List Nat) (s' : S), l.length = ds.length ∧ (∀ x ∈ l, P x) ∧ (eP gTuple (aCons (eLc it [v] (gN v) tYes' el) aNil)) env s = .ok (.tup (l.map nD)) s' ∧ Nx k m cells s s' := by
  obtain ⟨zs, s2, hl, hQ, e, n2⟩ := lc_draw (Q := fun x => ∃ n, P n ∧ x = nD n) (v := v) (el := el) (env := wipeE env [v]) (fun st d B => by
    obtain ⟨x, st', hx, e, n⟩ := hel st d B
    exact ⟨_, st', ⟨x, hx, rfl⟩, e, n⟩) (ds := ds) N1.bag
  obtain ⟨l, hP, rfl⟩ := nats_of hQ
  have hll : l.length = ds.length := by rw [← hl, List.length_map]
  have e2 := ev_lc (vs := [v]) h1 e (by rw [sizeLine_eq, List.length_map]; omega)
  refine ⟨l, s2 ++ [.lst (l.map nD)], hll, hP, ?_, (N1.trans n2).trans (Nx.push (c := .lst (l.map nD)) n2.bag (lowDs_nat _ l))⟩
  simp only [ev_P, ev_aCons, ev_aNil, R.bind, e2, pv_tupL _ (get_last _ _), ofO]
/-- «if not alike(a, b): return False» goes on -/
theorem ak_if {a b : ME} {x y : D} {n : Nat} {r : MS} (ha : a env s = .ok x s1) (hb : b env s1 = .ok y s2) (h : Sm s2 n x y) (hz : n ≤ 400000) :
    (sIf (tNot (tTru (eF (runF 2 6 bAlike) (aCons a (aCons b aNil))))) r sNil) env s = .nx env s2 := by
  have e := alike_ok h hz
  simp only [ev_sIf, ev_tNot, ev_tTru, ev_F, ev_aCons, ev_aNil, ha, hb, R.bind, e]
  rfl
theorem set_ev {i : Nat} {e : ME} {d : D} (h : e env s = .ok d s1) : sSet i e env s = .nx (env.set i (some d)) s1 := by
  rw [ev_sSet, h]
  rfl
end
theorem sm_int {st : S} (i : Int) : Sm st 1 (.int i) (.int i) := .flat rfl
theorem sm_bl {st : S} (b : Bool) : Sm st 1 (.bl b) (.bl b) := .flat rfl
theorem sm_nats {st : S} : ∀ l : List Nat, SmL st l.length (l.map nD) (l.map nD)
  | [] => .nil
  | x :: l => by
    have := SmL.cons (sm_int (st := st) (x : Int)) (sm_nats l)
    rw [Nat.add_comm] at this
    exact this
theorem sm_tupN {st : S} (l : List Nat) : Sm st (l.length + 1) (.tup (l.map nD)) (.tup (l.map nD)) := .tup (sm_nats l)
theorem sm_str {st : S} (x : Str) (h : PyData.strOk x = true) : Sm st 1 (.str x) (.str x) := .flat (p := .str x) (if_pos h)
theorem sm2 {st : S} {a b : Nat} {x x' y y' : D} (h1 : Sm st a x x') (h2 : Sm st b y y') : SmL st (a + (b + 0)) [x, y] [x', y'] := .cons h1 (.cons h2 .nil)
theorem sm3 {st : S} {a b c : Nat} {x x' y y' z z' : D} (h1 : Sm st a x x') (h2 : Sm st b y y') (h3 : Sm st c z z') : SmL st (a + (b + (c + 0))) [x, y, z] [x', y', z'] := .cons h1 (.cons h2 (.cons h3 .nil))
end DL
set_option Elab.async false
set_option linter.all false
set_option maxRecDepth 100000
set_option maxHeartbeats 4000000
namespace K43
open PySem L2 DL
def top (i : Nat) : Stmt := PySem.Challenge.pw_downline_k43_integers_as_octets_and_chec.main.body.getD i (.Pass ⟨0, 0, 0, 0⟩)
abbrev s__law_bag : Stmt := top 16
abbrev s__law_take : Stmt := top 17
abbrev s__law_some : Stmt := top 18
abbrev s__law_integer_octets : Stmt := top 20
abbrev s_read_integer : Stmt := top 11
abbrev s__law_alike : Stmt := top 19
abbrev s_integer_octets : Stmt := top 10
abbrev s__law_read : Stmt := top 23
abbrev s__law_told : Stmt := top 24
abbrev s__law_check : Stmt := top 21
abbrev s__law_sealed : Stmt := top 22
abbrev s_check_of : Stmt := top 12
abbrev s_sealed : Stmt := top 13
abbrev s_is_sealed : Stmt := top 14
abbrev s_law : Stmt := top 25
/-- what the top has written -/
structure Txt (P : Program) (w : World) (K : PySem.W.Frag) (mg : MG) : Prop where
  b_abs : mg "abs" = none
  b_bool : mg "bool" = none
  b_int : mg "int" = none
  b_isinstance : mg "isinstance" = none
  b_len : mg "len" = none
  b_list : mg "list" = none
  b_range : mg "range" = none
  b_str : mg "str" = none
  b_tuple : mg "tuple" = none
  b_zip : mg "zip" = none
  c_CHECK : ∃ t, mg "CHECK" = some (.int 4 t)
  c_FACTOR : ∃ t, mg "FACTOR" = some (.int 257 t)
  c_GROUP : ∃ t, mg "GROUP" = some (.int 7 t)
  c_HALF : ∃ t, mg "HALF" = some (.int 128 t)
  c_MODULUS : ∃ t, mg "MODULUS" = some (.int 4294967291 t)
  f__law_bag : FnT K mg "_law_bag" s__law_bag ["script"]
  f__law_take : FnT K mg "_law_take" s__law_take ["bag", "many"]
  f__law_some : FnT K mg "_law_some" s__law_some ["bag", "things"]
  f__law_integer_octets : FnT K mg "_law_integer_octets" s__law_integer_octets ["number"]
  f_read_integer : FnT K mg "read_integer" s_read_integer ["octets", "place"]
  f__law_alike : FnT K mg "_law_alike" s__law_alike ["found", "due"]
  f_integer_octets : FnT K mg "integer_octets" s_integer_octets ["number"]
  f__law_read : FnT K mg "_law_read" s__law_read ["octets", "place"]
  f__law_told : FnT K mg "_law_told" s__law_told ["octets", "place"]
  f__law_check : FnT K mg "_law_check" s__law_check ["octets"]
  f__law_sealed : FnT K mg "_law_sealed" s__law_sealed ["octets"]
  f_check_of : FnT K mg "check_of" s_check_of ["octets"]
  f_sealed : FnT K mg "sealed" s_sealed ["octets"]
  f_is_sealed : FnT K mg "is_sealed" s_is_sealed ["octets"]
  x_BadBytes : XCk P w K mg "BadBytes" ["index", "fault"]
  xf_BadBytes : ∀ {C : Addr}, mg "BadBytes" = some (.ref C) → XfC K C ∧ PySem.W.findIn K (.ref C) "index" = some none ∧ PySem.W.findIn K (.ref C) "fault" = some none
  e_BadBytes_BadBytes : ∀ {C C2 : Addr}, mg "BadBytes" = some (.ref C) → mg "BadBytes" = some (.ref C2) → PySem.W.exmOne K (.ref C) (.ref C2) = some true
def mt_BadBytes : Str → Option Bool := fun x => if x = "BadBytes" then some true else none
theorem mtok_BadBytes {P : Program} {w : World} {K : PySem.W.Frag} {mg : MG} (T : Txt P w K mg) {C : Addr} (hC : mg "BadBytes" = some (.ref C)) : MtOk K mg (.ref C) mt_BadBytes := fun x b D h hx => by
  unfold mt_BadBytes at h
  split at h
  · rename_i e; subst e; cases h; exact T.e_BadBytes_BadBytes hx hC
  · cases h
theorem sc__law_bag : FnScope ["script", "cell"] ["script"] (defScope s__law_bag) := ⟨rfl, rfl, rfl, by decide +kernel, rfl, by decide +kernel, by decide +kernel⟩
noncomputable def b__law_bag : MS :=
  (sRet (eLst (aCons (eC (.int 0)) (aCons (eC (.int 1234567891)) (aCons (eC (.int 0)) (aCons (eLc (iSeq (eSl gSl (eV 0) oNone (oSome (eC (.int 63))))) [1] (gN 1) tYes' (eP gAbs (aCons (eV 1) aNil))) aNil))))))
noncomputable def F__law_bag : MF := runF 1 2 b__law_bag
theorem cd__law_bag {P : Program} {w : World} {K : PySem.W.Frag} {mg : MG} {base : Heap} (T : Txt P w K mg) : Cd P w K mg base 2 "_law_bag" 1 F__law_bag := by
  refine T.f__law_bag.cd (k := 1) sc__law_bag rfl rfl fun f cdv A outer s H E hr => ?_
  have tk : Takes (cxOf (L2.CX P w) P w K mg base ["script", "cell"] "_law_bag" (defScope s__law_bag) f cdv A outer s H E) (wx E) := takes_of rfl rfl rfl rfl
  have hp := passes_of (X := cxOf (L2.CX P w) P w K mg base ["script", "cell"] "_law_bag" (defScope s__law_bag) f cdv A outer s H E) rfl
  exact (rss_one (rs_ret (re_lst (ra_cons re_int (ra_cons re_int (ra_cons re_int (ra_cons (re_lc rfl sc__law_bag.nd (ri_seq (re_sl sl_any (re_v 0) ro_none (ro_some re_int))) (own := [("cell", 1)]) (blk_of (by kernel_rfl)) (by decide) (fun _ _ _ _ _ => (rg_n 1 sc__law_bag.nd)) (fun _ _ _ _ _ => rts_nil) (fun _ _ _ _ _ => (re_abs T.b_abs (ra_cons (re_v 1) ra_nil)))) ra_nil)))))))
theorem sc__law_take : FnScope ["bag", "many", "cell", "stirred", "value", "begin", "second"] ["bag", "many"] (defScope s__law_take) := ⟨rfl, rfl, rfl, by decide +kernel, rfl, by decide +kernel, by decide +kernel⟩
noncomputable def b__law_take : MS :=
  (sSeq (sIf (tV (eBin cEq (eBin gIx (eV 0) (eC (.int 0))) (eC (.int 0))))
  (sSeq (sSet 2 (eBin gIx (eBin bAdd (eSl gSl (eBin gIx (eV 0) (eC (.int 3))) (oSome (eBin gIx (eV 0) (eC (.int 2)))) oNone) (eLst (aCons (eC (.int 0)) aNil))) (eC (.int 0))))
  (sSeq (sAugS (eV 0) (eC (.int 2)) (eC (.int 1)) bAddI)
  (sSeq (sIf (tV (eBin cGe (eV 2) (eBin bPow (eC (.int 10)) (eC (.int 18)))))
  (sAsg (eV 2) (gSubL (eV 0) (eC (.int 0))))
  sNil)
  (sSeq (sSet 3 (eBin bAdd (eBin bAdd (eBin bMul (eBin gIx (eV 0) (eC (.int 1))) (eC (.int 48271))) (eBin bMod (eP gInt (aCons (eV 2) aNil)) (eC (.int 2147483647)))) (eBin bMul (eC (.int 7919)) (eBin gIx (eV 0) (eC (.int 2))))))
  (sAsg (eBin bMod (eP gInt (aCons (eV 3) aNil)) (eC (.int 2147483647))) (gSubL (eV 0) (eC (.int 1))))))))
  sNil)
  (sSeq (sIf (tV (eBin cGt (eBin gIx (eV 0) (eC (.int 0))) (eC (.int 0))))
  (sSeq (sSet 4 (eBin bMod (eP gInt (aCons (eBin gIx (eV 0) (eC (.int 0))) aNil)) (eV 1)))
  (sSeq (sAsg (eBin bFdiv (eP gInt (aCons (eBin gIx (eV 0) (eC (.int 0))) aNil)) (eV 1)) (gSubL (eV 0) (eC (.int 0))))
  (sRet (eV 4))))
  sNil)
  (sSeq (sSet 5 (eBin bMod (eP gInt (aCons (eBin bMul (eBin bAdd (eBin gIx (eV 0) (eC (.int 1))) (eC (.int 1))) (eC (.int 39373))) aNil)) (eC (.int 1000000007))))
  (sSeq (sSet 6 (eBin bMod (eP gInt (aCons (eBin bMul (eBin bMod (eP gInt (aCons (eBin bMul (eV 5) (eV 5)) aNil)) (eC (.int 998244353))) (eC (.int 30011))) aNil)) (eC (.int 998244353))))
  (sRet (eBin bMod (eP gInt (aCons (eBin bFdiv (eV 6) (eC (.int 7))) aNil)) (eV 1)))))))
noncomputable def F__law_take : MF := runF 2 7 b__law_take
theorem cd__law_take {P : Program} {w : World} {K : PySem.W.Frag} {mg : MG} {base : Heap} (T : Txt P w K mg) : Cd P w K mg base 2 "_law_take" 2 F__law_take := by
  refine T.f__law_take.cd (k := 1) sc__law_take rfl rfl fun f cdv A outer s H E hr => ?_
  have tk : Takes (cxOf (L2.CX P w) P w K mg base ["bag", "many", "cell", "stirred", "value", "begin", "second"] "_law_take" (defScope s__law_take) f cdv A outer s H E) (wx E) := takes_of rfl rfl rfl rfl
  have hp := passes_of (X := cxOf (L2.CX P w) P w K mg base ["bag", "many", "cell", "stirred", "value", "begin", "second"] "_law_take" (defScope s__law_take) f cdv A outer s H E) rfl
  exact (rss_cons (rs_if (rt_cmp (o_eq hr.units) (re_ix ix_any (re_v 0) re_int (fun _ _ => rfl)) re_int (nomark _))
  (rss_cons (rs_set 2 sc__law_take.nd (re_ix ix_any (re_op2 o_add (re_sl sl_any (re_ix ix_any (re_v 0) re_int (fun _ _ => rfl)) (ro_some (re_ix ix_any (re_v 0) re_int (fun _ _ => rfl))) ro_none) (re_lst (ra_cons re_int ra_nil))) re_int (fun _ _ => rfl)))
  (rss_cons (rs_augS (re_v 0) re_int re_int io_addI)
  (rss_cons (rs_if (rt_cmp o_ge (re_v 2) (re_op2 o_pow re_int re_int) (nomark _))
  (rss_one (rs_asg (re_v 2) (rg_sub (re_v 0) re_int)))
  rss_nil)
  (rss_cons (rs_set 3 sc__law_take.nd (re_op2 o_add (re_op2 o_add (re_op2 o_mul (re_ix ix_any (re_v 0) re_int (fun _ _ => rfl)) re_int) (re_op2 o_mod (re_toint T.b_int (ra_cons (re_v 2) ra_nil)) re_int)) (re_op2 o_mul re_int (re_ix ix_any (re_v 0) re_int (fun _ _ => rfl)))))
  (rss_one (rs_asg (re_op2 o_mod (re_toint T.b_int (ra_cons (re_v 3) ra_nil)) re_int) (rg_sub (re_v 0) re_int)))))))
  rss_nil)
  (rss_cons (rs_if (rt_cmp o_gt (re_ix ix_any (re_v 0) re_int (fun _ _ => rfl)) re_int (nomark _))
  (rss_cons (rs_set 4 sc__law_take.nd (re_op2 o_mod (re_toint T.b_int (ra_cons (re_ix ix_any (re_v 0) re_int (fun _ _ => rfl)) ra_nil)) (re_v 1)))
  (rss_cons (rs_asg (re_op2 o_fdiv (re_toint T.b_int (ra_cons (re_ix ix_any (re_v 0) re_int (fun _ _ => rfl)) ra_nil)) (re_v 1)) (rg_sub (re_v 0) re_int))
  (rss_one (rs_ret (re_v 4)))))
  rss_nil)
  (rss_cons (rs_set 5 sc__law_take.nd (re_op2 o_mod (re_toint T.b_int (ra_cons (re_op2 o_mul (re_op2 o_add (re_ix ix_any (re_v 0) re_int (fun _ _ => rfl)) re_int) re_int) ra_nil)) re_int))
  (rss_cons (rs_set 6 sc__law_take.nd (re_op2 o_mod (re_toint T.b_int (ra_cons (re_op2 o_mul (re_op2 o_mod (re_toint T.b_int (ra_cons (re_op2 o_mul (re_v 5) (re_v 5)) ra_nil)) re_int) re_int) ra_nil)) re_int))
  (rss_one (rs_ret (re_op2 o_mod (re_toint T.b_int (ra_cons (re_op2 o_fdiv (re_v 6) re_int) ra_nil)) (re_v 1))))))))
theorem sc__law_some : FnScope ["bag", "things"] ["bag", "things"] (defScope s__law_some) := ⟨rfl, rfl, rfl, by decide +kernel, rfl, by decide +kernel, by decide +kernel⟩
noncomputable def b__law_some : MS :=
  (sRet (eBin gIx (eV 1) (eF F__law_take (aCons (eV 0) (aCons (eP gLen (aCons (eV 1) aNil)) aNil)))))
noncomputable def F__law_some : MF := runF 2 2 b__law_some
theorem cd__law_some {P : Program} {w : World} {K : PySem.W.Frag} {mg : MG} {base : Heap} (T : Txt P w K mg) : Cd P w K mg base 3 "_law_some" 2 F__law_some := by
  refine T.f__law_some.cd (k := 2) sc__law_some rfl rfl fun f cdv A outer s H E hr => ?_
  have tk : Takes (cxOf (L2.CX P w) P w K mg base ["bag", "things"] "_law_some" (defScope s__law_some) f cdv A outer s H E) (wx E) := takes_of rfl rfl rfl rfl
  have hp := passes_of (X := cxOf (L2.CX P w) P w K mg base ["bag", "things"] "_law_some" (defScope s__law_some) f cdv A outer s H E) rfl
  exact (rss_one (rs_ret (re_ix ix_any (re_v 1) (re_call (cd__law_take T) (hr.mono (by decide)) tk (ra_cons (re_v 0) (ra_cons (re_len T.b_len (ra_cons (re_v 1) ra_nil)) ra_nil))) (fun _ _ => rfl))))
theorem sc__law_integer_octets : FnScope ["number", "found", "rest", "turn"] ["number"] (defScope s__law_integer_octets) := ⟨rfl, rfl, rfl, by decide +kernel, rfl, by decide +kernel, by decide +kernel⟩
noncomputable def b__law_integer_octets : MS :=
  (sSeq (sSet 1 (eLst (aCons (eBin bMod (eP gInt (aCons (eV 0) aNil)) (eC (.int 128))) aNil)))
  (sSeq (sSet 2 (eBin bFdiv (eP gInt (aCons (eV 0) aNil)) (eC (.int 128))))
  (sSeq (sFor (iR1 (eC (.int 400))) (gN 3)
  (sSeq (sIf (tV (eBin cEq (eV 2) (eC (.int 0))))
  sBrk
  sNil)
  (sSeq (sAsg (eBin bAdd (eBin gIx (eV 1) (eUn gNeg (eC (.int 1)))) (eC (.int 128))) (gSubL (eV 1) (eUn gNeg (eC (.int 1)))))
  (sSeq (sExpr (eM "list" gAppend (eV 1) (aCons (eBin bMod (eP gInt (aCons (eV 2) aNil)) (eC (.int 128))) aNil)))
  (sSet 2 (eBin bFdiv (eP gInt (aCons (eV 2) aNil)) (eC (.int 128))))))))
  (sRet (eP gTuple (aCons (eV 1) aNil))))))
noncomputable def F__law_integer_octets : MF := runF 1 4 b__law_integer_octets
theorem cd__law_integer_octets {P : Program} {w : World} {K : PySem.W.Frag} {mg : MG} {base : Heap} (T : Txt P w K mg) : Cd P w K mg base 2 "_law_integer_octets" 1 F__law_integer_octets := by
  refine T.f__law_integer_octets.cd (k := 1) sc__law_integer_octets rfl rfl fun f cdv A outer s H E hr => ?_
  have tk : Takes (cxOf (L2.CX P w) P w K mg base ["number", "found", "rest", "turn"] "_law_integer_octets" (defScope s__law_integer_octets) f cdv A outer s H E) (wx E) := takes_of rfl rfl rfl rfl
  have hp := passes_of (X := cxOf (L2.CX P w) P w K mg base ["number", "found", "rest", "turn"] "_law_integer_octets" (defScope s__law_integer_octets) f cdv A outer s H E) rfl
  exact (rss_cons (rs_set 1 sc__law_integer_octets.nd (re_lst (ra_cons (re_op2 o_mod (re_toint T.b_int (ra_cons (re_v 0) ra_nil)) re_int) ra_nil)))
  (rss_cons (rs_set 2 sc__law_integer_octets.nd (re_op2 o_fdiv (re_toint T.b_int (ra_cons (re_v 0) ra_nil)) re_int))
  (rss_cons (rs_for hp rfl (ri_r1 rfl T.b_range re_int) (rg_n 3 sc__law_integer_octets.nd)
  (rss_cons (rs_if (rt_cmp (o_eq hr.units) (re_v 2) re_int (nomark _))
  (rss_one rs_brk)
  rss_nil)
  (rss_cons (rs_asg (re_op2 o_add (re_ix ix_any (re_v 1) (re_neg re_int) (fun _ _ => rfl)) re_int) (rg_sub (re_v 1) (re_neg re_int)))
  (rss_cons (rs_expr (re_m (.inl rfl) PySem.F.plainAttrs_list PySem.F.slot_list_append PySem.F.type_list_append ml_append (re_v 1) (ra_cons (re_op2 o_mod (re_toint T.b_int (ra_cons (re_v 2) ra_nil)) re_int) ra_nil)))
  (rss_one (rs_set 2 sc__law_integer_octets.nd (re_op2 o_fdiv (re_toint T.b_int (ra_cons (re_v 2) ra_nil)) re_int)))))))
  (rss_one (rs_ret (re_totup T.b_tuple (ra_cons (re_v 1) ra_nil)))))))
theorem sc_read_integer : FnScope ["octets", "place", "at", "bits", "octet"] ["octets", "place"] (defScope s_read_integer) := ⟨rfl, rfl, rfl, by decide +kernel, rfl, by decide +kernel, by decide +kernel⟩
noncomputable def b_read_integer : MS :=
  (sSeq (sSet 2 (eV 1))
  (sSeq (sWhile (tAnd (tV (eBin cLt (eV 2) (eP gLen (aCons (eV 0) aNil)))) (tV (eBin cGe (eBin gIx (eV 0) (eV 2)) (eC (.int 128)))))
  (sAug 2 bAddI (eC (.int 1))))
  (sSeq (sIf (tOr (tV (eBin cEq (eV 2) (eP gLen (aCons (eV 0) aNil)))) (tAnd (tV (eBin cEq (eBin gIx (eV 0) (eV 2)) (eC (.int 0)))) (tV (eBin cGt (eV 2) (eV 1)))))
  (sRaise "BadBytes" ["index", "fault"] (aCons (eV 1) (aCons (eC (.str "integer")) aNil)))
  sNil)
  (sSeq (sSet 3 (eM "str" gJoin (eC (.str "")) (aCons (eLc (iSeq (eUn gRev (eSl gSl (eV 0) (oSome (eV 1)) (oSome (eBin bAdd (eV 2) (eC (.int 1))))))) [4] (gN 4) tYes' (eUn gB7 (eBin bAnd (eV 4) (eBin bSub (eC (.int 128)) (eC (.int 1)))))) aNil)))
  (sRet (eTup (aCons (eP gIntB (aCons (eV 3) (aCons (eC (.int 2)) aNil))) (aCons (eBin bAdd (eV 2) (eC (.int 1))) aNil))))))))
noncomputable def F_read_integer : MF := runF 2 5 b_read_integer
theorem cd_read_integer {P : Program} {w : World} {K : PySem.W.Frag} {mg : MG} {base : Heap} (T : Txt P w K mg) : Cd P w K mg base 3 "read_integer" 2 F_read_integer := by
  refine T.f_read_integer.cd (k := 2) sc_read_integer rfl rfl fun f cdv A outer s H E hr => ?_
  have tk : Takes (cxOf (L2.CX P w) P w K mg base ["octets", "place", "at", "bits", "octet"] "read_integer" (defScope s_read_integer) f cdv A outer s H E) (wx E) := takes_of rfl rfl rfl rfl
  have hp := passes_of (X := cxOf (L2.CX P w) P w K mg base ["octets", "place", "at", "bits", "octet"] "read_integer" (defScope s_read_integer) f cdv A outer s H E) rfl
  exact (rss_cons (rs_set 2 sc_read_integer.nd (re_v 1))
  (rss_cons (rs_while hp (RW.rt (rw_and (rt_cmp o_lt (re_v 2) (re_len T.b_len (ra_cons (re_v 0) ra_nil)) (nomark _)) (rw_and1 (rt_cmp o_ge (re_ix ix_any (re_v 0) (re_v 2) (fun _ _ => rfl)) (re_gi T.c_HALF) (nomark _)))))
  (rss_one (rs_aug 2 sc_read_integer.nd io_addI re_int)))
  (rss_cons (rs_if (RW.rt (rw_or (rt_cmp (o_eq hr.units) (re_v 2) (re_len T.b_len (ra_cons (re_v 0) ra_nil)) (nomark _)) (rw_or1 (RW.rt (rw_and (rt_cmp (o_eq hr.units) (re_ix ix_any (re_v 0) (re_v 2) (fun _ _ => rfl)) re_int (nomark _)) (rw_and1 (rt_cmp o_gt (re_v 2) (re_v 1) (nomark _))))))))
  (rss_one (rs_raise rfl T.x_BadBytes.xc hr tk (ra_cons (re_v 1) (ra_cons re_str ra_nil))))
  rss_nil)
  (rss_cons (rs_set 3 sc_read_integer.nd (re_m (.inr (.inl rfl)) PySem.F.plainAttrs_str PySem.F.slot_str_join PySem.F.type_str_join ml_join re_str (ra_cons (re_lc rfl sc_read_integer.nd (ri_seq (re_rev (re_sl sl_any (re_v 0) (ro_some (re_v 1)) (ro_some (re_op2 o_add (re_v 2) re_int))))) (own := [("octet", 4)]) (blk_of (by kernel_rfl)) (by decide) (fun _ _ _ _ _ => (rg_n 4 sc_read_integer.nd)) (fun _ _ _ _ _ => rts_nil) (fun _ _ _ _ _ => (re_b7 (re_op2 o_and (re_v 4) (re_op2 o_sub (re_gi T.c_HALF) re_int))))) ra_nil)))
  (rss_one (rs_ret (re_tup (ra_cons (re_tobin T.b_int (ra_cons (re_v 3) (ra_cons re_int ra_nil))) (ra_cons (re_op2 o_add (re_v 2) re_int) ra_nil)))))))))
theorem sc__law_alike : FnScope ["found", "due", "pairs", "at", "one", "other"] ["found", "due"] (defScope s__law_alike) := ⟨rfl, rfl, rfl, by decide +kernel, rfl, by decide +kernel, by decide +kernel⟩
noncomputable def b__law_alike : MS :=
  (sSeq (sPar [2, 3] (aCons (eLst (aCons (eTup (aCons (eV 0) (aCons (eV 1) aNil))) aNil)) (aCons (eC (.int 0)) aNil)))
  (sSeq (sWhile (tV (eBin cLt (eV 3) (eP gLen (aCons (eV 2) aNil))))
  (sSeq (sAsg (eBin gIx (eV 2) (eV 3)) (gT 2 (gC (gN 4) (gC (gN 5) gN0))))
  (sSeq (sAug 3 bAddI (eC (.int 1)))
  (sSeq (sIf (tOr (tV (eBin cNe (eUn (gIsi ["bool"]) (eV 4)) (eUn (gIsi ["bool"]) (eV 5)))) (tV (eBin cNe (eUn (gIsi ["str"]) (eV 4)) (eUn (gIsi ["str"]) (eV 5)))))
  (sRet (eC (.bl false)))
  sNil)
  (sSeq (sIf (tV (eBin cNe (eUn (gIsi ["tuple", "list"]) (eV 4)) (eUn (gIsi ["tuple", "list"]) (eV 5))))
  (sRet (eC (.bl false)))
  sNil)
  (sIf (tTru (eUn (gIsi ["tuple", "list"]) (eV 4)))
  (sSeq (sIf (tOr (tV (eBin cNe (eUn (gIsi ["tuple"]) (eV 4)) (eUn (gIsi ["tuple"]) (eV 5)))) (tV (eBin cNe (eP gLen (aCons (eV 4) aNil)) (eP gLen (aCons (eV 5) aNil)))))
  (sRet (eC (.bl false)))
  sNil)
  (sExpr (eM "list" gExtend (eV 2) (aCons (eP gLZ (aCons (eV 4) (aCons (eV 5) aNil))) aNil))))
  (sIf (tV (eBin cNe (eV 4) (eV 5)))
  (sRet (eC (.bl false)))
  sNil)))))))
  (sRet (eC (.bl true)))))
noncomputable def F__law_alike : MF := runF 2 6 b__law_alike
theorem cd__law_alike {P : Program} {w : World} {K : PySem.W.Frag} {mg : MG} {base : Heap} (T : Txt P w K mg) : Cd P w K mg base 2 "_law_alike" 2 F__law_alike := by
  refine T.f__law_alike.cd (k := 1) sc__law_alike rfl rfl fun f cdv A outer s H E hr => ?_
  have tk : Takes (cxOf (L2.CX P w) P w K mg base ["found", "due", "pairs", "at", "one", "other"] "_law_alike" (defScope s__law_alike) f cdv A outer s H E) (wx E) := takes_of rfl rfl rfl rfl
  have hp := passes_of (X := cxOf (L2.CX P w) P w K mg base ["found", "due", "pairs", "at", "one", "other"] "_law_alike" (defScope s__law_alike) f cdv A outer s H E) rfl
  exact (rss_cons (rs_par 2 3 sc__law_alike.nd rfl (ra_cons (re_lst (ra_cons (re_tup (ra_cons (re_v 0) (ra_cons (re_v 1) ra_nil))) ra_nil)) (ra_cons re_int ra_nil)))
  (rss_cons (rs_while hp (rt_cmp o_lt (re_v 3) (re_len T.b_len (ra_cons (re_v 2) ra_nil)) (nomark _))
  (rss_cons (rs_asg (re_ix ix_any (re_v 2) (re_v 3) (fun _ _ => rfl)) (rg_tup rfl (rg_cons (rg_n 4 sc__law_alike.nd) (rg_cons (rg_n 5 sc__law_alike.nd) rg_nil))))
  (rss_cons (rs_aug 3 sc__law_alike.nd io_addI re_int)
  (rss_cons (rs_if (RW.rt (rw_or (rt_cmp (o_ne hr.units) (re_isi1 (T := "bool") (by decide) rfl T.b_isinstance rfl T.b_bool PyProof.Rows.boot_bool (re_v 4)) (re_isi1 (T := "bool") (by decide) rfl T.b_isinstance rfl T.b_bool PyProof.Rows.boot_bool (re_v 5)) (nomark _)) (rw_or1 (rt_cmp (o_ne hr.units) (re_isi1 (T := "str") (by decide) rfl T.b_isinstance rfl T.b_str PyProof.Rows.boot_str (re_v 4)) (re_isi1 (T := "str") (by decide) rfl T.b_isinstance rfl T.b_str PyProof.Rows.boot_str (re_v 5)) (nomark _)))))
  (rss_one (rs_ret re_bl))
  rss_nil)
  (rss_cons (rs_if (rt_cmp (o_ne hr.units) (re_isi2 (T := "tuple") (T2 := "list") (by decide) (by decide) rfl T.b_isinstance rfl T.b_tuple PyProof.Rows.boot_tuple rfl T.b_list PyProof.Rows.boot_list (re_v 4)) (re_isi2 (T := "tuple") (T2 := "list") (by decide) (by decide) rfl T.b_isinstance rfl T.b_tuple PyProof.Rows.boot_tuple rfl T.b_list PyProof.Rows.boot_list (re_v 5)) (nomark _))
  (rss_one (rs_ret re_bl))
  rss_nil)
  (rss_one (rs_if (rt_tru (re_isi2 (T := "tuple") (T2 := "list") (by decide) (by decide) rfl T.b_isinstance rfl T.b_tuple PyProof.Rows.boot_tuple rfl T.b_list PyProof.Rows.boot_list (re_v 4)))
  (rss_cons (rs_if (RW.rt (rw_or (rt_cmp (o_ne hr.units) (re_isi1 (T := "tuple") (by decide) rfl T.b_isinstance rfl T.b_tuple PyProof.Rows.boot_tuple (re_v 4)) (re_isi1 (T := "tuple") (by decide) rfl T.b_isinstance rfl T.b_tuple PyProof.Rows.boot_tuple (re_v 5)) (nomark _)) (rw_or1 (rt_cmp (o_ne hr.units) (re_len T.b_len (ra_cons (re_v 4) ra_nil)) (re_len T.b_len (ra_cons (re_v 5) ra_nil)) (nomark _)))))
  (rss_one (rs_ret re_bl))
  rss_nil)
  (rss_one (rs_expr (re_m (.inl rfl) PySem.F.plainAttrs_list PySem.F.slot_list_extend PySem.F.type_list_extend ml_extend (re_v 2) (ra_cons (re_lz rfl T.b_list T.b_zip (ra_cons (re_v 4) (ra_cons (re_v 5) ra_nil))) ra_nil)))))
  (rss_one (rs_if (rt_cmp (o_ne hr.units) (re_v 4) (re_v 5) (nomark _))
  (rss_one (rs_ret re_bl))
  rss_nil)))))))))
  (rss_one (rs_ret re_bl))))
theorem sc_integer_octets : FnScope ["number", "found"] ["number"] (defScope s_integer_octets) := ⟨rfl, rfl, rfl, by decide +kernel, rfl, by decide +kernel, by decide +kernel⟩
noncomputable def b_integer_octets : MS :=
  (sSeq (sSet 1 (eLst aNil))
  (sSeq (sWhile (tV (eBin cGe (eV 0) (eC (.int 128))))
  (sSeq (sExpr (eM "list" gAppend (eV 1) (aCons (eBin bAdd (eC (.int 128)) (eBin bAnd (eV 0) (eBin bSub (eC (.int 128)) (eC (.int 1))))) aNil)))
  (sAug 0 bShr (eC (.int 7)))))
  (sRet (eTup (aStar (eV 1) (aCons (eV 0) aNil))))))
noncomputable def F_integer_octets : MF := runF 1 2 b_integer_octets
theorem cd_integer_octets {P : Program} {w : World} {K : PySem.W.Frag} {mg : MG} {base : Heap} (T : Txt P w K mg) : Cd P w K mg base 2 "integer_octets" 1 F_integer_octets := by
  refine T.f_integer_octets.cd (k := 1) sc_integer_octets rfl rfl fun f cdv A outer s H E hr => ?_
  have tk : Takes (cxOf (L2.CX P w) P w K mg base ["number", "found"] "integer_octets" (defScope s_integer_octets) f cdv A outer s H E) (wx E) := takes_of rfl rfl rfl rfl
  have hp := passes_of (X := cxOf (L2.CX P w) P w K mg base ["number", "found"] "integer_octets" (defScope s_integer_octets) f cdv A outer s H E) rfl
  exact (rss_cons (rs_set 1 sc_integer_octets.nd (re_lst ra_nil))
  (rss_cons (rs_while hp (rt_cmp o_ge (re_v 0) (re_gi T.c_HALF) (nomark _))
  (rss_cons (rs_expr (re_m (.inl rfl) PySem.F.plainAttrs_list PySem.F.slot_list_append PySem.F.type_list_append ml_append (re_v 1) (ra_cons (re_op2 o_add (re_gi T.c_HALF) (re_op2 o_and (re_v 0) (re_op2 o_sub (re_gi T.c_HALF) re_int))) ra_nil)))
  (rss_one (rs_aug 0 sc_integer_octets.nd io_shr (re_gi T.c_GROUP)))))
  (rss_one (rs_ret (re_tup (ra_star (re_v 1) (ra_cons (re_v 0) ra_nil)))))))
theorem sc__law_read : FnScope ["octets", "place", "number", "weight", "at", "octet"] ["octets", "place"] (defScope s__law_read) := ⟨rfl, rfl, rfl, by decide +kernel, rfl, by decide +kernel, by decide +kernel⟩
noncomputable def b__law_read : MS :=
  (sSeq (sPar [2, 3, 4] (aCons (eC (.int 0)) (aCons (eC (.int 1)) (aCons (eV 1) aNil))))
  (sSeq (sWhile (tV (eBin cLt (eV 4) (eP gLen (aCons (eV 0) aNil))))
  (sSeq (sSet 5 (eBin gIx (eV 0) (eV 4)))
  (sSeq (sPar [2, 3, 4] (aCons (eBin bAdd (eV 2) (eBin bMul (eBin bMod (eP gInt (aCons (eV 5) aNil)) (eC (.int 128))) (eV 3))) (aCons (eBin bMul (eV 3) (eC (.int 128))) (aCons (eBin bAdd (eV 4) (eC (.int 1))) aNil))))
  (sIf (tV (eBin cLt (eV 5) (eC (.int 128))))
  (sRet (eIf (tAnd (tV (eBin cEq (eV 5) (eC (.int 0)))) (tV (eBin cGt (eBin bSub (eV 4) (eV 1)) (eC (.int 1))))) (eC .non) (eTup (aCons (eV 2) (aCons (eV 4) aNil)))))
  sNil))))
  (sRet (eC .non))))
noncomputable def F__law_read : MF := runF 2 6 b__law_read
theorem cd__law_read {P : Program} {w : World} {K : PySem.W.Frag} {mg : MG} {base : Heap} (T : Txt P w K mg) : Cd P w K mg base 2 "_law_read" 2 F__law_read := by
  refine T.f__law_read.cd (k := 1) sc__law_read rfl rfl fun f cdv A outer s H E hr => ?_
  have tk : Takes (cxOf (L2.CX P w) P w K mg base ["octets", "place", "number", "weight", "at", "octet"] "_law_read" (defScope s__law_read) f cdv A outer s H E) (wx E) := takes_of rfl rfl rfl rfl
  have hp := passes_of (X := cxOf (L2.CX P w) P w K mg base ["octets", "place", "number", "weight", "at", "octet"] "_law_read" (defScope s__law_read) f cdv A outer s H E) rfl
  exact (rss_cons (rs_par3 2 3 4 sc__law_read.nd rfl (ra_cons re_int (ra_cons re_int (ra_cons (re_v 1) ra_nil))))
  (rss_cons (rs_while hp (rt_cmp o_lt (re_v 4) (re_len T.b_len (ra_cons (re_v 0) ra_nil)) (nomark _))
  (rss_cons (rs_set 5 sc__law_read.nd (re_ix ix_any (re_v 0) (re_v 4) (fun _ _ => rfl)))
  (rss_cons (rs_par3 2 3 4 sc__law_read.nd rfl (ra_cons (re_op2 o_add (re_v 2) (re_op2 o_mul (re_op2 o_mod (re_toint T.b_int (ra_cons (re_v 5) ra_nil)) re_int) (re_v 3))) (ra_cons (re_op2 o_mul (re_v 3) re_int) (ra_cons (re_op2 o_add (re_v 4) re_int) ra_nil))))
  (rss_one (rs_if (rt_cmp o_lt (re_v 5) re_int (nomark _))
  (rss_one (rs_ret (re_if (RW.rt (rw_and (rt_cmp (o_eq hr.units) (re_v 5) re_int (nomark _)) (rw_and1 (rt_cmp o_gt (re_op2 o_sub (re_v 4) (re_v 1)) re_int (nomark _))))) re_non (re_tup (ra_cons (re_v 2) (ra_cons (re_v 4) ra_nil))))))
  rss_nil)))))
  (rss_one (rs_ret re_non))))
theorem sc__law_told : FnScope ["octets", "place", "error"] ["octets", "place"] (defScope s__law_told) := ⟨rfl, rfl, rfl, by decide +kernel, rfl, by decide +kernel, by decide +kernel⟩
noncomputable def b__law_told : MS :=
  (sTryAs 2 mt_BadBytes
  (sRet (eF F_read_integer (aCons (eV 0) (aCons (eV 1) aNil))))
  (fun a d cn => (sRet (eTup (aCons (eC (.str "bad")) (aCons (eXf a d cn "BadBytes" "index" (eV 2)) (aCons (eXf a d cn "BadBytes" "fault" (eV 2)) aNil)))))))
noncomputable def F__law_told : MF := runF 2 3 b__law_told
theorem cd__law_told {P : Program} {w : World} {K : PySem.W.Frag} {mg : MG} {base : Heap} (T : Txt P w K mg) : Cd P w K mg base 4 "_law_told" 2 F__law_told := by
  obtain ⟨C_BadBytes, hC_BadBytes⟩ := T.x_BadBytes.at_
  refine T.f__law_told.cd (k := 3) sc__law_told rfl rfl fun f cdv A outer s H E hr => ?_
  have tk : Takes (cxOf (L2.CX P w) P w K mg base ["octets", "place", "error"] "_law_told" (defScope s__law_told) f cdv A outer s H E) (wx E) := takes_of rfl rfl rfl rfl
  have hp := passes_of (X := cxOf (L2.CX P w) P w K mg base ["octets", "place", "error"] "_law_told" (defScope s__law_told) f cdv A outer s H E) rfl
  exact (rss_one (rs_tryAs (i := 2) rfl rfl sc__law_told.nd rfl rfl ⟨rfl, by decide, .inl hC_BadBytes⟩ tk (mtok_BadBytes T hC_BadBytes) (fun W pn xe htk hpo => (rss_one (rs_ret (re_call (cd_read_integer T) (hr.mono (by decide)) htk (ra_cons (re_v 0) (ra_cons (re_v 1) ra_nil))))))
  (fun a oe C cn d pn hcn hz hv => (rss_one (rs_ret (re_tup (ra_cons re_str (ra_cons (re_xf (T.xf_BadBytes hC_BadBytes).1 (T.xf_BadBytes hC_BadBytes).2.1 hC_BadBytes hcn hz hv (re_v 2)) (ra_cons (re_xf (T.xf_BadBytes hC_BadBytes).1 (T.xf_BadBytes hC_BadBytes).2.2 hC_BadBytes hcn hz hv (re_v 2)) ra_nil)))))))))
theorem sc__law_check : FnScope ["octets", "check", "octet"] ["octets"] (defScope s__law_check) := ⟨rfl, rfl, rfl, by decide +kernel, rfl, by decide +kernel, by decide +kernel⟩
noncomputable def b__law_check : MS :=
  (sSeq (sSet 1 (eC (.int 1)))
  (sSeq (sFor (iSeq (eV 0)) (gN 2)
  (sSet 1 (eBin bMod (eP gInt (aCons (eBin bAdd (eBin bAdd (eBin bMul (eC (.int 257)) (eV 1)) (eV 2)) (eC (.int 1))) aNil)) (eC (.int 4294967291)))))
  (sRet (eV 1))))
noncomputable def F__law_check : MF := runF 1 3 b__law_check
theorem cd__law_check {P : Program} {w : World} {K : PySem.W.Frag} {mg : MG} {base : Heap} (T : Txt P w K mg) : Cd P w K mg base 2 "_law_check" 1 F__law_check := by
  refine T.f__law_check.cd (k := 1) sc__law_check rfl rfl fun f cdv A outer s H E hr => ?_
  have tk : Takes (cxOf (L2.CX P w) P w K mg base ["octets", "check", "octet"] "_law_check" (defScope s__law_check) f cdv A outer s H E) (wx E) := takes_of rfl rfl rfl rfl
  have hp := passes_of (X := cxOf (L2.CX P w) P w K mg base ["octets", "check", "octet"] "_law_check" (defScope s__law_check) f cdv A outer s H E) rfl
  exact (rss_cons (rs_set 1 sc__law_check.nd re_int)
  (rss_cons (rs_for hp rfl (ri_seq (re_v 0)) (rg_n 2 sc__law_check.nd)
  (rss_one (rs_set 1 sc__law_check.nd (re_op2 o_mod (re_toint T.b_int (ra_cons (re_op2 o_add (re_op2 o_add (re_op2 o_mul re_int (re_v 1)) (re_v 2)) re_int) ra_nil)) re_int))))
  (rss_one (rs_ret (re_v 1)))))
theorem sc__law_sealed : FnScope ["octets", "check", "tail", "turn"] ["octets"] (defScope s__law_sealed) := ⟨rfl, rfl, rfl, by decide +kernel, rfl, by decide +kernel, by decide +kernel⟩
noncomputable def b__law_sealed : MS :=
  (sSeq (sPar [1, 2] (aCons (eF F__law_check (aCons (eV 0) aNil)) (aCons (eLst aNil) aNil)))
  (sSeq (sFor (iR1 (eC (.int 4))) (gN 3)
  (sSeq (sSet 2 (eBin bAdd (eLst (aCons (eBin bMod (eP gInt (aCons (eV 1) aNil)) (eC (.int 256))) aNil)) (eV 2)))
  (sSet 1 (eBin bFdiv (eP gInt (aCons (eV 1) aNil)) (eC (.int 256))))))
  (sRet (eBin bAdd (eP gTuple (aCons (eV 0) aNil)) (eP gTuple (aCons (eV 2) aNil))))))
noncomputable def F__law_sealed : MF := runF 1 4 b__law_sealed
theorem cd__law_sealed {P : Program} {w : World} {K : PySem.W.Frag} {mg : MG} {base : Heap} (T : Txt P w K mg) : Cd P w K mg base 3 "_law_sealed" 1 F__law_sealed := by
  refine T.f__law_sealed.cd (k := 2) sc__law_sealed rfl rfl fun f cdv A outer s H E hr => ?_
  have tk : Takes (cxOf (L2.CX P w) P w K mg base ["octets", "check", "tail", "turn"] "_law_sealed" (defScope s__law_sealed) f cdv A outer s H E) (wx E) := takes_of rfl rfl rfl rfl
  have hp := passes_of (X := cxOf (L2.CX P w) P w K mg base ["octets", "check", "tail", "turn"] "_law_sealed" (defScope s__law_sealed) f cdv A outer s H E) rfl
  exact (rss_cons (rs_par 1 2 sc__law_sealed.nd rfl (ra_cons (re_call (cd__law_check T) (hr.mono (by decide)) tk (ra_cons (re_v 0) ra_nil)) (ra_cons (re_lst ra_nil) ra_nil)))
  (rss_cons (rs_for hp rfl (ri_r1 rfl T.b_range re_int) (rg_n 3 sc__law_sealed.nd)
  (rss_cons (rs_set 2 sc__law_sealed.nd (re_op2 o_add (re_lst (ra_cons (re_op2 o_mod (re_toint T.b_int (ra_cons (re_v 1) ra_nil)) re_int) ra_nil)) (re_v 2)))
  (rss_one (rs_set 1 sc__law_sealed.nd (re_op2 o_fdiv (re_toint T.b_int (ra_cons (re_v 1) ra_nil)) re_int)))))
  (rss_one (rs_ret (re_op2 o_add (re_totup T.b_tuple (ra_cons (re_v 0) ra_nil)) (re_totup T.b_tuple (ra_cons (re_v 2) ra_nil)))))))
theorem sc_check_of : FnScope ["octets", "found", "octet"] ["octets"] (defScope s_check_of) := ⟨rfl, rfl, rfl, by decide +kernel, rfl, by decide +kernel, by decide +kernel⟩
noncomputable def b_check_of : MS :=
  (sSeq (sSet 1 (eC (.int 1)))
  (sSeq (sFor (iSeq (eV 0)) (gN 2)
  (sSet 1 (eBin bMod (eBin bAdd (eBin bAdd (eBin bMul (eV 1) (eC (.int 257))) (eV 2)) (eC (.int 1))) (eC (.int 4294967291)))))
  (sRet (eV 1))))
noncomputable def F_check_of : MF := runF 1 3 b_check_of
theorem cd_check_of {P : Program} {w : World} {K : PySem.W.Frag} {mg : MG} {base : Heap} (T : Txt P w K mg) : Cd P w K mg base 2 "check_of" 1 F_check_of := by
  refine T.f_check_of.cd (k := 1) sc_check_of rfl rfl fun f cdv A outer s H E hr => ?_
  have tk : Takes (cxOf (L2.CX P w) P w K mg base ["octets", "found", "octet"] "check_of" (defScope s_check_of) f cdv A outer s H E) (wx E) := takes_of rfl rfl rfl rfl
  have hp := passes_of (X := cxOf (L2.CX P w) P w K mg base ["octets", "found", "octet"] "check_of" (defScope s_check_of) f cdv A outer s H E) rfl
  exact (rss_cons (rs_set 1 sc_check_of.nd re_int)
  (rss_cons (rs_for hp rfl (ri_seq (re_v 0)) (rg_n 2 sc_check_of.nd)
  (rss_one (rs_set 1 sc_check_of.nd (re_op2 o_mod (re_op2 o_add (re_op2 o_add (re_op2 o_mul (re_v 1) (re_gi T.c_FACTOR)) (re_v 2)) re_int) (re_gi T.c_MODULUS)))))
  (rss_one (rs_ret (re_v 1)))))
theorem sc_sealed : FnScope ["octets", "check"] ["octets"] (defScope s_sealed) := ⟨rfl, rfl, rfl, by decide +kernel, rfl, by decide +kernel, by decide +kernel⟩
noncomputable def b_sealed : MS :=
  (sSeq (sSet 1 (eF F_check_of (aCons (eV 0) aNil)))
  (sRet (eTup (aStar (eV 0) (aCons (eBin bShr (eV 1) (eC (.int 24))) (aCons (eBin bAnd (eBin bShr (eV 1) (eC (.int 16))) (eC (.int 255))) (aCons (eBin bAnd (eBin bShr (eV 1) (eC (.int 8))) (eC (.int 255))) (aCons (eBin bAnd (eV 1) (eC (.int 255))) aNil))))))))
noncomputable def F_sealed : MF := runF 1 2 b_sealed
theorem cd_sealed {P : Program} {w : World} {K : PySem.W.Frag} {mg : MG} {base : Heap} (T : Txt P w K mg) : Cd P w K mg base 3 "sealed" 1 F_sealed := by
  refine T.f_sealed.cd (k := 2) sc_sealed rfl rfl fun f cdv A outer s H E hr => ?_
  have tk : Takes (cxOf (L2.CX P w) P w K mg base ["octets", "check"] "sealed" (defScope s_sealed) f cdv A outer s H E) (wx E) := takes_of rfl rfl rfl rfl
  have hp := passes_of (X := cxOf (L2.CX P w) P w K mg base ["octets", "check"] "sealed" (defScope s_sealed) f cdv A outer s H E) rfl
  exact (rss_cons (rs_set 1 sc_sealed.nd (re_call (cd_check_of T) (hr.mono (by decide)) tk (ra_cons (re_v 0) ra_nil)))
  (rss_one (rs_ret (re_tup (ra_star (re_v 0) (ra_cons (re_op2 o_shr (re_v 1) re_int) (ra_cons (re_op2 o_and (re_op2 o_shr (re_v 1) re_int) re_int) (ra_cons (re_op2 o_and (re_op2 o_shr (re_v 1) re_int) re_int) (ra_cons (re_op2 o_and (re_v 1) re_int) ra_nil)))))))))
theorem sc_is_sealed : FnScope ["octets"] ["octets"] (defScope s_is_sealed) := ⟨rfl, rfl, rfl, by decide +kernel, rfl, by decide +kernel, by decide +kernel⟩
noncomputable def b_is_sealed : MS :=
  (sRet (eAnd (eBin cGe (eP gLen (aCons (eV 0) aNil)) (eC (.int 4))) (eBin cEq (eF F_sealed (aCons (eSl gSl (eV 0) oNone (oSome (eBin bSub (eP gLen (aCons (eV 0) aNil)) (eC (.int 4))))) aNil)) (eP gTuple (aCons (eV 0) aNil)))))
noncomputable def F_is_sealed : MF := runF 1 1 b_is_sealed
theorem cd_is_sealed {P : Program} {w : World} {K : PySem.W.Frag} {mg : MG} {base : Heap} (T : Txt P w K mg) : Cd P w K mg base 4 "is_sealed" 1 F_is_sealed := by
  refine T.f_is_sealed.cd (k := 3) sc_is_sealed rfl rfl fun f cdv A outer s H E hr => ?_
  have tk : Takes (cxOf (L2.CX P w) P w K mg base ["octets"] "is_sealed" (defScope s_is_sealed) f cdv A outer s H E) (wx E) := takes_of rfl rfl rfl rfl
  have hp := passes_of (X := cxOf (L2.CX P w) P w K mg base ["octets"] "is_sealed" (defScope s_is_sealed) f cdv A outer s H E) rfl
  exact (rss_one (rs_ret (re_and (re_cmp o_ge (re_len T.b_len (ra_cons (re_v 0) ra_nil)) (re_gi T.c_CHECK) (nomark _)) (re_and1 (re_cmp (o_eq hr.units) (re_call (cd_sealed T) (hr.mono (by decide)) tk (ra_cons (re_sl sl_any (re_v 0) ro_none (ro_some (re_op2 o_sub (re_len T.b_len (ra_cons (re_v 0) ra_nil)) (re_gi T.c_CHECK)))) ra_nil)) (re_totup T.b_tuple (ra_cons (re_v 0) ra_nil)) (nomark _))))))
theorem sc_law : FnScope ["script", "bag", "turn", "number", "due", "ahead", "octet", "behind", "told", "octets", "place", "found", "line", "at", "wide", "other", "some"] ["script"] (defScope s_law) := ⟨rfl, rfl, rfl, by decide +kernel, rfl, by decide +kernel, by decide +kernel⟩
noncomputable def b_law : MS :=
  (sSeq (sSet 1 (eF F__law_bag (aCons (eV 0) aNil)))
  (sSeq (sFor (iR1 (eC (.int 12))) (gN 2)
  (sSeq (sSet 3 (eF F__law_some (aCons (eV 1) (aCons (eLst (aCons (eC (.int 0)) (aCons (eC (.int 127)) (aCons (eC (.int 128)) (aCons (eC (.int 300)) (aCons (eC (.int 16383)) (aCons (eC (.int 16384)) (aCons (eF F__law_take (aCons (eV 1) (aCons (eBin bPow (eC (.int 10)) (eC (.int 6))) aNil))) (aCons (eP gInt (aCons (eBin bMulS (eC (.str "7")) (eBin bAdd (eC (.int 1)) (eF F__law_take (aCons (eV 1) (aCons (eC (.int 60)) aNil))))) aNil)) aNil))))))))) aNil))))
  (sSeq (sSet 4 (eF F__law_integer_octets (aCons (eV 3) aNil)))
  (sSeq (sSet 5 (eP gTuple (aCons (eLc (iR1 (eF F__law_take (aCons (eV 1) (aCons (eC (.int 5)) aNil)))) [6] (gN 6) tYes' (eF F__law_take (aCons (eV 1) (aCons (eC (.int 256)) aNil)))) aNil)))
  (sSeq (sSet 7 (eP gTuple (aCons (eLc (iR1 (eF F__law_take (aCons (eV 1) (aCons (eC (.int 4)) aNil)))) [6] (gN 6) tYes' (eF F__law_take (aCons (eV 1) (aCons (eC (.int 256)) aNil)))) aNil)))
  (sSeq (sSet 8 (eF F_read_integer (aCons (eBin bAdd (eBin bAdd (eV 5) (eV 4)) (eV 7)) (aCons (eP gLen (aCons (eV 5) aNil)) aNil))))
  (sSeq (sIf (tNot (tTru (eF F__law_alike (aCons (eLst (aCons (eF F_integer_octets (aCons (eV 3) aNil)) (aCons (eV 8) aNil))) (aCons (eLst (aCons (eV 4) (aCons (eTup (aCons (eV 3) (aCons (eBin bAdd (eP gLen (aCons (eV 5) aNil)) (eP gLen (aCons (eV 4) aNil))) aNil))) aNil))) aNil)))))
  (sRet (eC (.bl false)))
  sNil)
  (sSeq (sSet 9 (eP gTuple (aCons (eLc (iR1 (eF F__law_take (aCons (eV 1) (aCons (eC (.int 9)) aNil)))) [6] (gN 6) tYes' (eF F__law_some (aCons (eV 1) (aCons (eLst (aCons (eC (.int 0)) (aCons (eC (.int 1)) (aCons (eC (.int 127)) (aCons (eC (.int 128)) (aCons (eC (.int 129)) (aCons (eC (.int 255)) (aCons (eF F__law_take (aCons (eV 1) (aCons (eC (.int 256)) aNil))) aNil)))))))) aNil)))) aNil)))
  (sSeq (sSet 10 (eF F__law_take (aCons (eV 1) (aCons (eBin bAdd (eP gLen (aCons (eV 9) aNil)) (eC (.int 1))) aNil))))
  (sSeq (sSet 11 (eF F__law_read (aCons (eV 9) (aCons (eV 10) aNil))))
  (sSeq (sIf (tNot (tTru (eF F__law_alike (aCons (eF F__law_told (aCons (eV 9) (aCons (eV 10) aNil))) (aCons (eIf (tV (eBin cIsN (eV 11) (eC .non))) (eTup (aCons (eC (.str "bad")) (aCons (eV 10) (aCons (eC (.str "integer")) aNil)))) (eV 11)) aNil)))))
  (sRet (eC (.bl false)))
  sNil)
  (sSeq (sSet 12 (eF F__law_sealed (aCons (eV 9) aNil)))
  (sSeq (sIf (tNot (tTru (eF F__law_alike (aCons (eLst (aCons (eF F_check_of (aCons (eV 9) aNil)) (aCons (eF F_sealed (aCons (eV 9) aNil)) (aCons (eF F_is_sealed (aCons (eV 12) aNil)) aNil)))) (aCons (eLst (aCons (eF F__law_check (aCons (eV 9) aNil)) (aCons (eV 12) (aCons (eC (.bl true)) aNil)))) aNil)))))
  (sRet (eC (.bl false)))
  sNil)
  (sSeq (sPar [13, 14] (aCons (eF F__law_take (aCons (eV 1) (aCons (eP gLen (aCons (eV 12) aNil)) aNil))) (aCons (eBin bAdd (eC (.int 1)) (eF F__law_take (aCons (eV 1) (aCons (eC (.int 3)) aNil)))) aNil)))
  (sSeq (sSet 15 (eBin bAdd (eBin bAdd (eSl gSl (eV 12) oNone (oSome (eV 13))) (eP gTuple (aCons (eLc (iSeq (eSl gSl (eV 12) (oSome (eV 13)) (oSome (eBin bAdd (eV 13) (eV 14))))) [6] (gN 6) tYes' (eF F__law_take (aCons (eV 1) (aCons (eC (.int 256)) aNil)))) aNil))) (eSl gSl (eV 12) (oSome (eBin bAdd (eV 13) (eV 14))) oNone)))
  (sSeq (sIf (tNot (tTru (eF F__law_alike (aCons (eF F_is_sealed (aCons (eV 15) aNil)) (aCons (eBin cEq (eV 15) (eV 12)) aNil)))))
  (sRet (eC (.bl false)))
  sNil)
  (sSeq (sSet 16 (eP gTuple (aCons (eLc (iR1 (eBin bAdd (eC (.int 4)) (eF F__law_take (aCons (eV 1) (aCons (eC (.int 4)) aNil))))) [6] (gN 6) tYes' (eF F__law_take (aCons (eV 1) (aCons (eC (.int 256)) aNil)))) aNil)))
  (sIf (tNot (tTru (eF F__law_alike (aCons (eF F_is_sealed (aCons (eV 16) aNil)) (aCons (eBin cEq (eF F__law_sealed (aCons (eSl gSl (eV 16) oNone (oSome (eUn gNeg (eC (.int 4))))) aNil)) (eV 16)) aNil)))))
  (sRet (eC (.bl false)))
  sNil))))))))))))))))))
  (sRet (eC (.bl true)))))
noncomputable def F_law : MF := runF 1 17 b_law
theorem ok_law {P : Program} {w : World} {K : PySem.W.Frag} {mg : MG} {base : Heap} {f : Addr} {fd : FuncData} (F : Fun K "law" "law" s_law f fd) (T : Txt P w K mg) : FnOk P w K mg base (L2.CX P w) 5 f fd ["script"] (spM K mg F_law) := by
  refine fn_ok (k := 4) F sc_law rfl rfl fun cdv A outer s H E hr => ?_
  have tk : Takes (cxOf (L2.CX P w) P w K mg base ["script", "bag", "turn", "number", "due", "ahead", "octet", "behind", "told", "octets", "place", "found", "line", "at", "wide", "other", "some"] "law" (defScope s_law) f cdv A outer s H E) (wx E) := takes_of rfl rfl rfl rfl
  have hp := passes_of (X := cxOf (L2.CX P w) P w K mg base ["script", "bag", "turn", "number", "due", "ahead", "octet", "behind", "told", "octets", "place", "found", "line", "at", "wide", "other", "some"] "law" (defScope s_law) f cdv A outer s H E) rfl
  exact (rss_cons (rs_set 1 sc_law.nd (re_call (cd__law_bag T) (hr.mono (by decide)) tk (ra_cons (re_v 0) ra_nil)))
  (rss_cons (rs_for hp rfl (ri_r1 rfl T.b_range re_int) (rg_n 2 sc_law.nd)
  (rss_cons (rs_set 3 sc_law.nd (re_call (cd__law_some T) (hr.mono (by decide)) tk (ra_cons (re_v 1) (ra_cons (re_lst (ra_cons re_int (ra_cons re_int (ra_cons re_int (ra_cons re_int (ra_cons re_int (ra_cons re_int (ra_cons (re_call (cd__law_take T) (hr.mono (by decide)) tk (ra_cons (re_v 1) (ra_cons (re_op2 o_pow re_int re_int) ra_nil))) (ra_cons (re_toint T.b_int (ra_cons (re_op2 o_mulS re_str (re_op2 o_add re_int (re_call (cd__law_take T) (hr.mono (by decide)) tk (ra_cons (re_v 1) (ra_cons re_int ra_nil))))) ra_nil)) ra_nil))))))))) ra_nil))))
  (rss_cons (rs_set 4 sc_law.nd (re_call (cd__law_integer_octets T) (hr.mono (by decide)) tk (ra_cons (re_v 3) ra_nil)))
  (rss_cons (rs_set 5 sc_law.nd (re_totup T.b_tuple (ra_cons (re_lc rfl sc_law.nd (ri_r1 rfl T.b_range (re_call (cd__law_take T) (hr.mono (by decide)) tk (ra_cons (re_v 1) (ra_cons re_int ra_nil)))) (own := [("octet", 6)]) (blk_of (by kernel_rfl)) (by decide) (fun _ _ _ _ _ => (rg_n 6 sc_law.nd)) (fun _ _ _ _ _ => rts_nil) (fun _ _ _ _ _ => (re_call (cd__law_take T) (hr.mono (by decide)) takes0 (ra_cons (re_v 1) (ra_cons re_int ra_nil))))) ra_nil)))
  (rss_cons (rs_set 7 sc_law.nd (re_totup T.b_tuple (ra_cons (re_lc rfl sc_law.nd (ri_r1 rfl T.b_range (re_call (cd__law_take T) (hr.mono (by decide)) tk (ra_cons (re_v 1) (ra_cons re_int ra_nil)))) (own := [("octet", 6)]) (blk_of (by kernel_rfl)) (by decide) (fun _ _ _ _ _ => (rg_n 6 sc_law.nd)) (fun _ _ _ _ _ => rts_nil) (fun _ _ _ _ _ => (re_call (cd__law_take T) (hr.mono (by decide)) takes0 (ra_cons (re_v 1) (ra_cons re_int ra_nil))))) ra_nil)))
  (rss_cons (rs_set 8 sc_law.nd (re_call (cd_read_integer T) (hr.mono (by decide)) tk (ra_cons (re_op2 o_add (re_op2 o_add (re_v 5) (re_v 4)) (re_v 7)) (ra_cons (re_len T.b_len (ra_cons (re_v 5) ra_nil)) ra_nil))))
  (rss_cons (rs_if (rt_not (rt_tru (re_call (cd__law_alike T) (hr.mono (by decide)) tk (ra_cons (re_lst (ra_cons (re_call (cd_integer_octets T) (hr.mono (by decide)) tk (ra_cons (re_v 3) ra_nil)) (ra_cons (re_v 8) ra_nil))) (ra_cons (re_lst (ra_cons (re_v 4) (ra_cons (re_tup (ra_cons (re_v 3) (ra_cons (re_op2 o_add (re_len T.b_len (ra_cons (re_v 5) ra_nil)) (re_len T.b_len (ra_cons (re_v 4) ra_nil))) ra_nil))) ra_nil))) ra_nil)))))
  (rss_one (rs_ret re_bl))
  rss_nil)
  (rss_cons (rs_set 9 sc_law.nd (re_totup T.b_tuple (ra_cons (re_lc rfl sc_law.nd (ri_r1 rfl T.b_range (re_call (cd__law_take T) (hr.mono (by decide)) tk (ra_cons (re_v 1) (ra_cons re_int ra_nil)))) (own := [("octet", 6)]) (blk_of (by kernel_rfl)) (by decide) (fun _ _ _ _ _ => (rg_n 6 sc_law.nd)) (fun _ _ _ _ _ => rts_nil) (fun _ _ _ _ _ => (re_call (cd__law_some T) (hr.mono (by decide)) takes0 (ra_cons (re_v 1) (ra_cons (re_lst (ra_cons re_int (ra_cons re_int (ra_cons re_int (ra_cons re_int (ra_cons re_int (ra_cons re_int (ra_cons (re_call (cd__law_take T) (hr.mono (by decide)) takes0 (ra_cons (re_v 1) (ra_cons re_int ra_nil))) ra_nil)))))))) ra_nil))))) ra_nil)))
  (rss_cons (rs_set 10 sc_law.nd (re_call (cd__law_take T) (hr.mono (by decide)) tk (ra_cons (re_v 1) (ra_cons (re_op2 o_add (re_len T.b_len (ra_cons (re_v 9) ra_nil)) re_int) ra_nil))))
  (rss_cons (rs_set 11 sc_law.nd (re_call (cd__law_read T) (hr.mono (by decide)) tk (ra_cons (re_v 9) (ra_cons (re_v 10) ra_nil))))
  (rss_cons (rs_if (rt_not (rt_tru (re_call (cd__law_alike T) (hr.mono (by decide)) tk (ra_cons (re_call (cd__law_told T) (hr.mono (by decide)) tk (ra_cons (re_v 9) (ra_cons (re_v 10) ra_nil))) (ra_cons (re_if (rt_cmp o_isN (re_v 11) re_non (nomark _)) (re_tup (ra_cons re_str (ra_cons (re_v 10) (ra_cons re_str ra_nil)))) (re_v 11)) ra_nil)))))
  (rss_one (rs_ret re_bl))
  rss_nil)
  (rss_cons (rs_set 12 sc_law.nd (re_call (cd__law_sealed T) (hr.mono (by decide)) tk (ra_cons (re_v 9) ra_nil)))
  (rss_cons (rs_if (rt_not (rt_tru (re_call (cd__law_alike T) (hr.mono (by decide)) tk (ra_cons (re_lst (ra_cons (re_call (cd_check_of T) (hr.mono (by decide)) tk (ra_cons (re_v 9) ra_nil)) (ra_cons (re_call (cd_sealed T) (hr.mono (by decide)) tk (ra_cons (re_v 9) ra_nil)) (ra_cons (re_call (cd_is_sealed T) (hr.mono (by decide)) tk (ra_cons (re_v 12) ra_nil)) ra_nil)))) (ra_cons (re_lst (ra_cons (re_call (cd__law_check T) (hr.mono (by decide)) tk (ra_cons (re_v 9) ra_nil)) (ra_cons (re_v 12) (ra_cons re_bl ra_nil)))) ra_nil)))))
  (rss_one (rs_ret re_bl))
  rss_nil)
  (rss_cons (rs_par 13 14 sc_law.nd rfl (ra_cons (re_call (cd__law_take T) (hr.mono (by decide)) tk (ra_cons (re_v 1) (ra_cons (re_len T.b_len (ra_cons (re_v 12) ra_nil)) ra_nil))) (ra_cons (re_op2 o_add re_int (re_call (cd__law_take T) (hr.mono (by decide)) tk (ra_cons (re_v 1) (ra_cons re_int ra_nil)))) ra_nil)))
  (rss_cons (rs_set 15 sc_law.nd (re_op2 o_add (re_op2 o_add (re_sl sl_any (re_v 12) ro_none (ro_some (re_v 13))) (re_totup T.b_tuple (ra_cons (re_lc rfl sc_law.nd (ri_seq (re_sl sl_any (re_v 12) (ro_some (re_v 13)) (ro_some (re_op2 o_add (re_v 13) (re_v 14))))) (own := [("octet", 6)]) (blk_of (by kernel_rfl)) (by decide) (fun _ _ _ _ _ => (rg_n 6 sc_law.nd)) (fun _ _ _ _ _ => rts_nil) (fun _ _ _ _ _ => (re_call (cd__law_take T) (hr.mono (by decide)) takes0 (ra_cons (re_v 1) (ra_cons re_int ra_nil))))) ra_nil))) (re_sl sl_any (re_v 12) (ro_some (re_op2 o_add (re_v 13) (re_v 14))) ro_none)))
  (rss_cons (rs_if (rt_not (rt_tru (re_call (cd__law_alike T) (hr.mono (by decide)) tk (ra_cons (re_call (cd_is_sealed T) (hr.mono (by decide)) tk (ra_cons (re_v 15) ra_nil)) (ra_cons (re_cmp (o_eq hr.units) (re_v 15) (re_v 12) (nomark _)) ra_nil)))))
  (rss_one (rs_ret re_bl))
  rss_nil)
  (rss_cons (rs_set 16 sc_law.nd (re_totup T.b_tuple (ra_cons (re_lc rfl sc_law.nd (ri_r1 rfl T.b_range (re_op2 o_add re_int (re_call (cd__law_take T) (hr.mono (by decide)) tk (ra_cons (re_v 1) (ra_cons re_int ra_nil))))) (own := [("octet", 6)]) (blk_of (by kernel_rfl)) (by decide) (fun _ _ _ _ _ => (rg_n 6 sc_law.nd)) (fun _ _ _ _ _ => rts_nil) (fun _ _ _ _ _ => (re_call (cd__law_take T) (hr.mono (by decide)) takes0 (ra_cons (re_v 1) (ra_cons re_int ra_nil))))) ra_nil)))
  (rss_one (rs_if (rt_not (rt_tru (re_call (cd__law_alike T) (hr.mono (by decide)) tk (ra_cons (re_call (cd_is_sealed T) (hr.mono (by decide)) tk (ra_cons (re_v 16) ra_nil)) (ra_cons (re_cmp (o_eq hr.units) (re_call (cd__law_sealed T) (hr.mono (by decide)) tk (ra_cons (re_sl sl_any (re_v 16) ro_none (ro_some (re_neg re_int))) ra_nil)) (re_v 16) (nomark _)) ra_nil)))))
  (rss_one (rs_ret re_bl))
  rss_nil)))))))))))))))))))
  (rss_one (rs_ret re_bl))))
abbrev i_BadBytes : Stmt := DL.inCls (top 3) 0
theorem isc_BadBytes : IniSc (defScope i_BadBytes) (defArgs i_BadBytes) ["index", "fault"] := ⟨rfl, rfl, rfl, rfl, by decide +kernel, by decide +kernel, by decide +kernel, rfl, rfl, ⟨_, rfl⟩, fun _ _ _ _ _ _ _ _ _ _ us hl => match us, hl with | [_, _], _ => rfl⟩
set_option maxHeartbeats 0 in
theorem all_mk {P : Program} {w : World} {K : PySem.W.Frag} {h : Heap} {mg : MG} {fa : Addr} (X : K.In h) (G : h.Ns mainGlobals mg) (hfa : mg "law" = some (.ref fa))
    (z_abs : PySem.W.nsIn K mainGlobals "abs" = some none)
    (z_bool : PySem.W.nsIn K mainGlobals "bool" = some none)
    (z_int : PySem.W.nsIn K mainGlobals "int" = some none)
    (z_isinstance : PySem.W.nsIn K mainGlobals "isinstance" = some none)
    (z_len : PySem.W.nsIn K mainGlobals "len" = some none)
    (z_list : PySem.W.nsIn K mainGlobals "list" = some none)
    (z_range : PySem.W.nsIn K mainGlobals "range" = some none)
    (z_str : PySem.W.nsIn K mainGlobals "str" = some none)
    (z_tuple : PySem.W.nsIn K mainGlobals "tuple" = some none)
    (z_zip : PySem.W.nsIn K mainGlobals "zip" = some none)
    {t_CHECK : Tok} (q_CHECK : PySem.W.nsIn K mainGlobals "CHECK" = some (some (.int 4 t_CHECK)))
    {t_FACTOR : Tok} (q_FACTOR : PySem.W.nsIn K mainGlobals "FACTOR" = some (some (.int 257 t_FACTOR)))
    {t_GROUP : Tok} (q_GROUP : PySem.W.nsIn K mainGlobals "GROUP" = some (some (.int 7 t_GROUP)))
    {t_HALF : Tok} (q_HALF : PySem.W.nsIn K mainGlobals "HALF" = some (some (.int 128 t_HALF)))
    {t_MODULUS : Tok} (q_MODULUS : PySem.W.nsIn K mainGlobals "MODULUS" = some (some (.int 4294967291 t_MODULUS)))
    {g__law_bag : Addr} {od__law_bag an__law_bag : Option Addr} {sl__law_bag : Array (Option Value)} {oc__law_bag kV__law_bag dc__law_bag pm__law_bag cd__law_bag ct__law_bag : Value}
    (a__law_bag : PySem.W.nsIn K mainGlobals "_law_bag" = some (some (.ref g__law_bag)))
    (l__law_bag : K.lookup g__law_bag = some ⟨oc__law_bag, od__law_bag, .func (PySem.W.fnOf "_law_bag" "_law_bag" (defArgs s__law_bag) (defBody s__law_bag) (defScope s__law_bag) .none kV__law_bag dc__law_bag pm__law_bag an__law_bag cd__law_bag ct__law_bag), sl__law_bag⟩)
    (c__law_bag : PySem.W.codeIn K cd__law_bag "_law_bag" = true) (k__law_bag : PySem.W.keepIn K (.ref g__law_bag) = true)
    {g__law_take : Addr} {od__law_take an__law_take : Option Addr} {sl__law_take : Array (Option Value)} {oc__law_take kV__law_take dc__law_take pm__law_take cd__law_take ct__law_take : Value}
    (a__law_take : PySem.W.nsIn K mainGlobals "_law_take" = some (some (.ref g__law_take)))
    (l__law_take : K.lookup g__law_take = some ⟨oc__law_take, od__law_take, .func (PySem.W.fnOf "_law_take" "_law_take" (defArgs s__law_take) (defBody s__law_take) (defScope s__law_take) .none kV__law_take dc__law_take pm__law_take an__law_take cd__law_take ct__law_take), sl__law_take⟩)
    (c__law_take : PySem.W.codeIn K cd__law_take "_law_take" = true) (k__law_take : PySem.W.keepIn K (.ref g__law_take) = true)
    {g__law_some : Addr} {od__law_some an__law_some : Option Addr} {sl__law_some : Array (Option Value)} {oc__law_some kV__law_some dc__law_some pm__law_some cd__law_some ct__law_some : Value}
    (a__law_some : PySem.W.nsIn K mainGlobals "_law_some" = some (some (.ref g__law_some)))
    (l__law_some : K.lookup g__law_some = some ⟨oc__law_some, od__law_some, .func (PySem.W.fnOf "_law_some" "_law_some" (defArgs s__law_some) (defBody s__law_some) (defScope s__law_some) .none kV__law_some dc__law_some pm__law_some an__law_some cd__law_some ct__law_some), sl__law_some⟩)
    (c__law_some : PySem.W.codeIn K cd__law_some "_law_some" = true) (k__law_some : PySem.W.keepIn K (.ref g__law_some) = true)
    {g__law_integer_octets : Addr} {od__law_integer_octets an__law_integer_octets : Option Addr} {sl__law_integer_octets : Array (Option Value)} {oc__law_integer_octets kV__law_integer_octets dc__law_integer_octets pm__law_integer_octets cd__law_integer_octets ct__law_integer_octets : Value}
    (a__law_integer_octets : PySem.W.nsIn K mainGlobals "_law_integer_octets" = some (some (.ref g__law_integer_octets)))
    (l__law_integer_octets : K.lookup g__law_integer_octets = some ⟨oc__law_integer_octets, od__law_integer_octets, .func (PySem.W.fnOf "_law_integer_octets" "_law_integer_octets" (defArgs s__law_integer_octets) (defBody s__law_integer_octets) (defScope s__law_integer_octets) .none kV__law_integer_octets dc__law_integer_octets pm__law_integer_octets an__law_integer_octets cd__law_integer_octets ct__law_integer_octets), sl__law_integer_octets⟩)
    (c__law_integer_octets : PySem.W.codeIn K cd__law_integer_octets "_law_integer_octets" = true) (k__law_integer_octets : PySem.W.keepIn K (.ref g__law_integer_octets) = true)
    {g_read_integer : Addr} {od_read_integer an_read_integer : Option Addr} {sl_read_integer : Array (Option Value)} {oc_read_integer kV_read_integer dc_read_integer pm_read_integer cd_read_integer ct_read_integer : Value}
    (a_read_integer : PySem.W.nsIn K mainGlobals "read_integer" = some (some (.ref g_read_integer)))
    (l_read_integer : K.lookup g_read_integer = some ⟨oc_read_integer, od_read_integer, .func (PySem.W.fnOf "read_integer" "read_integer" (defArgs s_read_integer) (defBody s_read_integer) (defScope s_read_integer) .none kV_read_integer dc_read_integer pm_read_integer an_read_integer cd_read_integer ct_read_integer), sl_read_integer⟩)
    (c_read_integer : PySem.W.codeIn K cd_read_integer "read_integer" = true) (k_read_integer : PySem.W.keepIn K (.ref g_read_integer) = true)
    {g__law_alike : Addr} {od__law_alike an__law_alike : Option Addr} {sl__law_alike : Array (Option Value)} {oc__law_alike kV__law_alike dc__law_alike pm__law_alike cd__law_alike ct__law_alike : Value}
    (a__law_alike : PySem.W.nsIn K mainGlobals "_law_alike" = some (some (.ref g__law_alike)))
    (l__law_alike : K.lookup g__law_alike = some ⟨oc__law_alike, od__law_alike, .func (PySem.W.fnOf "_law_alike" "_law_alike" (defArgs s__law_alike) (defBody s__law_alike) (defScope s__law_alike) .none kV__law_alike dc__law_alike pm__law_alike an__law_alike cd__law_alike ct__law_alike), sl__law_alike⟩)
    (c__law_alike : PySem.W.codeIn K cd__law_alike "_law_alike" = true) (k__law_alike : PySem.W.keepIn K (.ref g__law_alike) = true)
    {g_integer_octets : Addr} {od_integer_octets an_integer_octets : Option Addr} {sl_integer_octets : Array (Option Value)} {oc_integer_octets kV_integer_octets dc_integer_octets pm_integer_octets cd_integer_octets ct_integer_octets : Value}
    (a_integer_octets : PySem.W.nsIn K mainGlobals "integer_octets" = some (some (.ref g_integer_octets)))
    (l_integer_octets : K.lookup g_integer_octets = some ⟨oc_integer_octets, od_integer_octets, .func (PySem.W.fnOf "integer_octets" "integer_octets" (defArgs s_integer_octets) (defBody s_integer_octets) (defScope s_integer_octets) .none kV_integer_octets dc_integer_octets pm_integer_octets an_integer_octets cd_integer_octets ct_integer_octets), sl_integer_octets⟩)
    (c_integer_octets : PySem.W.codeIn K cd_integer_octets "integer_octets" = true) (k_integer_octets : PySem.W.keepIn K (.ref g_integer_octets) = true)
    {g__law_read : Addr} {od__law_read an__law_read : Option Addr} {sl__law_read : Array (Option Value)} {oc__law_read kV__law_read dc__law_read pm__law_read cd__law_read ct__law_read : Value}
    (a__law_read : PySem.W.nsIn K mainGlobals "_law_read" = some (some (.ref g__law_read)))
    (l__law_read : K.lookup g__law_read = some ⟨oc__law_read, od__law_read, .func (PySem.W.fnOf "_law_read" "_law_read" (defArgs s__law_read) (defBody s__law_read) (defScope s__law_read) .none kV__law_read dc__law_read pm__law_read an__law_read cd__law_read ct__law_read), sl__law_read⟩)
    (c__law_read : PySem.W.codeIn K cd__law_read "_law_read" = true) (k__law_read : PySem.W.keepIn K (.ref g__law_read) = true)
    {g__law_told : Addr} {od__law_told an__law_told : Option Addr} {sl__law_told : Array (Option Value)} {oc__law_told kV__law_told dc__law_told pm__law_told cd__law_told ct__law_told : Value}
    (a__law_told : PySem.W.nsIn K mainGlobals "_law_told" = some (some (.ref g__law_told)))
    (l__law_told : K.lookup g__law_told = some ⟨oc__law_told, od__law_told, .func (PySem.W.fnOf "_law_told" "_law_told" (defArgs s__law_told) (defBody s__law_told) (defScope s__law_told) .none kV__law_told dc__law_told pm__law_told an__law_told cd__law_told ct__law_told), sl__law_told⟩)
    (c__law_told : PySem.W.codeIn K cd__law_told "_law_told" = true) (k__law_told : PySem.W.keepIn K (.ref g__law_told) = true)
    {g__law_check : Addr} {od__law_check an__law_check : Option Addr} {sl__law_check : Array (Option Value)} {oc__law_check kV__law_check dc__law_check pm__law_check cd__law_check ct__law_check : Value}
    (a__law_check : PySem.W.nsIn K mainGlobals "_law_check" = some (some (.ref g__law_check)))
    (l__law_check : K.lookup g__law_check = some ⟨oc__law_check, od__law_check, .func (PySem.W.fnOf "_law_check" "_law_check" (defArgs s__law_check) (defBody s__law_check) (defScope s__law_check) .none kV__law_check dc__law_check pm__law_check an__law_check cd__law_check ct__law_check), sl__law_check⟩)
    (c__law_check : PySem.W.codeIn K cd__law_check "_law_check" = true) (k__law_check : PySem.W.keepIn K (.ref g__law_check) = true)
    {g__law_sealed : Addr} {od__law_sealed an__law_sealed : Option Addr} {sl__law_sealed : Array (Option Value)} {oc__law_sealed kV__law_sealed dc__law_sealed pm__law_sealed cd__law_sealed ct__law_sealed : Value}
    (a__law_sealed : PySem.W.nsIn K mainGlobals "_law_sealed" = some (some (.ref g__law_sealed)))
    (l__law_sealed : K.lookup g__law_sealed = some ⟨oc__law_sealed, od__law_sealed, .func (PySem.W.fnOf "_law_sealed" "_law_sealed" (defArgs s__law_sealed) (defBody s__law_sealed) (defScope s__law_sealed) .none kV__law_sealed dc__law_sealed pm__law_sealed an__law_sealed cd__law_sealed ct__law_sealed), sl__law_sealed⟩)
    (c__law_sealed : PySem.W.codeIn K cd__law_sealed "_law_sealed" = true) (k__law_sealed : PySem.W.keepIn K (.ref g__law_sealed) = true)
    {g_check_of : Addr} {od_check_of an_check_of : Option Addr} {sl_check_of : Array (Option Value)} {oc_check_of kV_check_of dc_check_of pm_check_of cd_check_of ct_check_of : Value}
    (a_check_of : PySem.W.nsIn K mainGlobals "check_of" = some (some (.ref g_check_of)))
    (l_check_of : K.lookup g_check_of = some ⟨oc_check_of, od_check_of, .func (PySem.W.fnOf "check_of" "check_of" (defArgs s_check_of) (defBody s_check_of) (defScope s_check_of) .none kV_check_of dc_check_of pm_check_of an_check_of cd_check_of ct_check_of), sl_check_of⟩)
    (c_check_of : PySem.W.codeIn K cd_check_of "check_of" = true) (k_check_of : PySem.W.keepIn K (.ref g_check_of) = true)
    {g_sealed : Addr} {od_sealed an_sealed : Option Addr} {sl_sealed : Array (Option Value)} {oc_sealed kV_sealed dc_sealed pm_sealed cd_sealed ct_sealed : Value}
    (a_sealed : PySem.W.nsIn K mainGlobals "sealed" = some (some (.ref g_sealed)))
    (l_sealed : K.lookup g_sealed = some ⟨oc_sealed, od_sealed, .func (PySem.W.fnOf "sealed" "sealed" (defArgs s_sealed) (defBody s_sealed) (defScope s_sealed) .none kV_sealed dc_sealed pm_sealed an_sealed cd_sealed ct_sealed), sl_sealed⟩)
    (c_sealed : PySem.W.codeIn K cd_sealed "sealed" = true) (k_sealed : PySem.W.keepIn K (.ref g_sealed) = true)
    {g_is_sealed : Addr} {od_is_sealed an_is_sealed : Option Addr} {sl_is_sealed : Array (Option Value)} {oc_is_sealed kV_is_sealed dc_is_sealed pm_is_sealed cd_is_sealed ct_is_sealed : Value}
    (a_is_sealed : PySem.W.nsIn K mainGlobals "is_sealed" = some (some (.ref g_is_sealed)))
    (l_is_sealed : K.lookup g_is_sealed = some ⟨oc_is_sealed, od_is_sealed, .func (PySem.W.fnOf "is_sealed" "is_sealed" (defArgs s_is_sealed) (defBody s_is_sealed) (defScope s_is_sealed) .none kV_is_sealed dc_is_sealed pm_is_sealed an_is_sealed cd_is_sealed ct_is_sealed), sl_is_sealed⟩)
    (c_is_sealed : PySem.W.codeIn K cd_is_sealed "is_sealed" = true) (k_is_sealed : PySem.W.keepIn K (.ref g_is_sealed) = true)
    {g_law : Addr} {od_law an_law : Option Addr} {sl_law : Array (Option Value)} {oc_law kV_law dc_law pm_law cd_law ct_law : Value}
    (a_law : PySem.W.nsIn K mainGlobals "law" = some (some (.ref g_law)))
    (l_law : K.lookup g_law = some ⟨oc_law, od_law, .func (PySem.W.fnOf "law" "law" (defArgs s_law) (defBody s_law) (defScope s_law) .none kV_law dc_law pm_law an_law cd_law ct_law), sl_law⟩)
    (c_law : PySem.W.codeIn K cd_law "law" = true) (k_law : PySem.W.keepIn K (.ref g_law) = true)
    {C_BadBytes I_BadBytes cda_BadBytes cc_BadBytes : Addr} {nm_BadBytes q_BadBytes fi_BadBytes : Str} {N_BadBytes : Addr} {bs_BadBytes bm_BadBytes sub_BadBytes : List Value} {sn_BadBytes : List Str} {ab_BadBytes : Bool} {col_BadBytes : Option Bool} {dd_BadBytes : Option Addr} {m0_BadBytes m1_BadBytes m2_BadBytes m3_BadBytes m5_BadBytes : Option Value}
    {oc_BadBytes kV_BadBytes dc_BadBytes pm_BadBytes ct_BadBytes ccl_BadBytes cl_BadBytes : Value} {od_BadBytes an_BadBytes cdd_BadBytes cld_BadBytes : Option Addr} {sl_BadBytes ccs_BadBytes csl_BadBytes : Array (Option Value)} {vs_BadBytes : Array Value} {tf_BadBytes : Tok}
    (xa_BadBytes : PySem.W.nsIn K mainGlobals "BadBytes" = some (some (.ref C_BadBytes)))
    (xl_BadBytes : K.lookup C_BadBytes = some (excClassObj nm_BadBytes q_BadBytes C_BadBytes N_BadBytes bs_BadBytes bm_BadBytes true sn_BadBytes sub_BadBytes ab_BadBytes col_BadBytes dd_BadBytes m0_BadBytes m1_BadBytes m2_BadBytes m3_BadBytes m5_BadBytes "ValueError.__new__")) (xr_BadBytes : PySem.HandSPX.refsVE bm_BadBytes = true)
    (xs_BadBytes : PySem.W.findIn K (.ref C_BadBytes) "__setattr__" = some (some (.builtin "object.__setattr__"))) (xg_BadBytes : PySem.W.findIn K (.ref C_BadBytes) "__getattribute__" = some (some (.builtin "BaseException.__getattribute__"))) (xh_BadBytes : PySem.W.findIn K (.ref C_BadBytes) "__getattr__" = some none)
    (xk_BadBytes : PySem.W.keepIn K (.ref C_BadBytes) = true) (xe_BadBytes : PySem.W.subIn K (.ref C_BadBytes) (.type "BaseException") = some true) (xt_BadBytes : PySem.W.typeIn K (.ref C_BadBytes) = some (.type "type")) (xd_BadBytes : PySem.W.hasDictIn K C_BadBytes = true)
    (xi_BadBytes : PySem.W.findIn K (.ref C_BadBytes) "__init__" = some (some (.ref I_BadBytes))) (xj_BadBytes : PySem.W.typeIn K (.ref I_BadBytes) = some (.type "function"))
    (xf_BadBytes : K.lookup I_BadBytes = some ⟨oc_BadBytes, od_BadBytes, .func (PySem.W.ksFn "__init__" "BadBytes.__init__" (defArgs i_BadBytes) (defBody i_BadBytes) (defScope i_BadBytes) .none kV_BadBytes dc_BadBytes pm_BadBytes an_BadBytes (.ref cda_BadBytes) ct_BadBytes cc_BadBytes), sl_BadBytes⟩)
    (xc_BadBytes : PySem.W.codeIn K (.ref cda_BadBytes) "BadBytes.__init__" = true) (xq_BadBytes : K.lookup cda_BadBytes = some ⟨ccl_BadBytes, cdd_BadBytes, .fields vs_BadBytes, ccs_BadBytes⟩) (xv_BadBytes : vs_BadBytes[2]? = some (.str fi_BadBytes tf_BadBytes)) (xw_BadBytes : ((P.main.file : Str) == fi_BadBytes) = true) (xx_BadBytes : K.lookup cc_BadBytes = some ⟨cl_BadBytes, cld_BadBytes, .cell (some (.ref C_BadBytes)), csl_BadBytes⟩)
    (xy_BadBytes : PySem.W.ks_superIn K C_BadBytes C_BadBytes "__init__" = some (some (.builtin "ValueError.__init__"))) (xz_BadBytes : PySem.W.subIn K (.ref C_BadBytes) (.type "ValueError") = some true) (xm_BadBytes : PySem.W.mroIn K C_BadBytes (.ref C_BadBytes) = some true) (xo_BadBytes : PySem.W.subIn K (.ref C_BadBytes) (.ref C_BadBytes) = some true)
    (xn0_BadBytes : PySem.W.findIn K (.ref C_BadBytes) "index" = some none)
    (xn1_BadBytes : PySem.W.findIn K (.ref C_BadBytes) "fault" = some none)
    (z_super : PySem.W.nsIn K mainGlobals "super" = some none) (htop : (P.main.scope.names.lookup ("super" : Str)).isSome = false) (hop : PySem.W.nsIn K PySem.cStatics "thirdparty.any" = some none)
    : ∃ fd : FuncData, (∀ (s : Shared) (u : Value), BindsTo s fd ⟨[u], []⟩ [("script", u)]) ∧ ∀ base : Heap, K.In base → base.Ns mainGlobals mg → FnOk P w K mg base (L2.CX P w) 5 fa fd ["script"] (spM K mg F_law) := by
  have e := hfa.symm.trans (PySem.W.mg_of X G a_law)
  cases e
  have T : Txt P w K mg := {
    b_abs := PySem.W.mg_none_of X G z_abs,
    b_bool := PySem.W.mg_none_of X G z_bool,
    b_int := PySem.W.mg_none_of X G z_int,
    b_isinstance := PySem.W.mg_none_of X G z_isinstance,
    b_len := PySem.W.mg_none_of X G z_len,
    b_list := PySem.W.mg_none_of X G z_list,
    b_range := PySem.W.mg_none_of X G z_range,
    b_str := PySem.W.mg_none_of X G z_str,
    b_tuple := PySem.W.mg_none_of X G z_tuple,
    b_zip := PySem.W.mg_none_of X G z_zip,
    c_CHECK := ⟨_, PySem.W.mg_of X G q_CHECK⟩,
    c_FACTOR := ⟨_, PySem.W.mg_of X G q_FACTOR⟩,
    c_GROUP := ⟨_, PySem.W.mg_of X G q_GROUP⟩,
    c_HALF := ⟨_, PySem.W.mg_of X G q_HALF⟩,
    c_MODULUS := ⟨_, PySem.W.mg_of X G q_MODULUS⟩,
    f__law_bag := fnt_mk X G a__law_bag l__law_bag c__law_bag k__law_bag fun _ _ _ _ _ _ us hl => match us, hl with | [_], _ => rfl,
    f__law_take := fnt_mk X G a__law_take l__law_take c__law_take k__law_take fun _ _ _ _ _ _ us hl => match us, hl with | [_, _], _ => rfl,
    f__law_some := fnt_mk X G a__law_some l__law_some c__law_some k__law_some fun _ _ _ _ _ _ us hl => match us, hl with | [_, _], _ => rfl,
    f__law_integer_octets := fnt_mk X G a__law_integer_octets l__law_integer_octets c__law_integer_octets k__law_integer_octets fun _ _ _ _ _ _ us hl => match us, hl with | [_], _ => rfl,
    f_read_integer := fnt_mk X G a_read_integer l_read_integer c_read_integer k_read_integer fun _ _ _ _ _ _ us hl => match us, hl with | [_, _], _ => rfl,
    f__law_alike := fnt_mk X G a__law_alike l__law_alike c__law_alike k__law_alike fun _ _ _ _ _ _ us hl => match us, hl with | [_, _], _ => rfl,
    f_integer_octets := fnt_mk X G a_integer_octets l_integer_octets c_integer_octets k_integer_octets fun _ _ _ _ _ _ us hl => match us, hl with | [_], _ => rfl,
    f__law_read := fnt_mk X G a__law_read l__law_read c__law_read k__law_read fun _ _ _ _ _ _ us hl => match us, hl with | [_, _], _ => rfl,
    f__law_told := fnt_mk X G a__law_told l__law_told c__law_told k__law_told fun _ _ _ _ _ _ us hl => match us, hl with | [_, _], _ => rfl,
    f__law_check := fnt_mk X G a__law_check l__law_check c__law_check k__law_check fun _ _ _ _ _ _ us hl => match us, hl with | [_], _ => rfl,
    f__law_sealed := fnt_mk X G a__law_sealed l__law_sealed c__law_sealed k__law_sealed fun _ _ _ _ _ _ us hl => match us, hl with | [_], _ => rfl,
    f_check_of := fnt_mk X G a_check_of l_check_of c_check_of k_check_of fun _ _ _ _ _ _ us hl => match us, hl with | [_], _ => rfl,
    f_sealed := fnt_mk X G a_sealed l_sealed c_sealed k_sealed fun _ _ _ _ _ _ us hl => match us, hl with | [_], _ => rfl,
    f_is_sealed := fnt_mk X G a_is_sealed l_is_sealed c_is_sealed k_is_sealed fun _ _ _ _ _ _ us hl => match us, hl with | [_], _ => rfl,
    x_BadBytes := ⟨C_BadBytes, I_BadBytes, { gC := PySem.W.mg_of X G xa_BadBytes, cls := ⟨_, _, _, _, _, _, _, _, _, _, _, _, _, _, _, xl_BadBytes, xr_BadBytes⟩, sa := xs_BadBytes, ga := xg_BadBytes, gg := xh_BadBytes, kC := xk_BadBytes, exC := xe_BadBytes, tyC := xt_BadBytes, hdC := xd_BadBytes }, xi_BadBytes, xj_BadBytes, ini_ok2 (cn := "BadBytes") rfl { gC := PySem.W.mg_of X G xa_BadBytes, cls := ⟨_, _, _, _, _, _, _, _, _, _, _, _, _, _, _, xl_BadBytes, xr_BadBytes⟩, sa := xs_BadBytes, ga := xg_BadBytes, gg := xh_BadBytes, kC := xk_BadBytes, exC := xe_BadBytes, tyC := xt_BadBytes, hdC := xd_BadBytes } { iC := xi_BadBytes, tC := xj_BadBytes, fn := ⟨_, _, _, _, _, _, _, _, _, _, _, _, _, _, _, _, _, _, _, xf_BadBytes, xc_BadBytes, xq_BadBytes, xv_BadBytes, xw_BadBytes, xx_BadBytes⟩, mgS := PySem.W.mg_none_of X G z_super, top := htop, op := hop, al := xy_BadBytes, isB := xz_BadBytes, mro := xm_BadBytes } (isc_BadBytes) (by intro f hf; simp only [List.mem_cons, List.mem_nil_iff, or_false] at hf; rcases hf with rfl | rfl <;> assumption)⟩,
    xf_BadBytes := fun hC => by have e := hC.symm.trans (PySem.W.mg_of X G xa_BadBytes); cases e; exact ⟨⟨xg_BadBytes, xh_BadBytes, xe_BadBytes, xd_BadBytes⟩, xn0_BadBytes, xn1_BadBytes⟩,
    e_BadBytes_BadBytes := fun h1 h2 => by have e1 := h1.symm.trans (PySem.W.mg_of X G xa_BadBytes); have e2 := h2.symm.trans (PySem.W.mg_of X G xa_BadBytes); cases e1; cases e2; exact PySem.W.exm_ref xe_BadBytes xd_BadBytes xt_BadBytes xo_BadBytes }
  exact ⟨_, fun s v => .of_eq rfl, fun base _ _ => ok_law (fun_mk (st := s_law) l_law c_law k_law) T⟩
end K43
set_option Elab.async false
set_option linter.all false
set_option maxRecDepth 100000
set_option maxHeartbeats 1000000
namespace K43
open PySem L2 DL

theorem and127 (n : Nat) : Builtin.bitAnd (n : Int) 127 = ((n % 128 : Nat) : Int) := by
  rw [PyProof.Rows.bitAnd_pp (by omega) (by omega)]
  congr 1
  have := Nat.and_two_pow_sub_one_eq_mod n 7
  simpa using this
def oIni (n : Nat) : List Nat := if h : n < 128 then [] else (128 + n % 128) :: oIni (n / 128)
termination_by n
decreasing_by omega
def oLast (n : Nat) : Nat := if h : n < 128 then n else oLast (n / 128)
termination_by n
decreasing_by omega
def octs (n : Nat) : List Nat := oIni n ++ [oLast n]
theorem oIni_len (m : Nat) : ∀ n, n < 128 ^ (m + 1) → (oIni n).length ≤ m := by
  induction m with
  | zero => intro n h; rw [oIni, dif_pos (by simpa using h)]; exact Nat.le_refl _
  | succ m ih =>
    intro n h
    rw [oIni]
    split
    · exact Nat.zero_le _
    · rw [List.length_cons]
      have := ih (n / 128) (by rw [Nat.div_lt_iff_lt_mul (by decide)]; rw [Nat.pow_succ] at h; exact h)
      omega
noncomputable abbrev lpI : MS := sWhile (tV (eBin cGe (eV 0) (eC (.int 128))))
  (sSeq (sExpr (eM "list" gAppend (eV 1) (aCons (eBin bAdd (eC (.int 128)) (eBin bAnd (eV 0) (eBin bSub (eC (.int 128)) (eC (.int 1))))) aNil)))
  (sAug 0 bShr (eC (.int 7))))
theorem lpI_ok (st : S) (n : Nat) : ∀ acc : List D, acc.length + (oIni n).length ≤ 1000000 →
    lpI [some (nD n), some (.loc st.length)] (st ++ [.lst acc]) = .nx [some (nD (oLast n)), some (.loc st.length)] (st ++ [.lst (acc ++ (oIni n).map nD)]) := by
  induction n using Nat.strongRecOn with
  | ind n ih =>
    intro acc hl
    by_cases h : n < 128
    · rw [oIni, oLast, dif_pos h, dif_pos h]
      have hn : ¬ (128 ≤ (n : Int)) := by omega
      refine (wh_end (st1 := st ++ [.lst acc]) ?_).trans (by simp)
      simp [hn]
    · have hn : (128 ≤ (n : Int)) := by omega
      rw [oIni, oLast, dif_neg h, dif_neg h]
      rw [oIni, dif_neg h, List.length_cons] at hl
      have step := ih (n / 128) (by omega) (acc ++ [nD (128 + n % 128)]) (by simp; omega)
      refine (wh_go (st1 := st ++ [.lst acc]) (st' := st ++ [.lst (acc ++ [nD (128 + n % 128)])]) (env' := [some (nD (n / 128)), some (.loc st.length)]) ?_ (.inl ?_)).trans (step.trans (by simp))
      · simp [hn]
      · have ha := pv_app (st ++ [.lst acc]) (n := st.length) (xs := acc) (d := nD (128 + n % 128)) (get_last _ _) (by rw [sizeLine_eq]; omega)
        have ht := tyL (st ++ [.lst acc]) (n := st.length) (xs := acc) (get_last _ _)
        have e1 : (128 : Int) + Builtin.bitAnd (n : Int) (128 - 1) = ((128 + n % 128 : Nat) : Int) := by
          rw [show (128 : Int) - 1 = 127 from rfl, and127]; omega
        have e2 : (n : Int) / 2 ^ (7 : Int).toNat = ((n / 128 : Nat) : Int) := by
          show (n : Int) / 128 = _
          omega
        simp only [ev_sSeq, ev_sExpr, ev_M, ev_V, ev_aCons, ev_aNil, ev_Bin, ev_C, List.getElem?_cons_zero, List.getElem?_cons_succ, R.bind, R.toS, ofO, pv_add, pv_sub, pv_and, ht, if_true, ev_sAug, e1]
        rw [ha]
        simp only [set_last, ofO, R.bind, R.toS, List.getElem?_cons_zero]
        rw [pv_shr _ (show (0 : Int) ≤ 7 by decide), e2]
        rfl
theorem int_oct (n : Nat) (h : n < 128 ^ 1000) (st : S) : F_integer_octets [nD n] st = .ok (.tup ((octs n).map nD)) st := by
  have hl := oIni_len 999 n h
  have hlp := lpI_ok st n [] (by simp; omega)
  have hbody : (sSeq (sSet 1 (eLst aNil)) (sSeq lpI (sRet (eTup (aStar (eV 1) (aCons (eV 0) aNil)))))) (ent 2 [nD n]) st = .ret (.tup ((octs n).map nD)) (st ++ [.lst ((oIni n).map nD)]) := by
    have hz : ((oIni n).map nD ++ [nD (oLast n)]).length ≤ sizeLine := by rw [sizeLine_eq]; simp; omega
    have hit := pv_itL (st ++ [.lst ((oIni n).map nD)]) (n := st.length) (get_last _ _)
    simp only [ev_sSeq, ev_sSet, ev_Lst, ev_aNil, R.bind, R.toS, ent, List.map_cons, List.map_nil, List.length_cons, List.length_nil, List.length_map, List.replicate, List.singleton_append, List.cons_append, List.nil_append, List.set_cons_succ, List.set_cons_zero, Nat.zero_le, if_true]
    rw [hlp]
    simp only [ev_sRet, ev_Tup, ev_aStar, ev_V, ev_aCons, ev_aNil, List.getElem?_cons_zero, List.getElem?_cons_succ, R.bind, R.toS, List.nil_append, hit]
    rw [if_pos hz]
    simp [octs, List.map_append]
  refine (runF_at rfl hbody).trans (trim_ok ?_)
  show nolocs _ = true
  rw [nolocs_iff]
  intro d hd
  obtain ⟨k, _, rfl⟩ := List.mem_map.mp hd
  rfl
end K43
set_option Elab.async false
set_option linter.all false
set_option maxRecDepth 100000
set_option maxHeartbeats 1000000
namespace K43
open PySem L2 DL
def pM : Nat := 4294967291
def chk (c : Nat) (o : List Nat) : Nat := o.foldl (fun c x => (c * 257 + x + 1) % pM) c
theorem take_snoc {α : Type} {l : List α} {i : Nat} {x : α} (h : l[i]? = some x) : l.take (i + 1) = l.take i ++ [x] := by
  have hi := (List.getElem?_eq_some_iff.mp h)
  obtain ⟨h1, h2⟩ := hi
  rw [List.take_succ, h]; rfl
theorem chk_snoc (c : Nat) (o : List Nat) (x : Nat) : chk c (o ++ [x]) = (chk c o * 257 + x + 1) % pM := by simp [chk]
/-- a walk over octets that keeps the check in slot 1, the octet in slot 2 -/
theorem chk_loop (b : MS) (T : D) (st : S) (hb : ∀ c x : Nat, b [some T, some (nD c), some (nD x)] st = .nx [some T, some (nD ((c * 257 + x + 1) % pM)), some (nD x)] st) (o : List Nat) (v : Option D) :
    ∃ w, forL (fun _ => True) (gN 2) b (o.map nD) [some T, some (nD 1), v] st = .nx [some T, some (nD (chk 1 o)), w] st := by
  obtain ⟨env', st', h1, w, rfl, rfl⟩ := for_inv (gd := fun _ => True) (g := gN 2) (b := b) (fun i env s => ∃ v, env = [some T, some (nD (chk 1 (o.take i))), v] ∧ s = st) (ds := o.map nD) (env := [some T, some (nD 1), v]) (st := st) ⟨v, rfl, rfl⟩ (by
      rintro i env s d hd ⟨v, rfl, rfl⟩
      rw [List.getElem?_map] at hd
      cases e : o[i]? with
      | none => rw [e] at hd; cases hd
      | some x =>
        rw [e] at hd
        cases hd
        exact ⟨_, _, _, _, rfl, .inl (hb _ x), trivial, some (nD x), by rw [take_snoc e, chk_snoc], rfl⟩)
  refine ⟨w, h1.trans ?_⟩
  rw [List.length_map, List.take_length]
theorem check_of_ok (o : List Nat) (st : S) : F_check_of [.tup (o.map nD)] st = .ok (nD (chk 1 o)) st := by
  refine (runF_at (r := .ret (nD (chk 1 o)) st) rfl ?_).trans trim_same
  obtain ⟨w, hw⟩ := chk_loop (sSet 1 (eBin bMod (eBin bAdd (eBin bAdd (eBin bMul (eV 1) (eC (.int 257))) (eV 2)) (eC (.int 1))) (eC (.int 4294967291)))) (.tup (o.map nD)) st (fun c x => by
    have hm : bMul (nD c) (.int 257) st = some (.int ((c : Int) * 257), st) := pv_mul st (.inl (.inr ⟨by decide, by decide⟩))
    have e : ((c : Int) * 257 + x + 1) % 4294967291 = (((c * 257 + x + 1) % pM : Nat) : Int) := by unfold pM; omega
    simp only [ev_sSet, ev_Bin, ev_V, ev_C, List.getElem?_cons_zero, List.getElem?_cons_succ, R.bind, ofO, hm, pv_add, R.toS, pv_mod st (show (0 : Int) < 4294967291 by decide), e]
    rfl) o none
  show (sSeq _ _) _ _ = _
  simp only [ev_sSeq, ev_sSet, ev_C, R.toS, ent, List.map_cons, List.map_nil, ev_sFor, ev_iSeq]
  show (match (match forL (fun _ => True) (gN 2) _ (o.map nD) [some (.tup (o.map nD)), some (nD 1), none] st with | .nx env' st' => sRet (eV 1) env' st' | r => r) with | r => r) = _
  rw [hw]
  rfl
theorem law_check_ok (o : List Nat) (st : S) : F__law_check [.tup (o.map nD)] st = .ok (nD (chk 1 o)) st := by
  refine (runF_at (r := .ret (nD (chk 1 o)) st) rfl ?_).trans trim_same
  obtain ⟨w, hw⟩ := chk_loop (sSet 1 (eBin bMod (eP gInt (aCons (eBin bAdd (eBin bAdd (eBin bMul (eC (.int 257)) (eV 1)) (eV 2)) (eC (.int 1))) aNil)) (eC (.int 4294967291)))) (.tup (o.map nD)) st (fun c x => by
    have hm : bMul (.int 257) (nD c) st = some (.int (257 * (c : Int)), st) := pv_mul st (.inl (.inl ⟨by decide, by decide⟩))
    have e : (257 * (c : Int) + x + 1) % 4294967291 = (((c * 257 + x + 1) % pM : Nat) : Int) := by unfold pM; omega
    simp only [ev_sSet, ev_Bin, ev_V, ev_C, ev_P, ev_aCons, ev_aNil, List.getElem?_cons_zero, List.getElem?_cons_succ, R.bind, ofO, hm, pv_add, pv_toint, R.toS, pv_mod st (show (0 : Int) < 4294967291 by decide), e]
    rfl) o none
  show (sSeq _ _) _ _ = _
  simp only [ev_sSeq, ev_sSet, ev_C, R.toS, ent, List.map_cons, List.map_nil, ev_sFor, ev_iSeq]
  show (match (match forL (fun _ => True) (gN 2) _ (o.map nD) [some (.tup (o.map nD)), some (nD 1), none] st with | .nx env' st' => sRet (eV 1) env' st' | r => r) with | r => r) = _
  rw [hw]
  rfl
end K43
set_option Elab.async false
set_option linter.all false
set_option maxRecDepth 100000
set_option maxHeartbeats 1000000
namespace K43
open PySem L2 DL
def be4 (c : Nat) : List Nat := [c / 2 ^ 24, c / 2 ^ 16 % 256, c / 2 ^ 8 % 256, c % 256]
def sld (o : List Nat) : List Nat := o ++ be4 (chk 1 o)
theorem chk_lt (c : Nat) (hc : c < pM) (o : List Nat) : chk c o < pM := by
  induction o generalizing c with
  | nil => exact hc
  | cons x o ih => exact ih _ (Nat.mod_lt _ (by decide))
theorem chk1_lt (o : List Nat) : chk 1 o < pM := chk_lt 1 (by decide) o
theorem and255 (n : Nat) : Builtin.bitAnd (n : Int) 255 = ((n % 256 : Nat) : Int) := by
  rw [PyProof.Rows.bitAnd_pp (by omega) (by omega)]
  congr 1
  have := Nat.and_two_pow_sub_one_eq_mod n 8
  simpa using this
theorem shr_nat (st : S) (n k : Nat) : bShr (nD n) (.int (k : Int)) st = some (nD (n / 2 ^ k), st) := by
  have e : (n : Int) / 2 ^ ((k : Int)).toNat = ((n / 2 ^ k : Nat) : Int) := by
    rw [Int.toNat_natCast]; norm_cast
  rw [pv_shr st (show (0 : Int) ≤ (k : Int) by omega), e]
theorem sealed_ok (o : List Nat) (hl : o.length ≤ 1000000) (st : S) : F_sealed [.tup (o.map nD)] st = .ok (.tup ((sld o).map nD)) st := by
  refine (runF_at (r := .ret (.tup ((sld o).map nD)) st) rfl ?_).trans trim_same
  show (sSeq _ _) _ _ = _
  have hz : (o.map nD ++ [nD (chk 1 o / 2 ^ 24), .int (((chk 1 o / 2 ^ 16 % 256 : Nat)) : Int), .int (((chk 1 o / 2 ^ 8 % 256 : Nat)) : Int), .int (((chk 1 o % 256 : Nat)) : Int)]).length ≤ sizeLine := by rw [sizeLine_eq]; simp; omega
  simp only [ev_sSeq, ev_sSet, ev_F, ev_aCons, ev_V, ev_aNil, ent, List.map_cons, List.map_nil, List.getElem?_cons_zero, List.getElem?_cons_succ, R.bind, List.nil_append, List.cons_append, check_of_ok, R.toS]
  simp only [ev_sRet, ev_Tup, ev_aStar, ev_V, ev_C, ev_aCons, ev_Bin, ev_aNil, List.replicate, List.length_cons, List.length_nil, List.set_cons_succ, List.set_cons_zero, List.getElem?_cons_zero, List.getElem?_cons_succ, R.bind, pv_itT]
  have s24 : bShr (nD (chk 1 o)) (.int 24) st = _ := shr_nat st (chk 1 o) 24
  have s16 : bShr (nD (chk 1 o)) (.int 16) st = _ := shr_nat st (chk 1 o) 16
  have s8 : bShr (nD (chk 1 o)) (.int 8) st = _ := shr_nat st (chk 1 o) 8
  simp only [s24, s16, s8, ofO, R.bind, pv_and, and255]
  rw [if_pos hz]
  simp [R.toS, sld, be4]
def tlB (c : Nat) : Nat → List Nat
  | 0 => []
  | i + 1 => (c / 256 ^ i % 256) :: tlB c i
theorem tlB_len (c : Nat) : ∀ i, (tlB c i).length = i
  | 0 => rfl
  | i + 1 => by simp [tlB, tlB_len c i]
theorem tlB4 (c : Nat) (h : c < pM) : tlB c 4 = be4 c := by
  unfold pM at h
  simp [tlB, be4]
  omega
theorem law_sealed_ok (o : List Nat) (hl : o.length ≤ 1000000) (st : S) : F__law_sealed [.tup (o.map nD)] st = .ok (.tup ((sld o).map nD)) st := by
  let c := chk 1 o
  obtain ⟨env', st', h1, h2⟩ := for_inv (gd := fun _ => True) (g := gN 3) (b := sSeq (sSet 2 (eBin bAdd (eLst (aCons (eBin bMod (eP gInt (aCons (eV 1) aNil)) (eC (.int 256))) aNil)) (eV 2)))
      (sSet 1 (eBin bFdiv (eP gInt (aCons (eV 1) aNil)) (eC (.int 256)))))
    (fun i env s => ∃ v j k, i ≤ 4 ∧ env = [some (.tup (o.map nD)), some (nD (c / 256 ^ i)), some (.loc k), v] ∧ s = st ++ j ∧ s[k]? = some (.lst ((tlB c i).map nD)))
    (ds := rngD 0 4) (env := [some (.tup (o.map nD)), some (nD c), some (.loc st.length), none]) (st := st ++ [.lst []])
    ⟨none, [.lst []], st.length, by omega, by simp, rfl, get_last _ _⟩ (by
      rintro i env s d hd ⟨v, j, k, hi, rfl, rfl, hk⟩
      obtain ⟨hi4, rfl⟩ := rngD_get (n := 4) hd
      have e1 : ((c / 256 ^ i : Nat) : Int) % 256 = ((c / 256 ^ i % 256 : Nat) : Int) := by norm_cast
      have e2 : ((c / 256 ^ i : Nat) : Int) / 256 = ((c / 256 ^ (i + 1) : Nat) : Int) := by
        rw [Nat.pow_succ, ← Nat.div_div_eq_div_mul]; norm_cast
      refine ⟨_, _, [some (.tup (o.map nD)), some (nD (c / 256 ^ (i + 1))), some (.loc ((st ++ j) ++ [Cell.lst [nD (c / 256 ^ i % 256)]]).length), some (.int i)], (st ++ j) ++ [.lst [nD (c / 256 ^ i % 256)]] ++ [.lst ([nD (c / 256 ^ i % 256)] ++ (tlB c i).map nD)], rfl, .inl ?_, trivial, ⟨some (.int i), j ++ [.lst [nD (c / 256 ^ i % 256)]] ++ [.lst ([nD (c / 256 ^ i % 256)] ++ (tlB c i).map nD)], _, by omega, rfl, by simp, get_last _ _⟩⟩
      have hd2 : bFdiv (nD (c / 256 ^ i)) (.int 256) ((st ++ j) ++ [.lst [nD (c / 256 ^ i % 256)]] ++ [.lst ([nD (c / 256 ^ i % 256)] ++ (tlB c i).map nD)]) = some (.int ((c / 256 ^ i : Nat) / 256), _) := pv_fdiv _ ⟨by decide, by decide⟩
      have hz : ([nD (c / 256 ^ i % 256)] ++ (tlB c i).map nD).length ≤ sizeLine := by rw [sizeLine_eq]; simp [tlB_len]; omega
      have hkl := (List.getElem?_eq_some_iff.mp hk).1
      have hk2 : ((st ++ j) ++ [Cell.lst [nD (c / 256 ^ i % 256)]])[k]? = some (.lst ((tlB c i).map nD)) := by rw [List.getElem?_append_left hkl]; exact hk
      have hadd : bAdd (.loc (st ++ j).length) (.loc k) ((st ++ j) ++ [.lst [nD (c / 256 ^ i % 256)]]) = some (.loc ((st ++ j) ++ [Cell.lst [nD (c / 256 ^ i % 256)]]).length, (st ++ j) ++ [.lst [nD (c / 256 ^ i % 256)]] ++ [.lst ([nD (c / 256 ^ i % 256)] ++ (tlB c i).map nD)]) := by
        unfold bAdd
        dsimp only
        rw [get_last, hk2]
        exact if_pos (by rw [← List.length_append]; exact hz)
      have one : [nD (c / 256 ^ i % 256)].length ≤ sizeLine := by rw [sizeLine_eq]; show 1 ≤ 16777216; decide
      simp only [ev_sSeq, ev_sSet, ev_Bin, ev_Lst, ev_P, ev_aCons, ev_V, ev_C, ev_aNil, List.getElem?_cons_zero, List.getElem?_cons_succ, R.bind, ofO, pv_toint, pv_mod _ (show (0 : Int) < 256 by decide), e1, R.toS, List.set_cons_succ, List.set_cons_zero]
      rw [if_pos one]
      simp only [R.bind, hadd, ofO, R.toS, List.getElem?_cons_zero, List.getElem?_cons_succ, pv_toint, hd2, e2, List.set_cons_succ, List.set_cons_zero])
  obtain ⟨v, j, k, _, rfl, rfl, hk⟩ := h2
  have hlen : (rngD 0 4).length = 4 := rfl
  rw [hlen, tlB4 c (chk1_lt o)] at hk
  refine (runF_at (r := .ret (.tup ((sld o).map nD)) (st ++ j)) rfl ?_).trans (trim_ok (noloc_nat _))
  show (sSeq _ _) _ _ = _
  have hz : (o.map nD).length + ((be4 c).map nD).length ≤ sizeLine := by rw [sizeLine_eq]; simp [be4]; omega
  simp only [ev_sSeq, ev_sPar, ev_F, ev_aCons, ev_V, ev_aNil, ev_Lst, ent, List.map_cons, List.map_nil, List.getElem?_cons_zero, List.getElem?_cons_succ, R.bind, List.nil_append, List.cons_append, law_check_ok, R.toS, List.length_nil, Nat.zero_le, if_true, List.length_cons, List.zip_cons_cons, List.zip_nil_right, List.foldl_cons, List.foldl_nil, List.replicate, List.set_cons_succ, List.set_cons_zero, ev_sFor, ev_iR1, ev_C, onI]
  rw [if_pos (by decide)]
  simp only [R.toS]
  rw [h1]
  simp only [ev_sRet, ev_Bin, ev_P, ev_aCons, ev_V, ev_aNil, List.getElem?_cons_zero, List.getElem?_cons_succ, R.bind, pv_tup, ofO, pv_tupL _ hk]
  have hadd : bAdd (.tup (o.map nD)) (.tup ((be4 c).map nD)) (st ++ j) = some (.tup (o.map nD ++ (be4 c).map nD), st ++ j) := if_pos hz
  rw [hadd]
  simp [R.toS, sld, c]
end K43
set_option Elab.async false
set_option linter.all false
set_option maxRecDepth 100000
set_option maxHeartbeats 1000000
namespace K43
open PySem L2 DL
theorem cut_to {α : Type} (xs : List α) (k : Nat) : cutD xs none (some (k : Int)) = xs.take k := by
  unfold cutD
  rw [HT.sIx_nat]
  show (xs.drop 0).take (min k xs.length - 0) = _
  rw [List.drop_zero, Nat.sub_zero]
  rcases Nat.le_total k xs.length with h | h
  · rw [Nat.min_eq_left h]
  · rw [Nat.min_eq_right h, List.take_of_length_le (Nat.le_refl _), List.take_of_length_le h]
theorem cut_from {α : Type} (xs : List α) (k : Nat) : cutD xs (some (k : Int)) none = xs.drop k := by
  unfold cutD
  rw [HT.sIx_nat]
  show (xs.drop (min k xs.length)).take (xs.length - min k xs.length) = _
  rcases Nat.le_total k xs.length with h | h
  · rw [Nat.min_eq_left h, List.take_of_length_le (by simp)]
  · rw [Nat.min_eq_right h, Nat.sub_self, List.take_zero, List.drop_of_length_le h]
theorem cut_in {α : Type} (xs : List α) (i k : Nat) : cutD xs (some (i : Int)) (some (k : Int)) = (xs.drop i).take (k - i) := by
  unfold cutD
  rw [HT.sIx_nat, HT.sIx_nat]
  rcases Nat.le_total i xs.length with h | h
  · rw [Nat.min_eq_left h]
    rcases Nat.le_total k xs.length with h2 | h2
    · rw [Nat.min_eq_left h2]
    · rw [Nat.min_eq_right h2, List.take_of_length_le (by simp), List.take_of_length_le (by simp; omega)]
  · rw [Nat.min_eq_right h, List.drop_of_length_le h, List.drop_of_length_le (Nat.le_refl _)]; simp
def isSld (o : List Nat) : Bool := decide (4 ≤ o.length) && decide (sld (o.take (o.length - 4)) = o)
theorem is_sealed_ok (o : List Nat) (hl : o.length ≤ 1000000) (st : S) : F_is_sealed [.tup (o.map nD)] st = .ok (.bl (isSld o)) st := by
  refine (runF_at (r := .ret (.bl (isSld o)) st) rfl ?_).trans trim_same
  show sRet _ _ _ = _
  simp only [ev_sRet, ev_And, ev_Bin, ev_P, ev_aCons, ev_aNil, ev_V, ev_C, ent, List.map_cons, List.map_nil, List.replicate, List.length_cons, List.length_nil, List.cons_append, List.nil_append, List.getElem?_cons_zero, R.bind, pv_lenT, List.length_map, ofO, pv_int, onB, Nat.sub_self, List.replicate_zero]
  by_cases h : 4 ≤ o.length
  · have h' : (4 : Int) ≤ (o.length : Int) := by omega
    rw [decide_eq_true h', if_pos rfl]
    have e1 : (o.length : Int) - 4 = ((o.length - 4 : Nat) : Int) := by omega
    have hs : gSl (.tup (o.map nD)) none (some ((o.length - 4 : Nat) : Int)) st = some (.tup ((o.take (o.length - 4)).map nD), st) := by
      show some (D.tup (cutD (o.map nD) none (some ((o.length - 4 : Nat) : Int))), st) = _
      rw [cut_to, List.map_take]
    simp only [ev_F, ev_aCons, ev_Sl, ev_V, ev_oN, ev_oS, ev_Bin, ev_P, ev_aNil, ev_C, List.getElem?_cons_zero, R.bind, pv_lenT, List.length_map, ofO, pv_sub, onI, e1, hs, sealed_ok _ (show (o.take (o.length - 4)).length ≤ 1000000 by simp; omega), pv_tup, cEq_nat, R.toS]
    simp [isSld, h]
  · have h' : ¬ (4 : Int) ≤ (o.length : Int) := by omega
    rw [decide_eq_false h', if_neg (by decide)]
    simp [isSld, h, R.toS]
/-! ### the octets of a number, by the law -/
theorem octs_eq (n : Nat) : octs n = if n < 128 then [n] else (128 + n % 128) :: octs (n / 128) := by
  unfold octs
  rw [oIni, oLast]
  split
  · rfl
  · rfl
noncomputable abbrev bLO : MS := sSeq (sIf (tV (eBin cEq (eV 2) (eC (.int 0))))
  sBrk
  sNil)
  (sSeq (sAsg (eBin bAdd (eBin gIx (eV 1) (eUn gNeg (eC (.int 1)))) (eC (.int 128))) (gSubL (eV 1) (eUn gNeg (eC (.int 1)))))
  (sSeq (sExpr (eM "list" gAppend (eV 1) (aCons (eBin bMod (eP gInt (aCons (eV 2) aNil)) (eC (.int 128))) aNil)))
  (sSet 2 (eBin bFdiv (eP gInt (aCons (eV 2) aNil)) (eC (.int 128))))))
theorem set_at {st : S} {k : Nat} {c c' : Cell} (h : st[k]? = some c) : (st.set k c')[k]? = some c' := by
  rw [List.getElem?_set_self (List.getElem?_eq_some_iff.mp h).1]
theorem bLO_go (T : D) (acc : List D) (r rest k : Nat) (v : Option D) (st : S) (hk : st[k]? = some (.lst (acc ++ [nD r]))) (hz : acc.length ≤ 1000) (h0 : rest ≠ 0) :
    bLO [some T, some (.loc k), some (nD rest), v] st = .nx [some T, some (.loc k), some (nD (rest / 128)), v] (st.set k (.lst (acc ++ [nD (128 + r)] ++ [nD (rest % 128)]))) := by
  have e0 : cEq (nD rest) (.int 0) st = some (.bl false, st) := by rw [cEq_int]; simp; omega
  have hl : (acc ++ [nD r]).length = acc.length + 1 := by simp
  have ix : gIx (.loc k) (.int (-1)) st = some (nD r, st) := by
    refine pv_ixL hk ?_
    unfold atI ixN
    rw [if_neg (by decide), if_pos (by rw [hl]; omega), hl]
    have : ((-1 : Int) + ((acc.length + 1 : Nat) : Int)).toNat = acc.length := by omega
    rw [this]
    exact get_last _ _
  have st1 : gSet (.loc k) (.int (-1)) (.int ((r : Int) + 128)) st = some (st.set k (.lst (acc ++ [nD (128 + r)]))) := by
    have hj : ixN (acc ++ [nD r]).length (-1) = some acc.length := by
      unfold ixN
      rw [if_neg (by decide), if_pos (by rw [hl]; omega), hl]
      congr 1
      omega
    rw [pv_set st hk hj, set_last]
    have : ((r : Int) + 128) = ((128 + r : Nat) : Int) := by omega
    rw [this]
  have hk2 := set_at (c' := .lst (acc ++ [nD (128 + r)])) hk
  have ap : gAppend [.loc k, nD (rest % 128)] (st.set k (.lst (acc ++ [nD (128 + r)]))) = some (.non, (st.set k (.lst (acc ++ [nD (128 + r)]))).set k (.lst (acc ++ [nD (128 + r)] ++ [nD (rest % 128)]))) :=
    pv_app _ hk2 (by rw [sizeLine_eq]; simp; omega)
  have e1 : (rest : Int) % 128 = ((rest % 128 : Nat) : Int) := by norm_cast
  have e2 : (rest : Int) / 128 = ((rest / 128 : Nat) : Int) := by norm_cast
  have dv : ∀ s : S, bFdiv (nD rest) (.int 128) s = some (.int ((rest : Int) / 128), s) := fun s => pv_fdiv s ⟨by decide, by decide⟩
  simp only [ev_sSeq, ev_sIf, ev_tV, ev_Bin, ev_V, ev_C, List.getElem?_cons_zero, List.getElem?_cons_succ, R.bind, e0, ofO, onB, R.toS, ev_sNil, ev_sAsg, ev_Un, pv_neg, ix, pv_add, ev_gSubL, R.get?, Option.bind_some, st1, Option.map_some, Bool.false_eq_true, if_false]
  simp only [ev_sExpr, ev_M, ev_V, ev_aCons, ev_aNil, ev_Bin, ev_P, ev_C, List.getElem?_cons_zero, List.getElem?_cons_succ, R.bind, tyL _ hk2, if_true, pv_toint, ofO, pv_mod _ (show (0 : Int) < 128 by decide), e1, ap, R.toS, ev_sSet, dv, e2, List.set_cons_succ, List.set_cons_zero, List.set_set]
theorem set_same {st : S} {k : Nat} {c : Cell} (h : st[k]? = some c) : st.set k c = st := by
  obtain ⟨h1, h2⟩ := List.getElem?_eq_some_iff.mp h
  rw [← h2]; exact List.set_getElem_self h1
theorem lo_loop (T : D) : ∀ (ds : List D) (acc : List D) (r rest k : Nat) (v : Option D) (st : S), r < 128 → rest < 128 ^ ds.length → acc.length + ds.length ≤ 1000 → st[k]? = some (.lst (acc ++ [nD r])) →
    ∃ w1 w2, forL (fun _ => True) (gN 3) bLO ds [some T, some (.loc k), some (nD rest), v] st = .nx [some T, some (.loc k), w1, w2] (st.set k (.lst (acc ++ (octs (r + 128 * rest)).map nD)))
  | [], acc, r, rest, k, v, st, hr, hlt, hz, hk => by
    have : rest = 0 := by simpa using hlt
    subst this
    have e : octs (r + 128 * 0) = [r] := by rw [octs_eq, if_pos (by omega)]; rfl
    refine ⟨some (nD 0), v, ?_⟩
    rw [e]
    show RS.nx _ st = RS.nx _ _
    rw [set_same (c := .lst (acc ++ [r].map nD)) hk]
  | d :: ds, acc, r, rest, k, v, st, hr, hlt, hz, hk => by
    by_cases h0 : rest = 0
    · subst h0
      refine ⟨some (nD 0), some d, ?_⟩
      have e : octs (r + 128 * 0) = [r] := by rw [octs_eq, if_pos (by omega)]; rfl
      rw [e]
      have hb : bLO [some T, some (.loc k), some (nD 0), some d] st = .brk [some T, some (.loc k), some (nD 0), some d] st := by
        have e0 : cEq (nD 0) (.int 0) st = some (.bl true, st) := by rw [cEq_int]; simp
        simp only [ev_sSeq, ev_sIf, ev_tV, ev_Bin, ev_V, ev_C, List.getElem?_cons_zero, List.getElem?_cons_succ, R.bind, e0, ofO, onB, R.toS, if_true, ev_sBrk]
      rw [set_same (c := .lst (acc ++ [r].map nD)) hk]
      exact forL_brk rfl hb
    · have hgo := bLO_go T acc r rest k (some d) st hk (by rw [List.length_cons] at hz; omega) h0
      obtain ⟨w1, w2, ih⟩ := lo_loop T ds (acc ++ [nD (128 + r)]) (rest % 128) (rest / 128) k (some d) (st.set k (.lst (acc ++ [nD (128 + r)] ++ [nD (rest % 128)]))) (Nat.mod_lt _ (by decide))
        (by rw [List.length_cons, Nat.pow_succ] at hlt; exact (Nat.div_lt_iff_lt_mul (by decide)).mpr hlt) (by rw [List.length_cons] at hz; simp; omega) (set_at hk)
      refine ⟨w1, w2, ?_⟩
      refine (forL_nx rfl (.inl hgo) trivial).trans (ih.trans ?_)
      rw [List.set_set]
      have e : octs (r + 128 * rest) = (128 + r) :: octs (rest % 128 + 128 * (rest / 128)) := by
        rw [octs_eq, if_neg (by omega)]
        have e1 : (r + 128 * rest) % 128 = r := by omega
        have e2 : (r + 128 * rest) / 128 = rest := by omega
        have e3 : rest % 128 + 128 * (rest / 128) = rest := by omega
        rw [e1, e2, e3]
      rw [e]
      simp
theorem law_octets_ok (n : Nat) (h : n < 128 ^ 400) (st : S) : F__law_integer_octets [nD n] st = .ok (.tup ((octs n).map nD)) st := by
  have e1 : (n : Int) % 128 = ((n % 128 : Nat) : Int) := by norm_cast
  have e2 : (n : Int) / 128 = ((n / 128 : Nat) : Int) := by norm_cast
  obtain ⟨w1, w2, hl⟩ := lo_loop (nD n) (rngD 0 400) [] (n % 128) (n / 128) st.length none (st ++ [.lst [nD (n % 128)]]) (Nat.mod_lt _ (by decide)) (by
    rw [show (rngD 0 400).length = 400 from rngD_len 400]
    exact Nat.lt_of_le_of_lt (Nat.div_le_self _ _) h) (by rw [show (rngD 0 400).length = 400 from rngD_len 400]; decide) (get_last _ _)
  have e3 : n % 128 + 128 * (n / 128) = n := by omega
  rw [e3, set_last] at hl
  have one : [nD (n % 128)].length ≤ sizeLine := by rw [sizeLine_eq]; show 1 ≤ 16777216; decide
  refine (runF_at (r := .ret (.tup ((octs n).map nD)) (st ++ [.lst ((octs n).map nD)])) rfl ?_).trans (trim_ok (noloc_nat _))
  have he : ent 4 [nD n] = [some (nD n), none, none, none] := rfl
  rw [he]
  show (sSeq _ _) _ _ = _
  have dv : ∀ s : S, bFdiv (nD n) (.int 128) s = some (.int ((n : Int) / 128), s) := fun s => pv_fdiv s ⟨by decide, by decide⟩
  simp only [ev_sSeq, ev_sSet, ev_Lst, ev_P, ev_aCons, ev_aNil, ev_V, ev_C, ev_Bin, List.getElem?_cons_zero, List.getElem?_cons_succ, R.bind, pv_toint, ofO, pv_mod _ (show (0 : Int) < 128 by decide), e1, R.toS]
  rw [if_pos one]
  simp only [R.toS, List.set_cons_succ, List.set_cons_zero, List.getElem?_cons_zero, pv_toint, dv, e2, R.bind, ofO, ev_sFor, ev_iR1, ev_C, onI]
  rw [if_pos (by decide)]
  simp only [R.toS]
  rw [hl]
  simp only [ev_sRet, ev_P, ev_aCons, ev_aNil, ev_V, List.getElem?_cons_zero, List.getElem?_cons_succ, R.bind, pv_tupL _ (get_last _ _), ofO, R.toS, List.nil_append]
end K43
set_option Elab.async false
set_option linter.all false
set_option maxRecDepth 100000
set_option maxHeartbeats 1000000
namespace K43
open PySem L2 DL
/-- the number of a run of groups -/
def val : List Nat → Nat
  | [] => 0
  | x :: l => x % 128 + 128 * val l
theorem val_snoc (l : List Nat) (x : Nat) : val (l ++ [x]) = val l + x % 128 * 128 ^ l.length := by
  induction l with
  | nil => simp [val]
  | cons a l ih =>
    rw [List.cons_append]
    simp only [val]
    rw [ih, List.length_cons, Nat.pow_succ, Nat.mul_add]
    rw [← Nat.add_assoc]
    congr 1
    rw [Nat.mul_left_comm, Nat.mul_comm 128 (128 ^ l.length)]
theorem val_lt (l : List Nat) : val l < 128 ^ l.length := by
  induction l with
  | nil => simp [val]
  | cons a l ih =>
    simp only [val]
    rw [List.length_cons, Nat.pow_succ]
    have := Nat.mod_lt a (show 0 < 128 by decide)
    omega
theorem val_rev (l : List Nat) : l.reverse.foldl (fun v x => v * 128 + x % 128) 0 = val l := by
  induction l with
  | nil => rfl
  | cons a l ih =>
    rw [List.reverse_cons, List.foldl_append, ih]
    simp only [List.foldl_cons, List.foldl_nil, val]
    omega
def bl7 (a : Nat) : List Nat := [48 + a / 64 % 2, 48 + a / 32 % 2, 48 + a / 16 % 2, 48 + a / 8 % 2, 48 + a / 4 % 2, 48 + a / 2 % 2, 48 + a % 2]
theorem bn_flat (l : List Nat) (v : Nat) : (l.map fun x => bl7 (x % 128)).flatten.foldl (fun a c => a * 2 + (c - 48)) v = l.foldl (fun v x => v * 128 + x % 128) v := by
  induction l generalizing v with
  | nil => rfl
  | cons x l ih =>
    rw [List.map_cons, List.flatten_cons, List.foldl_append, ih, List.foldl_cons]
    congr 1
    have h : x % 128 < 128 := Nat.mod_lt _ (by decide)
    generalize x % 128 = y at h
    simp only [bl7, List.foldl_cons, List.foldl_nil, Nat.add_sub_cancel_left]
    omega
theorem joinL_nil : ∀ l : List (List Nat), TL.joinL [] l = l.flatten
  | [] => rfl
  | [p] => by simp [TL.joinL]
  | p :: q :: r => by
    have ih := joinL_nil (q :: r)
    show p ++ ([] ++ TL.joinL [] (q :: r)) = _
    rw [ih]; simp
theorem strsD_map {α : Type} (g : α → PySem.Str) : ∀ l : List α, strsD (l.map fun x => D.str (g x)) = some (l.map g)
  | [] => rfl
  | a :: l => by
    show (strsD (l.map fun x => D.str (g x))).map (g a :: ·) = _
    rw [strsD_map g l]; rfl
theorem bits_S (a : Nat) : bits7 a = SX.S (bl7 a) := rfl
theorem join_bits (l : List Nat) : ∃ t : PySem.Str, t = SX.S (l.map fun x => bl7 (x % 128)).flatten ∧ ∀ (st : S) k, st[k]? = some (.lst (l.map fun x => D.str (bits7 (x % 128)))) → l.length ≤ 1000 → gJoin [.str "", .loc k] st = some (.str t, st) := by
  refine ⟨_, rfl, fun st k hk hl => ?_⟩
  unfold gJoin
  dsimp only
  rw [pv_itL st hk]
  dsimp only
  rw [strsD_map (fun x => bits7 (x % 128))]
  dsimp only
  have e : (l.map fun x => bits7 (x % 128)) = (l.map fun x => bl7 (x % 128)).map SX.S := by rw [List.map_map]; rfl
  have hs : ∀ l : List Nat, ((l.map fun x => bits7 (x % 128)).map (·.length)).sum = 7 * l.length := by
    intro l
    induction l with
    | nil => rfl
    | cons a l ih =>
      rw [List.map_cons, List.map_cons, List.sum_cons, ih, List.length_cons]
      have : (bits7 (a % 128)).length = 7 := rfl
      rw [this]; omega
  have e0 : (("" : String) : PySem.Str) = SX.S [] := by rfl
  rw [if_pos (by
    rw [hs, List.length_map]
    have : (("" : String) : PySem.Str).length = 0 := rfl
    rw [this]; omega)]
  rw [e, e0, SX.join_S, joinL_nil]
theorem intB_bits (l : List Nat) (h0 : l ≠ []) (hl : l.length ≤ 90) (st : S) : gIntB [.str (SX.S (l.map fun x => bl7 (x % 128)).flatten), .int 2] st = some (nD (l.foldl (fun v x => v * 128 + x % 128) 0), st) := by
  have hlen : ∀ l : List Nat, (l.map fun x => bl7 (x % 128)).flatten.length = 7 * l.length := by
    intro l
    induction l with
    | nil => rfl
    | cons a l ih =>
      rw [List.map_cons, List.flatten_cons, List.length_append, ih, List.length_cons]
      have : (bl7 (a % 128)).length = 7 := rfl
      rw [this]; omega
  unfold gIntB
  have hp : 0 < l.length := List.length_pos_iff.mpr h0
  refine (if_pos ⟨?_, ?_, ?_⟩).trans ?_
  · show some (D.int ((Bn.binNum (l.map fun x => bl7 (x % 128)).flatten : Nat) : Int), st) = _
    unfold Bn.binNum
    rw [bn_flat]
  · show (l.map fun x => bl7 (x % 128)).flatten.toArray.size ≤ 640
    rw [List.size_toArray, hlen]; omega
  · show (l.map fun x => bl7 (x % 128)).flatten ≠ []
    intro e
    have := hlen l
    rw [e] at this
    simp at this
    omega
  · show (l.map fun x => bl7 (x % 128)).flatten.all _ = true
    rw [List.all_eq_true]
    intro c hc
    obtain ⟨q, hq, hc⟩ := List.mem_flatten.mp hc
    obtain ⟨x, _, rfl⟩ := List.mem_map.mp hq
    have : ∀ b : Nat, b < 2 → ((48 + b == 48 || 48 + b == 49) = true) := by
      intro b hb
      have : b = 0 ∨ b = 1 := by omega
      rcases this with rfl | rfl <;> rfl
    simp only [bl7, List.mem_cons, List.not_mem_nil, or_false] at hc
    rcases hc with rfl | rfl | rfl | rfl | rfl | rfl | rfl <;> exact this _ (Nat.mod_lt _ (by decide))
/-- the reader's answer: the number and the octets it took -/
def lead (s : List Nat) : Nat := (s.takeWhile (fun x => decide (128 ≤ x))).length
def rd (s : List Nat) : Option (Nat × Nat) := match s[lead s]? with
  | none => none
  | some t => if t = 0 ∧ 0 < lead s then none else some (val (s.take (lead s + 1)), lead s + 1)
theorem lead_lt (s : List Nat) (i : Nat) (h : i < lead s) : ∃ x, s[i]? = some x ∧ 128 ≤ x := by
  unfold lead at h
  induction s generalizing i with
  | nil => simp at h
  | cons a s ih =>
    rw [List.takeWhile_cons] at h
    by_cases ha : 128 ≤ a
    · rw [decide_eq_true ha, if_pos rfl] at h
      cases i with
      | zero => exact ⟨a, rfl, ha⟩
      | succ i => exact ih i (by rw [List.length_cons] at h; omega)
    · rw [decide_eq_false ha, if_neg (by decide)] at h
      simp at h
theorem lead_le (s : List Nat) : lead s ≤ s.length := by
  unfold lead
  exact (List.takeWhile_prefix _).length_le
theorem lead_at (s : List Nat) : (s[lead s]? = none ∧ lead s = s.length) ∨ ∃ x, s[lead s]? = some x ∧ x < 128 ∧ lead s < s.length := by
  unfold lead
  induction s with
  | nil => exact .inl ⟨rfl, rfl⟩
  | cons a s ih =>
    rw [List.takeWhile_cons]
    by_cases ha : 128 ≤ a
    · rw [decide_eq_true ha, if_pos rfl, List.length_cons, List.getElem?_cons_succ, List.length_cons]
      rcases ih with ⟨h1, h2⟩ | ⟨x, h1, h2, h3⟩
      · exact .inl ⟨h1, by omega⟩
      · exact .inr ⟨x, h1, h2, by omega⟩
    · rw [decide_eq_false ha, if_neg (by decide)]
      exact .inr ⟨a, rfl, by omega, by simp⟩
theorem ixN_at {o : List Nat} {i x : Nat} (h : o[i]? = some x) (st : S) : gIx (.tup (o.map nD)) (nD i) st = some (nD x, st) := by
  refine pv_ixT (DL.atI_nat ?_)
  rw [List.getElem?_map, h]; rfl
noncomputable abbrev rdW : MS := (sWhile (tAnd (tV (eBin cLt (eV 2) (eP gLen (aCons (eV 0) aNil)))) (tV (eBin cGe (eBin gIx (eV 0) (eV 2)) (eC (.int 128)))))
  (sAug 2 bAddI (eC (.int 1))))
theorem rdW_ok (o : List Nat) (p : Nat) (st : S) : ∀ n i, i + n = lead (o.drop p) → p + lead (o.drop p) ≤ o.length →
    rdW [some (.tup (o.map nD)), some (nD p), some (nD (p + i)), none, none] st = .nx [some (.tup (o.map nD)), some (nD p), some (nD (p + lead (o.drop p))), none, none] st
  | 0, i, h, hl => by
    have h : i = lead (o.drop p) := h
    subst h
    refine wh_end (st1 := st) ?_
    rcases lead_at (o.drop p) with ⟨_, h2⟩ | ⟨x, h1, h2, h3⟩
    · rw [List.length_drop] at h2
      have hn : ¬ (((p + lead (o.drop p) : Nat) : Int) < (o.length : Int)) := by omega
      simp only [ev_tAnd, ev_tV, ev_Bin, ev_V, ev_P, ev_aCons, ev_aNil, List.getElem?_cons_zero, List.getElem?_cons_succ, R.bind, pv_lenT, List.length_map, ofO, pv_int, onB, decide_eq_false hn]
      rfl
    · rw [List.length_drop] at h3
      rw [List.getElem?_drop] at h1
      have hn : (((p + lead (o.drop p) : Nat) : Int) < (o.length : Int)) := by omega
      have hx : ¬ ((128 : Int) ≤ ((x : Nat) : Int)) := by omega
      simp only [ev_tAnd, ev_tV, ev_Bin, ev_V, ev_C, ev_P, ev_aCons, ev_aNil, List.getElem?_cons_zero, List.getElem?_cons_succ, R.bind, pv_lenT, List.length_map, ofO, pv_int, onB, decide_eq_true hn, if_true, ixN_at h1, ge_iff_le, decide_eq_false hx]
  | n + 1, i, h, hl => by
    obtain ⟨x, h1, h2⟩ := lead_lt (o.drop p) i (by omega)
    rw [List.getElem?_drop] at h1
    have hlt := (List.getElem?_eq_some_iff.mp h1).1
    have hn : (((p + i : Nat) : Int) < (o.length : Int)) := by omega
    have hx : ((128 : Int) ≤ ((x : Nat) : Int)) := by omega
    have ih := rdW_ok o p st n (i + 1) (by omega) hl
    refine (wh_go (st1 := st) (st' := st) (env' := [some (.tup (o.map nD)), some (nD p), some (nD (p + (i + 1))), none, none]) ?_ (.inl ?_)).trans ih
    · simp only [ev_tAnd, ev_tV, ev_Bin, ev_V, ev_C, ev_P, ev_aCons, ev_aNil, List.getElem?_cons_zero, List.getElem?_cons_succ, R.bind, pv_lenT, List.length_map, ofO, pv_int, onB, decide_eq_true hn, if_true, ixN_at h1, ge_iff_le, decide_eq_true hx]
    · have e : (((p + i : Nat) : Int) + 1) = ((p + (i + 1) : Nat) : Int) := by omega
      simp only [ev_sAug, ev_C, List.getElem?_cons_zero, List.getElem?_cons_succ, R.toS, pv_addI, e, List.set_cons_succ, List.set_cons_zero]
theorem lc_bits (T : D) (p at_ : D) (st : S) (l : List Nat) : lcL (fun _ => True) (gN 4) tYes' (eUn gB7 (eBin bAnd (eV 4) (eBin bSub (eC (.int 128)) (eC (.int 1))))) (wipeE [some T, some p, some at_, none, none] [4]) (l.map nD) st = some (l.map fun x => D.str (bits7 (x % 128)), st) := by
  induction l with
  | nil => rfl
  | cons x l ih =>
    have hx : x % 128 < 128 := Nat.mod_lt _ (by decide)
    have e1 : Builtin.bitAnd (x : Int) (128 - 1) = ((x % 128 : Nat) : Int) := by
      rw [show (128 : Int) - 1 = 127 from rfl, and127]
    have e2 : gB7 (nD (x % 128)) st = some (.str (bits7 (x % 128)), st) := by
      unfold gB7
      refine (if_pos ⟨by omega, by omega⟩).trans ?_
      rw [Int.toNat_natCast]
    have e3 : (eUn gB7 (eBin bAnd (eV 4) (eBin bSub (eC (.int 128)) (eC (.int 1))))) [some T, some p, some at_, none, some (nD x)] st = .ok (.str (bits7 (x % 128))) st := by
      simp only [ev_Un, ev_Bin, ev_V, ev_C, List.getElem?_cons_zero, List.getElem?_cons_succ, R.bind, pv_sub, ofO, pv_and, e1, e2]
    show ((eUn gB7 (eBin bAnd (eV 4) (eBin bSub (eC (.int 128)) (eC (.int 1))))) [some T, some p, some at_, none, some (nD x)] st).get?.bind _ = _
    rw [e3]
    simp only [R.get?, Option.bind_some, if_true, ih, Option.map_some, List.map_cons]
theorem seq_nx {a b : MS} {env e1 : Ev} {st s1 : S} (h : a env st = .nx e1 s1) : sSeq a b env st = b e1 s1 := by
  rw [ev_sSeq, h]
abbrev badI (p : Nat) : Exn := ⟨"BadBytes", [("index", nD p), ("fault", .str "integer")]⟩
theorem read_ok (o : List Nat) (p : Nat) (hp : p ≤ o.length) (hl : o.length ≤ 90) (st : S) :
    F_read_integer [.tup (o.map nD), nD p] st = match rd (o.drop p) with | none => .exc (badI p) st | some q => .ok (.tup [nD q.1, nD (p + q.2)]) st := by
  have hle := lead_le (o.drop p)
  rw [List.length_drop] at hle
  have hw := rdW_ok o p st (lead (o.drop p)) 0 (by omega) (by omega)
  have he : ent 5 [.tup (o.map nD), nD p] = [some (.tup (o.map nD)), some (nD p), none, none, none] := rfl
  rcases lead_at (o.drop p) with ⟨h1, h2⟩ | ⟨x, h1, h2, h3⟩
  · have er : rd (o.drop p) = none := by unfold rd; rw [h1]
    rw [er]
    refine (runF_at (r := .exc (badI p) [some (.tup (o.map nD)), some (nD p), some (nD (p + lead (o.drop p))), none, none] st) rfl ?_).trans ?_
    · rw [he]
      show (sSeq _ (sSeq rdW _)) _ _ = _
      rw [List.length_drop] at h2
      have hq : decide (((p + lead (o.drop p) : Nat) : Int) = (o.length : Int)) = true := decide_eq_true (by omega)
      simp only [ev_sSeq, ev_sSet, ev_V, List.getElem?_cons_zero, List.getElem?_cons_succ, R.toS, List.set_cons_succ, List.set_cons_zero]
      rw [Nat.add_zero] at hw
      rw [hw]
      simp only [ev_sIf, ev_tOr, ev_tV, ev_Bin, ev_V, ev_P, ev_aCons, ev_aNil, List.getElem?_cons_zero, List.getElem?_cons_succ, R.bind, pv_lenT, List.length_map, ofO, cEq_int, hq, onB, R.toS, if_true, ev_sRaise, ev_C]
      rfl
    · have := trim_exc (st0 := st) (j := []) (x := badI p) (by
        intro f hf
        simp only [List.mem_cons, List.not_mem_nil, or_false] at hf
        rcases hf with rfl | rfl <;> rfl)
      rw [List.append_nil] at this
      exact this
  · have h1' := h1
    rw [List.getElem?_drop] at h1'
    rw [List.length_drop] at h3
    have hq : decide (((p + lead (o.drop p) : Nat) : Int) = (o.length : Int)) = false := decide_eq_false (by omega)
    by_cases hb : x = 0 ∧ 0 < lead (o.drop p)
    · have er : rd (o.drop p) = none := by unfold rd; rw [h1]; exact if_pos hb
      rw [er]
      refine (runF_at (r := .exc (badI p) [some (.tup (o.map nD)), some (nD p), some (nD (p + lead (o.drop p))), none, none] st) rfl ?_).trans ?_
      · rw [he]
        show (sSeq _ (sSeq rdW _)) _ _ = _
        have hq2 : decide ((x : Int) = 0) = true := decide_eq_true (by omega)
        have hq3 : decide (((p + lead (o.drop p) : Nat) : Int) > (p : Int)) = true := decide_eq_true (by omega)
        simp only [ev_sSeq, ev_sSet, ev_V, List.getElem?_cons_zero, List.getElem?_cons_succ, R.toS, List.set_cons_succ, List.set_cons_zero]
        rw [Nat.add_zero] at hw
        rw [hw]
        simp only [ev_sIf, ev_tOr, ev_tAnd, ev_tV, ev_Bin, ev_V, ev_P, ev_aCons, ev_aNil, List.getElem?_cons_zero, List.getElem?_cons_succ, R.bind, pv_lenT, List.length_map, ofO, cEq_int, hq, onB, R.toS, if_true, ev_sRaise, ev_C, Bool.false_eq_true, if_false, ixN_at h1', hq2, pv_int, hq3]
        rfl
      · have := trim_exc (st0 := st) (j := []) (x := badI p) (by
          intro f hf
          simp only [List.mem_cons, List.not_mem_nil, or_false] at hf
          rcases hf with rfl | rfl <;> rfl)
        rw [List.append_nil] at this
        exact this
    · have er : rd (o.drop p) = some (val ((o.drop p).take (lead (o.drop p) + 1)), lead (o.drop p) + 1) := by unfold rd; rw [h1]; exact if_neg hb
      rw [er]
      generalize hds : (o.drop p).take (lead (o.drop p) + 1) = ds
      have hdl : ds.length = lead (o.drop p) + 1 := by rw [← hds, List.length_take, List.length_drop]; omega
      have hc : (tAnd (tV (eBin cEq (eBin gIx (eV 0) (eV 2)) (eC (.int 0)))) (tV (eBin cGt (eV 2) (eV 1)))) [some (.tup (o.map nD)), some (nD p), some (nD (p + lead (o.drop p))), none, none] st = .ok false st := by
        simp only [ev_tAnd, ev_tV, ev_Bin, ev_V, ev_C, List.getElem?_cons_zero, List.getElem?_cons_succ, R.bind, ofO, ixN_at h1', cEq_int, onB, pv_int]
        by_cases hx : x = 0
        · have hq2 : decide ((x : Int) = 0) = true := decide_eq_true (by omega)
          have hq3 : decide (((p + lead (o.drop p) : Nat) : Int) > (p : Int)) = false := decide_eq_false (by omega)
          rw [hq2, if_pos rfl, hq3]
        · have hq2 : decide ((x : Int) = 0) = false := decide_eq_false (by omega)
          rw [hq2, if_neg (by decide)]
      have e1 : (((p + lead (o.drop p) : Nat) : Int) + 1) = ((p + (lead (o.drop p) + 1) : Nat) : Int) := by omega
      have hsl : gSl (.tup (o.map nD)) (some (p : Int)) (some ((p + (lead (o.drop p) + 1) : Nat) : Int)) st = some (.tup (ds.map nD), st) := by
        show some (D.tup (cutD (o.map nD) (some (p : Int)) (some ((p + (lead (o.drop p) + 1) : Nat) : Int))), st) = _
        rw [cut_in, Nat.add_sub_cancel_left, ← List.map_drop, ← List.map_take, hds]
      have hrv : gRev (.tup (ds.map nD)) st = some (.tup (ds.reverse.map nD), st) := by
        show some (D.tup (ds.map nD).reverse, st) = _
        rw [List.map_reverse]
      obtain ⟨t, ht, hj⟩ := join_bits ds.reverse
      have hlc := ev_lc (it := iSeq (eUn gRev (eSl gSl (eV 0) (oSome (eV 1)) (oSome (eBin bAdd (eV 2) (eC (.int 1))))))) (vs := [4]) (g := gN 4) (t := tYes') (e := eUn gB7 (eBin bAnd (eV 4) (eBin bSub (eC (.int 128)) (eC (.int 1))))) (env := [some (.tup (o.map nD)), some (nD p), some (nD (p + lead (o.drop p))), none, none]) (st := st) (st1 := st) (ds := ds.reverse.map nD) (gd := fun _ => True) (by
          simp only [ev_iSeq, ev_Un, ev_Sl, ev_V, ev_oS, ev_Bin, ev_C, List.getElem?_cons_zero, List.getElem?_cons_succ, R.bind, onI, ofO, pv_add, e1, hsl, hrv]) (lc_bits _ _ _ st ds.reverse) (by rw [sizeLine_eq]; simp; omega)
      have hib := intB_bits ds.reverse (by intro z; have := congrArg List.length z; simp at this; rw [this] at hdl; simp at hdl) (by rw [List.length_reverse]; omega)
      rw [val_rev] at hib
      have hj2 := hj (st ++ [.lst (ds.reverse.map fun x => D.str (bits7 (x % 128)))]) st.length (get_last _ _) (by rw [List.length_reverse]; omega)
      subst ht
      refine (runF_at (r := .ret (.tup [nD (val ds), nD (p + (lead (o.drop p) + 1))]) (st ++ [.lst (ds.reverse.map fun x => D.str (bits7 (x % 128)))])) rfl ?_).trans (trim_ok rfl)
      rw [he]
      show (sSeq _ (sSeq rdW _)) _ _ = _
      refine (seq_nx (e1 := [some (.tup (o.map nD)), some (nD p), some (nD p), none, none]) (s1 := st) rfl).trans ?_
      rw [Nat.add_zero] at hw
      refine (seq_nx hw).trans ?_
      have h2 : ∀ (a b : D), ([a, b] : List D).length ≤ sizeLine := fun a b => by rw [sizeLine_eq]; show 2 ≤ 16777216; decide
      refine (seq_nx (e1 := [some (.tup (o.map nD)), some (nD p), some (nD (p + lead (o.drop p))), none, none]) (s1 := st) ?_).trans ?_
      · simp only [ev_sIf, ev_tOr, ev_tV, ev_Bin, ev_V, ev_P, ev_aCons, ev_aNil, ev_C, List.getElem?_cons_zero, List.getElem?_cons_succ, R.bind, pv_lenT, List.length_map, ofO, cEq_int, hq, onB, R.toS, Bool.false_eq_true, if_false, ev_sNil]
        rw [hc]
        rfl
      refine (seq_nx (e1 := [some (.tup (o.map nD)), some (nD p), some (nD (p + lead (o.drop p))), some (.str (SX.S (ds.reverse.map fun x => bl7 (x % 128)).flatten)), none]) (s1 := st ++ [.lst (ds.reverse.map fun x => D.str (bits7 (x % 128)))]) ?_).trans ?_
      · have hm : (eM "str" gJoin (eC (.str "")) (aCons (eLc (iSeq (eUn gRev (eSl gSl (eV 0) (oSome (eV 1)) (oSome (eBin bAdd (eV 2) (eC (.int 1))))))) [4] (gN 4) tYes' (eUn gB7 (eBin bAnd (eV 4) (eBin bSub (eC (.int 128)) (eC (.int 1)))))) aNil)) [some (.tup (o.map nD)), some (nD p), some (nD (p + lead (o.drop p))), none, none] st = .ok (.str (SX.S (ds.reverse.map fun x => bl7 (x % 128)).flatten)) (st ++ [.lst (ds.reverse.map fun x => D.str (bits7 (x % 128)))]) := by
          rw [ev_M, ev_C]
          have hty : tyD st (.str "") = some "str" := rfl
          simp only [R.bind]
          rw [if_pos hty, ev_aCons, hlc]
          simp only [R.bind, ev_aNil, hj2, ofO]
        rw [ev_sSet, hm]
        rfl
      · simp only [ev_sRet, ev_Tup, ev_aCons, ev_aNil, ev_P, ev_V, ev_C, ev_Bin, List.getElem?_cons_zero, List.getElem?_cons_succ, R.bind, ofO, hib, pv_add, e1]
        rw [if_pos (h2 _ _)]
        rfl
end K43
set_option Elab.async false
set_option linter.all false
set_option maxRecDepth 100000
set_option maxHeartbeats 1000000
namespace K43
open PySem L2 DL
def ansR (p : Nat) (s : List Nat) : D := match rd s with | none => .non | some q => .tup [nD q.1, nD (p + q.2)]
noncomputable abbrev lrB : MS := (sSeq (sSet 5 (eBin gIx (eV 0) (eV 4)))
  (sSeq (sPar [2, 3, 4] (aCons (eBin bAdd (eV 2) (eBin bMul (eBin bMod (eP gInt (aCons (eV 5) aNil)) (eC (.int 128))) (eV 3))) (aCons (eBin bMul (eV 3) (eC (.int 128))) (aCons (eBin bAdd (eV 4) (eC (.int 1))) aNil))))
  (sIf (tV (eBin cLt (eV 5) (eC (.int 128))))
  (sRet (eIf (tAnd (tV (eBin cEq (eV 5) (eC (.int 0)))) (tV (eBin cGt (eBin bSub (eV 4) (eV 1)) (eC (.int 1))))) (eC .non) (eTup (aCons (eV 2) (aCons (eV 4) aNil)))))
  sNil)))
noncomputable abbrev lrW : MS := sWhile (tV (eBin cLt (eV 4) (eP gLen (aCons (eV 0) aNil)))) lrB
theorem lr_if (T : D) (p i x v w : Nat) (st : S) (z : RS)
    (hz : z = if x < 128 then .ret (if x = 0 ∧ 0 < i then .non else .tup [nD v, nD (p + (i + 1))]) st else .nx [some T, some (nD p), some (nD v), some (nD w), some (nD (p + (i + 1))), some (nD x)] st) :
    (sIf (tV (eBin cLt (eV 5) (eC (.int 128))))
      (sRet (eIf (tAnd (tV (eBin cEq (eV 5) (eC (.int 0)))) (tV (eBin cGt (eBin bSub (eV 4) (eV 1)) (eC (.int 1))))) (eC .non) (eTup (aCons (eV 2) (aCons (eV 4) aNil)))))
      sNil) [some T, some (nD p), some (nD v), some (nD w), some (nD (p + (i + 1))), some (nD x)] st = z := by
  have h2 : ([nD v, nD (p + (i + 1))] : List D).length ≤ sizeLine := by rw [sizeLine_eq]; show 2 ≤ 16777216; decide
  subst hz
  by_cases hx : x < 128
  · have a1 : decide ((x : Int) < 128) = true := decide_eq_true (by omega)
    rw [if_pos hx]
    have ht : (tAnd (tV (eBin cEq (eV 5) (eC (.int 0)))) (tV (eBin cGt (eBin bSub (eV 4) (eV 1)) (eC (.int 1))))) [some T, some (nD p), some (nD v), some (nD w), some (nD (p + (i + 1))), some (nD x)] st = .ok (decide (x = 0 ∧ 0 < i)) st := by
      simp only [ev_tAnd, ev_tV, ev_Bin, ev_V, ev_C, List.getElem?_cons_zero, List.getElem?_cons_succ, R.bind, ofO, cEq_int, onB, pv_sub, pv_int]
      by_cases h0 : x = 0
      · have b1 : decide ((x : Int) = 0) = true := decide_eq_true (by omega)
        rw [b1, if_pos rfl]
        by_cases h1 : 0 < i
        · have b2 : decide (((p + (i + 1) : Nat) : Int) - (p : Int) > 1) = true := decide_eq_true (by omega)
          rw [b2, decide_eq_true (show x = 0 ∧ 0 < i from ⟨h0, h1⟩)]
        · have b2 : decide (((p + (i + 1) : Nat) : Int) - (p : Int) > 1) = false := decide_eq_false (by omega)
          rw [b2, decide_eq_false (show ¬ (x = 0 ∧ 0 < i) from fun z => h1 z.2)]
      · have b1 : decide ((x : Int) = 0) = false := decide_eq_false (by omega)
        rw [b1, if_neg (by decide), decide_eq_false (show ¬ (x = 0 ∧ 0 < i) from fun z => h0 z.1)]
    simp only [ev_sIf, ev_tV, ev_Bin, ev_V, ev_C, List.getElem?_cons_zero, List.getElem?_cons_succ, R.bind, ofO, pv_int, a1, onB, R.toS, if_true, ev_sRet, ev_If]
    rw [ht]
    by_cases hb : x = 0 ∧ 0 < i
    · rw [decide_eq_true hb, if_pos hb]
      rfl
    · rw [decide_eq_false hb, if_neg hb]
      simp only [R.bind, Bool.false_eq_true, if_false, ev_Tup, ev_aCons, ev_aNil, ev_V, List.getElem?_cons_zero, List.getElem?_cons_succ]
      rw [if_pos h2]
  · have a1 : decide ((x : Int) < 128) = false := decide_eq_false (by omega)
    rw [if_neg hx]
    simp only [ev_sIf, ev_tV, ev_Bin, ev_V, ev_C, List.getElem?_cons_zero, List.getElem?_cons_succ, R.bind, ofO, pv_int, a1, onB, R.toS, Bool.false_eq_true, if_false, ev_sNil]
theorem lr_step (o : List Nat) (p i x v w : Nat) (u : Option D) (st : S) (hx : o[p + i]? = some x) (hw : w < 2 ^ 64) (z : RS)
    (hz : z = if x < 128 then .ret (if x = 0 ∧ 0 < i then .non else .tup [nD (v + x % 128 * w), nD (p + (i + 1))]) st else .nx [some (.tup (o.map nD)), some (nD p), some (nD (v + x % 128 * w)), some (nD (w * 128)), some (nD (p + (i + 1))), some (nD x)] st) :
    lrB [some (.tup (o.map nD)), some (nD p), some (nD v), some (nD w), some (nD (p + i)), u] st = z := by
  refine (seq_nx (e1 := [some (.tup (o.map nD)), some (nD p), some (nD v), some (nD w), some (nD (p + i)), some (nD x)]) (s1 := st) ?_).trans ((seq_nx (e1 := [some (.tup (o.map nD)), some (nD p), some (nD (v + x % 128 * w)), some (nD (w * 128)), some (nD (p + (i + 1))), some (nD x)]) (s1 := st) ?_).trans (lr_if _ p i x _ _ st z hz))
  · simp only [ev_sSet, ev_Bin, ev_V, List.getElem?_cons_zero, List.getElem?_cons_succ, R.bind, ixN_at hx, ofO, R.toS, List.set_cons_succ, List.set_cons_zero]
  · have e1 : (x : Int) % 128 = ((x % 128 : Nat) : Int) := by norm_cast
    have hm1 : bMul (nD (x % 128)) (nD w) st = some (.int (((x % 128 : Nat) : Int) * (w : Int)), st) := pv_mul st (.inl (.inr ⟨by omega, by omega⟩))
    have hm2 : bMul (nD w) (.int 128) st = some (.int ((w : Int) * 128), st) := pv_mul st (.inl (.inr ⟨by decide, by decide⟩))
    have e2 : (v : Int) + ((x % 128 : Nat) : Int) * (w : Int) = ((v + x % 128 * w : Nat) : Int) := by push_cast; rfl
    have e3 : (w : Int) * 128 = ((w * 128 : Nat) : Int) := by push_cast; rfl
    have e4 : ((p + i : Nat) : Int) + 1 = ((p + (i + 1) : Nat) : Int) := by omega
    simp only [ev_sPar, ev_aCons, ev_aNil, ev_Bin, ev_P, ev_V, ev_C, List.getElem?_cons_zero, List.getElem?_cons_succ, R.bind, pv_toint, ofO, pv_mod st (show (0 : Int) < 128 by decide), e1, hm1, hm2, pv_add, e2, e3, e4, R.toS, List.length_cons, List.length_nil, if_true, List.zip_cons_cons, List.zip_nil_right, List.foldl_cons, List.foldl_nil, List.set_cons_succ, List.set_cons_zero]
theorem take_snoc' {s : List Nat} {i x : Nat} (h : s[i]? = some x) : val (s.take (i + 1)) = val (s.take i) + x % 128 * 128 ^ i := by
  rw [take_snoc h, val_snoc, List.length_take, Nat.min_eq_left (Nat.le_of_lt (List.getElem?_eq_some_iff.mp h).1)]
theorem lrW_ok (o : List Nat) (p : Nat) (st : S) (hl : o.length ≤ 9) : ∀ n i (u : Option D), i + n = lead (o.drop p) → p + lead (o.drop p) ≤ o.length →
    (∃ env', lrW [some (.tup (o.map nD)), some (nD p), some (nD (val ((o.drop p).take i))), some (nD (128 ^ i)), some (nD (p + i)), u] st = .nx env' st ∧ ansR p (o.drop p) = .non) ∨
    lrW [some (.tup (o.map nD)), some (nD p), some (nD (val ((o.drop p).take i))), some (nD (128 ^ i)), some (nD (p + i)), u] st = .ret (ansR p (o.drop p)) st
  | 0, i, u, h, hp => by
    have h : i = lead (o.drop p) := h
    rcases lead_at (o.drop p) with ⟨h1, h2⟩ | ⟨x, h1, h2, h3⟩
    · refine .inl ⟨_, wh_end (st1 := st) ?_, ?_⟩
      · rw [List.length_drop] at h2
        have hn : ¬ (((p + i : Nat) : Int) < (o.length : Int)) := by omega
        simp only [ev_tV, ev_Bin, ev_V, ev_P, ev_aCons, ev_aNil, List.getElem?_cons_zero, List.getElem?_cons_succ, R.bind, pv_lenT, List.length_map, ofO, pv_int, onB, decide_eq_false hn]
      · unfold ansR rd; rw [h1]
    · refine .inr ?_
      have h1s := h1
      rw [← h] at h1s
      rw [List.getElem?_drop] at h1
      rw [List.length_drop] at h3
      have hn : (((p + i : Nat) : Int) < (o.length : Int)) := by omega
      have hw : 128 ^ i < 2 ^ 64 := Nat.lt_of_le_of_lt (Nat.pow_le_pow_right (by decide) (show i ≤ 9 by omega)) (by decide)
      refine wh_out (st1 := st) ?_ (lr_step o p i x _ _ u st (by rw [h]; exact h1) hw _ rfl) (.inl ?_) |>.trans ?_
      · simp only [ev_tV, ev_Bin, ev_V, ev_P, ev_aCons, ev_aNil, List.getElem?_cons_zero, List.getElem?_cons_succ, R.bind, pv_lenT, List.length_map, ofO, pv_int, onB, decide_eq_true hn]
      · rw [if_pos h2]; exact ⟨_, _, rfl⟩
      · rw [if_pos h2]
        congr 1
        unfold ansR rd
        rw [← h, h1s]
        dsimp only
        by_cases hb : x = 0 ∧ 0 < i
        · rw [if_pos hb, if_pos hb]
        · rw [if_neg hb, if_neg hb]
          dsimp only
          rw [take_snoc' h1s]
  | n + 1, i, u, h, hp => by
    obtain ⟨x, h1, h2⟩ := lead_lt (o.drop p) i (by omega)
    have h1s := h1
    rw [List.getElem?_drop] at h1
    have hlt := (List.getElem?_eq_some_iff.mp h1).1
    have hn : (((p + i : Nat) : Int) < (o.length : Int)) := by omega
    have hw : 128 ^ i < 2 ^ 64 := Nat.lt_of_le_of_lt (Nat.pow_le_pow_right (by decide) (show i ≤ 9 by omega)) (by decide)
    have ih := lrW_ok o p st hl n (i + 1) (some (nD x)) (by omega) hp
    rw [take_snoc' h1s, Nat.pow_succ] at ih
    have go : lrW [some (.tup (o.map nD)), some (nD p), some (nD (val ((o.drop p).take i))), some (nD (128 ^ i)), some (nD (p + i)), u] st = _ := wh_go (st1 := st) (by
        simp only [ev_tV, ev_Bin, ev_V, ev_P, ev_aCons, ev_aNil, List.getElem?_cons_zero, List.getElem?_cons_succ, R.bind, pv_lenT, List.length_map, ofO, pv_int, onB, decide_eq_true hn]) (.inl ((lr_step o p i x _ _ u st h1 hw _ rfl).trans (if_neg (by omega))))
    rw [go]
    exact ih
theorem noloc_ans (p : Nat) (s : List Nat) : noloc (ansR p s) = true := by
  unfold ansR
  split <;> rfl
theorem law_read_ok (o : List Nat) (p : Nat) (hp : p ≤ o.length) (hl : o.length ≤ 9) (st : S) : F__law_read [.tup (o.map nD), nD p] st = .ok (ansR p (o.drop p)) st := by
  have hle := lead_le (o.drop p)
  rw [List.length_drop] at hle
  refine (runF_at (r := .ret (ansR p (o.drop p)) st) rfl ?_).trans trim_same
  have he : ent 6 [.tup (o.map nD), nD p] = [some (.tup (o.map nD)), some (nD p), none, none, none, none] := rfl
  rw [he]
  show (sSeq _ (sSeq lrW _)) _ _ = _
  refine (seq_nx (e1 := [some (.tup (o.map nD)), some (nD p), some (nD 0), some (nD 1), some (nD p), none]) (s1 := st) rfl).trans ?_
  rcases lrW_ok o p st hl (lead (o.drop p)) 0 none (by omega) (by omega) with ⟨env', h1, h2⟩ | h1
  · rw [h2]
    exact (seq_nx h1).trans rfl
  · have h1 : lrW [some (.tup (o.map nD)), some (nD p), some (nD 0), some (nD 1), some (nD p), none] st = _ := h1
    rw [ev_sSeq, h1]
abbrev badA (p : Nat) : D := .tup [.str "bad", nD p, .str "integer"]
theorem law_told_ok (o : List Nat) (p : Nat) (hp : p ≤ o.length) (hl : o.length ≤ 90) (st : S) : F__law_told [.tup (o.map nD), nD p] st = .ok (match rd (o.drop p) with | none => badA p | some q => .tup [nD q.1, nD (p + q.2)]) st := by
  have h := read_ok o p hp hl st
  have he : ent 3 [.tup (o.map nD), nD p] = [some (.tup (o.map nD)), some (nD p), none] := rfl
  have hbd : ∀ z, z = F_read_integer [.tup (o.map nD), nD p] st → (sRet (eF F_read_integer (aCons (eV 0) (aCons (eV 1) aNil)))) [some (.tup (o.map nD)), some (nD p), none] st = z.toS [some (.tup (o.map nD)), some (nD p), none] fun d s => .ret d s := by
    rintro z rfl
    simp only [ev_sRet, ev_F, ev_aCons, ev_aNil, ev_V, List.getElem?_cons_zero, List.getElem?_cons_succ, R.bind]
  cases hr : rd (o.drop p) with
  | some q =>
    rw [hr] at h
    refine (runF_at (r := .ret (.tup [nD q.1, nD (p + q.2)]) st) rfl ?_).trans trim_same
    rw [he]
    show (sTryAs _ _ _ _) _ _ = _
    rw [ev_sTryAs, hbd _ h.symm]
    rfl
  | none =>
    rw [hr] at h
    refine (runF_at (r := .ret (badA p) st) rfl ?_).trans trim_same
    rw [he]
    show (sTryAs _ _ _ _) _ _ = _
    rw [ev_sTryAs, hbd _ h.symm]
    dsimp only [R.toS, RS.catch]
    have hm : mt_BadBytes "BadBytes" = some true := if_pos rfl
    rw [hm]
    dsimp only
    unfold asX
    rw [if_neg (show ¬ ((badI p).fs.isEmpty = true) from fun z => Bool.noConfusion z)]
    refine uni_of fun q => ?_
    have h3 : ([D.str "bad", nD p, .str "integer"] : List D).length ≤ sizeLine := by rw [sizeLine_eq]; show 3 ≤ 16777216; decide
    have x1 : ∀ env : Ev, env[2]? = some (some (D.exo q.1 q.2 ["index", "fault"] [nD p, .str "integer"])) → eXf q.1 (some q.2) "BadBytes" "BadBytes" "index" (eV 2) env st = .ok (nD p) st := fun env h => by
      unfold eXf
      rw [ev_V, h]
      exact if_pos ⟨rfl, rfl, rfl⟩
    have x2 : ∀ env : Ev, env[2]? = some (some (D.exo q.1 q.2 ["index", "fault"] [nD p, .str "integer"])) → eXf q.1 (some q.2) "BadBytes" "BadBytes" "fault" (eV 2) env st = .ok (.str "integer") st := fun env h => by
      unfold eXf
      rw [ev_V, h]
      exact if_pos ⟨rfl, rfl, rfl⟩
    show clr 2 ((sRet (eTup (aCons (eC (.str "bad")) (aCons (eXf q.1 (some q.2) "BadBytes" "BadBytes" "index" (eV 2)) (aCons (eXf q.1 (some q.2) "BadBytes" "BadBytes" "fault" (eV 2)) aNil))))) [some (.tup (o.map nD)), some (nD p), some (D.exo q.1 q.2 ["index", "fault"] [nD p, .str "integer"])] st) = _
    simp only [ev_sRet, ev_Tup, ev_aCons, ev_aNil, ev_C, R.bind, x1 [some (.tup (o.map nD)), some (nD p), some (D.exo q.1 q.2 ["index", "fault"] [nD p, .str "integer"])] rfl, x2 [some (.tup (o.map nD)), some (nD p), some (D.exo q.1 q.2 ["index", "fault"] [nD p, .str "integer"])] rfl]
    rw [if_pos h3]
    rfl
end K43
set_option Elab.async false
set_option linter.all false
set_option maxRecDepth 100000
set_option maxHeartbeats 1000000
namespace K43
open PySem L2 DL
/-! ### the octets of a number read back -/
theorem oIni_ge (n : Nat) : ∀ x ∈ oIni n, 128 ≤ x := by
  induction n using Nat.strongRecOn with
  | ind n ih =>
    intro x hx
    rw [oIni] at hx
    split at hx
    · cases hx
    · rcases List.mem_cons.mp hx with rfl | hx
      · omega
      · exact ih (n / 128) (by omega) x hx
theorem oLast_lt (n : Nat) : oLast n < 128 := by
  induction n using Nat.strongRecOn with
  | ind n ih =>
    rw [oLast]
    split
    · assumption
    · exact ih (n / 128) (by omega)
theorem oLast_pos (n : Nat) : 0 < n → 0 < oLast n := by
  induction n using Nat.strongRecOn with
  | ind n ih =>
    intro h
    rw [oLast]
    split
    · exact h
    · exact ih (n / 128) (by omega) (by omega)
theorem val_octs (n : Nat) : val (octs n) = n := by
  induction n using Nat.strongRecOn with
  | ind n ih =>
    rw [octs_eq]
    split
    · simp only [val]; omega
    · simp only [val]
      rw [ih (n / 128) (by omega)]
      omega
theorem lead_app (l : List Nat) (hl : ∀ x ∈ l, 128 ≤ x) (t : Nat) (ht : t < 128) (r : List Nat) : lead (l ++ t :: r) = l.length := by
  unfold lead
  induction l with
  | nil => rw [List.nil_append, List.takeWhile_cons, decide_eq_false (by omega)]; rfl
  | cons a l ih =>
    rw [List.cons_append, List.takeWhile_cons, decide_eq_true (hl a (List.mem_cons_self ..)), if_pos rfl, List.length_cons, ih fun x hx => hl x (List.mem_cons_of_mem _ hx)]
    rfl
theorem rd_octs (n : Nat) (r : List Nat) : rd (octs n ++ r) = some (n, (octs n).length) := by
  have e : octs n ++ r = oIni n ++ oLast n :: r := by unfold octs; simp
  have el : lead (octs n ++ r) = (oIni n).length := by rw [e]; exact lead_app _ (oIni_ge n) _ (oLast_lt n) r
  have eg : (octs n ++ r)[(oIni n).length]? = some (oLast n) := by rw [e]; simp
  have elen : (octs n).length = (oIni n).length + 1 := by unfold octs; simp
  unfold rd
  rw [el, eg]
  dsimp only
  rw [if_neg, ← elen, List.take_append_of_le_length (Nat.le_refl _), List.take_of_length_le (Nat.le_refl _), val_octs]
  rintro ⟨h1, h2⟩
  by_cases h : n < 128
  · rw [oIni, dif_pos h] at h2
    simp at h2
  · have := oLast_pos n (by omega)
    omega
theorem octs_len (n m : Nat) (h : n < 128 ^ (m + 1)) : (octs n).length ≤ m + 1 := by
  have := oIni_len m n h
  unfold octs
  simp
  exact this
theorem octs_lt (n : Nat) : ∀ x ∈ octs n, x < 256 := by
  induction n using Nat.strongRecOn with
  | ind n ih =>
    rw [octs_eq]
    split
    · intro x hx; rw [List.mem_singleton.mp hx]; omega
    · intro x hx
      rcases List.mem_cons.mp hx with rfl | hx
      · omega
      · exact ih (n / 128) (by omega) x hx
/-! ### an altered line is not sealed -/
theorem chk_app (c : Nat) (a b : List Nat) : chk c (a ++ b) = chk (chk c a) b := by unfold chk; rw [List.foldl_append]
theorem chk_inj (b : List Nat) : ∀ c c', c < pM → c' < pM → chk c b = chk c' b → c = c' := by
  induction b with
  | nil => intro c c' _ _ h; exact h
  | cons x b ih =>
    intro c c' h1 h2 h
    have := ih _ _ (Nat.mod_lt _ (by decide)) (Nat.mod_lt _ (by decide)) h
    unfold pM at h1 h2 this
    omega
theorem mod_inj {k a b : Nat} (ha : a < 4294967291) (hb : b < 4294967291) (h : (k + a) % 4294967291 = (k + b) % 4294967291) : a = b := by omega
theorem lin3 (k x y z x' y' z' : Nat) (hx : x < 256) (hy : y < 256) (hz : z < 256) (hx' : x' < 256) (hy' : y' < 256) (hz' : z' < 256)
    (h : (k + (x * 66049 + y * 257 + z)) % 4294967291 = (k + (x' * 66049 + y' * 257 + z')) % 4294967291) : x = x' ∧ y = y' ∧ z = z' := by
  have e := mod_inj (by omega) (by omega) h
  clear h
  have e1 : x = x' := by omega
  subst e1
  omega
theorem lin2 (k y z y' z' : Nat) (hy : y < 256) (hz : z < 256) (hy' : y' < 256) (hz' : z' < 256)
    (h : (k + (y * 257 + z)) % 4294967291 = (k + (y' * 257 + z')) % 4294967291) : y = y' ∧ z = z' := by
  have e := mod_inj (by omega) (by omega) h
  clear h
  omega
theorem modc {u a a' c c' : Nat} (ha : a < 4294967291) (ha' : a' < 4294967291) (h : c = (u + a) % 4294967291) (h' : c' = (u + a') % 4294967291) : c' + a = c + a' ∨ c' + a = c + a' + 4294967291 ∨ c' + a + 4294967291 = c + a' := by
  omega
theorem b2_eq {c c' : Nat} (h : c' / 2 ^ 8 % 256 = c / 2 ^ 8 % 256 ∧ c' % 256 = c % 256) : c' % 65536 = c % 65536 := by omega
theorem b3_eq {c c' : Nat} (h : c' / 2 ^ 16 % 256 = c / 2 ^ 16 % 256 ∧ c' / 2 ^ 8 % 256 = c / 2 ^ 8 % 256 ∧ c' % 256 = c % 256) : c' % 16777216 = c % 16777216 := by omega
theorem fin1 {c c' x x' : Nat} (hc : c < 4294967291) (hc' : c' < 4294967291) (hx : x < 256) (hx' : x' < 256) (h : c' % 65536 = c % 65536) (hm : c' + x = c + x' ∨ c' + x = c + x' + 4294967291 ∨ c' + x + 4294967291 = c + x') : x' = x := by
  rcases hm with hm | hm | hm <;> omega
theorem fin2 {c c' a a' : Nat} (hc : c < 4294967291) (hc' : c' < 4294967291) (hx : a < 65800) (hx' : a' < 65800) (h : c' % 16777216 = c % 16777216) (hm : c' + a = c + a' ∨ c' + a = c + a' + 4294967291 ∨ c' + a + 4294967291 = c + a') : a' = a := by
  rcases hm with hm | hm | hm <;> omega
theorem chk1_eq (c x : Nat) : chk c [x] = (c * 257 + 1 + x) % 4294967291 := by
  show (c * 257 + x + 1) % pM = _
  unfold pM; congr 1; omega
theorem chk2_eq (c x y : Nat) : chk c [x, y] = (c * 66049 + 258 + (x * 257 + y)) % 4294967291 := by
  show ((c * 257 + x + 1) % pM * 257 + y + 1) % pM = _
  unfold pM; omega
theorem chk3_eq (c x y z : Nat) : chk c [x, y, z] = (c * 16974593 + 66307 + (x * 66049 + y * 257 + z)) % 4294967291 := by
  show (((c * 257 + x + 1) % pM * 257 + y + 1) % pM * 257 + z + 1) % pM = _
  unfold pM; omega
theorem chk_short (c : Nat) : ∀ x x' : List Nat, x.length ≤ 3 → x'.length = x.length → (∀ a ∈ x, a < 256) → (∀ a ∈ x', a < 256) → chk c x' = chk c x → x' = x
  | [], [], _, _, _, _, _ => rfl
  | [a], [a'], _, _, h1, h2, h => by
    have b1 := h1 a (by simp); have b2 := h2 a' (by simp)
    rw [chk1_eq, chk1_eq] at h
    have : a' = a := by omega
    rw [this]
  | [a, b], [a', b'], _, _, h1, h2, h => by
    have b1 := h1 a (by simp); have b2 := h2 a' (by simp)
    have b3 := h1 b (by simp); have b4 := h2 b' (by simp)
    rw [chk2_eq, chk2_eq] at h
    obtain ⟨e1, e2⟩ := lin2 _ a' b' a b b2 b4 b1 b3 h
    rw [e1, e2]
  | [a, b, d], [a', b', d'], _, _, h1, h2, h => by
    have b1 := h1 a (by simp); have b2 := h2 a' (by simp)
    have b3 := h1 b (by simp); have b4 := h2 b' (by simp)
    have b5 := h1 d (by simp); have b6 := h2 d' (by simp)
    rw [chk3_eq, chk3_eq] at h
    obtain ⟨e0, e1, e2⟩ := lin3 _ a' b' d' a b d b2 b4 b6 b1 b3 b5 h
    rw [e0, e1, e2]
  | _ :: _ :: _ :: _ :: _, _, h, _, _, _, _ => by simp at h
  | [], _ :: _, _, h, _, _, _ => by simp at h
  | [_], [], _, h, _, _, _ => by simp at h
  | [_], _ :: _ :: _, _, h, _, _, _ => by simp at h
  | [_, _], [], _, h, _, _, _ => by simp at h
  | [_, _], [_], _, h, _, _, _ => by simp at h
  | [_, _], _ :: _ :: _ :: _, _, h, _, _, _ => by simp at h
  | [_, _, _], [], _, h, _, _, _ => by simp at h
  | [_, _, _], [_], _, h, _, _, _ => by simp at h
  | [_, _, _], [_, _], _, h, _, _, _ => by simp at h
  | [_, _, _], _ :: _ :: _ :: _ :: _, _, h, _, _, _ => by simp at h
theorem be4_inj {c c' : Nat} (h1 : c < pM) (h2 : c' < pM) (h : be4 c' = be4 c) : c' = c := by
  unfold be4 at h
  unfold pM at h1 h2
  simp only [List.cons.injEq, and_true] at h
  omega
theorem win (o o' : List Nat) (ho : ∀ x ∈ o, x < 256) (ho' : ∀ x ∈ o', x < 256) (hlen : o'.length = o.length) (p w : Nat) (hw : w ≤ 3) (h1 : (sld o').take p = (sld o).take p) (h2 : (sld o').drop (p + w) = (sld o).drop (p + w)) : o' = o := by
  have c1 := chk1_lt o
  have c2 := chk1_lt o'
  unfold sld at h1 h2
  by_cases hp : o.length ≤ p
  · have := congrArg (fun z => z.take o.length) h1
    simp only [List.take_take, Nat.min_eq_left hp] at this
    rw [List.take_append_of_le_length (by omega), List.take_append_of_le_length (by omega), List.take_of_length_le (by omega), List.take_of_length_le (by omega)] at this
    exact this
  · rw [List.take_append_of_le_length (by omega), List.take_append_of_le_length (by omega)] at h1
    by_cases hq : p + w ≤ o.length
    · rw [List.drop_append_of_le_length (by omega), List.drop_append_of_le_length (by omega)] at h2
      obtain ⟨e1, e2⟩ := List.append_inj h2 (by simp; omega)
      have ec := be4_inj c1 c2 e2
      have s1 : o = o.take p ++ ((o.drop p).take w ++ o.drop (p + w)) := by
        rw [← List.drop_drop, List.take_append_drop, List.take_append_drop]
      have s2 : o' = o'.take p ++ ((o'.drop p).take w ++ o'.drop (p + w)) := by
        rw [← List.drop_drop, List.take_append_drop, List.take_append_drop]
      rw [h1, e1] at s2
      rw [s1, s2, chk_app, chk_app, chk_app, chk_app] at ec
      have lt1 := chk_lt 1 (by decide) (o.take p)
      have e3 := chk_inj _ _ _ (chk_lt _ lt1 _) (chk_lt _ lt1 _) ec
      have e4 := chk_short _ _ _ (by rw [List.length_take]; omega) (by simp; omega) (fun a ha => ho a (List.mem_of_mem_drop (List.mem_of_mem_take ha))) (fun a ha => ho' a (List.mem_of_mem_drop (List.mem_of_mem_take ha))) e3
      rw [s1, s2, e4]
    · have s1 : o = o.take p ++ o.drop p := (List.take_append_drop p o).symm
      have s2 : o' = o.take p ++ o'.drop p := by rw [← h1]; exact (List.take_append_drop p o').symm
      have d1 : (o ++ be4 (chk 1 o)).drop (p + w) = (be4 (chk 1 o)).drop (p + w - o.length) := by
        rw [List.drop_append, List.drop_of_length_le (by omega), List.nil_append]
      have d2 : (o' ++ be4 (chk 1 o')).drop (p + w) = (be4 (chk 1 o')).drop (p + w - o.length) := by
        rw [List.drop_append, List.drop_of_length_le (by omega), List.nil_append, hlen]
      rw [d1, d2] at h2
      have lo : (o.drop p).length = o.length - p := by simp
      have lo' : (o'.drop p).length = o.length - p := by simp; omega
      have m1 : ∀ a ∈ o.drop p, a < 256 := fun a ha => ho a (List.mem_of_mem_drop ha)
      have m2 : ∀ a ∈ o'.drop p, a < 256 := fun a ha => ho' a (List.mem_of_mem_drop ha)
      have k1 : chk 1 o = chk (chk 1 (o.take p)) (o.drop p) := by rw [← chk_app, ← s1]
      have k2 : chk 1 o' = chk (chk 1 (o.take p)) (o'.drop p) := by rw [← chk_app, ← s2]
      suffices o'.drop p = o.drop p by rw [s2, this, ← s1]
      generalize chk 1 (o.take p) = c0 at k1 k2
      generalize o.drop p = X at *
      generalize o'.drop p = X' at *
      generalize chk 1 o = c at *
      generalize chk 1 o' = c' at *
      have hcase : (o.length - p = 1 ∧ p + w - o.length ≤ 2) ∨ (o.length - p = 2 ∧ p + w - o.length ≤ 1) := by omega
      generalize p + w - o.length = r at h2 hcase
      generalize o.length - p = j at *
      rcases hcase with ⟨rfl, hr⟩ | ⟨rfl, hr⟩
      · match X, X', lo, lo' with
        | [x], [x'], _, _ =>
          rw [chk1_eq] at k1 k2
          have b1 := m1 x (by simp)
          have b2 := m2 x' (by simp)
          have h3 := congrArg (fun z => z.drop (2 - r)) h2
          simp only [List.drop_drop] at h3
          rw [Nat.add_sub_cancel' hr] at h3
          simp only [be4, List.drop_succ_cons, List.drop_zero, List.cons.injEq, and_true] at h3
          unfold pM at c1 c2
          have : x' = x := fin1 c1 c2 b1 b2 (b2_eq h3) (modc (by omega) (by omega) k1 k2)
          rw [this]
      · match X, X', lo, lo' with
        | [x, y], [x', y'], _, _ =>
          rw [chk2_eq] at k1 k2
          have b1 := m1 x (by simp)
          have b2 := m2 x' (by simp)
          have b3 := m1 y (by simp)
          have b4 := m2 y' (by simp)
          have h3 := congrArg (fun z => z.drop (1 - r)) h2
          simp only [List.drop_drop] at h3
          rw [Nat.add_sub_cancel' hr] at h3
          simp only [be4, List.drop_succ_cons, List.drop_zero, List.cons.injEq, and_true] at h3
          unfold pM at c1 c2
          have e := fin2 c1 c2 (by omega) (by omega) (b3_eq h3) (modc (by omega) (by omega) k1 k2)
          clear k1 k2
          have : x' = x ∧ y' = y := by omega
          rw [this.1, this.2]
theorem sld_len (o : List Nat) : (sld o).length = o.length + 4 := by unfold sld; simp [be4]
theorem sld_take (o : List Nat) : (sld o).take o.length = o := by unfold sld; rw [List.take_append_of_le_length (Nat.le_refl _), List.take_of_length_le (Nat.le_refl _)]
theorem sld_lt (o : List Nat) (ho : ∀ x ∈ o, x < 256) : ∀ x ∈ sld o, x < 256 := by
  have := chk1_lt o
  unfold pM at this
  intro x hx
  unfold sld be4 at hx
  rcases List.mem_append.mp hx with hx | hx
  · exact ho x hx
  · simp only [List.mem_cons, List.not_mem_nil, or_false] at hx
    rcases hx with rfl | rfl | rfl | rfl <;> omega
theorem sld_ok (o : List Nat) : isSld (sld o) = true := by
  unfold isSld
  have e : (sld o).length - 4 = o.length := by rw [sld_len]; omega
  rw [e, sld_take, sld_len]
  simp
theorem alt_ok (o m : List Nat) (ho : ∀ x ∈ o, x < 256) (hm : ∀ x ∈ m, x < 256) (hlen : m.length = (sld o).length) (p w : Nat) (hw : w ≤ 3) (h1 : m.take p = (sld o).take p) (h2 : m.drop (p + w) = (sld o).drop (p + w)) : isSld m = decide (m = sld o) := by
  by_cases e : m = sld o
  · rw [e, sld_ok]; simp
  · rw [decide_eq_false e]
    unfold isSld
    rw [Bool.and_eq_false_iff]
    right
    refine decide_eq_false fun z => e ?_
    rw [sld_len] at hlen
    have := win o (m.take (m.length - 4)) ho (fun x hx => hm x (List.mem_of_mem_take hx)) (by simp; omega) p w hw (by rw [z]; exact h1) (by rw [z]; exact h2)
    rw [← z, this]
end K43
set_option Elab.async false
set_option linter.all false
set_option maxRecDepth 100000
set_option maxHeartbeats 1000000
namespace K43
open PySem L2 DL
abbrev N3 := Nx 2 1
theorem dv_lt (cs : List Nat) (h : PySem.NumText.AllDigits cs) : ∀ v, cs.foldl (fun acc c => acc * 10 + (c - 48)) v < (v + 1) * 10 ^ cs.length := by
  induction cs with
  | nil => intro v; simp
  | cons c cs ih =>
    intro v
    have hc := h.head
    have := ih h.tail (v * 10 + (c - 48))
    rw [List.foldl_cons, List.length_cons, Nat.pow_succ]
    refine Nat.lt_of_lt_of_le this ?_
    rw [Nat.mul_comm (10 ^ cs.length) 10, ← Nat.mul_assoc]
    exact Nat.mul_le_mul_right _ (by omega)
theorem rep7 (n : Nat) : ∀ z : Array Nat, ((List.replicate n (#[55] : Array Nat)).foldl (· ++ ·) z).toList = z.toList ++ List.replicate n 55 := by
  induction n with
  | zero => intro z; simp
  | succ n ih =>
    intro z
    rw [List.replicate_succ, List.foldl_cons, ih, List.replicate_succ]
    simp
theorem sevens (n : Nat) (hn : n < 60) (st : S) : ∃ q, q < 10 ^ 61 ∧ ∃ t, bMulS (.str "7") (.int (1 + (n : Int))) st = some (.str t, st) ∧ ∀ st, gInt [.str t] st = some (nD q, st) := by
  have e7 : (("7" : String) : PySem.Str) = ⟨#[55]⟩ := by rfl
  obtain ⟨t, ht⟩ : ∃ t : PySem.Str, t = ⟨(List.replicate (n + 1) (#[55] : Array Nat)).foldl (· ++ ·) #[]⟩ := ⟨_, rfl⟩
  have htl : t.cps.toList = List.replicate (n + 1) 55 := by
    rw [ht]
    show ((List.replicate (n + 1) (#[55] : Array Nat)).foldl (· ++ ·) #[]).toList = _
    rw [rep7]; rfl
  have hlen : t.length = n + 1 := by
    have : t.cps.toList.length = t.length := Array.length_toList
    rw [← this, htl, List.length_replicate]
  have hd : PySem.NumText.AllDigits t.cps.toList := by
    rw [htl]
    intro c hc
    rw [(List.mem_replicate.mp hc).2]; decide
  refine ⟨PySem.NumText.digitsVal t.cps.toList, ?_, t, ?_, ?_⟩
  · have := dv_lt _ hd 0
    refine Nat.lt_of_lt_of_le this ?_
    rw [Nat.zero_add, Nat.one_mul, htl, List.length_replicate]
    exact Nat.pow_le_pow_right (by decide) (by omega)
  · rw [e7]
    unfold bMulS
    dsimp only
    have e1 : (1 + (n : Int)).toNat = n + 1 := by omega
    rw [if_pos ⟨by omega, by omega, by decide⟩, e1, ht]
  · intro st
    unfold gInt
    have h2 := PySem.intText_digits hd (by rw [htl]; simp) (by omega)
    dsimp only
    rw [if_pos (by omega), h2]
    rfl
section
variable {env : Ev} {s : S} {cells : List Nat}
noncomputable abbrev L1 : ME := (eF F__law_some (aCons (eV 1) (aCons (eLst (aCons (eC (.int 0)) (aCons (eC (.int 127)) (aCons (eC (.int 128)) (aCons (eC (.int 300)) (aCons (eC (.int 16383)) (aCons (eC (.int 16384)) (aCons (eF F__law_take (aCons (eV 1) (aCons (eBin bPow (eC (.int 10)) (eC (.int 6))) aNil))) (aCons (eP gInt (aCons (eBin bMulS (eC (.str "7")) (eBin bAdd (eC (.int 1)) (eF F__law_take (aCons (eV 1) (aCons (eC (.int 60)) aNil))))) aNil)) aNil))))))))) aNil)))
theorem st1 (B : Bag s 2 1 cells) (h1 : env[1]? = some (some (.loc 2))) : ∃ n s', n < 10 ^ 61 ∧ L1 env s = .ok (nD n) s' ∧ N3 cells s s' := by
  have hp : bPow (.int 10) (.int 6) s = some (nD 1000000, s) := pv_pow s ⟨by decide, by decide, by decide⟩
  obtain ⟨v, s1, hv, e1, n1⟩ := tk_ev (env := env) (i := 1) (n := 1000000) (e := eBin bPow (eC (.int 10)) (eC (.int 6))) B h1 (by
    simp only [ev_Bin, ev_C, R.bind, hp, ofO]) (by decide) (by decide)
  obtain ⟨w, s2, hw, e2, n2⟩ := tk_ev (env := env) (i := 1) (n := 60) (e := eC (.int 60)) n1.bag h1 rfl (by decide) (by decide)
  have e1 : (eF F__law_take (aCons (eV 1) (aCons (eBin bPow (eC (.int 10)) (eC (.int 6))) aNil))) env s = .ok (nD v) s1 := e1
  have e2 : (eF F__law_take (aCons (eV 1) (aCons (eC (.int 60)) aNil))) env s1 = .ok (nD w) s2 := e2
  obtain ⟨q, hq, t, e3, e4⟩ := sevens w hw s2
  have hz : ∀ a b : D, ([.int 0, .int 127, .int 128, .int 300, .int 16383, .int 16384, a, b] : List D).length ≤ sizeLine := fun a b => by rw [sizeLine_eq]; show 8 ≤ 16777216; decide
  have n12 := n1.trans n2
  have n3 : N3 cells s2 (s2 ++ [.lst [.int 0, .int 127, .int 128, .int 300, .int 16383, .int 16384, nD v, nD q]]) := Nx.push n2.bag rfl
  have hne : s2.length ≠ 2 := by have := n2.bag.lt; omega
  obtain ⟨d, s4, hd, e5, n4, _⟩ := some_nx n3.bag (get_last _ _) hne (by simp) (by show 8 < 2 ^ 64; decide)
  have e5 : F__law_some [.loc 2, .loc s2.length] (s2 ++ [.lst [.int 0, .int 127, .int 128, .int 300, .int 16383, .int 16384, nD v, nD q]]) = .ok d s4 := e5
  have key : ∃ n, n < 10 ^ 61 ∧ d = nD n := by
    simp only [List.mem_cons, List.not_mem_nil, or_false] at hd
    rcases hd with rfl | rfl | rfl | rfl | rfl | rfl | rfl | rfl
    · exact ⟨0, by decide, rfl⟩
    · exact ⟨127, by decide, rfl⟩
    · exact ⟨128, by decide, rfl⟩
    · exact ⟨300, by decide, rfl⟩
    · exact ⟨16383, by decide, rfl⟩
    · exact ⟨16384, by decide, rfl⟩
    · exact ⟨v, Nat.lt_of_lt_of_le hv (by decide), rfl⟩
    · exact ⟨q, hq, rfl⟩
  obtain ⟨n, hn, rfl⟩ := key
  refine ⟨n, s4, hn, ?_, (n12.trans n3).trans n4⟩
  unfold L1
  rw [ev_F, ev_aCons, ev_V, h1]
  simp only [R.bind, ev_aCons, ev_aNil, ev_Lst, ev_C, e1, e2, ev_P, ev_Bin, ofO, pv_add, e3, e4]
  rw [if_pos (hz _ _)]
  simp only [e5]
theorem tkc (B : Bag s 2 1 cells) (h1 : env[1]? = some (some (.loc 2))) (n : Nat) (c : D) (hc : c = nD n) (hn : 0 < n) (hn2 : n < 2 ^ 64) : ∃ v s', v < n ∧ (eF F__law_take (aCons (eV 1) (aCons (eC c) aNil))) env s = .ok (nD v) s' ∧ N3 cells s s' :=
  tk_ev B h1 (by rw [hc]; rfl) hn hn2
/-- tuple([take(bag, 256) for octet in range(e)]) -/
theorem dr256 {e : ME} {n : Nat} {s1 : S} (he : e env s = .ok (nD n) s1) (N1 : N3 cells s s1) (hn : n ≤ 1000) (h1 : env[1]? = some (some (.loc 2))) :
    ∃ (l : List Nat) (s' : S), l.length = n ∧ (∀ x ∈ l, x < 256) ∧ (eP gTuple (aCons (eLc (iR1 e) [6] (gN 6) tYes' (eF F__law_take (aCons (eV 1) (aCons (eC (.int 256)) aNil)))) aNil)) env s = .ok (.tup (l.map nD)) s' ∧ N3 cells s s' := by
  obtain ⟨l, s', h, hP, e, n⟩ := lc_tup (v := 6) (el := eF F__law_take (aCons (eV 1) (aCons (eC (.int 256)) aNil))) (P := (· < 256)) N1 (r1_ev he (by omega)) (by rw [rngD_len]; omega) (fun st d B => by
    refine tkc B ?_ 256 _ rfl (by decide) (by decide)
    rw [List.getElem?_set_ne (by decide)]
    show (env.set 6 none)[1]? = _
    rw [List.getElem?_set_ne (by decide), h1])
  rw [rngD_len] at h
  exact ⟨l, s', h, hP, e, n⟩
end
end K43
set_option Elab.async false
set_option linter.all false
set_option maxRecDepth 100000
set_option maxHeartbeats 1000000
namespace K43
open PySem L2 DL
section
variable {env : Ev} {s s1 s2 : S} {cells : List Nat}
theorem f1_ev {f : MF} {i : Nat} {d : D} (h : env[i]? = some (some d)) : eF f (aCons (eV i) aNil) env s = f [d] s := by
  simp only [ev_F, ev_aCons, ev_aNil, ev_V, h, R.bind]
theorem f2_ev {f : MF} {i j : Nat} {d d' : D} (h : env[i]? = some (some d)) (h' : env[j]? = some (some d')) : eF f (aCons (eV i) (aCons (eV j) aNil)) env s = f [d, d'] s := by
  simp only [ev_F, ev_aCons, ev_aNil, ev_V, h, h', R.bind]
theorem sz (n : Nat) (h : n ≤ 1000) : n ≤ sizeLine := by rw [sizeLine_eq]; omega
theorem l2_ev {a b : ME} {x y : D} (h1 : a env s = .ok x s1) (h2 : b env s1 = .ok y s2) : eLst (aCons a (aCons b aNil)) env s = .ok (.loc s2.length) (s2 ++ [.lst [x, y]]) := by
  simp only [ev_Lst, ev_aCons, ev_aNil, h1, h2, R.bind]
  rw [if_pos (sz _ (by show 2 ≤ 1000; decide))]
theorem l3_ev {a b c : ME} {x y z : D} {s3 : S} (h1 : a env s = .ok x s1) (h2 : b env s1 = .ok y s2) (h3 : c env s2 = .ok z s3) : eLst (aCons a (aCons b (aCons c aNil))) env s = .ok (.loc s3.length) (s3 ++ [.lst [x, y, z]]) := by
  simp only [ev_Lst, ev_aCons, ev_aNil, h1, h2, h3, R.bind]
  rw [if_pos (sz _ (by show 3 ≤ 1000; decide))]
theorem ln_ev {i : Nat} {xs : List D} (h : env[i]? = some (some (.tup xs))) : (eP gLen (aCons (eV i) aNil)) env s = .ok (nD xs.length) s := by
  simp only [ev_P, ev_aCons, ev_aNil, ev_V, h, R.bind, pv_lenT, ofO]
theorem v_ev {i : Nat} {d : D} (h : env[i]? = some (some d)) : eV i env s = .ok d s := by rw [ev_V, h]
theorem tup_add (a b : List Nat) (h : a.length + b.length ≤ 1000) (st : S) : bAdd (.tup (a.map nD)) (.tup (b.map nD)) st = some (.tup ((a ++ b).map nD), st) := by
  have : bAdd (.tup (a.map nD)) (.tup (b.map nD)) st = some (.tup (a.map nD ++ b.map nD), st) := if_pos (sz _ (by simpa using h))
  rw [this, List.map_append]
/-- told := read_integer(ahead + due + behind, len(ahead)) -/
theorem st5 {a b : List Nat} {n : Nat} (h4 : env[4]? = some (some (.tup ((octs n).map nD)))) (h5 : env[5]? = some (some (.tup (a.map nD)))) (h7 : env[7]? = some (some (.tup (b.map nD)))) (hl : a.length + (octs n).length + b.length ≤ 90) :
    (eF F_read_integer (aCons (eBin bAdd (eBin bAdd (eV 5) (eV 4)) (eV 7)) (aCons (eP gLen (aCons (eV 5) aNil)) aNil))) env s = .ok (.tup [nD n, nD (a.length + (octs n).length)]) s := by
  have e1 := tup_add a (octs n) (by omega) s
  have e2 := tup_add (a ++ octs n) b (by rw [List.length_append]; omega) s
  have e3 := read_ok (a ++ octs n ++ b) a.length (by simp only [List.length_append]; omega) (by simp only [List.length_append]; omega) s
  have e4 : (a ++ octs n ++ b).drop a.length = octs n ++ b := by rw [List.append_assoc, List.drop_left]
  rw [e4, rd_octs] at e3
  simp only [ev_F, ev_aCons, ev_aNil, ev_Bin, ev_V, h5, h4, h7, R.bind, e1, e2, ofO, ev_P, pv_lenT, List.length_map, e3]
theorem noloc_low {n : Nat} {xs : List Nat} : lowD n (.tup (xs.map nD)) = true := lowDs_nat n xs
theorem st6 {r : MS} {a : List Nat} {n : Nat} (B : Bag s 2 1 cells) (hn : n < 10 ^ 61) (h3 : env[3]? = some (some (nD n))) (h4 : env[4]? = some (some (.tup ((octs n).map nD)))) (h5 : env[5]? = some (some (.tup (a.map nD)))) (h8 : env[8]? = some (some (.tup [nD n, nD (a.length + (octs n).length)]))) :
    ∃ s', (sIf (tNot (tTru (eF F__law_alike (aCons (eLst (aCons (eF F_integer_octets (aCons (eV 3) aNil)) (aCons (eV 8) aNil))) (aCons (eLst (aCons (eV 4) (aCons (eTup (aCons (eV 3) (aCons (eBin bAdd (eP gLen (aCons (eV 5) aNil)) (eP gLen (aCons (eV 4) aNil))) aNil))) aNil))) aNil))))) r sNil) env s = .nx env s' ∧ N3 cells s s' := by
  have p61 : (10 : Nat) ^ 61 ≤ 128 ^ 30 := by decide
  have hol := octs_len n 29 (by omega)
  have e1 : (eF F_integer_octets (aCons (eV 3) aNil)) env s = .ok (.tup ((octs n).map nD)) s := by
    rw [f1_ev h3]
    exact int_oct n (Nat.lt_of_lt_of_le hn (Nat.le_trans p61 (Nat.pow_le_pow_right (show 0 < 128 by decide) (show 30 ≤ 1000 by decide)))) s
  let c1 : Cell := .lst [.tup ((octs n).map nD), .tup [nD n, nD (a.length + (octs n).length)]]
  have e2 : (eTup (aCons (eV 3) (aCons (eBin bAdd (eP gLen (aCons (eV 5) aNil)) (eP gLen (aCons (eV 4) aNil))) aNil))) env (s ++ [c1]) = .ok (.tup [nD n, nD (a.length + (octs n).length)]) (s ++ [c1]) := by
    have ea : ((a.length : Nat) : Int) + ((octs n).length : Nat) = ((a.length + (octs n).length : Nat) : Int) := by push_cast; rfl
    simp only [ev_Tup, ev_aCons, ev_aNil, ev_V, h3, R.bind, ev_Bin, ev_P, h4, h5, pv_lenT, ofO, List.length_map, pv_add, ea]
    rw [if_pos (sz _ (by show 2 ≤ 1000; decide))]
  have ha := l2_ev e1 (v_ev h8)
  have hb := l2_ev (v_ev (s := s ++ [c1]) h4) e2
  have n1 : N3 cells s (s ++ [c1]) := Nx.push B (by
    show (lowDs _ _ && (lowD _ _ && true)) = true
    rw [lowDs_nat]; rfl)
  have n2 : N3 cells (s ++ [c1]) (s ++ [c1] ++ [c1]) := Nx.push n1.bag (by
    show (lowDs _ _ && (lowD _ _ && true)) = true
    rw [lowDs_nat]; rfl)
  refine ⟨_, ak_if ha hb (.lst (i := s.length) (j := (s ++ [c1]).length) (by rw [List.getElem?_append_left (by simp)]; exact get_last _ _) (get_last _ _) (sm2 (sm_tupN _) (.tup (sm2 (sm_int _) (sm_int _))))) (by omega), n1.trans n2⟩
noncomputable abbrev L7 : ME := (eF F__law_some (aCons (eV 1) (aCons (eLst (aCons (eC (.int 0)) (aCons (eC (.int 1)) (aCons (eC (.int 127)) (aCons (eC (.int 128)) (aCons (eC (.int 129)) (aCons (eC (.int 255)) (aCons (eF F__law_take (aCons (eV 1) (aCons (eC (.int 256)) aNil))) aNil)))))))) aNil)))
theorem st7 (B : Bag s 2 1 cells) (h1 : env[1]? = some (some (.loc 2))) : ∃ n s', n < 256 ∧ L7 env s = .ok (nD n) s' ∧ N3 cells s s' := by
  obtain ⟨w, s2, hw, e2, n2⟩ := tkc B h1 256 (.int 256) rfl (by decide) (by decide)
  have hz : ∀ a : D, ([.int 0, .int 1, .int 127, .int 128, .int 129, .int 255, a] : List D).length ≤ sizeLine := fun a => sz _ (by show 7 ≤ 1000; decide)
  have n3 : N3 cells s2 (s2 ++ [.lst [.int 0, .int 1, .int 127, .int 128, .int 129, .int 255, nD w]]) := Nx.push n2.bag rfl
  have hne : s2.length ≠ 2 := by have := n2.bag.lt; omega
  obtain ⟨d, s4, hd, e5, n4, _⟩ := some_nx n3.bag (get_last _ _) hne (by simp) (by show 7 < 2 ^ 64; decide)
  have e5 : F__law_some [.loc 2, .loc s2.length] (s2 ++ [.lst [.int 0, .int 1, .int 127, .int 128, .int 129, .int 255, nD w]]) = .ok d s4 := e5
  have key : ∃ n, n < 256 ∧ d = nD n := by
    simp only [List.mem_cons, List.not_mem_nil, or_false] at hd
    rcases hd with rfl | rfl | rfl | rfl | rfl | rfl | rfl
    · exact ⟨0, by decide, rfl⟩
    · exact ⟨1, by decide, rfl⟩
    · exact ⟨127, by decide, rfl⟩
    · exact ⟨128, by decide, rfl⟩
    · exact ⟨129, by decide, rfl⟩
    · exact ⟨255, by decide, rfl⟩
    · exact ⟨w, hw, rfl⟩
  obtain ⟨n, hn, rfl⟩ := key
  refine ⟨n, s4, hn, ?_, (n2.trans n3).trans n4⟩
  unfold L7
  rw [ev_F, ev_aCons, ev_V, h1]
  simp only [R.bind, ev_aCons, ev_aNil, ev_Lst, ev_C, e2]
  rw [if_pos (hz _)]
  simp only [e5]
theorem st7l (B : Bag s 2 1 cells) (h1 : env[1]? = some (some (.loc 2))) :
    ∃ (l : List Nat) (s' : S), l.length ≤ 8 ∧ (∀ x ∈ l, x < 256) ∧ (eP gTuple (aCons (eLc (iR1 (eF F__law_take (aCons (eV 1) (aCons (eC (.int 9)) aNil)))) [6] (gN 6) tYes' L7) aNil)) env s = .ok (.tup (l.map nD)) s' ∧ N3 cells s s' := by
  obtain ⟨w, s2, hw, e2, n2⟩ := tkc B h1 9 (.int 9) rfl (by decide) (by decide)
  obtain ⟨l, s', h, hP, e, n⟩ := lc_tup (v := 6) (el := L7) (P := (· < 256)) n2 (r1_ev e2 (by omega)) (by rw [rngD_len]; omega) (fun st d B => by
    refine st7 B ?_
    rw [List.getElem?_set_ne (by decide)]
    show (env.set 6 none)[1]? = _
    rw [List.getElem?_set_ne (by decide), h1])
  rw [rngD_len] at h
  exact ⟨l, s', by omega, hP, e, n⟩
theorem st10 {r : MS} {o : List Nat} {p : Nat} (hp : p ≤ o.length) (hl : o.length ≤ 9) (h9 : env[9]? = some (some (.tup (o.map nD)))) (h10 : env[10]? = some (some (nD p))) (h11 : env[11]? = some (some (ansR p (o.drop p)))) :
    (sIf (tNot (tTru (eF F__law_alike (aCons (eF F__law_told (aCons (eV 9) (aCons (eV 10) aNil))) (aCons (eIf (tV (eBin cIsN (eV 11) (eC .non))) (eTup (aCons (eC (.str "bad")) (aCons (eV 10) (aCons (eC (.str "integer")) aNil)))) (eV 11)) aNil))))) r sNil) env s = .nx env s := by
  have e1 := law_told_ok o p hp (by omega) s
  cases hr : rd (o.drop p) with
  | none =>
    rw [hr] at e1
    have ea : ansR p (o.drop p) = .non := by unfold ansR; rw [hr]
    rw [ea] at h11
    refine ak_if (x := badA p) (y := badA p) ((f2_ev h9 h10).trans e1) ?_ (.tup (sm3 (sm_str _ (by decide +kernel)) (sm_int _) (sm_str _ (by decide +kernel)))) (by decide)
    have hc : cIsN .non .non s = some (.bl true, s) := rfl
    simp only [ev_If, ev_tV, ev_Bin, ev_V, h11, ev_C, R.bind, hc, ofO, onB, if_true, ev_Tup, ev_aCons, ev_aNil, h10]
    rw [if_pos (sz _ (by show 3 ≤ 1000; decide))]
  | some q =>
    rw [hr] at e1
    have ea : ansR p (o.drop p) = .tup [nD q.1, nD (p + q.2)] := by unfold ansR; rw [hr]
    rw [ea] at h11
    refine ak_if (x := .tup [nD q.1, nD (p + q.2)]) (y := .tup [nD q.1, nD (p + q.2)]) ((f2_ev h9 h10).trans e1) ?_ (.tup (sm2 (sm_int _) (sm_int _))) (by decide)
    have hc : cIsN (.tup [nD q.1, nD (p + q.2)]) .non s = some (.bl false, s) := rfl
    simp only [ev_If, ev_tV, ev_Bin, ev_V, h11, ev_C, R.bind, hc, ofO, onB, Bool.false_eq_true, if_false]
theorem st12 {r : MS} {o : List Nat} (B : Bag s 2 1 cells) (hl : o.length ≤ 9) (h9 : env[9]? = some (some (.tup (o.map nD)))) (h12 : env[12]? = some (some (.tup ((sld o).map nD)))) :
    ∃ s', (sIf (tNot (tTru (eF F__law_alike (aCons (eLst (aCons (eF F_check_of (aCons (eV 9) aNil)) (aCons (eF F_sealed (aCons (eV 9) aNil)) (aCons (eF F_is_sealed (aCons (eV 12) aNil)) aNil)))) (aCons (eLst (aCons (eF F__law_check (aCons (eV 9) aNil)) (aCons (eV 12) (aCons (eC (.bl true)) aNil)))) aNil))))) r sNil) env s = .nx env s' ∧ N3 cells s s' := by
  have hsl := sld_len o
  let c1 : Cell := .lst [nD (chk 1 o), .tup ((sld o).map nD), .bl true]
  have e1 : (eF F_check_of (aCons (eV 9) aNil)) env s = .ok (nD (chk 1 o)) s := (f1_ev h9).trans (check_of_ok o s)
  have e2 : (eF F_sealed (aCons (eV 9) aNil)) env s = .ok (.tup ((sld o).map nD)) s := (f1_ev h9).trans (sealed_ok o (by omega) s)
  have e3 : (eF F_is_sealed (aCons (eV 12) aNil)) env s = .ok (.bl true) s := by
    have := (f1_ev (s := s) h12).trans (is_sealed_ok (sld o) (by omega) s)
    rw [sld_ok] at this
    exact this
  have e4 : (eF F__law_check (aCons (eV 9) aNil)) env (s ++ [c1]) = .ok (nD (chk 1 o)) (s ++ [c1]) := (f1_ev h9).trans (law_check_ok o _)
  have ha := l3_ev e1 e2 e3
  have hb := l3_ev e4 (v_ev h12) (show (eC (.bl true)) env (s ++ [c1]) = .ok (.bl true) (s ++ [c1]) from rfl)
  have low : ∀ n, lowC n c1 = true := fun n => by
    show (true && (lowDs _ _ && true)) = true
    rw [lowDs_nat]; rfl
  have n1 : N3 cells s (s ++ [c1]) := Nx.push B (low _)
  have n2 : N3 cells (s ++ [c1]) (s ++ [c1] ++ [c1]) := Nx.push n1.bag (low _)
  refine ⟨_, ak_if ha hb (.lst (i := s.length) (j := (s ++ [c1]).length) (by rw [List.getElem?_append_left (by simp)]; exact get_last _ _) (get_last _ _) (sm3 (sm_int _) (sm_tupN _) (sm_bl _))) (by omega), n1.trans n2⟩
end
end K43
set_option Elab.async false
set_option linter.all false
set_option maxRecDepth 100000
set_option maxHeartbeats 1000000
namespace K43
open PySem L2 DL
section
variable {env : Ev} {s s1 s2 : S} {cells : List Nat}
theorem st13 {o : List Nat} (B : Bag s 2 1 cells) (h1 : env[1]? = some (some (.loc 2))) (hl : o.length ≤ 9) (h12 : env[12]? = some (some (.tup ((sld o).map nD)))) :
    ∃ p w s', p < (sld o).length ∧ 1 ≤ w ∧ w ≤ 3 ∧ (sPar [13, 14] (aCons (eF F__law_take (aCons (eV 1) (aCons (eP gLen (aCons (eV 12) aNil)) aNil))) (aCons (eBin bAdd (eC (.int 1)) (eF F__law_take (aCons (eV 1) (aCons (eC (.int 3)) aNil)))) aNil))) env s = .nx ((env.set 13 (some (nD p))).set 14 (some (nD w))) s' ∧ N3 cells s s' := by
  have hsl := sld_len o
  obtain ⟨p, s1, hp, e1, n1⟩ := tk_ev (env := env) (i := 1) (n := (sld o).length) (e := eP gLen (aCons (eV 12) aNil)) B h1 (by
    have := ln_ev (s := s) h12
    rw [List.length_map] at this
    exact this) (by omega) (by omega)
  obtain ⟨v, s2, hv, e2, n2⟩ := tkc (env := env) n1.bag h1 3 (.int 3) rfl (by decide) (by decide)
  have e1 : (eF F__law_take (aCons (eV 1) (aCons (eP gLen (aCons (eV 12) aNil)) aNil))) env s = .ok (nD p) s1 := e1
  have ea : (1 : Int) + (v : Int) = ((1 + v : Nat) : Int) := by push_cast; rfl
  refine ⟨p, 1 + v, s2, hp, by omega, by omega, ?_, n1.trans n2⟩
  simp only [ev_sPar, ev_aCons, ev_aNil, e1, R.bind, ev_Bin, ev_C, e2, ofO, pv_add, ea, R.toS]
  rfl
theorem st15 {o : List Nat} {p w : Nat} (B : Bag s 2 1 cells) (h1 : env[1]? = some (some (.loc 2))) (hl : o.length ≤ 9) (ho : ∀ x ∈ o, x < 256) (hp : p < (sld o).length) (hw : w ≤ 3) (h12 : env[12]? = some (some (.tup ((sld o).map nD)))) (h13 : env[13]? = some (some (nD p))) (h14 : env[14]? = some (some (nD w))) :
    ∃ (m : List Nat) (s' : S), m.length ≤ 20 ∧ isSld m = decide (m = sld o) ∧ (eBin bAdd (eBin bAdd (eSl gSl (eV 12) oNone (oSome (eV 13))) (eP gTuple (aCons (eLc (iSeq (eSl gSl (eV 12) (oSome (eV 13)) (oSome (eBin bAdd (eV 13) (eV 14))))) [6] (gN 6) tYes' (eF F__law_take (aCons (eV 1) (aCons (eC (.int 256)) aNil)))) aNil))) (eSl gSl (eV 12) (oSome (eBin bAdd (eV 13) (eV 14))) oNone)) env s = .ok (.tup (m.map nD)) s' ∧ N3 cells s s' := by
  have hsl := sld_len o
  have ea : (p : Int) + (w : Int) = ((p + w : Nat) : Int) := by push_cast; rfl
  have g1 : ∀ st : S, gSl (.tup ((sld o).map nD)) none (some (p : Int)) st = some (.tup (((sld o).take p).map nD), st) := fun st => by
    show some (D.tup (cutD ((sld o).map nD) none (some (p : Int))), st) = _
    rw [cut_to, List.map_take]
  have g2 : ∀ st : S, gSl (.tup ((sld o).map nD)) (some (p : Int)) (some ((p + w : Nat) : Int)) st = some (.tup ((((sld o).drop p).take w).map nD), st) := fun st => by
    show some (D.tup (cutD ((sld o).map nD) (some (p : Int)) (some ((p + w : Nat) : Int))), st) = _
    rw [cut_in, Nat.add_sub_cancel_left, List.map_take, List.map_drop]
  have g3 : ∀ st : S, gSl (.tup ((sld o).map nD)) (some ((p + w : Nat) : Int)) none st = some (.tup (((sld o).drop (p + w)).map nD), st) := fun st => by
    show some (D.tup (cutD ((sld o).map nD) (some ((p + w : Nat) : Int)) none), st) = _
    rw [cut_from, List.map_drop]
  obtain ⟨l, s2, hll, hP, e2, n2⟩ := lc_tup (env := env) (it := iSeq (eSl gSl (eV 12) (oSome (eV 13)) (oSome (eBin bAdd (eV 13) (eV 14))))) (v := 6) (el := eF F__law_take (aCons (eV 1) (aCons (eC (.int 256)) aNil))) (P := (· < 256)) (ds := (((sld o).drop p).take w).map nD) (Nx.refl B) (by
      simp only [ev_iSeq, ev_Sl, ev_V, h12, h13, h14, ev_oS, ev_Bin, R.bind, onI, ofO, pv_add, ea, g2]) (by simp; omega) (fun st d B => by
    refine tkc B ?_ 256 _ rfl (by decide) (by decide)
    rw [List.getElem?_set_ne (by decide)]
    show (env.set 6 none)[1]? = _
    rw [List.getElem?_set_ne (by decide), h1])
  rw [List.length_map, List.length_take, List.length_drop] at hll
  have ltk : ((sld o).take p).length = p := by rw [List.length_take]; omega
  have ldr : ((sld o).drop (p + w)).length = (sld o).length - (p + w) := by rw [List.length_drop]
  have a1 := tup_add ((sld o).take p) l (by omega) s2
  have a2 := tup_add ((sld o).take p ++ l) ((sld o).drop (p + w)) (by rw [List.length_append]; omega) s2
  have hlen : ((sld o).take p ++ l ++ (sld o).drop (p + w)).length = (sld o).length := by
    simp only [List.length_append]
    omega
  refine ⟨(sld o).take p ++ l ++ (sld o).drop (p + w), s2, by omega, ?_, ?_, n2⟩
  · refine alt_ok o _ ho ?_ hlen p w hw ?_ ?_
    · intro x hx
      rcases List.mem_append.mp hx with hx | hx
      · rcases List.mem_append.mp hx with hx | hx
        · exact sld_lt o ho x (List.mem_of_mem_take hx)
        · exact hP x hx
      · exact sld_lt o ho x (List.mem_of_mem_drop hx)
    · rw [List.append_assoc, List.take_append_of_le_length (by omega), List.take_of_length_le (by omega)]
    · by_cases hq : p + w ≤ (sld o).length
      · rw [List.drop_append, List.drop_of_length_le (by rw [List.length_append]; omega), List.nil_append]
        have : p + w - ((sld o).take p ++ l).length = 0 := by rw [List.length_append]; omega
        rw [this, List.drop_zero]
      · rw [List.drop_of_length_le (by omega), List.drop_of_length_le (by omega)]
  · rw [ev_Bin, ev_Bin]
    have e1 : (eSl gSl (eV 12) oNone (oSome (eV 13))) env s = .ok (.tup (((sld o).take p).map nD)) s := by
      simp only [ev_Sl, ev_V, h12, h13, ev_oS, ev_oN, R.bind, onI, ofO, g1]
    have e3 : (eSl gSl (eV 12) (oSome (eBin bAdd (eV 13) (eV 14))) oNone) env s2 = .ok (.tup (((sld o).drop (p + w)).map nD)) s2 := by
      simp only [ev_Sl, ev_V, h12, h13, h14, ev_oS, ev_oN, ev_Bin, R.bind, onI, ofO, pv_add, ea, g3]
    simp only [e1, R.bind, e2, a1, ofO, e3, a2]
theorem st16 {r : MS} {o m : List Nat} (hm : m.length ≤ 20) (hi : isSld m = decide (m = sld o)) (h12 : env[12]? = some (some (.tup ((sld o).map nD)))) (h15 : env[15]? = some (some (.tup (m.map nD)))) :
    (sIf (tNot (tTru (eF F__law_alike (aCons (eF F_is_sealed (aCons (eV 15) aNil)) (aCons (eBin cEq (eV 15) (eV 12)) aNil))))) r sNil) env s = .nx env s := by
  refine ak_if (s1 := s) (x := .bl (decide (m = sld o))) (y := .bl (decide (m = sld o))) ?_ ?_ (sm_bl _) (by decide)
  · rw [← hi]; exact (f1_ev h15).trans (is_sealed_ok m (by omega) s)
  · simp only [ev_Bin, ev_V, h15, h12, R.bind, cEq_nat, ofO]
theorem st17 (B : Bag s 2 1 cells) (h1 : env[1]? = some (some (.loc 2))) :
    ∃ (l : List Nat) (s' : S), 4 ≤ l.length ∧ l.length ≤ 7 ∧ (eP gTuple (aCons (eLc (iR1 (eBin bAdd (eC (.int 4)) (eF F__law_take (aCons (eV 1) (aCons (eC (.int 4)) aNil))))) [6] (gN 6) tYes' (eF F__law_take (aCons (eV 1) (aCons (eC (.int 256)) aNil)))) aNil)) env s = .ok (.tup (l.map nD)) s' ∧ N3 cells s s' := by
  obtain ⟨v, s2, hv, e2, n2⟩ := tkc (env := env) B h1 4 (.int 4) rfl (by decide) (by decide)
  have ea : (4 : Int) + (v : Int) = ((4 + v : Nat) : Int) := by push_cast; rfl
  obtain ⟨l, s', hl, _, e, n⟩ := dr256 (env := env) (e := eBin bAdd (eC (.int 4)) (eF F__law_take (aCons (eV 1) (aCons (eC (.int 4)) aNil)))) (n := 4 + v) (s1 := s2) (by
    simp only [ev_Bin, ev_C, R.bind, e2, ofO, pv_add, ea]) n2 (by omega) h1
  exact ⟨l, s', by omega, by omega, e, n⟩
theorem st18 {r : MS} {l : List Nat} (h4 : 4 ≤ l.length) (h7 : l.length ≤ 7) (h16 : env[16]? = some (some (.tup (l.map nD)))) :
    (sIf (tNot (tTru (eF F__law_alike (aCons (eF F_is_sealed (aCons (eV 16) aNil)) (aCons (eBin cEq (eF F__law_sealed (aCons (eSl gSl (eV 16) oNone (oSome (eUn gNeg (eC (.int 4))))) aNil)) (eV 16)) aNil))))) r sNil) env s = .nx env s := by
  have hi : isSld l = decide (sld (l.take (l.length - 4)) = l) := by unfold isSld; rw [decide_eq_true h4, Bool.true_and]
  refine ak_if (s1 := s) (x := .bl (isSld l)) (y := .bl (isSld l)) ?_ ?_ (sm_bl _) (by decide)
  · exact (f1_ev h16).trans (is_sealed_ok l (by omega) s)
  · have hs : gSl (.tup (l.map nD)) none (some (-4)) s = some (.tup ((l.take (l.length - 4)).map nD), s) := by
      show some (D.tup (cutD (l.map nD) none (some (-4))), s) = _
      have e : HT.sIx (l.map nD).length (l.map nD).length (some (-4)) = HT.sIx (l.map nD).length (l.map nD).length (some ((l.length - 4 : Nat) : Int)) := by
        rw [HT.sIx_nat]
        rw [List.length_map]
        show (-4 + (l.length : Int)).toNat = _
        omega
      have : cutD (l.map nD) none (some (-4)) = cutD (l.map nD) none (some ((l.length - 4 : Nat) : Int)) := by
        unfold cutD
        rw [e]
      rw [this, cut_to, List.map_take]
    have e := law_sealed_ok (l.take (l.length - 4)) (by rw [List.length_take]; omega) s
    rw [hi]
    simp only [ev_Bin, ev_F, ev_aCons, ev_aNil, ev_Sl, ev_V, h16, ev_oN, ev_oS, ev_Un, ev_C, R.bind, pv_neg, ofO, onI, hs, e, cEq_nat]
end
end K43
set_option Elab.async false
set_option linter.all false
set_option maxRecDepth 100000
set_option maxHeartbeats 4000000
namespace K43
open PySem L2 DL
noncomputable abbrev turnB : MS :=
  (sSeq (sSet 3 (eF F__law_some (aCons (eV 1) (aCons (eLst (aCons (eC (.int 0)) (aCons (eC (.int 127)) (aCons (eC (.int 128)) (aCons (eC (.int 300)) (aCons (eC (.int 16383)) (aCons (eC (.int 16384)) (aCons (eF F__law_take (aCons (eV 1) (aCons (eBin bPow (eC (.int 10)) (eC (.int 6))) aNil))) (aCons (eP gInt (aCons (eBin bMulS (eC (.str "7")) (eBin bAdd (eC (.int 1)) (eF F__law_take (aCons (eV 1) (aCons (eC (.int 60)) aNil))))) aNil)) aNil))))))))) aNil))))
  (sSeq (sSet 4 (eF F__law_integer_octets (aCons (eV 3) aNil)))
  (sSeq (sSet 5 (eP gTuple (aCons (eLc (iR1 (eF F__law_take (aCons (eV 1) (aCons (eC (.int 5)) aNil)))) [6] (gN 6) tYes' (eF F__law_take (aCons (eV 1) (aCons (eC (.int 256)) aNil)))) aNil)))
  (sSeq (sSet 7 (eP gTuple (aCons (eLc (iR1 (eF F__law_take (aCons (eV 1) (aCons (eC (.int 4)) aNil)))) [6] (gN 6) tYes' (eF F__law_take (aCons (eV 1) (aCons (eC (.int 256)) aNil)))) aNil)))
  (sSeq (sSet 8 (eF F_read_integer (aCons (eBin bAdd (eBin bAdd (eV 5) (eV 4)) (eV 7)) (aCons (eP gLen (aCons (eV 5) aNil)) aNil))))
  (sSeq (sIf (tNot (tTru (eF F__law_alike (aCons (eLst (aCons (eF F_integer_octets (aCons (eV 3) aNil)) (aCons (eV 8) aNil))) (aCons (eLst (aCons (eV 4) (aCons (eTup (aCons (eV 3) (aCons (eBin bAdd (eP gLen (aCons (eV 5) aNil)) (eP gLen (aCons (eV 4) aNil))) aNil))) aNil))) aNil)))))
  (sRet (eC (.bl false)))
  sNil)
  (sSeq (sSet 9 (eP gTuple (aCons (eLc (iR1 (eF F__law_take (aCons (eV 1) (aCons (eC (.int 9)) aNil)))) [6] (gN 6) tYes' (eF F__law_some (aCons (eV 1) (aCons (eLst (aCons (eC (.int 0)) (aCons (eC (.int 1)) (aCons (eC (.int 127)) (aCons (eC (.int 128)) (aCons (eC (.int 129)) (aCons (eC (.int 255)) (aCons (eF F__law_take (aCons (eV 1) (aCons (eC (.int 256)) aNil))) aNil)))))))) aNil)))) aNil)))
  (sSeq (sSet 10 (eF F__law_take (aCons (eV 1) (aCons (eBin bAdd (eP gLen (aCons (eV 9) aNil)) (eC (.int 1))) aNil))))
  (sSeq (sSet 11 (eF F__law_read (aCons (eV 9) (aCons (eV 10) aNil))))
  (sSeq (sIf (tNot (tTru (eF F__law_alike (aCons (eF F__law_told (aCons (eV 9) (aCons (eV 10) aNil))) (aCons (eIf (tV (eBin cIsN (eV 11) (eC .non))) (eTup (aCons (eC (.str "bad")) (aCons (eV 10) (aCons (eC (.str "integer")) aNil)))) (eV 11)) aNil)))))
  (sRet (eC (.bl false)))
  sNil)
  (sSeq (sSet 12 (eF F__law_sealed (aCons (eV 9) aNil)))
  (sSeq (sIf (tNot (tTru (eF F__law_alike (aCons (eLst (aCons (eF F_check_of (aCons (eV 9) aNil)) (aCons (eF F_sealed (aCons (eV 9) aNil)) (aCons (eF F_is_sealed (aCons (eV 12) aNil)) aNil)))) (aCons (eLst (aCons (eF F__law_check (aCons (eV 9) aNil)) (aCons (eV 12) (aCons (eC (.bl true)) aNil)))) aNil)))))
  (sRet (eC (.bl false)))
  sNil)
  (sSeq (sPar [13, 14] (aCons (eF F__law_take (aCons (eV 1) (aCons (eP gLen (aCons (eV 12) aNil)) aNil))) (aCons (eBin bAdd (eC (.int 1)) (eF F__law_take (aCons (eV 1) (aCons (eC (.int 3)) aNil)))) aNil)))
  (sSeq (sSet 15 (eBin bAdd (eBin bAdd (eSl gSl (eV 12) oNone (oSome (eV 13))) (eP gTuple (aCons (eLc (iSeq (eSl gSl (eV 12) (oSome (eV 13)) (oSome (eBin bAdd (eV 13) (eV 14))))) [6] (gN 6) tYes' (eF F__law_take (aCons (eV 1) (aCons (eC (.int 256)) aNil)))) aNil))) (eSl gSl (eV 12) (oSome (eBin bAdd (eV 13) (eV 14))) oNone)))
  (sSeq (sIf (tNot (tTru (eF F__law_alike (aCons (eF F_is_sealed (aCons (eV 15) aNil)) (aCons (eBin cEq (eV 15) (eV 12)) aNil)))))
  (sRet (eC (.bl false)))
  sNil)
  (sSeq (sSet 16 (eP gTuple (aCons (eLc (iR1 (eBin bAdd (eC (.int 4)) (eF F__law_take (aCons (eV 1) (aCons (eC (.int 4)) aNil))))) [6] (gN 6) tYes' (eF F__law_take (aCons (eV 1) (aCons (eC (.int 256)) aNil)))) aNil)))
  (sIf (tNot (tTru (eF F__law_alike (aCons (eF F_is_sealed (aCons (eV 16) aNil)) (aCons (eBin cEq (eF F__law_sealed (aCons (eSl gSl (eV 16) oNone (oSome (eUn gNeg (eC (.int 4))))) aNil)) (eV 16)) aNil)))))
  (sRet (eC (.bl false)))
  sNil)))))))))))))))))
theorem turn_ok {s : S} {cells : List Nat} (N T o3 o4 o5 o6 o7 o8 o9 o10 o11 o12 o13 o14 o15 o16 : Option D) (B : Bag s 2 1 cells) :
    ∃ r s', turnB [N, some (.loc 2), T, o3, o4, o5, o6, o7, o8, o9, o10, o11, o12, o13, o14, o15, o16] s = .nx (N :: some (.loc 2) :: r) s' ∧ r.length = 15 ∧ N3 cells s s' := by
  have p61 : (10 : Nat) ^ 61 ≤ 128 ^ 30 := by decide
  generalize hE0 : ([N, some (.loc 2), T, o3, o4, o5, o6, o7, o8, o9, o10, o11, o12, o13, o14, o15, o16] : Ev) = E0
  obtain ⟨n, s1, hn, e1, n1⟩ := st1 (env := E0) B (by rw [← hE0]; rfl)
  have hol := octs_len n 29 (by omega)
  have f1 := set_ev (i := 3) e1
  generalize hE1 : E0.set 3 (some (nD n)) = E1 at f1
  have e2 : eF F__law_integer_octets (aCons (eV 3) aNil) E1 s1 = .ok (.tup ((octs n).map nD)) s1 := (f1_ev (by rw [← hE1, ← hE0]; rfl)).trans (law_octets_ok n (Nat.lt_of_lt_of_le hn (Nat.le_trans p61 (Nat.pow_le_pow_right (show 0 < 128 by decide) (show 30 ≤ 400 by decide)))) s1)
  have f2 := set_ev (i := 4) e2
  generalize hE2 : E1.set 4 (some (.tup ((octs n).map nD))) = E2 at f2
  obtain ⟨v, s2, hv, a3, m3⟩ := tkc (env := E2) n1.bag (by rw [← hE2, ← hE1, ← hE0]; rfl) 5 (.int 5) rfl (by decide) (by decide)
  obtain ⟨ah, s3, lah, _, e3, n3⟩ := dr256 a3 m3 (by omega) (by rw [← hE2, ← hE1, ← hE0]; rfl)
  have f3 := set_ev (i := 5) e3
  generalize hE3 : E2.set 5 (some (.tup (ah.map nD))) = E3 at f3
  obtain ⟨v', s4, hv', a4, m4⟩ := tkc (env := E3) n3.bag (by rw [← hE3, ← hE2, ← hE1, ← hE0]; rfl) 4 (.int 4) rfl (by decide) (by decide)
  obtain ⟨be, s5, lbe, _, e4, n4⟩ := dr256 a4 m4 (by omega) (by rw [← hE3, ← hE2, ← hE1, ← hE0]; rfl)
  have f4 := set_ev (i := 7) e4
  generalize hE4 : E3.set 7 (some (.tup (be.map nD))) = E4 at f4
  have e5 := st5 (env := E4) (s := s5) (a := ah) (b := be) (n := n) (by rw [← hE4, ← hE3, ← hE2, ← hE1, ← hE0]; rfl) (by rw [← hE4, ← hE3, ← hE2, ← hE1, ← hE0]; rfl) (by rw [← hE4, ← hE3, ← hE2, ← hE1, ← hE0]; rfl) (by omega)
  have f5 := set_ev (i := 8) e5
  generalize hE5 : E4.set 8 (some (.tup [nD n, nD (ah.length + (octs n).length)])) = E5 at f5
  obtain ⟨s6, f6, n6⟩ := st6 (env := E5) (a := ah) (n := n) (r := sRet (eC (.bl false))) n4.bag hn (by rw [← hE5, ← hE4, ← hE3, ← hE2, ← hE1, ← hE0]; rfl) (by rw [← hE5, ← hE4, ← hE3, ← hE2, ← hE1, ← hE0]; rfl) (by rw [← hE5, ← hE4, ← hE3, ← hE2, ← hE1, ← hE0]; rfl) (by rw [← hE5, ← hE4, ← hE3, ← hE2, ← hE1, ← hE0]; rfl)
  obtain ⟨o, s7, lo, ho, e7, n7⟩ := st7l (env := E5) n6.bag (by rw [← hE5, ← hE4, ← hE3, ← hE2, ← hE1, ← hE0]; rfl)
  have f7 := set_ev (i := 9) e7
  generalize hE7 : E5.set 9 (some (.tup (o.map nD))) = E7 at f7
  obtain ⟨p, s8, hp, e8, n8⟩ := tk_ev (env := E7) (i := 1) (n := o.length + 1) (e := eBin bAdd (eP gLen (aCons (eV 9) aNil)) (eC (.int 1))) n7.bag (by rw [← hE7, ← hE5, ← hE4, ← hE3, ← hE2, ← hE1, ← hE0]; rfl) (by
    have := ln_ev (env := E7) (s := s7) (i := 9) (xs := o.map nD) (by rw [← hE7, ← hE5, ← hE4, ← hE3, ← hE2, ← hE1, ← hE0]; rfl)
    rw [List.length_map] at this
    have ea : ((o.length : Nat) : Int) + 1 = ((o.length + 1 : Nat) : Int) := by push_cast; rfl
    rw [ev_Bin, this]
    simp only [R.bind, ev_C, pv_add, ofO, ea]) (by omega) (by omega)
  have e8 : (eF F__law_take (aCons (eV 1) (aCons (eBin bAdd (eP gLen (aCons (eV 9) aNil)) (eC (.int 1))) aNil))) E7 s7 = .ok (nD p) s8 := e8
  have f8 := set_ev (i := 10) e8
  generalize hE8 : E7.set 10 (some (nD p)) = E8 at f8
  have e9 : (eF F__law_read (aCons (eV 9) (aCons (eV 10) aNil))) E8 s8 = .ok (ansR p (o.drop p)) s8 := (f2_ev (by rw [← hE8, ← hE7, ← hE5, ← hE4, ← hE3, ← hE2, ← hE1, ← hE0]; rfl) (by rw [← hE8, ← hE7, ← hE5, ← hE4, ← hE3, ← hE2, ← hE1, ← hE0]; rfl)).trans (law_read_ok o p (by omega) (by omega) s8)
  have f9 := set_ev (i := 11) e9
  generalize hE9 : E8.set 11 (some (ansR p (o.drop p))) = E9 at f9
  have f10 := st10 (env := E9) (s := s8) (o := o) (p := p) (r := sRet (eC (.bl false))) (by omega) (by omega) (by rw [← hE9, ← hE8, ← hE7, ← hE5, ← hE4, ← hE3, ← hE2, ← hE1, ← hE0]; rfl) (by rw [← hE9, ← hE8, ← hE7, ← hE5, ← hE4, ← hE3, ← hE2, ← hE1, ← hE0]; rfl) (by rw [← hE9, ← hE8, ← hE7, ← hE5, ← hE4, ← hE3, ← hE2, ← hE1, ← hE0]; rfl)
  have e11 : (eF F__law_sealed (aCons (eV 9) aNil)) E9 s8 = .ok (.tup ((sld o).map nD)) s8 := (f1_ev (by rw [← hE9, ← hE8, ← hE7, ← hE5, ← hE4, ← hE3, ← hE2, ← hE1, ← hE0]; rfl)).trans (law_sealed_ok o (by omega) s8)
  have f11 := set_ev (i := 12) e11
  generalize hE11 : E9.set 12 (some (.tup ((sld o).map nD))) = E11 at f11
  obtain ⟨s12, f12, n12⟩ := st12 (env := E11) (o := o) (r := sRet (eC (.bl false))) n8.bag (by omega) (by rw [← hE11, ← hE9, ← hE8, ← hE7, ← hE5, ← hE4, ← hE3, ← hE2, ← hE1, ← hE0]; rfl) (by rw [← hE11, ← hE9, ← hE8, ← hE7, ← hE5, ← hE4, ← hE3, ← hE2, ← hE1, ← hE0]; rfl)
  obtain ⟨q, w, s13, hq, hw1, hw3, f13, n13⟩ := st13 (env := E11) (o := o) n12.bag (by rw [← hE11, ← hE9, ← hE8, ← hE7, ← hE5, ← hE4, ← hE3, ← hE2, ← hE1, ← hE0]; rfl) (by omega) (by rw [← hE11, ← hE9, ← hE8, ← hE7, ← hE5, ← hE4, ← hE3, ← hE2, ← hE1, ← hE0]; rfl)
  generalize hE13 : (E11.set 13 (some (nD q))).set 14 (some (nD w)) = E13 at f13
  obtain ⟨m, s15, lm, im, e15, n15⟩ := st15 (env := E13) (o := o) (p := q) (w := w) n13.bag (by rw [← hE13, ← hE11, ← hE9, ← hE8, ← hE7, ← hE5, ← hE4, ← hE3, ← hE2, ← hE1, ← hE0]; rfl) (by omega) ho hq hw3 (by rw [← hE13, ← hE11, ← hE9, ← hE8, ← hE7, ← hE5, ← hE4, ← hE3, ← hE2, ← hE1, ← hE0]; rfl) (by rw [← hE13, ← hE11, ← hE9, ← hE8, ← hE7, ← hE5, ← hE4, ← hE3, ← hE2, ← hE1, ← hE0]; rfl) (by rw [← hE13, ← hE11, ← hE9, ← hE8, ← hE7, ← hE5, ← hE4, ← hE3, ← hE2, ← hE1, ← hE0]; rfl)
  have f15 := set_ev (i := 15) e15
  generalize hE15 : E13.set 15 (some (.tup (m.map nD))) = E15 at f15
  have f16 := st16 (env := E15) (s := s15) (o := o) (m := m) (r := sRet (eC (.bl false))) lm im (by rw [← hE15, ← hE13, ← hE11, ← hE9, ← hE8, ← hE7, ← hE5, ← hE4, ← hE3, ← hE2, ← hE1, ← hE0]; rfl) (by rw [← hE15, ← hE13, ← hE11, ← hE9, ← hE8, ← hE7, ← hE5, ← hE4, ← hE3, ← hE2, ← hE1, ← hE0]; rfl)
  obtain ⟨l, s17, l4, l7, e17, n17⟩ := st17 (env := E15) n15.bag (by rw [← hE15, ← hE13, ← hE11, ← hE9, ← hE8, ← hE7, ← hE5, ← hE4, ← hE3, ← hE2, ← hE1, ← hE0]; rfl)
  have f17 := set_ev (i := 16) e17
  generalize hE17 : E15.set 16 (some (.tup (l.map nD))) = E17 at f17
  have f18 := st18 (env := E17) (s := s17) (l := l) (r := sRet (eC (.bl false))) l4 l7 (by rw [← hE17, ← hE15, ← hE13, ← hE11, ← hE9, ← hE8, ← hE7, ← hE5, ← hE4, ← hE3, ← hE2, ← hE1, ← hE0]; rfl)
  refine ⟨[T, some (nD n), some (.tup ((octs n).map nD)), some (.tup (ah.map nD)), o6, some (.tup (be.map nD)), some (.tup [nD n, nD (ah.length + (octs n).length)]), some (.tup (o.map nD)), some (nD p), some (ansR p (o.drop p)), some (.tup ((sld o).map nD)), some (nD q), some (nD w), some (.tup (m.map nD)), some (.tup (l.map nD))], s17, (seq_nx f1).trans <| (seq_nx f2).trans <| (seq_nx f3).trans <| (seq_nx f4).trans <| (seq_nx f5).trans <| (seq_nx f6).trans <| (seq_nx f7).trans <| (seq_nx f8).trans <| (seq_nx f9).trans <| (seq_nx f10).trans <| (seq_nx f11).trans <| (seq_nx f12).trans <| (seq_nx f13).trans <| (seq_nx f15).trans <| (seq_nx f16).trans <| (seq_nx f17).trans <| f18.trans ?_, ?_, ?_⟩
  · rw [← hE17, ← hE15, ← hE13, ← hE11, ← hE9, ← hE8, ← hE7, ← hE5, ← hE4, ← hE3, ← hE2, ← hE1, ← hE0]; rfl
  · rfl
  · exact (((((((((n1.trans n3).trans n4).trans n6).trans n7).trans n8).trans n12).trans n13).trans n15).trans n17)
theorem law_true : ∀ ns : List Int, ns.length ≤ 63 → (∀ z ∈ ns, Builtin.Int.intBits z ≤ 1048576) → ∃ st', F_law [.fro ns] [] = .ok (.bl true) st' := by
  intro ns _ _
  obtain ⟨s0, cells, e0, B0, l0⟩ := bag_ok ns
  have e0 : F__law_bag [.fro ns] [] = .ok (.loc 2) s0 := e0
  obtain ⟨env', s', h1, r, rfl, hr, B⟩ := for_inv (gd := fun _ => True) (g := gN 2) (b := turnB) (fun _ env s => ∃ r : Ev, env = some (.fro ns) :: some (.loc 2) :: r ∧ r.length = 15 ∧ Bag s 2 1 cells) (ds := rngD 0 12) (env := [some (.fro ns), some (.loc 2), none, none, none, none, none, none, none, none, none, none, none, none, none, none, none]) (st := s0) ⟨_, rfl, rfl, B0⟩ (by
    rintro i env s d hd ⟨r, rfl, hr, B⟩
    match r, hr with
    | [o2, o3, o4, o5, o6, o7, o8, o9, o10, o11, o12, o13, o14, o15, o16], _ =>
      obtain ⟨r', s', e, hr', N⟩ := turn_ok (some (.fro ns)) (some d) o3 o4 o5 o6 o7 o8 o9 o10 o11 o12 o13 o14 o15 o16 B
      exact ⟨_, _, _, s', rfl, .inl e, trivial, r', rfl, hr', N.bag⟩)
  refine ⟨_, (runF_at (np := 1) (nN := 17) (b := b_law) (r := .ret (.bl true) s') rfl ?_).trans (trim_ok (j := s') rfl)⟩
  show (sSeq _ (sSeq (sFor _ _ turnB) _)) (ent 17 [.fro ns]) [] = _
  refine (seq_nx (e1 := [some (.fro ns), some (.loc 2), none, none, none, none, none, none, none, none, none, none, none, none, none, none, none]) (s1 := s0) ?_).trans ?_
  · have he : ent 17 [.fro ns] = [some (.fro ns), none, none, none, none, none, none, none, none, none, none, none, none, none, none, none, none] := rfl
    rw [he]
    exact set_ev ((f1_ev (i := 0) rfl).trans e0)
  · refine (seq_nx (e1 := some (.fro ns) :: some (.loc 2) :: r) (s1 := s') ?_).trans rfl
    rw [ev_sFor]
    show (R.toS _ (iR1 (eC (.int 12)) _ s0) _) = _
    rw [r1_ev (n := 12) (e := eC (.int 12)) rfl (by decide)]
    exact h1
end K43
open PySem PySem.W PyProof.Rows in
set_option maxRecDepth 100000 in
set_option maxHeartbeats 0 in
theorem PySem.Challenge.cw_downline_k43_integers_as_octets_and_chec_holds : PySem.Challenge.rw_downline_k43_integers_as_octets_and_chec.Holds := by
  w_on; o_law; k_head; (case hw => w_witness2)
  k_fill
  refine DL.walk_dl (l := PySem.Challenge.rw_downline_k43_integers_as_octets_and_chec) (k := 5) (g := K43.F_law) rfl rfl ⟨rfl, by decide, by decide⟩ (fun w h Y => PySem.W.kIn_of Y) ?F K43.law_true
  case F =>
    intro w mg fa h KX G hmg
    refine' K43.all_mk KX G hmg ?z_abs ?z_bool ?z_int ?z_isinstance ?z_len ?z_list ?z_range ?z_str ?z_tuple ?z_zip ?q_CHECK ?q_FACTOR ?q_GROUP ?q_HALF ?q_MODULUS ?a__law_bag ?l__law_bag ?c__law_bag ?k__law_bag ?a__law_take ?l__law_take ?c__law_take ?k__law_take ?a__law_some ?l__law_some ?c__law_some ?k__law_some ?a__law_integer_octets ?l__law_integer_octets ?c__law_integer_octets ?k__law_integer_octets ?a_read_integer ?l_read_integer ?c_read_integer ?k_read_integer ?a__law_alike ?l__law_alike ?c__law_alike ?k__law_alike ?a_integer_octets ?l_integer_octets ?c_integer_octets ?k_integer_octets ?a__law_read ?l__law_read ?c__law_read ?k__law_read ?a__law_told ?l__law_told ?c__law_told ?k__law_told ?a__law_check ?l__law_check ?c__law_check ?k__law_check ?a__law_sealed ?l__law_sealed ?c__law_sealed ?k__law_sealed ?a_check_of ?l_check_of ?c_check_of ?k_check_of ?a_sealed ?l_sealed ?c_sealed ?k_sealed ?a_is_sealed ?l_is_sealed ?c_is_sealed ?k_is_sealed ?a_law ?l_law ?c_law ?k_law ?xa_BadBytes ?xl_BadBytes ?xr_BadBytes ?xs_BadBytes ?xg_BadBytes ?xh_BadBytes ?xk_BadBytes ?xe_BadBytes ?xt_BadBytes ?xd_BadBytes ?xi_BadBytes ?xj_BadBytes ?xf_BadBytes ?xc_BadBytes ?xq_BadBytes ?xv_BadBytes ?xw_BadBytes ?xx_BadBytes ?xy_BadBytes ?xz_BadBytes ?xm_BadBytes ?xo_BadBytes ?xn0_BadBytes ?xn1_BadBytes ?z_super ?htop ?hop
    (case z_abs => k_is)
    (case z_bool => k_is)
    (case z_int => k_is)
    (case z_isinstance => k_is)
    (case z_len => k_is)
    (case z_list => k_is)
    (case z_range => k_is)
    (case z_str => k_is)
    (case z_tuple => k_is)
    (case z_zip => k_is)
    (case q_CHECK => k_is)
    (case q_FACTOR => k_is)
    (case q_GROUP => k_is)
    (case q_HALF => k_is)
    (case q_MODULUS => k_is)
    (case a__law_bag => k_is)
    (case l__law_bag => k_is)
    (case c__law_bag => k_is)
    (case k__law_bag => k_is)
    (case a__law_take => k_is)
    (case l__law_take => k_is)
    (case c__law_take => k_is)
    (case k__law_take => k_is)
    (case a__law_some => k_is)
    (case l__law_some => k_is)
    (case c__law_some => k_is)
    (case k__law_some => k_is)
    (case a__law_integer_octets => k_is)
    (case l__law_integer_octets => k_is)
    (case c__law_integer_octets => k_is)
    (case k__law_integer_octets => k_is)
    (case a_read_integer => k_is)
    (case l_read_integer => k_is)
    (case c_read_integer => k_is)
    (case k_read_integer => k_is)
    (case a__law_alike => k_is)
    (case l__law_alike => k_is)
    (case c__law_alike => k_is)
    (case k__law_alike => k_is)
    (case a_integer_octets => k_is)
    (case l_integer_octets => k_is)
    (case c_integer_octets => k_is)
    (case k_integer_octets => k_is)
    (case a__law_read => k_is)
    (case l__law_read => k_is)
    (case c__law_read => k_is)
    (case k__law_read => k_is)
    (case a__law_told => k_is)
    (case l__law_told => k_is)
    (case c__law_told => k_is)
    (case k__law_told => k_is)
    (case a__law_check => k_is)
    (case l__law_check => k_is)
    (case c__law_check => k_is)
    (case k__law_check => k_is)
    (case a__law_sealed => k_is)
    (case l__law_sealed => k_is)
    (case c__law_sealed => k_is)
    (case k__law_sealed => k_is)
    (case a_check_of => k_is)
    (case l_check_of => k_is)
    (case c_check_of => k_is)
    (case k_check_of => k_is)
    (case a_sealed => k_is)
    (case l_sealed => k_is)
    (case c_sealed => k_is)
    (case k_sealed => k_is)
    (case a_is_sealed => k_is)
    (case l_is_sealed => k_is)
    (case c_is_sealed => k_is)
    (case k_is_sealed => k_is)
    (case a_law => k_is)
    (case l_law => k_is)
    (case c_law => k_is)
    (case k_law => k_is)
    (case xa_BadBytes => k_is)
    (case xl_BadBytes => k_is)
    (case xr_BadBytes => rfl)
    (case xs_BadBytes => k_is)
    (case xg_BadBytes => k_is)
    (case xh_BadBytes => k_is)
    (case xk_BadBytes => k_is)
    (case xe_BadBytes => k_is)
    (case xt_BadBytes => k_is)
    (case xd_BadBytes => k_is)
    (case xi_BadBytes => k_is)
    (case xj_BadBytes => k_is)
    (case xf_BadBytes => k_is)
    (case xc_BadBytes => k_is)
    (case xq_BadBytes => k_is)
    (case xv_BadBytes => rfl)
    (case xw_BadBytes => rfl)
    (case xx_BadBytes => k_is)
    (case xy_BadBytes => first | k_is | ks_is)
    (case xz_BadBytes => k_is)
    (case xm_BadBytes => k_is)
    (case xo_BadBytes => k_is)
    (case xn0_BadBytes => k_is)
    (case xn1_BadBytes => k_is)
    (case z_super => k_is)
    (case htop => rfl)
    (case hop => k_is)
