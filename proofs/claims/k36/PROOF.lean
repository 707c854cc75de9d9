import PyProof.Rows.All
import Wide.All
import OpenK.AllK
import Wide.FinOn
import HandS.ForMost
import HandS.ForExc
import HandS.Defaults
import HandS.CallSlots
import HandS.Property
import HandS.TryOnly
import HandS.TryMany
import HandS.IsInst
import HandS.SortInts
import HandS.Style
import HandS.Flow
import HandS.WideBits
import HandS.FStr
import HandS.Walk
import HandS.Star
import HandS.TupAny
import HandS.Head0
import HandS.Head1
import HandS.Head2
import HandS.HeadEnd
import HandS.HeadHook1
import HandS.HeadHook2
import HandS.EndBits
import PySem.Challenge.RW_finishgate_k36_profiles_called
set_option Elab.async false
set_option linter.all false
set_option maxRecDepth 100000
set_option maxHeartbeats 0
/-! FA: trees of data (D) in the place of addresses: values, worlds, steps, lifted readings. -/
namespace FG
open PySem.Spec PySem L2 PyProof.Rows

/-- a value as a tree -/
inductive D where
  | non | bl (b : Bool) | int (i : Int) | str (s : Str) | tup (xs : List D) | lst (xs : List D) | dct (kvs : List (Key × D)) | ins (C : Addr) (fs : List (Str × D)) | pot | scr (ns : List Int) | cls (a : Addr) | ty (n : String)

/-! ### a tree stands in a heap G of things that stay -/
mutual
inductive Rep (K : PySem.W.Frag) (G : Hp) (P : Addr → Prop) : V → D → Prop
  | non : Rep K G P .non .non
  | bl (b : Bool) : Rep K G P (.bl b) (.bl b)
  | int (i : Int) : Rep K G P (.int i) (.int i)
  | str (s : Str) : Rep K G P (.str s) (.str s)
  | tup {a : Addr} {xs : List V} {ds : List D} : SqT K G a xs → RepL K G P xs ds → ds.length ≤ sizeLine → Rep K G P (.ref a) (.tup ds)
  | lst {a : Addr} {xs : List V} {ds : List D} : G a = some (.lst xs) → RepL K G P xs ds → ds.length ≤ sizeLine → Rep K G P (.ref a) (.lst ds)
  | dct {a : Addr} {xs : List (Key × V)} {ds : List (Key × D)} : G a = some (.dK xs) → RepF K G P xs ds → Rep K G P (.ref a) (.dct ds)
  | ins {a C dx : Addr} {xs : List (Str × V)} {ds : List (Str × D)} : G a = some (.ins C dx xs) → RepI K G P xs ds → Rep K G P (.ref a) (.ins C ds)
  | pot {a : Addr} : P a → Rep K G P (.ref a) .pot
  | scr {a : Addr} {ns : List Int} : SqL K G a (ns.map V.int) → Rep K G P (.ref a) (.scr ns)
  | cls (a : Addr) : Rep K G P (.ref a) (.cls a)
  | ty (n : String) : Rep K G P (.ty n) (.ty n)
inductive RepL (K : PySem.W.Frag) (G : Hp) (P : Addr → Prop) : List V → List D → Prop
  | nil : RepL K G P [] []
  | cons {v : V} {vs : List V} {d : D} {ds : List D} : Rep K G P v d → RepL K G P vs ds → RepL K G P (v :: vs) (d :: ds)
inductive RepF (K : PySem.W.Frag) (G : Hp) (P : Addr → Prop) : List (Key × V) → List (Key × D) → Prop
  | nil : RepF K G P [] []
  | cons {k : Key} {v : V} {vs : List (Key × V)} {d : D} {ds : List (Key × D)} : Rep K G P v d → RepF K G P vs ds → RepF K G P ((k, v) :: vs) ((k, d) :: ds)
inductive RepI (K : PySem.W.Frag) (G : Hp) (P : Addr → Prop) : List (Str × V) → List (Str × D) → Prop
  | nil : RepI K G P [] []
  | cons {k : Str} {v : V} {vs : List (Str × V)} {d : D} {ds : List (Str × D)} : Rep K G P v d → RepI K G P vs ds → RepI K G P ((k, v) :: vs) ((k, d) :: ds)
end

section
variable {K : PySem.W.Frag} {G G' H H' : Hp} {P P' : Addr → Prop}
theorem rd_mono (h : ∀ a o, G a = some o → G' a = some o) {a : Addr} {u : HO} (r : Rd G a u) : Rd G' a u := by
  rcases r with r | ⟨o, r⟩
  · exact .inl (h _ _ r)
  · exact .inr ⟨o, h _ _ r⟩
theorem sqt_mono (h : ∀ a o, G a = some o → G' a = some o) {a : Addr} {xs : List V} (r : SqT K G a xs) : SqT K G' a xs := by
  rcases r with r | r
  · exact .inl (rd_mono h r)
  · exact .inr r
theorem sql_mono (h : ∀ a o, G a = some o → G' a = some o) {a : Addr} {xs : List V} (r : SqL K G a xs) : SqL K G' a xs := by
  rcases r with r | r
  · exact .inl (rd_mono h r)
  · exact .inr r
mutual
theorem Rep.mono (h : ∀ a o, G a = some o → G' a = some o) (hp : ∀ a, P a → P' a) : ∀ {v : V} {d : D}, Rep K G P v d → Rep K G' P' v d
  | _, _, .non => .non
  | _, _, .bl b => .bl b
  | _, _, .int i => .int i
  | _, _, .str s => .str s
  | _, _, .tup a b c => .tup (sqt_mono h a) (RepL.mono h hp b) c
  | _, _, .lst a b c => .lst (h _ _ a) (RepL.mono h hp b) c
  | _, _, .dct a b => .dct (h _ _ a) (RepF.mono h hp b)
  | _, _, .ins a b => .ins (h _ _ a) (RepI.mono h hp b)
  | _, _, .pot a => .pot (hp _ a)
  | _, _, .scr a => .scr (sql_mono h a)
  | _, _, .cls a => .cls a
  | _, _, .ty n => .ty n
theorem RepL.mono (h : ∀ a o, G a = some o → G' a = some o) (hp : ∀ a, P a → P' a) : ∀ {v : List V} {d : List D}, RepL K G P v d → RepL K G' P' v d
  | _, _, .nil => .nil
  | _, _, .cons a b => .cons (Rep.mono h hp a) (RepL.mono h hp b)
theorem RepF.mono (h : ∀ a o, G a = some o → G' a = some o) (hp : ∀ a, P a → P' a) : ∀ {v : List (Key × V)} {d : List (Key × D)}, RepF K G P v d → RepF K G' P' v d
  | _, _, .nil => .nil
  | _, _, .cons a b => .cons (Rep.mono h hp a) (RepF.mono h hp b)
theorem RepI.mono (h : ∀ a o, G a = some o → G' a = some o) (hp : ∀ a, P a → P' a) : ∀ {v : List (Str × V)} {d : List (Str × D)}, RepI K G P v d → RepI K G' P' v d
  | _, _, .nil => .nil
  | _, _, .cons a b => .cons (Rep.mono h hp a) (RepI.mono h hp b)
end
theorem RepL.length {vs : List V} {ds : List D} (h : RepL K G P vs ds) : vs.length = ds.length := by
  induction ds generalizing vs with
  | nil => cases h; rfl
  | cons d ds ih => cases h with | cons a b => simp [ih b]
theorem RepL.append : ∀ {vs ws : List V} {ds es : List D}, RepL K G P vs ds → RepL K G P ws es → RepL K G P (vs ++ ws) (ds ++ es)
  | _, _, _, _, .nil, b => b
  | _, _, _, _, .cons a r, b => .cons a (RepL.append r b)
theorem RepL.get : ∀ {vs : List V} {ds : List D} {i : Nat} {d : D}, RepL K G P vs ds → ds[i]? = some d → ∃ v, vs[i]? = some v ∧ Rep K G P v d
  | _, _, _, _, .nil, e => (by simp at e)
  | _, _, 0, _, .cons a _, e => by simp at e; subst e; exact ⟨_, rfl, a⟩
  | _, _, i + 1, _, .cons _ r, e => by
    obtain ⟨v, h1, h2⟩ := RepL.get (i := i) r (by simpa using e)
    exact ⟨v, by simpa using h1, h2⟩
theorem RepL.get' : ∀ {vs : List V} {ds : List D} {i : Nat} {v : V}, RepL K G P vs ds → vs[i]? = some v → ∃ d, ds[i]? = some d ∧ Rep K G P v d
  | _, _, _, _, .nil, e => (by simp at e)
  | _, _, 0, _, .cons a _, e => by simp at e; subst e; exact ⟨_, rfl, a⟩
  | _, _, i + 1, _, .cons _ r, e => by
    obtain ⟨d, h1, h2⟩ := RepL.get' (i := i) r (by simpa using e)
    exact ⟨d, by simpa using h1, h2⟩
theorem RepL.drop : ∀ {vs : List V} {ds : List D} (n : Nat), RepL K G P vs ds → RepL K G P (vs.drop n) (ds.drop n)
  | _, _, 0, r => r
  | _, _, _ + 1, .nil => .nil
  | _, _, n + 1, .cons _ r => RepL.drop n r
theorem RepL.take : ∀ {vs : List V} {ds : List D} (n : Nat), RepL K G P vs ds → RepL K G P (vs.take n) (ds.take n)
  | _, _, 0, _ => .nil
  | _, _, _ + 1, .nil => .nil
  | _, _, n + 1, .cons a r => .cons a (RepL.take n r)
theorem RepL.reverse {vs : List V} {ds : List D} (h : RepL K G P vs ds) : RepL K G P vs.reverse ds.reverse := by
  induction ds generalizing vs with
  | nil => cases h; exact .nil
  | cons d ds ih =>
    cases h with
    | cons a b =>
      simp only [List.reverse_cons]
      exact (ih b).append (.cons a .nil)
theorem RepL.set {v : V} {d : D} (r : Rep K G P v d) : ∀ {vs : List V} {ds : List D} (i : Nat), RepL K G P vs ds → RepL K G P (vs.set i v) (ds.set i d)
  | _, _, _, .nil => .nil
  | _, _, 0, .cons _ u => .cons r u
  | _, _, i + 1, .cons q t => .cons q (RepL.set r i t)
theorem RepL.dropLast {vs : List V} {ds : List D} (h : RepL K G P vs ds) : RepL K G P vs.dropLast ds.dropLast := by
  rw [List.dropLast_eq_take, List.dropLast_eq_take, h.length]
  exact h.take _
theorem RepL.ints : ∀ {ns : List Int}, RepL K G P (ns.map V.int) (ns.map D.int)
  | [] => .nil
  | n :: ns => .cons (.int n) RepL.ints
theorem RepL.of_ints : ∀ {ns : List Int} {vs : List V}, RepL K G P vs (ns.map D.int) → vs = ns.map V.int
  | [], _, .nil => rfl
  | n :: ns, _, .cons a b => by
    cases a
    rw [RepL.of_ints b]; rfl
theorem RepI.lookup : ∀ {vs : List (Str × V)} {ds : List (Str × D)} {f : Str} {d : D}, RepI K G P vs ds → ds.lookup f = some d → ∃ v, vs.lookup f = some v ∧ Rep K G P v d
  | _, _, _, _, .nil, e => (by simp at e)
  | _, _, f, d, .cons (k := k) a r, e => by
    simp only [List.lookup] at e ⊢
    cases h : (f == k) with
    | true => rw [h] at e; cases e; exact ⟨_, rfl, a⟩
    | false => rw [h] at e; exact RepI.lookup r e
theorem RepI.lookup_none : ∀ {vs : List (Str × V)} {ds : List (Str × D)} {f : Str}, RepI K G P vs ds → ds.lookup f = none → vs.lookup f = none
  | _, _, _, .nil, _ => rfl
  | _, _, f, .cons (k := k) a r, e => by
    simp only [List.lookup] at e ⊢
    cases h : (f == k) with
    | true => rw [h] at e; cases e
    | false => rw [h] at e; exact RepI.lookup_none r e
theorem RepI.length : ∀ {vs : List (Str × V)} {ds : List (Str × D)}, RepI K G P vs ds → vs.length = ds.length
  | _, _, .nil => rfl
  | _, _, .cons a r => by simp [r.length]
/-- set or add a field -/
def putD (f : Str) (d : D) : List (Str × D) → List (Str × D)
  | [] => [(f, d)]
  | (g, x) :: r => if g = f then (g, d) :: r else (g, x) :: putD f d r
theorem RepI.put {f : Str} {v : V} {d : D} (q : Rep K G P v d) : ∀ {vs : List (Str × V)} {ds : List (Str × D)}, RepI K G P vs ds → RepI K G P (putF f v vs) (putD f d ds)
  | _, _, .nil => .cons q .nil
  | _, _, .cons (k := k) (vs := vs) (ds := ds) a r => by
    show RepI K G P (if k = f then _ else _) (if k = f then _ else _)
    by_cases h : k = f
    · rw [if_pos h, if_pos h]; exact .cons q r
    · rw [if_neg h, if_neg h]; exact .cons a (RepI.put q r)
end

/-! ### worlds -/
/-- a pot's two numbers -/
def PotN (i j : Int) : Prop := 0 ≤ i ∧ 0 ≤ j ∧ j < 2147483648
structure WOk (G H : Hp) (P : Addr → Prop) : Prop where
  gh : ∀ a o, G a = some o → H a = some o
  pg : ∀ a, P a → G a = none
  pt : ∀ a, P a → ∃ i j, H a = some (.lst [.int i, .int j]) ∧ PotN i j
/-- from one world to the next: G grows by new things, all else but the pots stays -/
structure Stp (G H : Hp) (P : Addr → Prop) (G' H' : Hp) (P' : Addr → Prop) : Prop where
  gg : ∀ a o, G a = some o → G' a = some o
  hh : ∀ a o, H a = some o → ¬ P a → H' a = some o
  dm : ∀ a, H a ≠ none → H' a ≠ none
  pp : ∀ a, P a → P' a
  pn : ∀ a, P' a → P a ∨ H a = none
  gn : ∀ a o, G' a = some o → G a = some o ∨ H a = none
section
variable {K : PySem.W.Frag} {G H G' H' G'' H'' : Hp} {P P' P'' : Addr → Prop}
theorem Stp.refl : Stp G H P G H P := ⟨fun _ _ h => h, fun _ _ h _ => h, fun _ h => h, fun _ h => h, fun _ h => .inl h, fun _ _ h => .inl h⟩
theorem Stp.trans (a : Stp G H P G' H' P') (b : Stp G' H' P' G'' H'' P'') : Stp G H P G'' H'' P'' where
  gg := fun x o h => b.gg x o (a.gg x o h)
  hh := fun x o h n => b.hh x o (a.hh x o h n) fun q => (a.pn x q).elim n fun z => by rw [h] at z; cases z
  dm := fun x h => b.dm x (a.dm x h)
  pp := fun x h => b.pp x (a.pp x h)
  pn := fun x h => (b.pn x h).elim (a.pn x) fun z => .inr (by
    cases q : H x with
    | none => rfl
    | some o => exact absurd z (a.dm x (by rw [q]; simp)))
  gn := fun x o h => (b.gn x o h).elim (a.gn x o) fun z => .inr (by
    cases q : H x with
    | none => rfl
    | some o => exact absurd z (a.dm x (by rw [q]; simp)))
theorem Stp.rep (s : Stp G H P G' H' P') {v : V} {d : D} (r : Rep K G P v d) : Rep K G' P' v d := r.mono s.gg s.pp
theorem Stp.repL (s : Stp G H P G' H' P') {v : List V} {d : List D} (r : RepL K G P v d) : RepL K G' P' v d := r.mono s.gg s.pp
theorem Stp.repI (s : Stp G H P G' H' P') {v : List (Str × V)} {d : List (Str × D)} (r : RepI K G P v d) : RepI K G' P' v d := r.mono s.gg s.pp
/-- a new thing that stays -/
theorem Stp.new {p : Addr} {o : HO} (w : WOk G H P) (h : H p = none) : Stp G H P (upd G p o) (upd H p o) P ∧ WOk (upd G p o) (upd H p o) P := by
  have gp : G p = none := by
    cases q : G p with
    | none => rfl
    | some u => rw [w.gh p u q] at h; cases h
  have np : ¬ P p := fun q => by
    obtain ⟨i, j, e, _⟩ := w.pt p q
    rw [e] at h; cases h
  refine ⟨⟨fun a u e => ?_, fun a u e _ => ?_, fun a e => ?_, fun _ q => q, fun _ q => .inl q, fun a u e => ?_⟩, ⟨fun a u e => ?_, fun a q => ?_, fun a q => ?_⟩⟩
  · rw [upd_ne (ne_of_none e gp)]; exact e
  · rw [upd_ne (ne_of_none e h)]; exact e
  · by_cases q : a = p
    · subst q; exact absurd h e
    · rw [upd_ne q]; exact e
  · by_cases q : a = p
    · subst q; exact .inr h
    · rw [upd_ne q] at e; exact .inl e
  · by_cases q : a = p
    · subst q; rw [upd_same] at e ⊢; exact e
    · rw [upd_ne q] at e ⊢; exact w.gh a u e
  · rw [upd_ne (fun z : a = p => np (z ▸ q))]; exact w.pg a q
  · rw [upd_ne (fun z : a = p => np (z ▸ q))]; exact w.pt a q
/-- a new thing that may change (it is not told) -/
theorem Stp.laid {p : Addr} {o : HO} (w : WOk G H P) (h : H p = none) : Stp G H P G (upd H p o) P ∧ WOk G (upd H p o) P := by
  have np : ¬ P p := fun q => by
    obtain ⟨i, j, e, _⟩ := w.pt p q
    rw [e] at h; cases h
  have gp : ∀ a o, G a = some o → a ≠ p := fun a o e z => by rw [z] at e; rw [w.gh p _ e] at h; cases h
  refine ⟨⟨fun a u e => e, fun a u e _ => ?_, fun a e => ?_, fun _ q => q, fun _ q => .inl q, fun a u e => .inl e⟩, ⟨fun a u e => ?_, w.pg, fun a q => ?_⟩⟩
  · rw [upd_ne (ne_of_none e h)]; exact e
  · by_cases q : a = p
    · subst q; exact absurd h e
    · rw [upd_ne q]; exact e
  · rw [upd_ne (gp a u e)]; exact w.gh a u e
  · rw [upd_ne (fun z : a = p => np (z ▸ q))]; exact w.pt a q
end

/-! ### the slots -/
/-- a slot: a value that stays, a list or an object that this def has made and may change -/
inductive SV where
  | val (d : D) | own (ds : List D) | inst (C : Addr) (fs : List (Str × D))
abbrev DSt := List (Option SV)
/-- the entry: what stood, the objects that may be changed (a maker's self) -/
structure Base where
  G : Hp
  H : Hp
  P : Addr → Prop
  M : Addr → Prop
structure Since (B : Base) (G H : Hp) (P : Addr → Prop) : Prop where
  gg : ∀ a o, B.G a = some o → G a = some o
  hh : ∀ a o, B.H a = some o → ¬ B.P a → ¬ B.M a → H a = some o
  dm : ∀ a, B.H a ≠ none → H a ≠ none
  pp : ∀ a, B.P a → P a
  pn : ∀ a, P a → B.P a ∨ B.H a = none
  gn : ∀ a o, G a = some o → B.G a = some o ∨ B.H a = none ∨ B.M a
def SV.mut : SV → Bool
  | .val _ => false
  | _ => true
/-- what a slot's value is -/
def SRep (K : PySem.W.Frag) (B : Base) (G H : Hp) (P : Addr → Prop) (v : V) : SV → Prop
  | .val d => Rep K G P v d
  | .own ds => ∃ l xs, v = .ref l ∧ H l = some (.lst xs) ∧ RepL K G P xs ds ∧ G l = none ∧ ¬ P l ∧ B.H l = none ∧ ds.length ≤ sizeLine
  | .inst C fs => ∃ x dx vs, v = .ref x ∧ H x = some (.ins C dx vs) ∧ RepI K G P vs fs ∧ G x = none ∧ ¬ P x ∧ B.M x
structure WS (K : PySem.W.Frag) (B : Base) (G H : Hp) (P : Addr → Prop) (σ : L2.St) (δ : DSt) : Prop where
  ok : WOk G H P
  since : Since B G H P
  len : δ.length = σ.length
  sl : ∀ (i : Nat) (s : SV), δ[i]? = some (some s) → ∃ v, σ[i]? = some (some v) ∧ SRep K B G H P v s
  inj : ∀ (i j : Nat) (s s' : SV), i ≠ j → δ[i]? = some (some s) → δ[j]? = some (some s') → s.mut = true → s'.mut = true → σ[i]? ≠ σ[j]?
section
variable {K : PySem.W.Frag} {B : Base} {G H G' H' : Hp} {P P' : Addr → Prop} {σ : L2.St} {δ : DSt}
theorem Since.step (s : Since B G H P) (t : Stp G H P G' H' P') : Since B G' H' P' where
  gg := fun a o h => t.gg a o (s.gg a o h)
  hh := fun a o h n m => t.hh a o (s.hh a o h n m) fun q => (s.pn a q).elim n fun z => by rw [h] at z; cases z
  dm := fun a h => t.dm a (s.dm a h)
  pp := fun a h => t.pp a (s.pp a h)
  pn := fun a h => (t.pn a h).elim (s.pn a) fun z => .inr (by
    cases q : B.H a with
    | none => rfl
    | some o => exact absurd z (s.dm a (by rw [q]; simp)))
  gn := fun a o h => (t.gn a o h).elim (s.gn a o) fun z => .inr (.inl (by
    cases q : B.H a with
    | none => rfl
    | some o => exact absurd z (s.dm a (by rw [q]; simp))))
theorem Since.stp (s : Since B G H P) (m : ∀ a, ¬ B.M a) : Stp B.G B.H B.P G H P :=
  ⟨s.gg, fun a o h n => s.hh a o h n (m a), s.dm, s.pp, s.pn, fun a o h => (s.gn a o h).elim .inl fun z => z.elim .inr fun z => absurd z (m a)⟩
theorem SRep.step {v : V} {s : SV} (r : SRep K B G H P v s) (t : Stp G H P G' H' P') : SRep K B G' H' P' v s := by
  cases s with
  | val d => exact t.rep r
  | own ds =>
    obtain ⟨l, xs, e, h, rl, g, p, b⟩ := r
    refine ⟨l, xs, e, t.hh _ _ h p, t.repL rl, ?_, fun q => (t.pn l q).elim p (fun z => by rw [h] at z; cases z), b⟩
    cases q : G' l with
    | none => rfl
    | some o =>
      rcases t.gn l o q with z | z
      · rw [g] at z; cases z
      · rw [h] at z; cases z
  | inst C fs =>
    obtain ⟨l, dx, xs, e, h, rl, g, p, b⟩ := r
    refine ⟨l, dx, xs, e, t.hh _ _ h p, t.repI rl, ?_, fun q => (t.pn l q).elim p (fun z => by rw [h] at z; cases z), b⟩
    cases q : G' l with
    | none => rfl
    | some o =>
      rcases t.gn l o q with z | z
      · rw [g] at z; cases z
      · rw [h] at z; cases z
theorem WS.step (w : WS K B G H P σ δ) (t : Stp G H P G' H' P') (ok : WOk G' H' P') : WS K B G' H' P' σ δ :=
  ⟨ok, w.since.step t, w.len, fun i s e => let ⟨v, h1, h2⟩ := w.sl i s e; ⟨v, h1, h2.step t⟩, w.inj⟩
/-- a value that stays comes into a slot -/
theorem WS.set (w : WS K B G H P σ δ) {v : V} {d : D} (r : Rep K G P v d) (i : Nat) : WS K B G H P (σ.set i (some v)) (δ.set i (some (.val d))) := by
  refine ⟨w.ok, w.since, by simp [w.len], fun j s e => ?_, fun j k s s' hjk e1 e2 m1 m2 => ?_⟩
  · by_cases h : i = j
    · subst h
      by_cases hl : i < δ.length
      · rw [List.getElem?_set_self hl] at e
        cases e
        exact ⟨v, by rw [List.getElem?_set_self (w.len ▸ hl)], r⟩
      · rw [List.getElem?_eq_none (by simpa using hl)] at e; cases e
    · rw [List.getElem?_set_ne h] at e ⊢
      exact w.sl j s e
  · have aux : ∀ (j : Nat) (s : SV), (δ.set i (some (.val d)))[j]? = some (some s) → s.mut = true → i ≠ j ∧ δ[j]? = some (some s) := fun j s e m => by
      by_cases h : i = j
      · subst h
        by_cases hl : i < δ.length
        · rw [List.getElem?_set_self hl] at e; cases e; cases m
        · rw [List.getElem?_eq_none (by simpa using hl)] at e; cases e
      · rw [List.getElem?_set_ne h] at e; exact ⟨h, e⟩
    obtain ⟨h1, e1⟩ := aux j s e1 m1
    obtain ⟨h2, e2⟩ := aux k s' e2 m2
    rw [List.getElem?_set_ne h1, List.getElem?_set_ne h2]
    exact w.inj j k s s' hjk e1 e2 m1 m2
/-- a slot forgotten -/
theorem WS.unset (w : WS K B G H P σ δ) (i : Nat) : WS K B G H P (σ.set i none) (δ.set i none) := by
  have aux : ∀ (j : Nat) (s : SV), (δ.set i none)[j]? = some (some s) → i ≠ j ∧ δ[j]? = some (some s) := fun j s e => by
    by_cases h : i = j
    · subst h
      by_cases hl : i < δ.length
      · rw [List.getElem?_set_self hl] at e; cases e
      · rw [List.getElem?_eq_none (by simpa using hl)] at e; cases e
    · rw [List.getElem?_set_ne h] at e; exact ⟨h, e⟩
  refine ⟨w.ok, w.since, by simp [w.len], fun j s e => ?_, fun j k s s' hjk e1 e2 m1 m2 => ?_⟩
  · obtain ⟨h1, e1⟩ := aux j s e
    rw [List.getElem?_set_ne h1]
    exact w.sl j s e1
  · obtain ⟨h1, e1⟩ := aux j s e1
    obtain ⟨h2, e2⟩ := aux k s' e2
    rw [List.getElem?_set_ne h1, List.getElem?_set_ne h2]
    exact w.inj j k s s' hjk e1 e2 m1 m2
/-- a new list that may change comes into a slot -/
theorem WS.setOwn (w : WS K B G H P σ δ) {l : Addr} {xs : List V} {ds : List D} (h : H l = some (.lst xs)) (r : RepL K G P xs ds) (g : G l = none) (p : ¬ P l) (b : B.H l = none) (z : ds.length ≤ sizeLine)
    (fresh : ∀ (j : Nat) (s : SV), δ[j]? = some (some s) → s.mut = true → σ[j]? ≠ some (some (.ref l))) (i : Nat) : WS K B G H P (σ.set i (some (.ref l))) (δ.set i (some (.own ds))) := by
  refine ⟨w.ok, w.since, by simp [w.len], fun j s e => ?_, fun j k s s' hjk e1 e2 m1 m2 => ?_⟩
  · by_cases h' : i = j
    · subst h'
      by_cases hl : i < δ.length
      · rw [List.getElem?_set_self hl] at e
        cases e
        exact ⟨_, by rw [List.getElem?_set_self (w.len ▸ hl)], l, xs, rfl, h, r, g, p, b, z⟩
      · rw [List.getElem?_eq_none (by simpa using hl)] at e; cases e
    · rw [List.getElem?_set_ne h'] at e ⊢
      exact w.sl j s e
  · have aux : ∀ (j : Nat) (s : SV), (δ.set i (some (.own ds)))[j]? = some (some s) → (i = j ∧ i < δ.length) ∨ (i ≠ j ∧ δ[j]? = some (some s)) := fun j s e => by
      by_cases h : i = j
      · subst h
        by_cases hl : i < δ.length
        · exact .inl ⟨rfl, hl⟩
        · rw [List.getElem?_eq_none (by simpa using hl)] at e; cases e
      · rw [List.getElem?_set_ne h] at e; exact .inr ⟨h, e⟩
    rcases aux j s e1 with ⟨rfl, hl⟩ | ⟨h1, e1⟩
    · rcases aux k s' e2 with ⟨rfl, _⟩ | ⟨h2, e2⟩
      · exact absurd rfl hjk
      · rw [List.getElem?_set_self (w.len ▸ hl), List.getElem?_set_ne h2]
        exact fun z => fresh k s' e2 m2 z.symm
    · rcases aux k s' e2 with ⟨rfl, hl⟩ | ⟨h2, e2⟩
      · rw [List.getElem?_set_self (w.len ▸ hl), List.getElem?_set_ne h1]
        exact fresh j s e1 m1
      · rw [List.getElem?_set_ne h1, List.getElem?_set_ne h2]
        exact w.inj j k s s' hjk e1 e2 m1 m2
/-- an own thing changes: its new content -/
theorem WS.change (w : WS K B G H P σ δ) {i : Nat} {s s' : SV} {l : Addr} {o : HO} (e : δ[i]? = some (some s)) (m : s.mut = true) (ev : σ[i]? = some (some (.ref l)))
    (r : SRep K B G (upd H l o) P (.ref l) s') (g : G l = none) (p : ¬ P l) (b : B.H l = none ∨ B.M l) (hl : H l ≠ none) (nt : s'.mut = true) : WS K B G (upd H l o) P σ (δ.set i (some s')) := by
  have li : i < δ.length := (List.getElem?_eq_some_iff.mp e).1
  refine ⟨⟨fun a u q => ?_, w.ok.pg, fun a q => ?_⟩, ⟨w.since.gg, fun a u q n1 n2 => ?_, fun a q => ?_, w.since.pp, w.since.pn, w.since.gn⟩, by simp [w.len], fun j t q => ?_, fun j k t t' hjk e1 e2 m1 m2 => ?_⟩
  · rw [upd_ne (ne_of_none q g)]; exact w.ok.gh a u q
  · rw [upd_ne (fun z : a = l => p (z ▸ q))]; exact w.ok.pt a q
  · have ne : a ≠ l := fun z => by
      subst z
      rcases b with b | b
      · rw [b] at q; cases q
      · exact n2 b
    rw [upd_ne ne]; exact w.since.hh a u q n1 n2
  · by_cases z : a = l
    · subst z; rw [upd_same]; simp
    · rw [upd_ne z]; exact w.since.dm a q
  · by_cases h : i = j
    · subst h
      rw [List.getElem?_set_self li] at q
      cases q
      exact ⟨_, ev, r⟩
    · rw [List.getElem?_set_ne h] at q
      obtain ⟨v, h1, h2⟩ := w.sl j t q
      refine ⟨v, h1, ?_⟩
      cases t with
      | val d => exact h2
      | own ds =>
        obtain ⟨l2, xs, e2, h3, r3⟩ := h2
        have ne : l2 ≠ l := fun z => w.inj i j s _ h e q m rfl (by rw [ev, h1, e2, z])
        exact ⟨l2, xs, e2, by rw [upd_ne ne]; exact h3, r3⟩
      | inst C fs =>
        obtain ⟨l2, dx, xs, e2, h3, r3⟩ := h2
        have ne : l2 ≠ l := fun z => w.inj i j s _ h e q m rfl (by rw [ev, h1, e2, z])
        exact ⟨l2, dx, xs, e2, by rw [upd_ne ne]; exact h3, r3⟩
  · have aux : ∀ (j : Nat) (t : SV), (δ.set i (some s'))[j]? = some (some t) → ∃ t0, δ[j]? = some (some t0) ∧ (t.mut = true → t0.mut = true) := fun j t q => by
      by_cases h : i = j
      · subst h; exact ⟨s, e, fun _ => m⟩
      · rw [List.getElem?_set_ne h] at q; exact ⟨t, q, fun z => z⟩
    obtain ⟨t1, a1, b1⟩ := aux j t e1
    obtain ⟨t2, a2, b2⟩ := aux k t' e2
    exact w.inj j k t1 t2 hjk a1 a2 (b1 m1) (b2 m2)
end
end FG

/-! FB: the lifted judgements; expressions. -/
namespace FG
open PySem.Spec PySem L2 PyProof.Rows

abbrev DT := DSt → (D → Prop) → Prop
abbrev DTT := DSt → (Bool → Prop) → Prop
abbrev DTA := DSt → (List D → Prop) → Prop
structure DEnds where
  nx : DSt → Prop
  rt : D → Prop
  bk : DSt → Prop := fun _ => False
  ct : DSt → Prop := fun _ => False
abbrev DTS := DEnds → DSt → Prop
/-- what follows, told by trees -/
def K1 (K : PySem.W.Frag) (G H : Hp) (P : Addr → Prop) (Qd : D → Prop) (Q : VK) : Prop :=
  ∀ v G' H' P' d, Stp G H P G' H' P' → WOk G' H' P' → Rep K G' P' v d → Qd d → Q v H'
def KL (K : PySem.W.Frag) (n : Nat) (G H : Hp) (P : Addr → Prop) (Qd : List D → Prop) (Q : List V → Hp → Prop) : Prop :=
  ∀ v G' H' P' d, Stp G H P G' H' P' → WOk G' H' P' → RepL K G' P' v d → d.length = n → Qd d → Q v H'
def KB (G H : Hp) (P : Addr → Prop) (Qd : Bool → Prop) (Q : Bool → Hp → Prop) : Prop :=
  ∀ b G' H' P', Stp G H P G' H' P' → WOk G' H' P' → Qd b → Q b H'
/-- own things as they would be if they stayed -/
def SV.view : SV → SV
  | .val d => .val d
  | .own ds => .val (.lst ds)
  | .inst C fs => .val (.ins C fs)
def view (δ : DSt) : DSt := δ.map fun o => o.map SV.view
theorem view_view (δ : DSt) : view (view δ) = view δ := by
  unfold view
  rw [List.map_map]
  congr 1
  funext o
  cases o with
  | none => rfl
  | some s => cases s <;> rfl
theorem view_get (δ : DSt) (i : Nat) : (view δ)[i]? = (δ[i]?).map fun o => o.map SV.view := by
  unfold view
  rw [List.getElem?_map]

def lift (K : PySem.W.Frag) (B : Base) (t : DT) : TE := fun σ H Q => ∃ G P δ Qd, WS K B G H P σ δ ∧ t δ Qd ∧ K1 K G H P Qd Q
def liftA (K : PySem.W.Frag) (B : Base) (n : Nat) (t : DTA) : TA := fun σ H Q => ∃ G P δ Qd, WS K B G H P σ δ ∧ t δ Qd ∧ KL K n G H P Qd Q
def liftT (K : PySem.W.Frag) (B : Base) (t : DTT) : TT := fun σ H Q => ∃ G P δ Qd, WS K B G H P σ δ ∧ t (view δ) Qd ∧ KB G H P Qd Q
abbrev DE (X : Cx) (B : Base) (e : Expr) (t : DT) : Prop := PE X e (lift X.K B t)
abbrev DA (X : Cx) (B : Base) (es : List Expr) (n : Nat) (t : DTA) : Prop := PA X es (liftA X.K B n t)
abbrev DTe (X : Cx) (B : Base) (e : Expr) (t : DTT) : Prop := PT X e (liftT X.K B t)
abbrev DW (X : Cx) (B : Base) (e : Expr) (t : DTT) : Prop := PW X e (liftT X.K B t)

section
variable {K : PySem.W.Frag} {B : Base} {G H G' H' : Hp} {P P' : Addr → Prop} {σ : L2.St} {δ : DSt} {X : Cx}
theorem K1.step {Qd : D → Prop} {Q : VK} (k : K1 K G H P Qd Q) (s : Stp G H P G' H' P') : K1 K G' H' P' Qd Q := fun v _ _ _ d t => k v _ _ _ d (s.trans t)
theorem KL.step {n : Nat} {Qd : List D → Prop} {Q : List V → Hp → Prop} (k : KL K n G H P Qd Q) (s : Stp G H P G' H' P') : KL K n G' H' P' Qd Q := fun v _ _ _ d t => k v _ _ _ d (s.trans t)
theorem KB.step {Qd : Bool → Prop} {Q : Bool → Hp → Prop} (k : KB G H P Qd Q) (s : Stp G H P G' H' P') : KB G' H' P' Qd Q := fun b _ _ _ t => k b _ _ _ (s.trans t)
theorem K1.here {Qd : D → Prop} {Q : VK} (k : K1 K G H P Qd Q) (w : WOk G H P) {v : V} {d : D} (r : Rep K G P v d) (q : Qd d) : Q v H := k v G H P d .refl w r q
theorem K1.new {Qd : D → Prop} {Q : VK} (k : K1 K G H P Qd Q) (w : WOk G H P) {p : Addr} {o : HO} {d : D} (h : H p = none) (r : Rep K (upd G p o) P (.ref p) d) (q : Qd d) : Q (.ref p) (upd H p o) :=
  let ⟨s, ok⟩ := Stp.new (o := o) w h
  k _ _ _ _ d s ok r q
theorem Rep.newTup {xs : List V} {ds : List D} {p : Addr} (w : WOk G H P) (h : H p = none) (r : RepL K G P xs ds) (z : ds.length ≤ sizeLine) : Rep K (upd G p (.tup xs)) P (.ref p) (.tup ds) :=
  let ⟨s, _⟩ := Stp.new (o := .tup xs) w h
  .tup (.inl (.inl upd_same)) (s.repL r) z
theorem Rep.newLst {xs : List V} {ds : List D} {p : Addr} (w : WOk G H P) (h : H p = none) (r : RepL K G P xs ds) (z : ds.length ≤ sizeLine) : Rep K (upd G p (.lst xs)) P (.ref p) (.lst ds) :=
  let ⟨s, _⟩ := Stp.new (o := .lst xs) w h
  .lst upd_same (s.repL r) z
/-- all own things stay from now on -/
theorem WS.view (w : WS K B G H P σ δ) : ∃ G', WS K B G' H P σ (view δ) ∧ (∀ a o, G a = some o → G' a = some o) := by
  classical
  let own : Addr → Prop := fun a => ∃ (i : Nat) (s : SV), δ[i]? = some (some s) ∧ s.mut = true ∧ σ[i]? = some (some (V.ref a))
  have ownP : ∀ a, own a → G a = none ∧ ¬ P a ∧ (B.H a = none ∨ B.M a) ∧ H a ≠ none := by
    rintro a ⟨i, s, e, m, ev⟩
    obtain ⟨v, e2, r⟩ := w.sl i s e
    rw [ev] at e2
    cases e2
    cases s with
    | val d => cases m
    | own ds =>
      obtain ⟨l, xs, e3, h, rl, g, p, b, z⟩ := r
      cases e3
      exact ⟨g, p, .inl b, by rw [h]; simp⟩
    | inst C fs =>
      obtain ⟨l, dx, xs, e3, h, rl, g, p, b⟩ := r
      cases e3
      exact ⟨g, p, .inr b, by rw [h]; simp⟩
  let G' : Hp := fun a => if own a then H a else G a
  have gg : ∀ a o, G a = some o → G' a = some o := fun a o e => by
    show (if own a then H a else G a) = some o
    by_cases h : own a
    · rw [(ownP a h).1] at e; cases e
    · rw [if_neg h]; exact e
  have go : ∀ a, own a → G' a = H a := fun a h => if_pos h
  have gn : ∀ a, ¬ own a → G' a = G a := fun a h => if_neg h
  have ok : WOk G' H P := ⟨fun a o e => by
    by_cases h : own a
    · rw [go a h] at e; exact e
    · rw [gn a h] at e; exact w.ok.gh a o e, fun a p => by
    by_cases h : own a
    · exact absurd p (ownP a h).2.1
    · rw [gn a h]; exact w.ok.pg a p, w.ok.pt⟩
  refine ⟨G', ⟨ok, ⟨fun a o e => gg a o (w.since.gg a o e), w.since.hh, w.since.dm, w.since.pp, w.since.pn, fun a o e => ?_⟩, by unfold FG.view; rw [List.length_map]; exact w.len, fun i s e => ?_, fun i j s s' _ e1 _ m1 _ => ?_⟩, gg⟩
  · by_cases h : own a
    · exact .inr (ownP a h).2.2.1
    · rw [gn a h] at e; exact w.since.gn a o e
  · rw [view_get] at e
    cases q : δ[i]? with
    | none => (rw [q] at e; cases e)
    | some u =>
      rw [q] at e
      cases u with
      | none => cases e
      | some s0 =>
        cases e
        obtain ⟨v, e2, r⟩ := w.sl i s0 q
        refine ⟨v, e2, ?_⟩
        cases s0 with
        | val d => exact r.mono gg fun _ h => h
        | own ds =>
          obtain ⟨l, xs, e3, h, rl, g, p, b, z⟩ := r
          subst e3
          exact .lst (by rw [go l ⟨i, _, q, rfl, e2⟩]; exact h) (rl.mono gg fun _ h => h) z
        | inst C fs =>
          obtain ⟨l, dx, xs, e3, h, rl, g, p, b⟩ := r
          subst e3
          exact .ins (by rw [go l ⟨i, _, q, rfl, e2⟩]; exact h) (rl.mono gg fun _ h => h)
  · rw [view_get] at e1
    cases q : δ[i]? with
    | none => rw [q] at e1; cases e1
    | some u =>
      rw [q] at e1
      cases u with
      | none => cases e1
      | some s0 =>
        cases e1
        cases s0 <;> cases m1
theorem unview {G2 H2 : Hp} {P2 : Addr → Prop} (w : WOk G H P) (gg : ∀ a o, G a = some o → G' a = some o) (s : Stp G' H P G2 H2 P2) (ok : WOk G2 H2 P2) : Stp G H P G H2 P2 ∧ WOk G H2 P2 :=
  ⟨⟨fun _ _ h => h, s.hh, s.dm, s.pp, s.pn, fun _ _ h => .inl h⟩, ⟨fun a o e => ok.gh a o (s.gg a o (gg a o e)), fun a p => (by
    cases q : G a with
    | none => rfl
    | some o =>
      have z := s.gg a o (gg a o q)
      rw [ok.pg a p] at z
      cases z), fun a p => ok.pt a p⟩⟩
/-- a test's reading: own things are seen as values -/
theorem liftT_view {t : DTT} {Q : Bool → Hp → Prop} (h : liftT K B t σ H Q) : ∃ G P δ Qd, WS K B G H P σ δ ∧ view δ = δ ∧ t δ Qd ∧ KB G H P Qd Q := by
  obtain ⟨G, P, δ, Qd, w, q, k⟩ := h
  obtain ⟨G', w', gg⟩ := w.view
  exact ⟨G', P, FG.view δ, Qd, w', view_view δ, q, fun b G2 H2 P2 s ok qb => let ⟨s', ok'⟩ := unview w.ok gg s ok; k b G H2 P2 s' ok' qb⟩
theorem _root_.L2.PE.mono {e : Expr} {t u : TE} (h : PE X e t) (i : ∀ σ H Q, u σ H Q → t σ H Q) : PE X e u := ⟨fun pins s σ H Q I q => h.run pins s σ H Q I (i σ H Q q)⟩
theorem _root_.L2.PA.mono {e : List Expr} {t u : TA} (h : PA X e t) (i : ∀ σ H Q, u σ H Q → t σ H Q) : PA X e u := ⟨fun pos pins s σ H Q I q => h.run pos pins s σ H Q I (i σ H Q q)⟩
theorem _root_.L2.PT.mono {e : Expr} {t u : TT} (h : PT X e t) (i : ∀ σ H Q, u σ H Q → t σ H Q) : PT X e u := ⟨fun pins s σ H Q I q => h.run pins s σ H Q I (i σ H Q q)⟩
theorem _root_.L2.PW.mono {e : Expr} {t u : TT} (h : PW X e t) (i : ∀ σ H Q, u σ H Q → t σ H Q) : PW X e u := ⟨fun wh pins s σ H Q I q => h.run wh pins s σ H Q I (i σ H Q q)⟩
theorem _root_.L2.PS.mono {e : Stmt} {t u : TS} (h : PS X e t) (i : ∀ D σ H, u D σ H → t D σ H) : PS X e u := ⟨fun pins s σ H D I q => h.run pins s σ H D I (i D σ H q)⟩
theorem _root_.L2.PSs.mono {e : List Stmt} {t u : TS} (h : PSs X e t) (i : ∀ D σ H, u D σ H → t D σ H) : PSs X e u := ⟨fun pins s σ H D I q => h.run pins s σ H D I (i D σ H q)⟩
end

/-! ### names, constants -/
def dVar (i : Nat) : DT := fun δ Q => match δ[i]? with
  | some (some (.val d)) => Q d
  | _ => False
def dC (d : D) : DT := fun _ Q => Q d
section
variable {X : Cx} {B : Base} {e a b c : Expr} {es rest : List Expr} {ta tb tc : DT} {te : DTA} {t u : DTT} {pos : Pos} {n : Nat}
theorem de_var {i : Nat} (h : PE X e (tVar i)) : DE X B e (dVar i) := h.mono fun σ H Q q => by
  obtain ⟨G, P, δ, Qd, w, q, k⟩ := q
  unfold dVar at q
  split at q
  · rename_i d hd
    obtain ⟨v, e1, r⟩ := w.sl i _ hd
    exact ⟨v, e1, k.here w.ok r q⟩
  · exact q.elim
/-- a constant: it stands in every world -/
theorem de_c {v : V} {d : D} (h : PE X e (tC v)) (r : ∀ G P, Rep X.K G P v d) : DE X B e (dC d) := h.mono fun σ H Q q => by
  obtain ⟨G, P, δ, Qd, w, q, k⟩ := q
  exact k.here w.ok (r G P) q
theorem de_int {i : Int} {j} : DE X B (.Constant (.int i) j pos) (dC (.int i)) := de_c pe_int fun _ _ => .int i
theorem de_bl {b : Bool} {j} : DE X B (.Constant (.bool b) j pos) (dC (.bl b)) := de_c pe_bl fun _ _ => .bl b
theorem de_non {j} : DE X B (.Constant .none j pos) (dC .non) := de_c pe_non fun _ _ => .non
theorem de_str {x : Str} {j} : DE X B (.Constant (.str x) j pos) (dC (.str x)) := de_c pe_str fun _ _ => .str x
/-- a constant of the module -/
def Con1 (K : PySem.W.Frag) (mg : Str → Option Value) (x : Str) (d : D) : Prop := ∃ u v, mg x = some u ∧ RelV v u ∧ ∀ G P, Rep K G P v d
theorem de_glob {x : Str} {d : D} (h : Con1 X.K X.mg x d) (hg : Gl X x) (hd : (x == ("__debug__" : Str)) = false := by decide) : DE X B (.Name x pos) (dC d) := by
  obtain ⟨u, v, hm, r, rp⟩ := h
  exact de_c (pe_glob hg hm r hd) rp
/-- a built-in class as a value -/
theorem de_ty {x : Str} {nm : String} (hm : X.mg x = none) (hg : Gl X x) (hv : bootBuiltins x = some (.type nm)) (hn : x ≠ "__name__" := by decide) (hd : (x == ("__debug__" : Str)) = false := by decide) : DE X B (.Name x pos) (dC (.ty nm)) :=
  de_c (pe_bltn hg hm hv (show RelV (.ty nm) (.type nm) from rfl) hn hd) fun _ _ => .ty nm

/-! ### operators -/
abbrev F2 := D → D → (D → Prop) → Prop
def dOp (f : F2) (ta tb : DT) : DT := fun δ Q => ta δ fun x => tb δ fun y => f x y Q
def OpD (K : PySem.W.Frag) (r : R2) (f : F2) : Prop := ∀ (G H : Hp) (P : Addr → Prop) (x y : V) (dx dy : D) (Qd : D → Prop) (Q : VK), WOk G H P → Rep K G P x dx → Rep K G P y dy → f dx dy Qd → K1 K G H P Qd Q → r x y H Q
theorem lift_op {K : PySem.W.Frag} {r : R2} {f : F2} (h : OpD K r f) (σ : L2.St) (H : Hp) (Q : VK) (q : lift K B (dOp f ta tb) σ H Q) : tOp r (lift K B ta) (lift K B tb) σ H Q := by
  obtain ⟨G, P, δ, Qd, w, q, k⟩ := q
  refine ⟨G, P, δ, _, w, q, fun x G1 H1 P1 dx s1 ok1 rx q1 => ?_⟩
  refine ⟨G1, P1, δ, _, w.step s1 ok1, q1, fun y G2 H2 P2 dy s2 ok2 ry q2 => ?_⟩
  exact h _ _ _ _ _ _ _ _ _ ok2 (s2.rep rx) ry q2 (k.step (s1.trans s2))
theorem de_op {op : Operator} {r : R2} {f : F2} (ho : OpR X (binaryOp op) r) (hf : OpD X.K r f) (ha : DE X B a ta) (hb : DE X B b tb) : DE X B (.BinOp a op b pos) (dOp f ta tb) :=
  (pe_op ho ha hb).mono fun σ H Q q => lift_op hf σ H Q q
theorem de_cmp {op : CmpOp} {r : R2} {f : F2} (ho : OpR X (compareOp op) r) (hf : OpD X.K r f) (ha : DE X B a ta) (hb : DE X B b tb) (hm : behindInMarks op b = false) : DE X B (.Compare a [op] [b] pos) (dOp f ta tb) :=
  (pe_cmpR ho ha hb hm).mono fun σ H Q q => lift_op hf σ H Q q
/-- the same as a test -/
def dTest (t : DT) : DTT := fun δ Q => t δ fun d => match d with
  | .bl b => Q b
  | _ => False
theorem lift_test {K : PySem.W.Frag} {tE : TE} {t : DT} (h : ∀ σ H Q, lift K B t σ H Q → tE σ H Q) (σ : L2.St) (H : Hp) (Q : Bool → Hp → Prop) (q : liftT K B (dTest t) σ H Q) : tE σ H fun x H' => ∃ k, x = .bl k ∧ Q k H' := by
  obtain ⟨G, P, δ, Qd, w, _, q, k⟩ := liftT_view q
  refine h σ H _ ⟨G, P, δ, _, w, q, fun v G1 H1 P1 d s1 ok1 r1 q1 => ?_⟩
  cases d with
  | bl b => cases r1; exact ⟨b, rfl, k b _ _ _ s1 ok1 q1⟩
  | _ => exact q1.elim
theorem dt_cmp {op : CmpOp} {r : R2} {f : F2} (ho : OpR X (compareOp op) r) (hf : OpD X.K r f) (ha : DE X B a ta) (hb : DE X B b tb) (hm : behindInMarks op b = false) : DTe X B (.Compare a [op] [b] pos) (dTest (dOp f ta tb)) :=
  (pt_cmpR ho ha hb hm).mono fun σ H Q q => lift_test (fun σ H Q q => lift_op hf σ H Q q) σ H Q q
theorem dt_val (ha : DE X B a ta) (he : ∀ whole, isTrue a X.env whole = (do let v ← whole; standAt a.pos; holding [v] (truthy v)) := by intro _; rfl) : DTe X B a (dTest ta) :=
  (pt_val ha he).mono fun σ H Q q => lift_test (fun σ H Q q => q) σ H Q q
/-- two comparisons in a chain -/
def dChain (f g : F2) (ta tb tc : DT) : DT := fun δ Q => ta δ fun x => tb δ fun y => f x y fun z => match z with
  | .bl k => if k = true then tc δ fun w => g y w Q else Q (.bl false)
  | _ => False
theorem lift_chain {K : PySem.W.Frag} {r r' : R2} {f g : F2} (h : OpD K r f) (h' : OpD K r' g) (σ : L2.St) (H : Hp) (Q : VK) (q : lift K B (dChain f g ta tb tc) σ H Q) : tChain r r' (lift K B ta) (lift K B tb) (lift K B tc) σ H Q := by
  obtain ⟨G, P, δ, Qd, w, q, k⟩ := q
  refine ⟨G, P, δ, _, w, q, fun x G1 H1 P1 dx s1 ok1 rx q1 => ?_⟩
  refine ⟨G1, P1, δ, _, w.step s1 ok1, q1, fun y G2 H2 P2 dy s2 ok2 ry q2 => ?_⟩
  refine h _ _ _ _ _ _ _ _ _ ok2 (s2.rep rx) ry q2 fun z G3 H3 P3 dz s3 ok3 rz q3 => ?_
  cases dz with
  | bl kk =>
    cases rz
    refine ⟨kk, rfl, ?_⟩
    cases kk with
    | true =>
      have q3' : tc δ fun w => g dy w Qd := q3
      rw [if_pos rfl]
      refine ⟨G3, P3, δ, _, ((w.step s1 ok1).step s2 ok2).step s3 ok3, q3', fun v G4 H4 P4 dv s4 ok4 rv q4 => ?_⟩
      exact h' _ _ _ _ _ _ _ _ _ ok4 ((s3.trans s4).rep ry) rv q4 (k.step (s1.trans (s2.trans (s3.trans s4))))
    | false =>
      have q3' : Qd (.bl false) := q3
      rw [if_neg (Bool.false_ne_true)]
      exact k _ _ _ _ _ (s1.trans (s2.trans s3)) ok3 (.bl false) q3'
  | _ => exact q3.elim
end
end FG

/-! FC: operators and comparisons on trees. -/
namespace FG
open PySem.Spec PySem L2 PyProof.Rows

/-! ### trees as plain data -/
mutual
def D.py : D → PyData
  | .bl b => .bool b
  | .int i => .int i
  | .str s => .str s
  | .tup xs => .tuple (D.pyL xs)
  | .lst xs => .list (D.pyL xs)
  | _ => .none
def D.pyL : List D → List PyData
  | [] => []
  | x :: xs => D.py x :: D.pyL xs
end
mutual
/-- no instances, dicts or the like within -/
def D.plain : D → Bool
  | .non | .bl _ | .int _ | .str _ => true
  | .tup xs => D.plainL xs
  | .lst xs => D.plainL xs
  | _ => false
def D.plainL : List D → Bool
  | [] => true
  | x :: xs => D.plain x && D.plainL xs
end
mutual
theorem Rep.dp {K : PySem.W.Frag} {G H : Hp} {P : Addr → Prop} (gh : ∀ a o, G a = some o → H a = some o) : ∀ {v : V} {d : D}, Rep K G P v d → d.plain = true → Dp K H v d.py
  | _, _, .non, _ => .non
  | _, _, .bl b, _ => .bl b
  | _, _, .int i, _ => .int i
  | _, _, .str s, _ => .str s
  | _, _, .tup a b c, h => .tup (sqt_mono gh a) (RepL.dp gh b h)
  | _, _, .lst a b c, h => .lst (.inl (.inl (gh _ _ a))) (RepL.dp gh b h)
  | _, _, .dct a b, h => nomatch h
  | _, _, .ins a b, h => nomatch h
  | _, _, .pot a, h => nomatch h
  | _, _, .scr a, h => nomatch h
  | _, _, .cls a, h => nomatch h
  | _, _, .ty n, h => nomatch h
theorem RepL.dp {K : PySem.W.Frag} {G H : Hp} {P : Addr → Prop} (gh : ∀ a o, G a = some o → H a = some o) : ∀ {v : List V} {d : List D}, RepL K G P v d → D.plainL d = true → DpAll K H v (D.pyL d)
  | _, _, .nil, _ => .nil
  | _, _, .cons a b, h => .cons (Rep.dp gh a (Bool.and_eq_true_iff.mp h).1) (RepL.dp gh b (Bool.and_eq_true_iff.mp h).2)
end
/-- == of trees, where it is plain data -/
def D.eqq (a b : D) : Bool := PyData.eqv a.py b.py
def D.okEq (a : D) : Bool := a.plain && SeqAt.shaped a.py

/-! ### operators -/
def fAdd : D → D → (D → Prop) → Prop
  | .int i, .int j, Q => Q (.int (i + j))
  | .str s, .str t, Q => s.length + t.length ≤ sizeLine ∧ Q (.str (s ++ t))
  | .lst a, .lst b, Q => a.length + b.length ≤ sizeLine ∧ Q (.lst (a ++ b))
  | .tup a, .tup b, Q => a.length + b.length ≤ sizeLine ∧ Q (.tup (a ++ b))
  | _, _, _ => False
def fSub : D → D → (D → Prop) → Prop
  | .int i, .int j, Q => Q (.int (i - j))
  | _, _, _ => False
/-- a product: numbers of a bounded size; a list repeated -/
def fMul : D → D → (D → Prop) → Prop
  | .int i, .int j, Q => CMulX i j ∧ Q (.int (i * j))
  | .lst a, .int k, Q => -(2 ^ 63) ≤ k ∧ k < 2 ^ 63 ∧ a.length * k.toNat ≤ sizeLine ∧ Q (.lst (List.replicate k.toNat a).flatten)
  | _, _, _ => False
def fFdiv : D → D → (D → Prop) → Prop
  | .int i, .int j, Q => CDivW i j ∧ Q (.int (i / j))
  | _, _, _ => False
def fMod : D → D → (D → Prop) → Prop
  | .int i, .int j, Q => 0 < j ∧ Q (.int (i % j))
  | _, _, _ => False
def fPow : D → D → (D → Prop) → Prop
  | .int i, .int j, Q => CPow i j ∧ Q (.int (i ^ j.toNat))
  | _, _, _ => False
def fInt (p : Int → Int → Bool) : D → D → (D → Prop) → Prop
  | .int i, .int j, Q => Q (.bl (p i j))
  | _, _, _ => False
abbrev fLt : F2 := fInt fun i j => decide (i < j)
abbrev fLe : F2 := fInt fun i j => decide (i ≤ j)
abbrev fGt : F2 := fInt fun i j => decide (j < i)
abbrev fGe : F2 := fInt fun i j => decide (j ≤ i)
def fEq : D → D → (D → Prop) → Prop
  | .int i, .int j, Q => Q (.bl (decide (i = j)))
  | .str i, .str j, Q => Q (.bl (decide (i = j)))
  | .bl i, .bl j, Q => Q (.bl (decide (i = j)))
  | .non, .non, Q => Q (.bl true)
  | a, b, Q => a.okEq = true ∧ b.okEq = true ∧ Q (.bl (a.eqq b))
def fNe : D → D → (D → Prop) → Prop
  | .int i, .int j, Q => Q (.bl (!decide (i = j)))
  | .str i, .str j, Q => Q (.bl (!decide (i = j)))
  | .bl i, .bl j, Q => Q (.bl (!decide (i = j)))
  | .non, .non, Q => Q (.bl false)
  | a, b, Q => a.okEq = true ∧ b.okEq = true ∧ Q (.bl (!a.eqq b))
def D.isN : D → Bool
  | .non => true
  | _ => false
def fIsN : D → D → (D → Prop) → Prop
  | x, .non, Q => Q (.bl x.isN)
  | _, _, _ => False
def fNotN : D → D → (D → Prop) → Prop
  | x, .non, Q => Q (.bl (!x.isN))
  | _, _, _ => False
def D.flat : D → Bool
  | .non | .bl _ | .int _ | .str _ => true
  | _ => false
def D.eqF : D → D → Bool
  | .non, .non => true
  | .bl a, .bl b => a == b
  | .bl u, .int v => (if u then 1 else 0) == v
  | .int u, .bl v => u == (if v then 1 else 0)
  | .int a, .int b => a == b
  | .str a, .str b => a == b
  | _, _ => false
def D.inF (x : D) (xs : List D) : Bool := xs.any fun y => y.eqF x
/-- one sign -/
def sign (c : Nat) : Str := ⟨#[c]⟩
def fIn : D → D → (D → Prop) → Prop
  | .str s, .str z, Q => (∃ c, s = sign c ∧ Q (.bl (decide (c ∈ z.cps.toList))))
  | x, .tup xs, Q => x.flat = true ∧ xs.all D.flat = true ∧ Q (.bl (x.inF xs))
  | x, .lst xs, Q => x.flat = true ∧ xs.all D.flat = true ∧ Q (.bl (x.inF xs))
  | _, _, _ => False
def fNotIn : D → D → (D → Prop) → Prop
  | .str s, .str z, Q => (∃ c, s = sign c ∧ Q (.bl (!decide (c ∈ z.cps.toList))))
  | x, .tup xs, Q => x.flat = true ∧ xs.all D.flat = true ∧ Q (.bl (!x.inF xs))
  | x, .lst xs, Q => x.flat = true ∧ xs.all D.flat = true ∧ Q (.bl (!x.inF xs))
  | _, _, _ => False

section
variable {K : PySem.W.Frag} {G H : Hp} {P : Addr → Prop}
theorem Rep.flatV {v : V} {d : D} (r : Rep K G P v d) (h : d.flat = true) : L2.flatV v = true := by
  cases r <;> first | rfl | cases h
theorem RepL.flatV : ∀ {vs : List V} {ds : List D}, RepL K G P vs ds → ds.all D.flat = true → vs.all L2.flatV = true
  | _, _, .nil, _ => rfl
  | _, _, .cons a r, h => by
    simp only [List.all_cons, Bool.and_eq_true] at h ⊢
    exact ⟨a.flatV h.1, RepL.flatV r h.2⟩
theorem Rep.eqV {v w : V} {d e : D} (r : Rep K G P v d) (s : Rep K G P w e) (h : d.flat = true) (h2 : e.flat = true) : L2.eqV v w = d.eqF e := by
  cases r <;> first | (cases s <;> first | rfl | cases h2) | cases h
theorem RepL.inV {x : V} {dx : D} (r : Rep K G P x dx) (h : dx.flat = true) : ∀ {vs : List V} {ds : List D}, RepL K G P vs ds → ds.all D.flat = true → L2.inV x vs = dx.inF ds
  | _, _, .nil, _ => rfl
  | _, _, .cons (v := v) (d := d) a q, h2 => by
    simp only [List.all_cons, Bool.and_eq_true] at h2
    have ih := RepL.inV r h q h2.2
    unfold L2.inV D.inF at ih ⊢
    rw [List.any_cons, List.any_cons, a.eqV r h2.1 h, ih]
theorem Rep.isN {v : V} {d : D} (r : Rep K G P v d) : decide (v = .non) = d.isN := by
  cases r <;> first | rfl | simp [D.isN]
end

/-! ### they are Python's -/
section
variable {X : Cx} {K : PySem.W.Frag}
def rAddD (K : PySem.W.Frag) : R2 := fun x y H Q => (((rI0 fun i j => .int (i + j)) x y H Q ∨ (fun x y H Q => ∃ i j, x = V.str i ∧ y = V.str j ∧ i.length + j.length ≤ sizeLine ∧ Q (.str (i ++ j)) H) x y H Q) ∨ rCat x y H Q) ∨ rCatA K x y H Q
theorem op_addD : OpR X (binaryOp .Add) (rAddD X.K) := ((op_add.or op_add_str).or op_cat).or op_catA
theorem od_add : OpD K (rAddD K) fAdd := by
  intro G H P x y dx dy Qd Q w rx ry q k
  cases rx with
  | int i =>
    cases ry with
    | int j => exact .inl (.inl (.inl ⟨i, j, rfl, rfl, k.here w (.int _) q⟩))
    | _ => exact q.elim
  | str i =>
    cases ry with
    | str j => exact .inl (.inl (.inr ⟨i, j, rfl, rfl, q.1, k.here w (.str _) q.2⟩))
    | _ => exact q.elim
  | lst a b c =>
    cases ry with
    | lst a2 b2 c2 =>
      refine .inl (.inr ⟨_, _, _, _, rfl, rfl, w.gh _ _ a, w.gh _ _ a2, by rw [b.length, b2.length]; exact q.1, fun p hp => ?_⟩)
      exact k.new w hp (.newLst w hp (b.append b2) (by rw [List.length_append]; exact q.1)) q.2
    | _ => exact q.elim
  | tup a b c =>
    cases ry with
    | tup a2 b2 c2 =>
      refine .inr ⟨_, _, _, _, rfl, rfl, sqt_mono w.gh a, sqt_mono w.gh a2, by rw [b.length, b2.length]; exact q.1, fun e => ?_, fun _ e => ?_, fun _ _ p hp => ?_⟩
      · subst e
        cases b
        exact k.here w (.tup a2 b2 c2) q.2
      · subst e
        cases b2
        exact k.here w (.tup a b c) (by have := q.2; rw [List.append_nil] at this; exact this)
      · exact k.new w hp (.newTup w hp (b.append b2) (by rw [List.length_append]; exact q.1)) q.2
    | _ => exact q.elim
  | _ => exact q.elim
theorem od_int2 {C : Int → Int → Prop} {g : Int → Int → Int} {f : F2} (hf : ∀ dx dy Q, f dx dy Q → ∃ i j, dx = .int i ∧ dy = .int j ∧ C i j ∧ Q (.int (g i j))) : OpD K (rI C fun i j => .int (g i j)) f := by
  intro G H P x y dx dy Qd Q w rx ry q k
  obtain ⟨i, j, rfl, rfl, c, q⟩ := hf _ _ _ q
  cases rx
  cases ry
  exact ⟨i, j, rfl, rfl, c, k.here w (.int _) q⟩
theorem od_sub : OpD K (rI0 fun i j => .int (i - j)) fSub := by
  intro G H P x y dx dy Qd Q w rx ry q k
  cases rx with
  | int i =>
    cases ry with
    | int j => exact ⟨i, j, rfl, rfl, k.here w (.int _) q⟩
    | _ => exact q.elim
  | _ => exact q.elim
def rMulD : R2 := fun x y H Q => (rI CMulX fun i j => .int (i * j)) x y H Q ∨ rRep x y H Q
theorem op_mulD : OpR X (binaryOp .Mult) rMulD := op_mulX.or op_rep
theorem RepL.rep {G : Hp} {P : Addr → Prop} {vs : List V} {ds : List D} (h : RepL K G P vs ds) : ∀ n : Nat, RepL K G P (List.replicate n vs).flatten (List.replicate n ds).flatten
  | 0 => .nil
  | n + 1 => by
    simp only [List.replicate_succ, List.flatten_cons]
    exact h.append (RepL.rep h n)
theorem len_rep {α : Type} (l : List α) : ∀ n : Nat, ((List.replicate n l).flatten).length = l.length * n
  | 0 => by simp
  | n + 1 => by rw [List.replicate_succ, List.flatten_cons, List.length_append, len_rep l n, Nat.mul_succ, Nat.add_comm]
theorem od_mul : OpD K rMulD fMul := by
  intro G H P x y dx dy Qd Q w rx ry q k
  cases rx with
  | int i =>
    cases ry with
    | int j => exact .inl ⟨i, j, rfl, rfl, q.1, k.here w (.int _) q.2⟩
    | _ => exact q.elim
  | lst a b c =>
    cases ry with
    | int j =>
      obtain ⟨q1, q2, q3, q4⟩ := q
      refine .inr ⟨_, j, _, rfl, rfl, w.gh _ _ a, q1, q2, by rw [b.length]; exact q3, fun p hp => ?_⟩
      exact k.new w hp (.newLst w hp (b.rep _) (by rw [len_rep]; exact q3)) q4
    | _ => exact q.elim
  | _ => exact q.elim
theorem od_fdiv : OpD K (rI CDivW fun i j => .int (i / j)) fFdiv := od_int2 fun dx dy Q q => by
  cases dx <;> cases dy <;> first | exact q.elim | exact ⟨_, _, rfl, rfl, q.1, q.2⟩
theorem od_mod : OpD K (rI (fun _ j => 0 < j) fun i j => .int (i % j)) fMod := od_int2 fun dx dy Q q => by
  cases dx <;> cases dy <;> first | exact q.elim | exact ⟨_, _, rfl, rfl, q.1, q.2⟩
theorem od_pow : OpD K (rI CPow fun i j => .int (i ^ j.toNat)) fPow := od_int2 fun dx dy Q q => by
  cases dx <;> cases dy <;> first | exact q.elim | exact ⟨_, _, rfl, rfl, q.1, q.2⟩
theorem od_int {p : Int → Int → Bool} : OpD K (rI0 fun i j => .bl (p i j)) (fInt p) := by
  intro G H P x y dx dy Qd Q w rx ry q k
  cases rx with
  | int i =>
    cases ry with
    | int j => exact ⟨i, j, rfl, rfl, k.here w (.bl _) q⟩
    | _ => exact q.elim
  | _ => exact q.elim
def rEqDD (K : PySem.W.Frag) : R2 := fun x y H Q => rEq x y H Q ∨ rEqD K x y H Q
def rNeDD (K : PySem.W.Frag) : R2 := fun x y H Q => rNe x y H Q ∨ rNeD K x y H Q
theorem op_eqDD (hu : X.A.units + 64 < cLine) : OpR X (compareOp .Eq) (rEqDD X.K) := op_eq.or (op_eqD hu)
theorem op_neDD (hu : X.A.units + 64 < cLine) : OpR X (compareOp .NotEq) (rNeDD X.K) := op_ne.or (op_neD hu)
theorem okEq_of {d : D} (h : d.okEq = true) : d.plain = true ∧ SeqAt.shaped d.py = true := Bool.and_eq_true_iff.mp h
theorem od_eq : OpD K (rEqDD K) fEq := by
  intro G H P x y dx dy Qd Q w rx ry q k
  have gen : dx.okEq = true ∧ dy.okEq = true ∧ Qd (.bl (dx.eqq dy)) → rEqDD K x y H Q := fun ⟨h1, h2, q⟩ =>
    .inr ⟨_, _, rx.dp w.gh (okEq_of h1).1, ry.dp w.gh (okEq_of h2).1, (okEq_of h1).2, (okEq_of h2).2, k.here w (.bl _) q⟩
  unfold fEq at q
  split at q
  · cases rx; cases ry; exact .inl ⟨rfl, by rw [dec_int, Bool.beq_eq_decide_eq]; exact k.here w (.bl _) q⟩
  · cases rx; cases ry; exact .inl ⟨rfl, by rw [dec_str, Bool.beq_eq_decide_eq]; exact k.here w (.bl _) q⟩
  · cases rx; cases ry; exact .inl ⟨rfl, by rw [dec_bl, Bool.beq_eq_decide_eq]; exact k.here w (.bl _) q⟩
  · cases rx; cases ry; exact .inl ⟨rfl, k.here w (.bl _) q⟩
  · exact gen q
theorem od_ne : OpD K (rNeDD K) fNe := by
  intro G H P x y dx dy Qd Q w rx ry q k
  have gen : dx.okEq = true ∧ dy.okEq = true ∧ Qd (.bl (!dx.eqq dy)) → rNeDD K x y H Q := fun ⟨h1, h2, q⟩ =>
    .inr ⟨_, _, rx.dp w.gh (okEq_of h1).1, ry.dp w.gh (okEq_of h2).1, (okEq_of h1).2, (okEq_of h2).2, k.here w (.bl _) q⟩
  unfold fNe at q
  split at q
  · cases rx; cases ry; exact .inl ⟨rfl, by rw [dec_int, Bool.beq_eq_decide_eq]; exact k.here w (.bl _) q⟩
  · cases rx; cases ry; exact .inl ⟨rfl, by rw [dec_str, Bool.beq_eq_decide_eq]; exact k.here w (.bl _) q⟩
  · cases rx; cases ry; exact .inl ⟨rfl, by rw [dec_bl, Bool.beq_eq_decide_eq]; exact k.here w (.bl _) q⟩
  · cases rx; cases ry; exact .inl ⟨rfl, k.here w (.bl _) q⟩
  · exact gen q
theorem od_isN : OpD K (fun x y H Q => y = .non ∧ Q (.bl (decide (x = .non))) H) fIsN := by
  intro G H P x y dx dy Qd Q w rx ry q k
  cases ry with
  | non => exact ⟨rfl, by rw [rx.isN]; exact k.here w (.bl _) q⟩
  | _ => exact q.elim
theorem od_notN : OpD K (fun x y H Q => y = .non ∧ Q (.bl (!decide (x = .non))) H) fNotN := by
  intro G H P x y dx dy Qd Q w rx ry q k
  cases ry with
  | non => exact ⟨rfl, by rw [rx.isN]; exact k.here w (.bl _) q⟩
  | _ => exact q.elim
def rInD (K : PySem.W.Frag) : R2 := fun x y H Q => (fun x y H Q => ∃ (c : Nat) (z : Str), x = V.str ⟨#[c]⟩ ∧ y = .str z ∧ Q (.bl (decide (c ∈ z.cps.toList))) H) x y H Q ∨ rIn K false x y H Q
def rNotInD (K : PySem.W.Frag) : R2 := fun x y H Q => (fun x y H Q => ∃ (c : Nat) (z : Str), x = V.str ⟨#[c]⟩ ∧ y = .str z ∧ Q (.bl (!decide (c ∈ z.cps.toList))) H) x y H Q ∨ rIn K true x y H Q
theorem op_inD : OpR X (compareOp .In) (rInD X.K) := op_in_sign.or op_in_seq
theorem op_notInD : OpR X (compareOp .NotIn) (rNotInD X.K) := op_notIn_sign.or op_notIn_seq
theorem od_in : OpD K (rInD K) fIn := by
  intro G H P x y dx dy Qd Q w rx ry q k
  cases ry with
  | str z =>
    cases rx with
    | str s =>
      obtain ⟨c, rfl, q⟩ := q
      exact .inl ⟨c, z, rfl, rfl, k.here w (.bl _) q⟩
    | _ => exact q.elim
  | @tup a xs ds h1 h2 h3 =>
    have q' : dx.flat = true ∧ ds.all D.flat = true ∧ Qd (.bl (dx.inF ds)) := by cases rx <;> exact q
    obtain ⟨f1, f2, q⟩ := q'
    exact .inr ⟨_, _, rfl, .inr (sqt_mono w.gh h1), rx.flatV f1, h2.flatV f2, by rw [if_neg Bool.false_ne_true, RepL.inV rx f1 h2 f2]; exact k.here w (.bl _) q⟩
  | @lst a xs ds h1 h2 h3 =>
    have q' : dx.flat = true ∧ ds.all D.flat = true ∧ Qd (.bl (dx.inF ds)) := by cases rx <;> exact q
    obtain ⟨f1, f2, q⟩ := q'
    exact .inr ⟨_, _, rfl, .inl (.inl (.inl (w.gh _ _ h1))), rx.flatV f1, h2.flatV f2, by rw [if_neg Bool.false_ne_true, RepL.inV rx f1 h2 f2]; exact k.here w (.bl _) q⟩
  | _ => exact (show False by cases rx <;> exact q).elim
theorem od_notIn : OpD K (rNotInD K) fNotIn := by
  intro G H P x y dx dy Qd Q w rx ry q k
  cases ry with
  | str z =>
    cases rx with
    | str s =>
      obtain ⟨c, rfl, q⟩ := q
      exact .inl ⟨c, z, rfl, rfl, k.here w (.bl _) q⟩
    | _ => exact q.elim
  | @tup a xs ds h1 h2 h3 =>
    have q' : dx.flat = true ∧ ds.all D.flat = true ∧ Qd (.bl (!dx.inF ds)) := by cases rx <;> exact q
    obtain ⟨f1, f2, q⟩ := q'
    exact .inr ⟨_, _, rfl, .inr (sqt_mono w.gh h1), rx.flatV f1, h2.flatV f2, by rw [if_pos rfl, RepL.inV rx f1 h2 f2]; exact k.here w (.bl _) q⟩
  | @lst a xs ds h1 h2 h3 =>
    have q' : dx.flat = true ∧ ds.all D.flat = true ∧ Qd (.bl (!dx.inF ds)) := by cases rx <;> exact q
    obtain ⟨f1, f2, q⟩ := q'
    exact .inr ⟨_, _, rfl, .inl (.inl (.inl (w.gh _ _ h1))), rx.flatV f1, h2.flatV f2, by rw [if_pos rfl, RepL.inV rx f1 h2 f2]; exact k.here w (.bl _) q⟩
  | _ => exact (show False by cases rx <;> exact q).elim
end
/-! ### minus, as a value -/
def dNeg (ta : DT) : DT := fun δ Q => ta δ fun x => match x with
  | .int i => Q (.int (-i))
  | _ => False
section
variable {X : Cx} {B : Base} {e a b c : Expr} {es rest : List Expr} {ta tb tc : DT} {te : DTA} {t u : DTT} {pos : Pos} {n : Nat}
theorem de_neg (ha : DE X B a ta) : DE X B (.UnaryOp .USub a pos) (dNeg ta) := (pe_un un_neg ha).mono fun σ H Q q => by
  obtain ⟨G, P, δ, Qd, w, q, k⟩ := q
  refine ⟨G, P, δ, _, w, q, fun v G1 H1 P1 d s1 ok1 r1 q1 => ?_⟩
  cases r1 with
  | int i => exact ⟨i, rfl, k _ _ _ _ _ s1 ok1 (.int _) q1⟩
  | _ => exact q1.elim

/-! ### tests -/
def dAnd (t u : DTT) : DTT := fun δ Q => t δ fun c => if c = true then u δ Q else Q false
def dOr (t u : DTT) : DTT := fun δ Q => t δ fun c => if c = true then Q true else u δ Q
def dNot (t : DTT) : DTT := fun δ Q => t δ fun c => Q (!c)
theorem dw_and1 (ha : DTe X B a t) : DW X B (.BoolOp .And [a] pos) t := pw_and1 ha
theorem dw_or1 (ha : DTe X B a t) : DW X B (.BoolOp .Or [a] pos) t := pw_or1 ha
theorem dw_and (ha : DTe X B a t) (hb : DW X B (.BoolOp .And (b :: rest) pos) u) : DW X B (.BoolOp .And (a :: b :: rest) pos) (dAnd t u) := (pw_and ha hb).mono fun σ H Q q => by
  obtain ⟨G, P, δ, Qd, w, hv, q, k⟩ := liftT_view q
  refine ⟨G, P, δ, _, w, by rw [hv]; exact q, fun b G1 H1 P1 s1 ok1 q1 => ?_⟩
  cases b with
  | true =>
    rw [if_pos rfl]
    exact ⟨G1, P1, δ, Qd, w.step s1 ok1, by rw [hv]; exact q1, k.step s1⟩
  | false =>
    rw [if_neg (Bool.false_ne_true)]
    exact k _ _ _ _ s1 ok1 q1
theorem dw_or (ha : DTe X B a t) (hb : DW X B (.BoolOp .Or (b :: rest) pos) u) : DW X B (.BoolOp .Or (a :: b :: rest) pos) (dOr t u) := (pw_or ha hb).mono fun σ H Q q => by
  obtain ⟨G, P, δ, Qd, w, hv, q, k⟩ := liftT_view q
  refine ⟨G, P, δ, _, w, by rw [hv]; exact q, fun b G1 H1 P1 s1 ok1 q1 => ?_⟩
  cases b with
  | true =>
    rw [if_pos rfl]
    exact k _ _ _ _ s1 ok1 q1
  | false =>
    rw [if_neg (Bool.false_ne_true)]
    exact ⟨G1, P1, δ, Qd, w.step s1 ok1, by rw [hv]; exact q1, k.step s1⟩
theorem dt_not (ha : DTe X B a t) : DTe X B (.UnaryOp .Not a pos) (dNot t) := (pt_not ha).mono fun σ H Q q => by
  obtain ⟨G, P, δ, Qd, w, q, k⟩ := q
  exact ⟨G, P, δ, _, w, q, fun b G1 H1 P1 s1 ok1 q1 => k _ _ _ _ s1 ok1 q1⟩
theorem dt_w (h : DW X B e t) : DTe X B e t := h.pt

/-! ### and, or, not as values (True, False); if-expressions -/
def dAndV (ta tb : DT) : DT := fun δ Q => ta δ fun x => match x with
  | .bl c => if c = true then tb δ Q else Q (.bl false)
  | _ => False
def dOrV (ta tb : DT) : DT := fun δ Q => ta δ fun x => match x with
  | .bl c => if c = true then Q (.bl true) else tb δ Q
  | _ => False
def dNotV (ta : DT) : DT := fun δ Q => ta δ fun x => match x with
  | .bl c => Q (.bl (!c))
  | _ => False
def dIfE (t : DTT) (ta tb : DT) : DT := fun δ Q => t (view δ) fun c => if c = true then ta δ Q else tb δ Q
theorem de_one {op} (h : DE X B a ta) : DE X B (.BoolOp op [a] pos) ta := pe_one h
theorem de_and (ha : DE X B a ta) (hb : DE X B (.BoolOp .And (b :: rest) pos) tb) : DE X B (.BoolOp .And (a :: b :: rest) pos) (dAndV ta tb) := (pe_and ha hb).mono fun σ H Q q => by
  obtain ⟨G, P, δ, Qd, w, q, k⟩ := q
  refine ⟨G, P, δ, _, w, q, fun v G1 H1 P1 d s1 ok1 r1 q1 => ?_⟩
  cases r1 with
  | bl c =>
    refine ⟨c, rfl, ?_⟩
    cases c with
    | true =>
      rw [if_pos rfl]
      exact ⟨G1, P1, δ, Qd, w.step s1 ok1, q1, k.step s1⟩
    | false =>
      rw [if_neg (Bool.false_ne_true)]
      exact k _ _ _ _ _ s1 ok1 (.bl false) q1
  | _ => exact q1.elim
theorem de_or (ha : DE X B a ta) (hb : DE X B (.BoolOp .Or (b :: rest) pos) tb) : DE X B (.BoolOp .Or (a :: b :: rest) pos) (dOrV ta tb) := (pe_or ha hb).mono fun σ H Q q => by
  obtain ⟨G, P, δ, Qd, w, q, k⟩ := q
  refine ⟨G, P, δ, _, w, q, fun v G1 H1 P1 d s1 ok1 r1 q1 => ?_⟩
  cases r1 with
  | bl c =>
    refine ⟨c, rfl, ?_⟩
    cases c with
    | true =>
      rw [if_pos rfl]
      exact k _ _ _ _ _ s1 ok1 (.bl true) q1
    | false =>
      rw [if_neg (Bool.false_ne_true)]
      exact ⟨G1, P1, δ, Qd, w.step s1 ok1, q1, k.step s1⟩
  | _ => exact q1.elim
theorem de_not (ha : DE X B a ta) : DE X B (.UnaryOp .Not a pos) (dNotV ta) := (pe_not ha).mono fun σ H Q q => by
  obtain ⟨G, P, δ, Qd, w, q, k⟩ := q
  refine ⟨G, P, δ, _, w, q, fun v G1 H1 P1 d s1 ok1 r1 q1 => ?_⟩
  cases r1 with
  | bl c => exact ⟨c, rfl, k _ _ _ _ _ s1 ok1 (.bl _) q1⟩
  | _ => exact q1.elim
theorem de_if (hc : DTe X B c t) (ha : DE X B a ta) (hb : DE X B b tb) : DE X B (.IfExp c a b pos) (dIfE t ta tb) := (pe_ifExp hc ha hb).mono fun σ H Q q => by
  obtain ⟨G, P, δ, Qd, w, q, k⟩ := q
  refine ⟨G, P, δ, _, w, q, fun b G1 H1 P1 s1 ok1 q1 => ?_⟩
  cases b with
  | true =>
    rw [if_pos rfl]
    exact ⟨G1, P1, δ, Qd, w.step s1 ok1, q1, k.step s1⟩
  | false =>
    rw [if_neg (Bool.false_ne_true)]
    exact ⟨G1, P1, δ, Qd, w.step s1 ok1, q1, k.step s1⟩

/-! ### arguments, displays -/
def dNil : DTA := fun _ Q => Q []
def dCons (ta : DT) (tr : DTA) : DTA := fun δ Q => ta δ fun x => tr δ fun xs => Q (x :: xs)
def dTup (ta : DTA) : DT := fun δ Q => ta δ fun ds => Q (.tup ds)
def dLst (ta : DTA) : DT := fun δ Q => ta δ fun ds => Q (.lst ds)
theorem da_nil : DA X B [] 0 dNil := pa_nil.mono fun σ H Q q => by
  obtain ⟨G, P, δ, Qd, w, q, k⟩ := q
  exact k _ _ _ _ _ .refl w.ok .nil rfl q
theorem da_cons (ha : DE X B e ta) (hr : DA X B es n te) (hs : starEach (e :: es) X.env = (false, eval e X.env) :: starEach es X.env := by rfl) : DA X B (e :: es) (n + 1) (dCons ta te) := (pa_cons ha hr hs).mono fun σ H Q q => by
  obtain ⟨G, P, δ, Qd, w, q, k⟩ := q
  refine ⟨G, P, δ, _, w, q, fun v G1 H1 P1 d s1 ok1 r1 q1 => ?_⟩
  refine ⟨G1, P1, δ, _, w.step s1 ok1, q1, fun vs G2 H2 P2 ds s2 ok2 r2 hl q2 => ?_⟩
  exact k _ _ _ _ _ (s1.trans s2) ok2 (.cons (s2.rep r1) r2) (by simp [hl]) q2
theorem de_tup {x1} (ha : DA X B es n te) (hn : n ≤ sizeLine := by decide) : DE X B (.Tuple es x1 pos) (dTup te) := (pe_tup ha).mono fun σ H Q q => by
  obtain ⟨G, P, δ, Qd, w, q, k⟩ := q
  refine ⟨G, P, δ, _, w, q, fun vs G2 H2 P2 ds s2 ok2 r2 hl q2 => ⟨by rw [r2.length, hl]; exact hn, fun p hp => ?_⟩⟩
  exact (k.step s2).new ok2 hp (.newTup ok2 hp r2 (by rw [hl]; exact hn)) q2
theorem de_lst (ha : DA X B es n te) (hn : n ≤ sizeLine := by decide) : DE X B (.List es pos) (dLst te) := (pe_lst ha).mono fun σ H Q q => by
  obtain ⟨G, P, δ, Qd, w, q, k⟩ := q
  refine ⟨G, P, δ, _, w, q, fun vs G2 H2 P2 ds s2 ok2 r2 hl q2 => ⟨by rw [r2.length, hl]; exact hn, fun p hp => ?_⟩⟩
  exact (k.step s2).new ok2 hp (.newLst ok2 hp r2 (by rw [hl]; exact hn)) q2
end
end FG

/-! FD: statements, targets, loops, comprehensions. -/
namespace FG
open PySem.Spec PySem L2 PyProof.Rows

/-- what follows a statement, told by trees; G0 P0: the world at its start -/
structure KS (K : PySem.W.Frag) (B : Base) (G0 : Hp) (P0 : Addr → Prop) (Dd : DEnds) (D : Ends) : Prop where
  nx : ∀ σ H G P δ, WS K B G H P σ δ → (∀ a o, G0 a = some o → G a = some o) → (∀ a, P0 a → P a) → Dd.nx δ → D.nx σ H
  bk : ∀ σ H G P δ, WS K B G H P σ δ → (∀ a o, G0 a = some o → G a = some o) → (∀ a, P0 a → P a) → Dd.bk δ → D.bk σ H
  ct : ∀ σ H G P δ, WS K B G H P σ δ → (∀ a o, G0 a = some o → G a = some o) → (∀ a, P0 a → P a) → Dd.ct δ → D.ct σ H
  rt : ∀ v H G P d, WOk G H P → Since B G H P → Rep K G P v d → Dd.rt d → D.rt v H
def liftS (K : PySem.W.Frag) (B : Base) (t : DTS) : TS := fun D σ H => ∃ G P δ Dd, WS K B G H P σ δ ∧ t Dd δ ∧ KS K B G P Dd D
abbrev DS (X : Cx) (B : Base) (s : Stmt) (t : DTS) : Prop := PS X s (liftS X.K B t)
abbrev DSs (X : Cx) (B : Base) (s : List Stmt) (t : DTS) : Prop := PSs X s (liftS X.K B t)

def dNext : DTS := fun D δ => D.nx δ
def dSeq (t u : DTS) : DTS := fun D δ => t { D with nx := u D } δ
def dNever : DTS := fun _ _ => False
def dBreak : DTS := fun D δ => D.bk δ
def dCont : DTS := fun D δ => D.ct δ
def dIf (c : DTT) (t u : DTS) : DTS := fun D δ => c (view δ) fun b => if b = true then t D δ else u D δ
def dRet (t : DT) : DTS := fun D δ => t (view δ) D.rt
def dRetN : DTS := fun D _ => D.rt .non
def dDrop (t : DT) : DTS := fun D δ => t δ fun _ => D.nx δ
/-- own things stay from now on -/
def dView (t : DTS) : DTS := fun D δ => t D (view δ)

section
variable {K : PySem.W.Frag} {B : Base} {G H G' H' : Hp} {P P' : Addr → Prop} {Dd : DEnds} {D : Ends}
theorem KS.step (k : KS K B G P Dd D) (gg : ∀ a o, G a = some o → G' a = some o) (pp : ∀ a, P a → P' a) : KS K B G' P' Dd D :=
  ⟨fun σ H G2 P2 δ w g p => k.nx σ H G2 P2 δ w (fun a o h => g a o (gg a o h)) (fun a h => p a (pp a h)), fun σ H G2 P2 δ w g p => k.bk σ H G2 P2 δ w (fun a o h => g a o (gg a o h)) (fun a h => p a (pp a h)),
    fun σ H G2 P2 δ w g p => k.ct σ H G2 P2 δ w (fun a o h => g a o (gg a o h)) (fun a h => p a (pp a h)), k.rt⟩
end

section
variable {X : Cx} {B : Base} {s : Stmt} {rest sa sb : List Stmt} {e a b c : Expr} {ta tb : DT} {tc : DTT} {t u : DTS} {pos : Pos}
theorem dss_nil : DSs X B [] dNext := pss_nil.mono fun D σ H q => by
  obtain ⟨G, P, δ, Dd, w, q, k⟩ := q
  exact k.nx σ H G P δ w (fun _ _ h => h) (fun _ h => h) q
theorem lift_seq {K : PySem.W.Frag} (D : Ends) (σ : L2.St) (H : Hp) (q : liftS K B (dSeq t u) D σ H) : tSeq (liftS K B t) (liftS K B u) D σ H := by
  obtain ⟨G, P, δ, Dd, w, q, k⟩ := q
  exact ⟨G, P, δ, { Dd with nx := u Dd }, w, q, ⟨fun σ' H' G' P' δ' w' g p q' => ⟨G', P', δ', Dd, w', q', k.step g p⟩, k.bk, k.ct, k.rt⟩⟩
theorem dss_cons (h1 : DS X B s t) (h2 : DSs X B rest u) : DSs X B (s :: rest) (dSeq t u) := (pss_cons h1 h2).mono fun D σ H q => lift_seq D σ H q
theorem dss_one (h1 : DS X B s t) : DSs X B [s] t := pss_one h1
theorem ds_never : DS X B s dNever := ps_never.mono fun D σ H q => by
  obtain ⟨G, P, δ, Dd, w, q, k⟩ := q
  exact q.elim
theorem dss_never : DSs X B rest dNever := pss_never.mono fun D σ H q => by
  obtain ⟨G, P, δ, Dd, w, q, k⟩ := q
  exact q.elim
theorem ds_pass : DS X B (.Pass pos) dNext := ps_pass.mono fun D σ H q => by
  obtain ⟨G, P, δ, Dd, w, q, k⟩ := q
  exact k.nx σ H G P δ w (fun _ _ h => h) (fun _ h => h) q
theorem ds_break : DS X B (.Break pos) dBreak := ps_break.mono fun D σ H q => by
  obtain ⟨G, P, δ, Dd, w, q, k⟩ := q
  exact k.bk σ H G P δ w (fun _ _ h => h) (fun _ h => h) q
theorem ds_cont : DS X B (.Continue pos) dCont := ps_continue.mono fun D σ H q => by
  obtain ⟨G, P, δ, Dd, w, q, k⟩ := q
  exact k.ct σ H G P δ w (fun _ _ h => h) (fun _ h => h) q
theorem ds_if (hc : DTe X B c tc) (ha : DSs X B sa t) (hb : DSs X B sb u) : DS X B (.If c sa sb pos) (dIf tc t u) := (ps_if hc ha hb).mono fun D σ H q => by
  obtain ⟨G, P, δ, Dd, w, q, k⟩ := q
  refine ⟨G, P, δ, _, w, q, fun b G1 H1 P1 s1 ok1 q1 => ?_⟩
  cases b with
  | true =>
    rw [if_pos rfl]
    exact ⟨G1, P1, δ, Dd, w.step s1 ok1, q1, k.step s1.gg s1.pp⟩
  | false =>
    rw [if_neg (Bool.false_ne_true)]
    exact ⟨G1, P1, δ, Dd, w.step s1 ok1, q1, k.step s1.gg s1.pp⟩
theorem ds_ret (he : DE X B e ta) : DS X B (.Return (some e) pos) (dRet ta) := (ps_ret he).mono fun D σ H q => by
  obtain ⟨G, P, δ, Dd, w, q, k⟩ := q
  obtain ⟨G0, w0, gg⟩ := w.view
  exact ⟨G0, P, _, _, w0, q, fun v G1 H1 P1 d s1 ok1 r1 q1 => k.rt v H1 G1 P1 d ok1 (w0.since.step s1) r1 q1⟩
theorem ds_retN : DS X B (.Return none pos) dRetN := ps_retN.mono fun D σ H q => by
  obtain ⟨G, P, δ, Dd, w, q, k⟩ := q
  exact k.rt _ H G P _ w.ok w.since .non q
theorem ds_expr (he : DE X B e ta) (hs : swapsWith e none pos.line X.env = pure false := by rfl) : DS X B (.Expr e pos) (dDrop ta) := (ps_expr he hs).mono fun D σ H q => by
  obtain ⟨G, P, δ, Dd, w, q, k⟩ := q
  exact ⟨G, P, δ, _, w, q, fun v G1 H1 P1 d s1 ok1 r1 q1 => k.nx σ H1 G1 P1 δ (w.step s1 ok1) s1.gg s1.pp q1⟩
theorem ds_view (h : DS X B s t) : DS X B s (dView t) := h.mono fun D σ H q => by
  obtain ⟨G, P, δ, Dd, w, q, k⟩ := q
  obtain ⟨G0, w0, gg⟩ := w.view
  exact ⟨G0, P, _, Dd, w0, q, k.step gg fun _ h => h⟩
end

/-! ### targets: names, tuples of names -/
inductive Tgt where
  | nm (i : Nat) | tp (ts : List Tgt)
mutual
def gT : Tgt → D → DSt → (DSt → Prop) → Prop
  | .nm i, d, δ, Q => Q (δ.set i (some (.val d)))
  | .tp ts, .tup ds, δ, Q => gTs ts ds δ Q
  | .tp ts, .lst ds, δ, Q => gTs ts ds δ Q
  | .tp _, _, _, _ => False
def gTs : List Tgt → List D → DSt → (DSt → Prop) → Prop
  | [], [], δ, Q => Q δ
  | t :: ts, d :: ds, δ, Q => gT t d δ fun δ' => gTs ts ds δ' Q
  | [], _ :: _, _, _ => False
  | _ :: _, [], _, _ => False
end
mutual
def Tgt.slots : Tgt → List Nat
  | .nm i => [i]
  | .tp ts => slotsL ts
def slotsL : List Tgt → List Nat
  | [] => []
  | t :: ts => t.slots ++ slotsL ts
end
/-- but for these slots nothing has changed -/
def But (is : List Nat) (σ σ' : L2.St) : Prop := σ'.length = σ.length ∧ ∀ i, i ∉ is → σ'[i]? = σ[i]?
def liftG (K : PySem.W.Frag) (B : Base) (t : Tgt) : TG := fun v σ H Q => ∃ G P δ d Qd, WS K B G H P σ δ ∧ Rep K G P v d ∧ gT t d δ Qd ∧ ∀ σ' δ', WS K B G H P σ' δ' → But t.slots σ σ' → Qd δ' → Q σ' H
def liftGs (K : PySem.W.Frag) (B : Base) (ts : List Tgt) : TGs := fun vs σ H Q => ∃ G P δ ds Qd, WS K B G H P σ δ ∧ RepL K G P vs ds ∧ gTs ts ds δ Qd ∧ ∀ σ' δ', WS K B G H P σ' δ' → But (slotsL ts) σ σ' → Qd δ' → Q σ' H
abbrev DG (X : Cx) (B : Base) (tg : Expr) (t : Tgt) : Prop := PG X tg (liftG X.K B t)
abbrev DGs (X : Cx) (B : Base) (tg : List Expr) (t : List Tgt) : Prop := PGs X tg (liftGs X.K B t)
theorem gTs_len : ∀ {ts : List Tgt} {ds : List D} {δ : DSt} {Q : DSt → Prop}, gTs ts ds δ Q → (∃ δ', Q δ') → True := fun _ _ => trivial
section
variable {X : Cx} {B : Base} {e : Expr} {es : List Expr} {t : Tgt} {ts : List Tgt} {pos : Pos} {tgv : TG} {tgs : TGs}
theorem _root_.L2.PG.mono {t u : TG} (h : PG X e t) (i : ∀ v σ H Q, u v σ H Q → t v σ H Q) : PG X e u := ⟨fun pins s σ H v w Q I r q => h.run pins s σ H v w Q I r (i v σ H Q q)⟩
theorem _root_.L2.PGs.mono {t u : TGs} (h : PGs X es t) (i : ∀ v σ H Q, u v σ H Q → t v σ H Q) : PGs X es u := ⟨fun pins s σ H v w Q I r q => h.run pins s σ H v w Q I r (i v σ H Q q)⟩
theorem But.set {i : Nat} {σ : L2.St} {v : Option V} : But [i] σ (σ.set i v) := ⟨by simp, fun j hj => List.getElem?_set_ne (fun z => hj (by simp [z]))⟩
theorem dg_name {i : Nat} (h : PG X e (gName i)) : DG X B e (.nm i) := h.mono fun v σ H Q q => by
  obtain ⟨G, P, δ, d, Qd, w, r, q, k⟩ := q
  exact k _ _ (w.set r i) But.set (by unfold gT at q; exact q)
theorem dgs_nil : DGs X B [] [] := pgs_nil.mono fun vs σ H Q q => by
  obtain ⟨G, P, δ, ds, Qd, w, r, q, k⟩ := q
  cases r with
  | nil => exact ⟨rfl, k _ _ w ⟨rfl, fun _ _ => rfl⟩ (by unfold gTs at q; exact q)⟩
  | cons a b => unfold gTs at q; exact q.elim
theorem dgs_cons (h1 : DG X B e t) (h2 : DGs X B es ts) (hs : (assignEach (e :: es) X.env).map (·.2) = assign e X.env :: (assignEach es X.env).map (·.2) := by rfl) : DGs X B (e :: es) (t :: ts) := (pgs_cons h1 h2 hs).mono fun vs σ H Q q => by
  obtain ⟨G, P, δ, ds, Qd, w, r, q, k⟩ := q
  cases r with
  | nil => unfold gTs at q; exact q.elim
  | cons a b =>
    unfold gTs at q
    refine ⟨_, _, rfl, G, P, δ, _, _, w, a, q, fun σ' δ' w' bt q' => ?_⟩
    refine ⟨G, P, δ', _, Qd, w', b, q', fun σ2 δ2 w2 bt2 q2 => k σ2 δ2 w2 ⟨bt2.1.trans bt.1, fun i hi => ?_⟩ q2⟩
    have hi' : i ∉ t.slots ∧ i ∉ slotsL ts := by
      simp only [slotsL, List.mem_append, not_or] at hi
      exact hi
    rw [bt2.2 i hi'.2, bt.2 i hi'.1]
theorem _root_.L2.PG.or {t u : TG} (h : PG X e t) (h' : PG X e u) : PG X e (fun v σ H Q => t v σ H Q ∨ u v σ H Q) := ⟨fun pins s σ H v w Q I r q => by
  rcases q with q | q
  · exact h.run pins s σ H v w Q I r q
  · exact h'.run pins s σ H v w Q I r q⟩
theorem dg_tup {k : Nat} (hc : X.calm = true) (h : DGs X B es ts) (hn : (assignEach es X.env).length = ts.length := by rfl) (hst : (assignEach es X.env).findIdx? (·.1) = none := by rfl) : DG X B (.Tuple es k pos) (.tp ts) :=
  ((pg_tup hc h hn hst).or (pg_lst hc h hn hst)).mono fun v σ H Q q => by
    obtain ⟨G, P, δ, d, Qd, w, r, q, k⟩ := q
    have hl : ∀ {ts : List Tgt} {ds : List D} {δ : DSt} {Q : DSt → Prop}, gTs ts ds δ Q → ts.length = ds.length := by
      intro ts
      induction ts with
      | nil => intro ds δ Q h; cases ds with
        | nil => rfl
        | cons _ _ => unfold gTs at h; exact h.elim
      | cons t ts ih => intro ds δ Q h; cases ds with
        | nil => unfold gTs at h; exact h.elim
        | cons d ds =>
          unfold gTs at h
          have aux : ∀ (t : Tgt) (d : D) (δ : DSt) (Q : DSt → Prop), gT t d δ Q → ∃ δ', Q δ' := by
            intro t
            refine Tgt.rec (motive_1 := fun t => ∀ (d : D) (δ : DSt) (Q : DSt → Prop), gT t d δ Q → ∃ δ', Q δ') (motive_2 := fun ts => ∀ (ds : List D) (δ : DSt) (Q : DSt → Prop), gTs ts ds δ Q → ∃ δ', Q δ') ?_ ?_ ?_ ?_ t
            · intro i d δ Q h; unfold gT at h; exact ⟨_, h⟩
            · intro ts ih d δ Q h
              cases d <;> first | (unfold gT at h; exact ih _ _ _ h) | (unfold gT at h; exact h.elim)
            · intro ds δ Q h; cases ds with
              | nil => unfold gTs at h; exact ⟨_, h⟩
              | cons _ _ => unfold gTs at h; exact h.elim
            · intro t ts ih1 ih2 ds δ Q h; cases ds with
              | nil => unfold gTs at h; exact h.elim
              | cons d ds =>
                unfold gTs at h
                obtain ⟨δ', h⟩ := ih1 _ _ _ h
                exact ih2 _ _ _ h
          obtain ⟨δ', h⟩ := aux _ _ _ _ h
          simp [ih h]
    have bs : (Tgt.tp ts).slots = slotsL ts := by unfold Tgt.slots; rfl
    rw [bs] at k
    cases r with
    | tup a b c =>
      unfold gT at q
      exact .inl ⟨_, _, rfl, sqt_mono w.ok.gh a, by rw [b.length, ← hl q], G, P, δ, _, Qd, w, b, q, k⟩
    | lst a b c =>
      unfold gT at q
      exact .inr ⟨_, _, rfl, .inl (.inl (w.ok.gh _ _ a)), by rw [b.length, ← hl q], G, P, δ, _, Qd, w, b, q, k⟩
    | _ => unfold gT at q; exact q.elim
end

/-! ### assignments -/
def dAsg (t : DT) (g : Tgt) : DTS := fun D δ => t δ fun d => gT g d δ D.nx
/-- a value that needs no place: own things may be looked at on the way -/
def D.scal : D → Bool
  | .non | .bl _ | .int _ | .str _ => true
  | _ => false
def dAsgV (t : DT) (i : Nat) : DTS := fun D δ => t (view δ) fun d => d.scal = true ∧ D.nx (δ.set i (some (.val d)))
section
variable {X : Cx} {B : Base} {tg e : Expr} {g : Tgt} {ta : DT} {pos : Pos}
theorem ds_asg (he : DE X B e ta) (hg : DG X B tg g) (hs : swapsWithSole [tg] e pos.line X.env = pure false := by rfl) (hw : swappedStores [tg] e X.env = pure none := by rfl)
    (h1 : (assignEach [tg] X.env).map (·.2) = [assign tg X.env] := by rfl) : DS X B (.Assign [tg] e pos) (dAsg ta g) := (ps_asg he hg hs hw h1).mono fun D σ H q => by
  obtain ⟨G, P, δ, Dd, w, q, k⟩ := q
  refine ⟨G, P, δ, _, w, q, fun v G1 H1 P1 d s1 ok1 r1 q1 => ?_⟩
  exact ⟨G1, P1, δ, d, Dd.nx, w.step s1 ok1, r1, q1, fun σ' δ' w' _ q' => k.nx σ' H1 G1 P1 δ' w' s1.gg s1.pp q'⟩
theorem Rep.scal {K : PySem.W.Frag} {G G' : Hp} {P P' : Addr → Prop} {v : V} {d : D} (r : Rep K G P v d) (h : d.scal = true) : Rep K G' P' v d := by
  cases r <;> first | exact .non | exact .bl _ | exact .int _ | exact .str _ | cases h
theorem ds_asgV {i : Nat} (he : DE X B e ta) (hg : PG X tg (gName i)) (hs : swapsWithSole [tg] e pos.line X.env = pure false := by rfl) (hw : swappedStores [tg] e X.env = pure none := by rfl)
    (h1 : (assignEach [tg] X.env).map (·.2) = [assign tg X.env] := by rfl) : DS X B (.Assign [tg] e pos) (dAsgV ta i) := (ps_asg he hg hs hw h1).mono fun D σ H q => by
  obtain ⟨G, P, δ, Dd, w, q, k⟩ := q
  obtain ⟨G0, w0, gg⟩ := w.view
  refine ⟨G0, P, _, _, w0, q, fun v G1 H1 P1 d s1 ok1 r1 q1 => ?_⟩
  obtain ⟨s2, ok2⟩ := unview w.ok gg s1 ok1
  exact k.nx _ H1 G P1 _ ((w.step s2 ok2).set (r1.scal q1.1) i) (fun _ _ h => h) s2.pp q1.2
end

/-! ### what a for, a comprehension walks -/
abbrev DTI := DSt → (List D → Prop) → Prop
structure DWalk (K : PySem.W.Frag) (J : It) (items : List D) (G1 : Hp) (P1 : Addr → Prop) : Prop where
  ex : ∃ Gp Y, Walk J items.length Gp Y ∧ (∀ G H P, WOk G H P → (∀ a o, G1 a = some o → G a = some o) → Gp H) ∧
    ∀ i v H H' G P, i < items.length → WOk G H P → (∀ a o, G1 a = some o → G a = some o) → (∀ a, P1 a → P a) → Y i H v H' → ∃ G' d, Stp G H P G' H' P ∧ WOk G' H' P ∧ items[i]? = some d ∧ Rep K G' P v d
  line : items.length ≤ sizeLine
def liftI (K : PySem.W.Frag) (B : Base) (ti : DTI) : TI := fun σ H R => ∃ G P δ Qi, WS K B G H P σ δ ∧ ti δ Qi ∧ ∀ J G1 H1 P1 items, Stp G H P G1 H1 P1 → WOk G1 H1 P1 → DWalk K J items G1 P1 → Qi items → R J H1
abbrev DI (X : Cx) (B : Base) (tg iter : Expr) (ti : DTI) : Prop := PI X tg iter (liftI X.K B ti)
theorem _root_.L2.PI.mono {X : Cx} {tg iter : Expr} {t u : TI} (h : PI X tg iter t) (i : ∀ σ H Q, u σ H Q → t σ H Q) : PI X tg iter u := ⟨fun pins s σ H R I q => h.run pins s σ H R I (i σ H R q)⟩
/-- a list or a tuple -/
def iSeq (t : DT) : DTI := fun δ Q => t δ fun d => match d with
  | .lst ds => Q ds
  | .tup ds => Q ds
  | _ => False
theorem DWalk.list {K : PySem.W.Frag} {G : Hp} {P : Addr → Prop} {a : Addr} {xs : List V} {ds : List D} (h : G a = some (.lst xs)) (r : RepL K G P xs ds) (z : ds.length ≤ sizeLine) : DWalk K (Itl K a) ds G P := by
  refine ⟨⟨_, _, (by rw [← r.length]; exact walk_list (xs := xs)), fun G2 H P2 ok gg => Or.inl (Or.inl (ok.gh _ _ (gg _ _ h))), fun i v H H' G2 P2 hi ok gg pp y => ?_⟩, z⟩
  obtain ⟨rfl, e⟩ := y
  obtain ⟨d, e2, r2⟩ := r.get' e
  exact ⟨G2, d, .refl, ok, e2, r2.mono gg pp⟩
theorem DWalk.tup {K : PySem.W.Frag} {G : Hp} {P : Addr → Prop} {a : Addr} {xs : List V} {ds : List D} (h : SqT K G a xs) (r : RepL K G P xs ds) (z : ds.length ≤ sizeLine) : DWalk K (Itt K a) ds G P := by
  refine ⟨⟨_, _, (by rw [← r.length]; exact walk_tup (xs := xs)), fun G2 H P2 ok gg => sqt_mono ok.gh (sqt_mono gg h), fun i v H H' G2 P2 hi ok gg pp y => ?_⟩, z⟩
  obtain ⟨rfl, e⟩ := y
  obtain ⟨d, e2, r2⟩ := r.get' e
  exact ⟨G2, d, .refl, ok, e2, r2.mono gg pp⟩
section
variable {X : Cx} {B : Base} {tg iter e : Expr} {es : List Expr} {ta tb : DT} {te : DTA} {pos : Pos}
theorem _root_.L2.PI.or {t u : TI} (h : PI X tg iter t) (h' : PI X tg iter u) : PI X tg iter (fun σ H Q => t σ H Q ∨ u σ H Q) := ⟨fun pins s σ H R I q => by
  rcases q with q | q
  · exact h.run pins s σ H R I q
  · exact h'.run pins s σ H R I q⟩
/-- a list, a tuple: which of them is known when the value is there -/
def iSq (K : PySem.W.Frag) (tl : TE) : TI := fun σ H R => tl σ H fun x H1 => ∃ a, x = .ref a ∧ (((∃ xs, SqL K H1 a xs) ∧ R (Itl K a) H1) ∨ ((∃ xs, SqT K H1 a xs) ∧ R (Itt K a) H1))
/-- iter(..) of a list, of a tuple that are in hand -/
theorem seq_iter {pins : List (Addr × Obj)} {σ : L2.St} {H : Hp} {s : Shared} {R : It → Hp → Prop} {a : Addr} (I : Inv X pins σ H s)
    (h : ((∃ xs, SqL X.K H a xs) ∧ R (Itl X.K a) H) ∨ ((∃ xs, SqT X.K H a xs) ∧ R (Itt X.K a) H)) : wpAny (model X.prog X.w) X.A (pyIter (.ref a)) (PIE X pins σ tg R) X.xe s := by
  have sz : ∀ b ∈ [s.heap.objs.size], FpOk X pins H b := by
    intro b hb
    cases List.mem_singleton.mp hb
    exact (I.fpOk (Nat.le_refl _) (I.hok.fresh (Nat.le_refl _)))
  have kp : ∀ {o : Obj}, Inv X pins σ H { s with heap := s.heap.push o, toks := s.toks } := fun {o} => Inv.kept I (fun c u e => Heap.get?_push_of_some o e)
  rcases h with ⟨⟨xs, m⟩, q⟩ | ⟨⟨xs, m⟩, q⟩
  · obtain ⟨us, _, pl, _⟩ := I.list m
    apply wpAny_pyIter_list pl.isList
    exact ⟨_, [s.heap.objs.size], _, _, H, rfl, kp, turn_list a _, ⟨_, Heap.get?_push_size _ rfl, rfl, rfl⟩, sz, q⟩
  · obtain ⟨us, _, pl, _⟩ := I.tuple m
    apply wpAny_pyIter_tuple (t := a) pl
    exact ⟨_, [s.heap.objs.size], _, _, H, rfl, kp, turn_tuple a _, ⟨_, Heap.get?_push_size _ rfl, rfl, rfl⟩, sz, q⟩
theorem pi_sq {tl : TE} (hl : PE X iter tl) : PI X tg iter (iSq X.K tl) := by
  constructor
  intro pins s σ H R I h
  refine thn (hl.run _ _ _ _ _ I h) ?_
  rintro v s1 ⟨x, H1, I1, r1, a, rfl, q⟩
  cases r1
  exact seq_iter I1 q
theorem di_seq (hl : DE X B iter ta) : DI X B tg iter (iSeq ta) := (pi_sq hl).mono fun σ H R q => by
  obtain ⟨G, P, δ, Qi, w, q, k⟩ := q
  refine ⟨G, P, δ, _, w, q, fun v G1 H1 P1 d s1 ok1 r1 q1 => ?_⟩
  cases r1 with
  | lst a b c => exact ⟨_, rfl, .inl ⟨⟨_, .inl (.inl (ok1.gh _ _ a))⟩, k _ _ _ _ _ s1 ok1 (DWalk.list a b c) q1⟩⟩
  | tup a b c => exact ⟨_, rfl, .inr ⟨⟨_, sqt_mono ok1.gh a⟩, k _ _ _ _ _ s1 ok1 (DWalk.tup a b c) q1⟩⟩
  | _ => exact q1.elim

/-! ### for, while -/
def dLoop (tg : Tgt) (tb : DTS) (D : DEnds) : List FG.D → DSt → Prop
  | [], δ => D.nx δ
  | x :: xs, δ => gT tg x δ fun δ' => tb { D with nx := dLoop tg tb D xs, ct := dLoop tg tb D xs, bk := D.nx } δ'
def dFor (ti : DTI) (tg : Tgt) (tb : DTS) : DTS := fun D δ => ti δ fun items => dLoop tg tb D items δ
theorem ds_for {body : List Stmt} {ti : DTI} {g : Tgt} {tb : DTS} (hp : PassesOwn (model X.prog X.w) X.A X.env X.xe) (hc : X.calm = true) (hi : DI X B tg iter ti) (hg : DG X B tg g) (hb : DSs X B body tb)
    (hs : ∀ x, foldedSetIterable iter X.env x = pure x := by intro _; rfl) : DS X B (.For tg iter body [] pos) (dFor ti g tb) := (ps_for hp hc hi hg hb hs).mono fun D σ H q => by
  obtain ⟨G, P, δ, Dd, w, q, k⟩ := q
  refine ⟨G, P, δ, _, w, q, fun J G1 H1 P1 items s1 ok1 wk q1 => ?_⟩
  obtain ⟨Gp, Y, wk1, gp, yl⟩ := wk.ex
  refine for_it wk1 (fun i σ H => ∃ G P δ, WS X.K B G H P σ δ ∧ (∀ a o, G1 a = some o → G a = some o) ∧ (∀ a, P1 a → P a) ∧ dLoop g tb Dd (items.drop i) δ) ⟨G1, P1, δ, w.step s1 ok1, fun _ _ h => h, fun _ h => h, by simpa using q1⟩
    (fun i σ H _ ⟨G, P, δ, w, gg, pp, _⟩ => gp G H P w.ok gg) ?_ ?_
  · rintro i x σ H H' hi ⟨G2, P2, δ2, w2, gg, pp, q2⟩ y
    obtain ⟨G3, d, s3, ok3, e3, r3⟩ := yl i x H H' G2 P2 hi w2.ok gg pp y
    have hd : items.drop i = d :: items.drop (i + 1) := by
      rw [List.drop_eq_getElem_cons hi]
      rw [List.getElem?_eq_getElem hi] at e3
      rw [Option.some.inj e3]
    rw [hd] at q2
    unfold dLoop at q2
    refine ⟨G3, P2, δ2, d, _, w2.step s3 ok3, r3, q2, fun σ' δ' w' _ q' => ?_⟩
    have nxt : ∀ σ H G P δ, WS X.K B G H P σ δ → (∀ a o, G3 a = some o → G a = some o) → (∀ a, P2 a → P a) → dLoop g tb Dd (items.drop (i + 1)) δ → ∃ G P δ, WS X.K B G H P σ δ ∧ (∀ a o, G1 a = some o → G a = some o) ∧ (∀ a, P1 a → P a) ∧ dLoop g tb Dd (items.drop (i + 1)) δ :=
      fun σ H G P δ w g p q => ⟨G, P, δ, w, fun a o h => g a o (s3.gg a o (gg a o h)), fun a h => p a (pp a h), q⟩
    refine ⟨G3, P2, δ', _, w', q', ⟨nxt, ?_, nxt, k.rt⟩⟩
    exact fun σ H G P δ w g p q => k.nx σ H G P δ w (fun a o h => g a o (s3.gg a o (gg a o (s1.gg a o h)))) (fun a h => p a (pp a (s1.pp a h))) q
  · rintro σ H ⟨G2, P2, δ2, w2, gg, pp, q2⟩
    rw [List.drop_length] at q2
    unfold dLoop at q2
    exact k.nx σ H G2 P2 δ2 w2 (fun a o h => gg a o (s1.gg a o h)) (fun a h => pp a (s1.pp a h)) q2
def dWh (tc : DTT) (tb : DTS) (D : DEnds) : Nat → DSt → Prop
  | 0, _ => False
  | n + 1, δ => tc (view δ) fun b => if b = true then tb { D with nx := dWh tc tb D n, ct := dWh tc tb D n, bk := D.nx } δ else D.nx δ
def dWhile (tc : DTT) (tb : DTS) : DTS := fun D δ => ∃ n, dWh tc tb D n δ
theorem ds_while {c : Expr} {body : List Stmt} {tc : DTT} {tb : DTS} (hp : PassesOwn (model X.prog X.w) X.A X.env X.xe) (hc : DTe X B c tc) (hb : DSs X B body tb) : DS X B (.While c body [] pos) (dWhile tc tb) := (ps_while hp hc hb).mono fun D σ H q => by
  obtain ⟨G, P, δ, Dd, w, ⟨n, q⟩, k⟩ := q
  refine ⟨fun m σ H => ∃ G' P' δ, WS X.K B G' H P' σ δ ∧ (∀ a o, G a = some o → G' a = some o) ∧ (∀ a, P a → P' a) ∧ dWh tc tb Dd m δ, ⟨n, G, P, δ, w, fun _ _ h => h, fun _ h => h, q⟩, ?_⟩
  rintro m σ H ⟨G2, P2, δ2, w2, gg, pp, q2⟩
  cases m with
  | zero => unfold dWh at q2; exact q2.elim
  | succ m =>
    unfold dWh at q2
    refine ⟨G2, P2, δ2, _, w2, q2, fun b G3 H3 P3 s3 ok3 q3 => ?_⟩
    cases b with
    | false =>
      rw [if_neg (Bool.false_ne_true)]
      exact k.nx σ H3 G3 P3 δ2 (w2.step s3 ok3) (fun a o h => s3.gg a o (gg a o h)) (fun a h => s3.pp a (pp a h)) q3
    | true =>
      rw [if_pos rfl]
      refine ⟨fun σ H => ∃ G' P' δ, WS X.K B G' H P' σ δ ∧ (∀ a o, G a = some o → G' a = some o) ∧ (∀ a, P a → P' a) ∧ dWh tc tb Dd m δ, fun σ' H' h => ⟨m, Nat.lt_succ_self m, h⟩, ?_⟩
      have nxt : ∀ σ H G4 P4 δ, WS X.K B G4 H P4 σ δ → (∀ a o, G3 a = some o → G4 a = some o) → (∀ a, P3 a → P4 a) → dWh tc tb Dd m δ → ∃ G' P' δ, WS X.K B G' H P' σ δ ∧ (∀ a o, G a = some o → G' a = some o) ∧ (∀ a, P a → P' a) ∧ dWh tc tb Dd m δ :=
        fun σ H G4 P4 δ w g p q => ⟨G4, P4, δ, w, fun a o h => g a o (s3.gg a o (gg a o h)), fun a h => p a (s3.pp a (pp a h)), q⟩
      refine ⟨G3, P3, δ2, _, w2.step s3 ok3, q3, ⟨nxt, ?_, nxt, k.rt⟩⟩
      exact fun σ H G4 P4 δ w g p q => k.nx σ H G4 P4 δ w (fun a o h => g a o (s3.gg a o (gg a o h))) (fun a h => p a (s3.pp a (pp a h))) q
end

/-! ### lists that are new: they may change -/
abbrev DTF := DSt → (List D → Prop) → Prop
def liftF (K : PySem.W.Frag) (B : Base) (t : DTF) : TE := fun σ H Q => ∃ G P δ Qd, WS K B G H P σ δ ∧ t δ Qd ∧ ∀ l xs G' H' P' ds, Stp G H P G' H' P' → WOk G' H' P' → H l = none → H' l = some (.lst xs) → RepL K G' P' xs ds → G' l = none → ¬ P' l → ds.length ≤ sizeLine → Qd ds → Q (.ref l) H'
abbrev DF (X : Cx) (B : Base) (e : Expr) (t : DTF) : Prop := PE X e (liftF X.K B t)
/-- the new list stays as it is -/
def dStay (t : DTF) : DT := fun δ Q => t δ fun ds => Q (.lst ds)
section
variable {K : PySem.W.Frag} {B : Base} {G H G1 H1 G' H' : Hp} {P P1 P' : Addr → Prop} {σ : L2.St} {δ : DSt}
theorem Stp.tell (s : Stp G1 H1 P1 G H P) (ok : WOk G H P) {l : Addr} {o : HO} (h1 : H1 l = none) (h : H l = some o) (g : G l = none) (p : ¬ P l) : Stp G1 H1 P1 (upd G l o) H P ∧ WOk (upd G l o) H P := by
  refine ⟨⟨fun a u e => ?_, s.hh, s.dm, s.pp, s.pn, fun a u e => ?_⟩, ⟨fun a u e => ?_, fun a q => ?_, ok.pt⟩⟩
  · have z := s.gg a u e
    rw [upd_ne (ne_of_none z g)]; exact z
  · by_cases q : a = l
    · subst q; exact .inr h1
    · rw [upd_ne q] at e; exact s.gn a u e
  · by_cases q : a = l
    · subst q; rw [upd_same] at e; rw [h]; exact e
    · rw [upd_ne q] at e; exact ok.gh a u e
  · rw [upd_ne (fun z : a = l => p (z ▸ q))]; exact ok.pg a q
theorem Stp.poke (s : Stp G1 H1 P1 G H P) (ok : WOk G H P) {l : Addr} {o : HO} (h1 : H1 l = none) (g : G l = none) (p : ¬ P l) : Stp G1 H1 P1 G (upd H l o) P ∧ WOk G (upd H l o) P := by
  refine ⟨⟨s.gg, fun a u e n => ?_, fun a e => ?_, s.pp, s.pn, s.gn⟩, ⟨fun a u e => ?_, ok.pg, fun a q => ?_⟩⟩
  · rw [upd_ne (ne_of_none e h1)]; exact s.hh a u e n
  · by_cases q : a = l
    · subst q; rw [upd_same]; simp
    · rw [upd_ne q]; exact s.dm a e
  · rw [upd_ne (ne_of_none e g)]; exact ok.gh a u e
  · rw [upd_ne (fun z : a = l => p (z ▸ q))]; exact ok.pt a q
theorem lift_stay {t : DTF} (σ : L2.St) (H : Hp) (Q : VK) (q : lift K B (dStay t) σ H Q) : liftF K B t σ H Q := by
  obtain ⟨G, P, δ, Qd, w, q, k⟩ := q
  refine ⟨G, P, δ, _, w, q, fun l xs G' H' P' ds s ok hl h r g p z q' => ?_⟩
  obtain ⟨s2, ok2⟩ := s.tell ok hl h g p
  exact k _ _ _ _ _ s2 ok2 (.lst upd_same (r.mono (fun a o e => by rw [upd_ne (ne_of_none e g)]; exact e) fun _ h => h) z) q'
end
section
variable {X : Cx} {B : Base} {tg iter e elt : Expr} {es ifs : List Expr} {ta tb : DT} {te : DTA} {tf : DTF} {pos : Pos} {n : Nat}
theorem de_stay (h : DF X B e tf) : DE X B e (dStay tf) := h.mono fun σ H Q q => lift_stay σ H Q q
/-- [a, b, ..] -/
def fLst (te : DTA) : DTF := fun δ Q => te δ Q
theorem df_lst (ha : DA X B es n te) (hn : n ≤ sizeLine := by decide) : DF X B (.List es pos) (fLst te) := (pe_lst ha).mono fun σ H Q q => by
  obtain ⟨G, P, δ, Qd, w, q, k⟩ := q
  refine ⟨G, P, δ, _, w, q, fun vs G2 H2 P2 ds s2 ok2 r2 hl q2 => ⟨by rw [r2.length, hl]; exact hn, fun p hp => ?_⟩⟩
  have hp0 : H p = none := by
    cases z : H p with
    | none => rfl
    | some o => exact absurd hp (s2.dm p (by rw [z]; simp))
  have gp : G2 p = none := by
    cases z : G2 p with
    | none => rfl
    | some o => rw [ok2.gh p o z] at hp; cases hp
  have np : ¬ P2 p := fun z => by
    obtain ⟨i, j, e, _⟩ := ok2.pt p z
    rw [e] at hp; cases hp
  obtain ⟨s3, ok3⟩ := s2.poke ok2 (o := .lst vs) hp0 gp np
  exact k p vs _ _ _ ds s3 ok3 hp0 upd_same r2 gp np (by rw [hl]; exact hn) q2

/-! ### comprehensions -/
def wipeD (δ : DSt) : List Nat → DSt
  | [] => δ
  | v :: vs => (wipeD δ vs).set v none
theorem WS.wipe {K : PySem.W.Frag} {G H : Hp} {P : Addr → Prop} {σ : L2.St} {δ : DSt} (w : WS K B G H P σ δ) : ∀ vs : List Nat, WS K B G H P (L2.wipe σ vs) (wipeD δ vs)
  | [] => w
  | v :: vs => (WS.wipe w vs).unset v
theorem wipe_get {σ : L2.St} {i : Nat} : ∀ {vs : List Nat}, (L2.wipe σ vs)[i]? = if i ∈ vs ∧ i < σ.length then some none else σ[i]?
  | [] => by simp [L2.wipe]
  | v :: vs => by
    unfold L2.wipe
    by_cases h : v = i
    · subst h
      by_cases hl : v < σ.length
      · rw [List.getElem?_set_self (by rw [wipe_length]; exact hl), if_pos ⟨by simp, hl⟩]
      · rw [List.getElem?_eq_none (by rw [List.length_set, wipe_length]; omega), if_neg (fun z => hl z.2), List.getElem?_eq_none (by omega)]
    · rw [List.getElem?_set_ne h, wipe_get (vs := vs)]
      have e : (i ∈ v :: vs) ↔ i ∈ vs := by simp [Ne.symm h]
      simp only [e]
theorem wipe_but {σ σ' : L2.St} {vs is : List Nat} (h : But is σ σ') (hs : ∀ i ∈ is, i ∈ vs) : L2.wipe σ' vs = L2.wipe σ vs := by
  apply List.ext_getElem?
  intro i
  rw [wipe_get, wipe_get, h.1]
  by_cases hi : i ∈ vs
  · by_cases hl : i < σ.length
    · rw [if_pos ⟨hi, hl⟩, if_pos ⟨hi, hl⟩]
    · rw [if_neg (fun z => hl z.2), if_neg (fun z => hl z.2), List.getElem?_eq_none (by rw [h.1]; omega), List.getElem?_eq_none (by omega)]
  · rw [if_neg (fun z => hi z.1), if_neg (fun z => hi z.1)]
    exact h.2 i fun z => hi (hs i z)
theorem wipe_wipe {σ : L2.St} {vs : List Nat} : L2.wipe (L2.wipe σ vs) vs = L2.wipe σ vs := by
  apply List.ext_getElem?
  intro i
  rw [wipe_get, wipe_get, wipe_length]
  split <;> rfl
def dLcL (tg : Tgt) (tt : DTT) (te : DT) (δ : DSt) : List D → List D → (List D → Prop) → Prop
  | [], acc, Q => Q acc
  | x :: xs, acc, Q => gT tg x δ fun δ' => tt (view δ') fun b => if b = true then te δ' fun y => dLcL tg tt te δ xs (acc ++ [y]) Q else dLcL tg tt te δ xs acc Q
/-- [elt for tg in iter if ..] -/
def fLc (ti : DTI) (tg : Tgt) (tt : DTT) (te : DT) (vs : List Nat) : DTF := fun δ Q => ti δ fun items => dLcL tg tt te (wipeD δ vs) items [] Q
def dYes : DTT := fun _ Q => Q true
theorem lift_lc {K : PySem.W.Frag} {ti : DTI} {g : Tgt} {tt : DTT} {te : DT} {vs : List Nat} (hv : ∀ i ∈ g.slots, i ∈ vs) (σ : L2.St) (H : Hp) (Q : VK) (q : liftF K B (fLc ti g tt te vs) σ H Q) :
    tLc (liftI K B ti) (liftG K B g) (liftT K B tt) (lift K B te) vs σ H Q := by
  obtain ⟨G, P, δ, Qd, w, q, k⟩ := q
  refine ⟨G, P, δ, _, w, q, fun J G1 H1 P1 items s1 ok1 wk q1 => ?_⟩
  intro L hL
  obtain ⟨Gp, Y, wk1, gp, yl⟩ := wk.ex
  have gL : G1 L = none := by
    cases z : G1 L with
    | none => rfl
    | some o => rw [ok1.gh L o z] at hL; cases hL
  have pL : ¬ P1 L := fun z => by
    obtain ⟨i, j, e, _⟩ := ok1.pt L z
    rw [e] at hL; cases hL
  have hL0 : H L = none := by
    cases z : H L with
    | none => rfl
    | some o => exact absurd hL (s1.dm L (by rw [z]; simp))
  have w1 := w.step s1 ok1
  obtain ⟨sp, okp⟩ := (Stp.refl (G := G1) (H := H1) (P := P1)).poke ok1 (o := .lst []) hL gL pL
  refine lc_it wk1 (fun i H2 => ∃ (G2 : Hp) (P2 : Addr → Prop) (xs : List V) (acc : List D), Stp G1 H1 P1 G2 H2 P2 ∧ WOk G2 H2 P2 ∧ H2 L = some (.lst xs) ∧ RepL K G2 P2 xs acc ∧ G2 L = none ∧ ¬ P2 L ∧ acc.length ≤ i ∧ dLcL g tt te (wipeD δ vs) (items.drop i) acc Qd)
    ⟨G1, P1, [], [], sp, okp, upd_same, .nil, gL, pL, Nat.le_refl _, by simpa using q1⟩ (fun i H2 _ ⟨G2, P2, xs, acc, s2, ok2, _⟩ => gp G2 H2 P2 ok2 s2.gg) ?_ ?_
  · rintro i x H2 H2' hi ⟨G2, P2, xs, acc, s2, ok2, h2, r2, g2, p2, l2, q2⟩ y
    obtain ⟨G3, d, s3, ok3, e3, r3⟩ := yl i x H2 H2' G2 P2 hi ok2 s2.gg s2.pp y
    have hd : items.drop i = d :: items.drop (i + 1) := by
      rw [List.drop_eq_getElem_cons hi]
      rw [List.getElem?_eq_getElem hi] at e3
      rw [Option.some.inj e3]
    rw [hd] at q2
    unfold dLcL at q2
    have wA := (w1.step s2 ok2).step s3 ok3
    have keepL : ∀ {G4 H4 : Hp} {P4 : Addr → Prop}, Stp G2 H2 P2 G4 H4 P4 → H4 L = some (.lst xs) ∧ RepL K G4 P4 xs acc ∧ G4 L = none ∧ ¬ P4 L := fun {G4 H4 P4} s => by
      refine ⟨s.hh _ _ h2 p2, s.repL r2, ?_, fun z => (s.pn L z).elim p2 (fun z => by rw [h2] at z; cases z)⟩
      cases z : G4 L with
      | none => rfl
      | some o =>
        rcases s.gn L o z with z | z
        · rw [g2] at z; cases z
        · rw [h2] at z; cases z
    refine ⟨G3, P2, wipeD δ vs, d, _, wA.wipe vs, r3, q2, fun σ' δ' w' bt q' => ⟨?_, ?_⟩⟩
    · rw [wipe_but bt hv, wipe_wipe]
    · refine ⟨G3, P2, δ', _, w', q', fun b G4 H4 P4 s4 ok4 q4 => ?_⟩
      cases b with
      | false =>
        rw [if_neg (Bool.false_ne_true)]
        obtain ⟨a1, a2, a3, a4⟩ := keepL (s3.trans s4)
        exact ⟨G4, P4, xs, acc, s2.trans (s3.trans s4), ok4, a1, a2, a3, a4, by omega, q4⟩
      | true =>
        rw [if_pos rfl]
        refine ⟨G4, P4, δ', _, w'.step s4 ok4, q4, fun v G5 H5 P5 dy s5 ok5 r5 q5 => ?_⟩
        obtain ⟨a1, a2, a3, a4⟩ := keepL (s3.trans (s4.trans s5))
        obtain ⟨s6, ok6⟩ := (s2.trans (s3.trans (s4.trans s5))).poke ok5 (o := .lst (xs ++ [v])) hL a3 a4
        have hz := wk.line
        refine ⟨xs, a1, ?_, G5, P5, xs ++ [v], acc ++ [dy], s6, ok6, upd_same, a2.append (.cons r5 .nil), a3, a4, ?_, q5⟩
        · rw [a2.length]; omega
        · (rw [List.length_append]; simp; omega)
  · rintro H2 ⟨G2, P2, xs, acc, s2, ok2, h2, r2, g2, p2, l2, q2⟩
    rw [List.drop_length] at q2
    unfold dLcL at q2
    have hz := wk.line
    exact k L xs G2 H2 P2 acc (s1.trans s2) ok2 hL0 h2 r2 g2 p2 (by omega) q2
theorem df_lc {scope : Scope} {own : List (Str × Nat)} {ti : DTI} {g : Tgt} {tt : DTT} {te : DT} (hc : X.calm = true) (hN : X.N.Nodup) (hi : DI X B tg iter ti) (ok : BlkOk X.N X.env.scope scope own)
    (hg : ∀ (s : Shared) (H : Hp) (C : Addr) (cl : List (Str × Addr)) (fp : List Addr), DG (X.blk s H scope (compEnvC scope cl C X.env) fp) B tg g) (ht : ∀ (s : Shared) (H : Hp) (C : Addr) (cl : List (Str × Addr)) (fp : List Addr), PTs (X.blk s H scope (compEnvC scope cl C X.env) fp) ifs (liftT X.K B tt))
    (hel : ∀ (s : Shared) (H : Hp) (C : Addr) (cl : List (Str × Addr)) (fp : List Addr), DE (X.blk s H scope (compEnvC scope cl C X.env) fp) B elt te) (hv : ∀ i ∈ g.slots, i ∈ own.map (·.2)) (hs : ∀ x, foldedSetIterable iter X.env x = pure x := by intro _; rfl) :
    DF X B (.ListComp elt [⟨tg, iter, ifs, 0⟩] scope pos) (fLc ti g tt te (own.map (·.2))) := (pe_lc hc hN hi ok hg ht hel hs).mono fun σ H Q q => lift_lc hv σ H Q q
/-- no tests; one test -/
theorem dts_nil : PTs X [] (liftT X.K B dYes) := ⟨fun pins s σ H Q I q => pts_nil.run pins s σ H Q I (by
  obtain ⟨G, P, δ, Qd, w, q, k⟩ := q
  exact k true _ _ _ .refl w.ok q)⟩
theorem dts_one {c : Expr} {t : DTT} (h : DTe X B c t) : PTs X [c] (liftT X.K B t) := pts_one h
end
end FG

/-! FE: own lists, calls, methods, fields, objects made, built-ins. -/
namespace FG
open PySem.Spec PySem L2 PyProof.Rows

/-! ### a def's promise -/
/-- an exception: its class, its attributes -/
structure Exn where
  C : Addr
  fs : List (Str × D)
def RepX (K : PySem.W.Frag) (G : Hp) (P : Addr → Prop) (cls : Value) (d : Option Addr) (e : Exn) : Prop :=
  cls = .ref e.C ∧ ((e.fs = [] ∧ d = none) ∨ ∃ a vs, d = some a ∧ G a = some (.xd vs) ∧ RepI K G P vs e.fs)
def KX (K : PySem.W.Frag) (G H : Hp) (P : Addr → Prop) (Ed : Exn → Prop) (E : XK) : Prop :=
  ∀ cls d G' H' P' e, Stp G H P G' H' P' → WOk G' H' P' → RepX K G' P' cls d e → Ed e → E cls d H'
abbrev DSp := List D → (D → Prop) → (Exn → Prop) → Prop
def spD (K : PySem.W.Frag) (T : DSp) : Sp := fun vs H Q E => ∃ G P ds Qd Ed, WOk G H P ∧ RepL K G P vs ds ∧ T ds Qd Ed ∧ K1 K G H P Qd Q ∧ KX K G H P Ed E
/-- a promise by positional values; gp: only where no repr is under way -/
def FnP (gp : Bool) (P : Program) (w : World) (K : PySem.W.Frag) (mg : Str → Option Value) (base : Heap) (k : Nat) (f : Addr) (sp : Sp) : Prop :=
  ∀ (A : Around) (outer : List Env) (s : Shared) (H : Hp) (us : List Value) (vs : List V) (Q : VK) (E : XK), (gp = true → A.guards = some []) → Room k A → Env0 P w K mg base A outer s H → Vals vs us → sp vs H Q E →
    codeAny (model P w) A (.call (.ref f) ⟨us, []⟩) (CR (L2.CX P w) outer P w H s Q E) s
theorem FnP.raw {P : Program} {w : World} {K : PySem.W.Frag} {mg : Str → Option Value} {base : Heap} {k : Nat} {f : Addr} {sp : Sp} (F : FnP false P w K mg base k f sp) : FnR P w K mg base (L2.CX P w) k f sp :=
  fun A outer s H us vs Q E hr e0 r h => F A outer s H us vs Q E (fun z => nomatch z) hr e0 r h
/-- the def at f, called with positional values, does what T says, within k calls -/
abbrev Fn (gp : Bool) (P : Program) (w : World) (K : PySem.W.Frag) (mg : Str → Option Value) (base : Heap) (k : Nat) (f : Addr) (T : DSp) : Prop := FnP gp P w K mg base k f (spD K T)
/-- what is wished of exceptions, by the slots -/
abbrev XW := Exn → DSt → Prop
structure Wish (X : Cx) (B : Base) (W : XW) : Prop where
  ex : ∃ Wx : WX, Takes X Wx ∧ ∀ cls d e σ G H P δ, WS X.K B G H P σ δ → RepX X.K G P cls d e → W e δ → Wx cls d σ H
abbrev wNo : XW := fun _ _ => False
theorem wish_no {X : Cx} {B : Base} : Wish X B wNo := ⟨⟨fun _ _ _ _ => False, takes0, fun _ _ _ _ _ _ _ _ _ _ h => h⟩⟩
section
variable {gp : Bool} {P : Program} {w : World} {K : PySem.W.Frag} {mg : Str → Option Value} {base : Heap} {j k : Nat} {f : Addr} {T U : DSp} {sp sp' : Sp}
theorem FnP.mono (F : FnP gp P w K mg base j f sp) (h : j ≤ k) : FnP gp P w K mg base k f sp := fun A outer s H us vs Q E g hr => F A outer s H us vs Q E g (hr.mono h)
theorem FnP.imp (F : FnP gp P w K mg base k f sp) (h : ∀ vs H Q E, sp' vs H Q E → sp vs H Q E) : FnP gp P w K mg base k f sp' := fun A outer s H us vs Q E g hr e0 r hs => F A outer s H us vs Q E g hr e0 r (h _ _ _ _ hs)
theorem Fn.imp (F : Fn gp P w K mg base k f T) (h : ∀ ds Q E, U ds Q E → T ds Q E) : Fn gp P w K mg base k f U :=
  FnP.imp F fun _ _ _ _ ⟨G, Pt, ds, Qd, Ed, a, b, c, d, e⟩ => ⟨G, Pt, ds, Qd, Ed, a, b, h _ _ _ c, d, e⟩
end

section
variable {X : Cx} {B : Base} {gp : Bool}
/-- the callee runs; what it raises is wished for at the slots -/
theorem run_atσ {pins : List (Addr × Obj)} {σ : L2.St} {H : Hp} {s : Shared} {Q : VK} {k : Nat} {f : Addr} {sp : Sp} {E : XK} {us : List Value} {vs : List V} (F : FnP gp X.prog X.w X.K X.mg X.base k f sp) (hgd : gp = true → X.A.guards = some []) (hr : Room k X.A)
    (hx : PassesAt (L2.CX X.prog X.w) X σ E) (I : Inv X pins σ H s) (r : Vals vs us) (h : sp vs H Q E) : wpAny (model X.prog X.w) X.A (call (.ref f) us) (EP X pins σ Q) X.xe s := by
  apply wpAny_call
  refine codeAny_mono (F _ _ _ _ _ _ _ _ hgd hr I.env0 r h) ?_
  rintro (e | (u | _ | _ | _)) s' hq
  · exact hx _ _ _ _ _ I hq
  all_goals first | exact I.after hq | exact False.elim hq
/-- the call of a global def, of a def that stands at f by whatever node -/
theorem pe_fn {k : Nat} {f : Addr} {sp : Sp} {E : L2.St → XK} {x : Str} {p pos : Pos} {e : Expr} {es : List Expr} {t : TA} (F : FnP gp X.prog X.w X.K X.mg X.base k f sp) (hgd : gp = true → X.A.guards = some []) (hr : Room k X.A) (hg : Gl X x) (hm : X.mg x = some (.ref f))
    (hk : PySem.W.keepIn X.K (.ref f) = true) (hx : ∀ σ, PassesAt (L2.CX X.prog X.w) X σ (E σ)) (ha : PA X (e :: es) t) (hd : (x == ("__debug__" : Str)) = false)
    (h1 : starEach (e :: es) X.env = (false, eval e X.env) :: starEach es X.env) (h2 : (backTo pos (starEach es X.env)).any (·.1) = false) : PE X (.Call (.Name x p) (e :: es) [] pos) (fun σ H Q => t σ H fun vs H1 => sp vs H1 Q (E σ)) := by
  constructor
  intro pins s σ H Q I h
  apply wpAny_Call_Name_kw
  apply ld_glob I hg hm _ hd
  refine PySem.W.callWith_K I.ok.mod.kin hk (thn (ha.run pos _ _ _ _ _ I h) ?_) h1 h2
  rintro us s1 ⟨vs, H1, I1, r, q⟩
  exact ⟨I1.kIn, run_atσ F hgd hr (hx σ) I1 r q⟩
theorem pe_fn0 {k : Nat} {f : Addr} {sp : Sp} {E : L2.St → XK} {x : Str} {p pos : Pos} (F : FnP gp X.prog X.w X.K X.mg X.base k f sp) (hgd : gp = true → X.A.guards = some []) (hr : Room k X.A) (hg : Gl X x) (hm : X.mg x = some (.ref f))
    (hk : PySem.W.keepIn X.K (.ref f) = true) (hx : ∀ σ, PassesAt (L2.CX X.prog X.w) X σ (E σ)) (hd : (x == ("__debug__" : Str)) = false) : PE X (.Call (.Name x p) [] [] pos) (fun σ H Q => sp [] H Q (E σ)) := by
  constructor
  intro pins s σ H Q I h
  apply wpAny_Call_Name_kw
  apply ld_glob I hg hm _ hd
  exact PySem.W.callWith_K0 I.kIn hk (run_atσ (us := []) F hgd hr (hx σ) I .nil h)

/-- the lifted call: what the callee says of trees -/
theorem sp_lift {K : PySem.W.Frag} {B : Base} {W : XW} {Wx : WX} {T : DSp} {σ : L2.St} {G H : Hp} {P : Addr → Prop} {δ : DSt} {vs : List V} {ds : List D} {Qd : D → Prop} {Q : VK}
    (hW : ∀ cls d e σ G H P δ, WS K B G H P σ δ → RepX K G P cls d e → W e δ → Wx cls d σ H) (w : WS K B G H P σ δ) (r : RepL K G P vs ds) (h : T ds Qd fun e => W e δ) (k : K1 K G H P Qd Q) : spD K T vs H Q (WE Wx σ) :=
  ⟨G, P, ds, Qd, _, w.ok, r, h, k, fun cls d G' H' P' e s ok rx q => hW cls d e σ G' H' P' δ (w.step s ok) rx q⟩
def dCall (T : DSp) (W : XW) (te : DTA) : DT := fun δ Q => te δ fun ds => T ds Q fun e => W e δ
variable {k n : Nat} {f C : Addr} {T : DSp} {W : XW} {x m : Str} {p pos apos : Pos} {e o : Expr} {es : List Expr} {te : DTA} {ta : DT}
theorem de_call (F : Fn gp X.prog X.w X.K X.mg X.base k f T) (hgd : gp = true → X.A.guards = some []) (hr : Room k X.A) (hg : Gl X x) (hm : X.mg x = some (.ref f)) (hk : PySem.W.keepIn X.K (.ref f) = true) (hw : Wish X B W) (ha : DA X B (e :: es) n te) (hd : (x == ("__debug__" : Str)) = false := by decide)
    (h1 : starEach (e :: es) X.env = (false, eval e X.env) :: starEach es X.env := by rfl) (h2 : (backTo pos (starEach es X.env)).any (·.1) = false := by rfl) : DE X B (.Call (.Name x p) (e :: es) [] pos) (dCall T W te) := by
  obtain ⟨Wx, tk, hW⟩ := hw.ex
  refine (pe_fn (E := WE Wx) F hgd hr hg hm hk (fun σ => passAt tk σ) ha hd h1 h2).mono fun σ H Q q => ?_
  obtain ⟨G, P, δ, Qd, w, q, kk⟩ := q
  exact ⟨G, P, δ, _, w, q, fun vs G1 H1 P1 ds s1 ok1 r1 _ q1 => sp_lift hW (w.step s1 ok1) r1 q1 (kk.step s1)⟩
theorem de_call0 (F : Fn gp X.prog X.w X.K X.mg X.base k f T) (hgd : gp = true → X.A.guards = some []) (hr : Room k X.A) (hg : Gl X x) (hm : X.mg x = some (.ref f)) (hk : PySem.W.keepIn X.K (.ref f) = true) (hw : Wish X B W) (hd : (x == ("__debug__" : Str)) = false := by decide) :
    DE X B (.Call (.Name x p) [] [] pos) (dCall T W dNil) := by
  obtain ⟨Wx, tk, hW⟩ := hw.ex
  refine (pe_fn0 (E := WE Wx) F hgd hr hg hm hk (fun σ => passAt tk σ) hd).mono fun σ H Q q => ?_
  obtain ⟨G, P, δ, Qd, w, q, kk⟩ := q
  exact sp_lift hW w .nil q kk

/-! ### objects: fields, methods -/
def dFld (C : Addr) (f : Str) (ta : DT) : DT := fun δ Q => ta δ fun x => match x with
  | .ins C' fs => C' = C ∧ match fs.lookup f with
    | some d => Q d
    | none => False
  | _ => False
theorem de_fld (ha : DE X B o ta) (hc : Cls X.K C) (hn : NoAttr X.K C m) (hb : attributeBase o m X.env (eval o X.env) = eval o X.env := by rfl) : DE X B (.Attribute o m pos) (dFld C m ta) := (pe_fld ha hb).mono fun σ H Q q => by
  obtain ⟨G, P, δ, Qd, w, q, kk⟩ := q
  refine ⟨G, P, δ, _, w, q, fun v G1 H1 P1 d s1 ok1 r1 q1 => ?_⟩
  cases r1 with
  | ins a b =>
    obtain ⟨rfl, q1⟩ := q1
    split at q1
    · rename_i d hd
      obtain ⟨v, e1, r2⟩ := b.lookup hd
      exact ⟨_, _, _, _, v, rfl, ok1.gh _ _ a, hc, hn, e1, kk _ _ _ _ _ s1 ok1 r2 q1⟩
    · exact q1.elim
  | _ => exact q1.elim
/-- self.f while self is being made (slot i) -/
def dFldI (i : Nat) (C : Addr) (f : Str) : DT := fun δ Q => match δ[i]? with
  | some (some (.inst C' fs)) => C' = C ∧ match fs.lookup f with
    | some d => Q d
    | none => False
  | _ => False
theorem de_fldI {i : Nat} (ha : PE X o (tVar i)) (hc : Cls X.K C) (hn : NoAttr X.K C m) (hb : attributeBase o m X.env (eval o X.env) = eval o X.env := by rfl) : DE X B (.Attribute o m pos) (dFldI i C m) := (pe_fld ha hb).mono fun σ H Q q => by
  obtain ⟨G, P, δ, Qd, w, q, kk⟩ := q
  unfold dFldI at q
  split at q
  · rename_i C' fs hd
    obtain ⟨rfl, q⟩ := q
    obtain ⟨v, ev, x, dx, vs, rfl, hx, rf, _⟩ := w.sl i _ hd
    split at q
    · rename_i d hl
      obtain ⟨u, e1, r2⟩ := rf.lookup hl
      exact ⟨_, ev, _, _, _, _, u, rfl, hx, hc, hn, e1, kk.here w.ok r2 q⟩
    · exact q.elim
  · exact q.elim
/-- self.f = e while self is being made -/
def dSetF (i : Nat) (C : Addr) (f : Str) (ta : DT) : DTS := fun D δ => ta δ fun d => match δ[i]? with
  | some (some (.inst C' fs)) => C' = C ∧ fs.length < 1000 ∧ D.nx (δ.set i (some (.inst C (putD f d fs))))
  | _ => False
theorem ds_setF {i : Nat} {v : Expr} {pos' : Pos} (ho : PE X o (tVar i)) (hv : DE X B v ta) (hc : Cls X.K C) (hn : NoAttr X.K C m) (hs : swapsWith v (some (.Attribute o m pos')) pos.line X.env = pure false := by rfl) : DS X B (.Assign [.Attribute o m pos'] v pos) (dSetF i C m ta) :=
  (ps_fld ho hv hs).mono fun D σ H q => by
    obtain ⟨G, P, δ, Dd, w, q, kk⟩ := q
    refine ⟨G, P, δ, _, w, q, fun u G1 H1 P1 d s1 ok1 r1 q1 => ?_⟩
    have w1 := w.step s1 ok1
    split at q1
    · rename_i C' fs hd
      obtain ⟨rfl, hl, q1⟩ := q1
      obtain ⟨v2, ev, x, dx, vs, rfl, hx, rf, gx, px, bx⟩ := w1.sl i _ hd
      refine ⟨_, ev, x, _, dx, vs, rfl, hx, hc, hn, by rw [rf.length]; exact hl, ?_⟩
      have w2 := w1.change (o := .ins C' dx (putF m u vs)) (s' := .inst C' (putD m d fs)) hd rfl ev ⟨x, dx, _, rfl, upd_same, rf.put r1, gx, px, bx⟩ gx px (.inr bx) (by rw [hx]; simp) rfl
      exact kk.nx _ _ _ _ _ w2 s1.gg s1.pp q1
    · exact q1.elim
/-- o.m(..) -/
def dMeth (C : Addr) (m : Str) (T : DSp) (W : XW) (ta : DT) (te : DTA) : DT := fun δ Q => ta δ fun x => match x with
  | .ins C' fs => C' = C ∧ fs.lookup m = none ∧ te δ fun ds => T (x :: ds) Q fun e => W e δ
  | _ => False
theorem pe_methσ {sp : Sp} {E : L2.St → XK} {to : TE} {t : TA} {pl : Sem Bool} (ho : PE X o to) (c : Cls X.K C) (hm : Meth X.K C m f) (F : FnP gp X.prog X.w X.K X.mg X.base k f sp) (hgd : gp = true → X.A.guards = some []) (hr : Room k X.A)
    (hx : ∀ σ, PassesAt (L2.CX X.prog X.w) X σ (E σ)) (ha : PA X (e :: es) t) (h1 : starEach (e :: es) X.env = (false, eval e X.env) :: starEach es X.env) (h2 : (backTo pos (starEach es X.env)).any (·.1) = false)
    (ht : eval (Expr.Call (.Attribute o m apos) (e :: es) [] pos) X.env = (do
      let ov ← eval o X.env
      standAt apos.atName
      let (g, fst) ← holding [ov] (getMethod ov m pl)
      callWith pos g fst (backTo pos (starEach (e :: es) X.env)) (backToKw pos (keywordEach [] X.env)))) :
    PE X (.Call (.Attribute o m apos) (e :: es) [] pos) (fun σ H Q => to σ H fun x H1 => ∃ a dx fs, x = .ref a ∧ H1 a = some (.ins C dx fs) ∧ fs.lookup m = none ∧ t σ H1 fun vs H2 => sp (x :: vs) H2 Q (E σ)) := by
  constructor
  intro pins s σ H Q I h
  refine PySem.W.methodCall_KW (pl := pl) (thn (ho.run _ _ _ _ _ I h) ?_) ht
  rintro u s1 ⟨x, H1, I1, rx, a, dx, fs, rfl, ea, l, q⟩
  cases rx
  apply getmeth_ok I1 ea c hm l
  refine PySem.W.callWith_K (first := [.ref a]) I.ok.mod.kin hm.kp (thn (ha.run pos _ _ _ _ _ I1 q) ?_) h1 h2
  rintro us s2 ⟨vs, H2, I2, r, q2⟩
  exact ⟨I2.kIn, run_atσ (us := .ref a :: us) (vs := .ref a :: vs) F hgd hr (hx σ) I2 (.cons rfl r) q2⟩
theorem pe_methσ0 {sp : Sp} {E : L2.St → XK} {to : TE} {pl : Sem Bool} (ho : PE X o to) (c : Cls X.K C) (hm : Meth X.K C m f) (F : FnP gp X.prog X.w X.K X.mg X.base k f sp) (hgd : gp = true → X.A.guards = some []) (hr : Room k X.A)
    (hx : ∀ σ, PassesAt (L2.CX X.prog X.w) X σ (E σ))
    (ht : eval (Expr.Call (.Attribute o m apos) [] [] pos) X.env = (do
      let ov ← eval o X.env
      standAt apos.atName
      let (g, fst) ← holding [ov] (getMethod ov m pl)
      callWith pos g fst (backTo pos (starEach [] X.env)) (backToKw pos (keywordEach [] X.env)))) :
    PE X (.Call (.Attribute o m apos) [] [] pos) (fun σ H Q => to σ H fun x H1 => ∃ a dx fs, x = .ref a ∧ H1 a = some (.ins C dx fs) ∧ fs.lookup m = none ∧ sp [x] H1 Q (E σ)) := by
  constructor
  intro pins s σ H Q I h
  refine PySem.W.methodCall_KW (pl := pl) (thn (ho.run _ _ _ _ _ I h) ?_) ht
  rintro u s1 ⟨x, H1, I1, rx, a, dx, fs, rfl, ea, l, q⟩
  cases rx
  apply getmeth_ok I1 ea c hm l
  exact PySem.W.callWith_K0 (first := [.ref a]) I1.kIn hm.kp (run_atσ (us := [.ref a]) (vs := [.ref a]) F hgd hr (hx σ) I1 (.cons rfl .nil) q)
theorem de_meth {pl : Sem Bool} (ho : DE X B o ta) (c : Cls X.K C) (hm : Meth X.K C m f) (F : Fn gp X.prog X.w X.K X.mg X.base k f T) (hgd : gp = true → X.A.guards = some []) (hr : Room k X.A) (hw : Wish X B W) (ha : DA X B (e :: es) n te)
    (h1 : starEach (e :: es) X.env = (false, eval e X.env) :: starEach es X.env := by rfl) (h2 : (backTo pos (starEach es X.env)).any (·.1) = false := by rfl)
    (ht : eval (Expr.Call (.Attribute o m apos) (e :: es) [] pos) X.env = (do
      let ov ← eval o X.env
      standAt apos.atName
      let (g, fst) ← holding [ov] (getMethod ov m pl)
      callWith pos g fst (backTo pos (starEach (e :: es) X.env)) (backToKw pos (keywordEach [] X.env))) := by rfl) : DE X B (.Call (.Attribute o m apos) (e :: es) [] pos) (dMeth C m T W ta te) := by
  obtain ⟨Wx, tk, hW⟩ := hw.ex
  refine (pe_methσ (E := WE Wx) ho c hm F hgd hr (fun σ => passAt tk σ) ha h1 h2 ht).mono fun σ H Q q => ?_
  obtain ⟨G, P, δ, Qd, w, q, kk⟩ := q
  refine ⟨G, P, δ, _, w, q, fun v G1 H1 P1 d s1 ok1 r1 q1 => ?_⟩
  cases r1 with
  | ins a b =>
    obtain ⟨rfl, hl, q1⟩ := q1
    refine ⟨_, _, _, rfl, ok1.gh _ _ a, b.lookup_none hl, G1, P1, δ, _, w.step s1 ok1, q1, fun vs G2 H2 P2 ds s2 ok2 r2 _ q2 => ?_⟩
    exact sp_lift hW ((w.step s1 ok1).step s2 ok2) (.cons (s2.rep (.ins a b)) r2) q2 (kk.step (s1.trans s2))
  | _ => exact q1.elim
theorem de_meth0 {pl : Sem Bool} (ho : DE X B o ta) (c : Cls X.K C) (hm : Meth X.K C m f) (F : Fn gp X.prog X.w X.K X.mg X.base k f T) (hgd : gp = true → X.A.guards = some []) (hr : Room k X.A) (hw : Wish X B W)
    (ht : eval (Expr.Call (.Attribute o m apos) [] [] pos) X.env = (do
      let ov ← eval o X.env
      standAt apos.atName
      let (g, fst) ← holding [ov] (getMethod ov m pl)
      callWith pos g fst (backTo pos (starEach [] X.env)) (backToKw pos (keywordEach [] X.env))) := by rfl) : DE X B (.Call (.Attribute o m apos) [] [] pos) (dMeth C m T W ta dNil) := by
  obtain ⟨Wx, tk, hW⟩ := hw.ex
  refine (pe_methσ0 (E := WE Wx) ho c hm F hgd hr (fun σ => passAt tk σ) ht).mono fun σ H Q q => ?_
  obtain ⟨G, P, δ, Qd, w, q, kk⟩ := q
  refine ⟨G, P, δ, _, w, q, fun v G1 H1 P1 d s1 ok1 r1 q1 => ?_⟩
  cases r1 with
  | ins a b =>
    obtain ⟨rfl, hl, q1⟩ := q1
    exact ⟨_, _, _, rfl, ok1.gh _ _ a, b.lookup_none hl, sp_lift hW (w.step s1 ok1) (.cons (.ins a b) .nil) q1 (kk.step s1)⟩
  | _ => exact q1.elim
/-- e.f, a property: no exception leaves it -/
def dProp (C : Addr) (T : DSp) (ta : DT) : DT := fun δ Q => ta δ fun x => match x with
  | .ins C' _ => C' = C ∧ T [x] Q fun _ => False
  | _ => False
end
/-- a def as FnOk, without defaults -/
structure Fn1 (P : Program) (w : World) (K : PySem.W.Frag) (mg : Str → Option Value) (base : Heap) (k : Nat) (f : Addr) (ps : List Str) (T : DSp) : Prop where
  ex : ∃ fd, FnOk P w K mg base (L2.CX P w) k f fd ps (spD K T) ∧ Binds K fd ps []
theorem Fn1.fn {gp : Bool} {P : Program} {w : World} {K : PySem.W.Frag} {mg : Str → Option Value} {base : Heap} {k : Nat} {f : Addr} {ps : List Str} {T : DSp} (F : Fn1 P w K mg base k f ps T) : Fn gp P w K mg base k f T := by
  obtain ⟨fd, F, hb⟩ := F.ex
  have h := F.raw hb .nil
  intro A outer s H us vs Q E _ hr e0 r q
  refine h A outer s H us vs Q E hr e0 r ?_
  show spD K T (vs ++ []) H Q E
  rw [List.append_nil]
  exact q
section
variable {X : Cx} {B : Base} {gp : Bool} {k n : Nat} {f C g : Addr} {T : DSp} {W : XW} {x m : Str} {p pos apos : Pos} {e o fe : Expr} {es : List Expr} {te : DTA} {ta tf : DT} {ps : List Str}
theorem de_prop {pa : Addr} (ho : DE X B o ta) (c : Cls X.K C) (hp : PropOf X.K C m pa g) (F : Fn1 X.prog X.w X.K X.mg X.base k g ps T) (hr : Room (k + 1) X.A) (hb : attributeBase o m X.env (eval o X.env) = eval o X.env := by rfl) :
    DE X B (.Attribute o m pos) (dProp C T ta) := by
  obtain ⟨fd, F, hbd⟩ := F.ex
  refine (pe_prop (E := E0) ho c hp F hr hbd .nil passL hb).mono fun σ H Q q => ?_
  obtain ⟨G, P, δ, Qd, w, q, kk⟩ := q
  refine ⟨G, P, δ, _, w, q, fun v G1 H1 P1 d s1 ok1 r1 q1 => ?_⟩
  cases r1 with
  | ins a b =>
    obtain ⟨rfl, q1⟩ := q1
    exact ⟨_, _, _, rfl, ok1.gh _ _ a, G1, P1, _, Qd, fun _ => False, ok1, .cons (.ins a b) .nil, q1, kk.step s1, fun _ _ _ _ _ _ _ _ _ z => z⟩
  | _ => exact q1.elim
/-- an instance called -/
def dCallO (C : Addr) (T : DSp) (tf : DT) (te : DTA) : DT := fun δ Q => tf δ fun x => match x with
  | .ins C' _ => C' = C ∧ te δ fun ds => T (x :: ds) Q fun _ => False
  | _ => False
theorem de_callO (hf : DE X B fe tf) (c : StX.CallO X.K C g) (F : Fn false X.prog X.w X.K X.mg X.base k g T) (hr : Room k X.A) (ha : DA X B (e :: es) n te)
    (ht : eval (Expr.Call fe (e :: es) [] pos) X.env = (do callWith pos (← eval fe X.env) [] (backTo pos (starEach (e :: es) X.env)) (backToKw pos (keywordEach [] X.env))) := by rfl)
    (h1 : starEach (e :: es) X.env = (false, eval e X.env) :: starEach es X.env := by rfl) (h2 : (backTo pos (starEach es X.env)).any (·.1) = false := by rfl) : DE X B (.Call fe (e :: es) [] pos) (dCallO C T tf te) :=
  (StX.pe_callO (E := E0) hf c F.raw hr passL ha ht h1 h2).mono fun σ H Q q => by
    obtain ⟨G, P, δ, Qd, w, q, kk⟩ := q
    refine ⟨G, P, δ, _, w, q, fun v G1 H1 P1 d s1 ok1 r1 q1 => ?_⟩
    cases r1 with
    | ins a b =>
      obtain ⟨rfl, q1⟩ := q1
      refine ⟨_, rfl, G1, P1, δ, _, w.step s1 ok1, q1, fun vs G2 H2 P2 ds s2 ok2 r2 _ q2 => ⟨.inr ⟨_, _, ok2.gh _ _ (s2.gg _ _ a)⟩, ?_⟩⟩
      exact ⟨G2, P2, _, Qd, fun _ => False, ok2, .cons (s2.rep (.ins a b)) r2, q2, kk.step (s1.trans s2), fun _ _ _ _ _ _ _ _ _ z => z⟩
    | _ => exact q1.elim

/-! ### C(..): a new instance, its __init__ -/
/-- __init__'s promise: behind self the arguments; the instance as it is in the end -/
def spI (K : PySem.W.Frag) (C : Addr) (T : DSp) : Sp := fun vs H Q E => ∃ x dx vs' G P ds Qd Ed, vs = .ref x :: vs' ∧ H x = some (.ins C dx []) ∧ G x = none ∧ ¬ P x ∧ WOk G H P ∧ RepL K G P vs' ds ∧ T ds Qd Ed ∧
  (∀ G' H' P' dx' vfs fs, Since ⟨G, H, P, fun a => a = x⟩ G' H' P' → WOk G' H' P' → H' x = some (.ins C dx' vfs) → RepI K G' P' vfs fs → G' x = none → ¬ P' x → Qd (.ins C fs) → Q .non H') ∧
  ∀ cls d G' H' P' e, Since ⟨G, H, P, fun a => a = x⟩ G' H' P' → WOk G' H' P' → RepX K G' P' cls d e → Ed e → E cls d H'
abbrev FnI (gp : Bool) (P : Program) (w : World) (K : PySem.W.Frag) (mg : Str → Option Value) (base : Heap) (k : Nat) (f C : Addr) (T : DSp) : Prop := FnP gp P w K mg base k f (spI K C T)
theorem make_guards {A : Around} {C : Addr} {us : List Value} {kw : List (Str × Value)} : (A.under (.builtin "type.__call__" ⟨.ref C :: us, kw⟩)).guards = A.guards := by
  first | rfl | simp [Around.under, Code.guards, Code.isGuard, guardIds]
theorem un_two {H : Hp} {s : Shared} {o1 o2 : Obj} {u1 u2 : HO} {fs : List Addr} (h0 : H s.heap.objs.size = none) (h1 : H (s.heap.objs.size + 1) = none) :
    Un fs [] H (upd (upd H s.heap.objs.size u1) (s.heap.objs.size + 1) u2) s.heap ((s.heap.push o1).push o2) := by
  have a := Un.laid (fs := fs) (ex := []) (o := u1) (h' := s.heap.push o1) (fun b u e => Heap.get?_push_of_some o1 e) (Nat.le_refl _) h0
  refine a.trans (Un.laid (fun b u e => Heap.get?_push_of_some o2 e) ?_ ?_)
  · rw [Heap.size_push]
    exact Nat.le_refl _
  · rw [upd_ne (Nat.succ_ne_self _)]
    exact h1
theorem run_makeσ {pins : List (Addr × Obj)} {σ : L2.St} {H : Hp} {s : Shared} {Q : VK} {sp : Sp} {E : XK} {us : List Value} {vs : List V} (M : Mk X.K C f) (F : FnP gp X.prog X.w X.K X.mg X.base k f sp) (hgd : gp = true → X.A.guards = some []) (hr : Room (k + 1) X.A)
    (hx : PassesAt (L2.CX X.prog X.w) X σ E) (I : Inv X pins σ H s) (r : Vals vs us)
    (h : ∀ x dx, H x = none → H dx = none → dx ≠ x → sp (.ref x :: vs) (upd (upd H dx (.own x)) x (.ins C dx [])) (fun v H2 => v = .non ∧ Q (.ref x) H2) E) : wpAny (model X.prog X.w) X.A (call (.ref C) us) (EP X pins σ Q) X.xe s := by
  have n0 : H s.heap.objs.size = none := I.hok.fresh (Nat.le_refl _)
  have n1 : H (s.heap.objs.size + 1) = none := I.hok.fresh (Nat.le_succ _)
  have hq := h _ _ n1 n0 (Nat.ne_of_lt (Nat.lt_succ_self _))
  have I2 := I.made (C := C)
  have r2 : Vals (V.ref (s.heap.objs.size + 1) :: vs) (Value.ref (s.heap.objs.size + 1) :: us) := Paired.cons (by rfl) r
  apply wpAny_call
  apply make_map (f := f) I.kIn M.makes M.init (beq_iff_eq.mp M.fn)
  refine codeAny_mono (F _ _ _ _ _ _ _ _ (fun z => make_guards.trans (hgd z)) (hr.make C us []) (I2.env0.make C us []) r2 hq) ?_
  intro res s' z
  match res, z with
  | .error e, z =>
    have up := StX.cxUp (P := X.prog) (w := X.w) X.stack s H { s with heap := (s.heap.push PySem.W.emptyDict).push (PySem.W.instObj C s.heap.objs.size) } (upd (upd H s.heap.objs.size (.own (s.heap.objs.size + 1))) (s.heap.objs.size + 1) (.ins C s.heap.objs.size [])) E e s' (un_two n0 n1) (fun b o q => Heap.get?_push_of_some _ (Heap.get?_push_of_some _ q)) rfl
    exact hx _ _ _ e s' I (up z)
  | .ok (.ret u), z =>
    obtain ⟨v, H', I3, rv, rfl, q3⟩ := I2.after z
    exact ⟨rv, _, H', I3, (by rfl), q3⟩
  | .ok .next, z => exact False.elim z
  | .ok .brk, z => exact False.elim z
  | .ok .cont, z => exact False.elim z
theorem pe_makeσ {sp : Sp} {E : L2.St → XK} {t : TA} (M : Mk X.K C f) (F : FnP gp X.prog X.w X.K X.mg X.base k f sp) (hgd : gp = true → X.A.guards = some []) (hr : Room (k + 1) X.A) (hg : Gl X x) (hm : X.mg x = some (.ref C))
    (hx : ∀ σ, PassesAt (L2.CX X.prog X.w) X σ (E σ)) (ha : PA X (e :: es) t) (hd : (x == ("__debug__" : Str)) = false)
    (h1 : starEach (e :: es) X.env = (false, eval e X.env) :: starEach es X.env) (h2 : (backTo pos (starEach es X.env)).any (·.1) = false) :
    PE X (.Call (.Name x p) (e :: es) [] pos) (fun σ H Q => t σ H fun vs H1 => ∀ x dx, H1 x = none → H1 dx = none → dx ≠ x → sp (.ref x :: vs) (upd (upd H1 dx (.own x)) x (.ins C dx [])) (fun v H2 => v = .non ∧ Q (.ref x) H2) (E σ)) := by
  constructor
  intro pins s σ H Q I h
  apply wpAny_Call_Name_kw
  apply ld_glob I hg hm _ hd
  refine PySem.W.callWith_K I.ok.mod.kin M.kp (thn (ha.run pos _ _ _ _ _ I h) ?_) h1 h2
  rintro us s1 ⟨vs, H1, I1, r, q⟩
  exact ⟨I1.kIn, run_makeσ M F hgd hr (hx σ) I1 r q⟩
theorem pe_makeσ0 {sp : Sp} {E : L2.St → XK} (M : Mk X.K C f) (F : FnP gp X.prog X.w X.K X.mg X.base k f sp) (hgd : gp = true → X.A.guards = some []) (hr : Room (k + 1) X.A) (hg : Gl X x) (hm : X.mg x = some (.ref C))
    (hx : ∀ σ, PassesAt (L2.CX X.prog X.w) X σ (E σ)) (hd : (x == ("__debug__" : Str)) = false) :
    PE X (.Call (.Name x p) [] [] pos) (fun σ H1 Q => ∀ x dx, H1 x = none → H1 dx = none → dx ≠ x → sp [.ref x] (upd (upd H1 dx (.own x)) x (.ins C dx [])) (fun v H2 => v = .non ∧ Q (.ref x) H2) (E σ)) := by
  constructor
  intro pins s σ H Q I h
  apply wpAny_Call_Name_kw
  apply ld_glob I hg hm _ hd
  exact PySem.W.callWith_K0 I.kIn M.kp (run_makeσ (us := []) M F hgd hr (hx σ) I .nil h)
/-- from the maker's promise to the caller: the new object stays -/
theorem spI_lift {K : PySem.W.Frag} {Wx : WX} {σ : L2.St} {G H : Hp} {P : Addr → Prop} {δ : DSt} {vs : List V} {ds : List D} {Qd : D → Prop} {Q : VK} {x dx : Addr}
    (hW : ∀ cls d e σ G H P δ, WS K B G H P σ δ → RepX K G P cls d e → W e δ → Wx cls d σ H) (w : WS K B G H P σ δ) (r : RepL K G P vs ds) (h : T ds Qd fun e => W e δ) (k : K1 K G H P Qd Q)
    (nx : H x = none) (ndx : H dx = none) (ne : dx ≠ x) : spI K C T (.ref x :: vs) (upd (upd H dx (.own x)) x (.ins C dx [])) (fun v H2 => v = .non ∧ Q (.ref x) H2) (WE Wx σ) := by
  obtain ⟨s1, ok1⟩ := Stp.laid (o := .own x) w.ok ndx
  have nx1 : upd H dx (.own x) x = none := by rw [upd_ne (Ne.symm ne)]; exact nx
  obtain ⟨s2, ok2⟩ := Stp.laid (o := .ins C dx []) ok1 nx1
  have gx : G x = none := by
    cases z : G x with
    | none => rfl
    | some o => rw [w.ok.gh x o z] at nx; cases nx
  have px : ¬ P x := fun z => by
    obtain ⟨i, j, e, _⟩ := w.ok.pt x z
    rw [e] at nx; cases nx
  have s12 := s1.trans s2
  have toStp : ∀ {G' H' : Hp} {P' : Addr → Prop}, Since ⟨G, upd (upd H dx (.own x)) x (.ins C dx []), P, fun a => a = x⟩ G' H' P' → Stp G H P G' H' P' := fun {G' H' P'} s =>
    ⟨s.gg, fun a o e n => s.hh a o (s12.hh a o e n) n (fun z => by rw [z, nx] at e; cases e), fun a e => s.dm a (s12.dm a e), s.pp, fun a q => (s.pn a q).elim .inl fun z => .inr (by
      cases q2 : H a with
      | none => rfl
      | some o => exact absurd z (s12.dm a (by rw [q2]; simp))), fun a o e => (s.gn a o e).elim .inl fun z => .inr (z.elim (fun z => by
      cases q2 : H a with
      | none => rfl
      | some o => exact absurd z (s12.dm a (by rw [q2]; simp))) fun z => by rw [show a = x from z]; exact nx)⟩
  refine ⟨x, dx, vs, G, P, ds, Qd, _, rfl, upd_same, gx, px, ok2, r, h, fun G' H' P' dx' vfs fs s ok hx rf g p q => ⟨rfl, ?_⟩, fun cls d G' H' P' e s ok rx q => hW cls d e σ G' H' P' δ (w.step (toStp s) ok) rx q⟩
  obtain ⟨s3, ok3⟩ := (toStp s).tell ok nx hx g p
  exact k _ _ _ _ _ s3 ok3 (.ins upd_same (rf.mono (fun a o e => by rw [upd_ne (ne_of_none e g)]; exact e) fun _ h => h)) q
theorem de_make (M : Mk X.K C f) (F : FnI gp X.prog X.w X.K X.mg X.base k f C T) (hgd : gp = true → X.A.guards = some []) (hr : Room (k + 1) X.A) (hg : Gl X x) (hm : X.mg x = some (.ref C)) (hw : Wish X B W) (ha : DA X B (e :: es) n te) (hd : (x == ("__debug__" : Str)) = false := by decide)
    (h1 : starEach (e :: es) X.env = (false, eval e X.env) :: starEach es X.env := by rfl) (h2 : (backTo pos (starEach es X.env)).any (·.1) = false := by rfl) : DE X B (.Call (.Name x p) (e :: es) [] pos) (dCall T W te) := by
  obtain ⟨Wx, tk, hW⟩ := hw.ex
  refine (pe_makeσ (E := WE Wx) M F hgd hr hg hm (fun σ => passAt tk σ) ha hd h1 h2).mono fun σ H Q q => ?_
  obtain ⟨G, P, δ, Qd, w, q, kk⟩ := q
  exact ⟨G, P, δ, _, w, q, fun vs G1 H1 P1 ds s1 ok1 r1 _ q1 y dy ny ndy ne => spI_lift hW (w.step s1 ok1) r1 q1 (kk.step s1) ny ndy ne⟩
theorem de_make0 (M : Mk X.K C f) (F : FnI gp X.prog X.w X.K X.mg X.base k f C T) (hgd : gp = true → X.A.guards = some []) (hr : Room (k + 1) X.A) (hg : Gl X x) (hm : X.mg x = some (.ref C)) (hw : Wish X B W) (hd : (x == ("__debug__" : Str)) = false := by decide) :
    DE X B (.Call (.Name x p) [] [] pos) (dCall T W dNil) := by
  obtain ⟨Wx, tk, hW⟩ := hw.ex
  refine (pe_makeσ0 (E := WE Wx) M F hgd hr hg hm (fun σ => passAt tk σ) hd).mono fun σ H Q q => ?_
  obtain ⟨G, P, δ, Qd, w, q, kk⟩ := q
  exact fun y dy ny ndy ne => spI_lift hW w .nil q kk ny ndy ne

/-! ### built-ins -/
abbrev F1 := List D → (D → Prop) → Prop
def CallD (K : PySem.W.Frag) (r : List V → Hp → VK → Prop) (f : List D → (D → Prop) → Prop) : Prop := ∀ (G H : Hp) (P : Addr → Prop) (vs : List V) (ds : List D) (Qd : D → Prop) (Q : VK), WOk G H P → RepL K G P vs ds → f ds Qd → K1 K G H P Qd Q → r vs H Q
def dCB (f : List D → (D → Prop) → Prop) (te : DTA) : DT := fun δ Q => te δ fun ds => f ds Q
theorem lift_cb {K : PySem.W.Frag} {r : List V → Hp → VK → Prop} {f : List D → (D → Prop) → Prop} (h : CallD K r f) (σ : L2.St) (H : Hp) (Q : VK) (q : lift K B (dCB f te) σ H Q) : tCB r (liftA K B n te) σ H Q := by
  obtain ⟨G, P, δ, Qd, w, q, kk⟩ := q
  exact ⟨G, P, δ, _, w, q, fun vs G1 H1 P1 ds s1 ok1 r1 _ q1 => h _ _ _ _ _ _ _ ok1 r1 q1 (kk.step s1)⟩
theorem de_callB {id : String} {r : List V → Hp → VK → Prop} {fn : List D → (D → Prop) → Prop} (hc : CallR X (.builtin id) r) (h : CallD X.K r fn) (hg : Gl X x) (hm : X.mg x = none) (hv : bootBuiltins x = some (.builtin id)) (ha : DA X B (e :: es) n te) (hn : x ≠ "__name__" := by decide)
    (hdb : (x == ("__debug__" : Str)) = false := by decide) (h1 : starEach (e :: es) X.env = (false, eval e X.env) :: starEach es X.env := by rfl) (h2 : (backTo pos (starEach es X.env)).any (·.1) = false := by rfl) : DE X B (.Call (.Name x p) (e :: es) [] pos) (dCB fn te) :=
  (pe_callB hc hg hm hv ha hn hdb h1 h2).mono fun σ H Q q => lift_cb h σ H Q q
theorem de_callT {id : String} {r : List V → Hp → VK → Prop} {fn : List D → (D → Prop) → Prop} (hc : CallR X (.type id) r) (h : CallD X.K r fn) (hg : Gl X x) (hm : X.mg x = none) (hv : bootBuiltins x = some (.type id)) (ha : DA X B (e :: es) n te) (hn : x ≠ "__name__" := by decide)
    (hdb : (x == ("__debug__" : Str)) = false := by decide) (h1 : starEach (e :: es) X.env = (false, eval e X.env) :: starEach es X.env := by rfl) (h2 : (backTo pos (starEach es X.env)).any (·.1) = false := by rfl) : DE X B (.Call (.Name x p) (e :: es) [] pos) (dCB fn te) :=
  (pe_callTy hc hg hm hv ha hn hdb h1 h2).mono fun σ H Q q => lift_cb h σ H Q q
end
end FG

/-! FF: own lists, defs. -/
namespace FG
open PySem.Spec PySem L2 PyProof.Rows

/-! ### lists of one's own -/
def dAsgO (t : DTF) (i : Nat) : DTS := fun D δ => t δ fun ds => D.nx (δ.set i (some (.own ds)))
section
variable {K : PySem.W.Frag} {B : Base} {G H G1 H1 G' H' : Hp} {P P1 P' : Addr → Prop} {σ : L2.St} {δ : DSt}
theorem WS.setNew (w : WS K B G H P σ δ) (s : Stp G H P G' H' P') (ok : WOk G' H' P') {l : Addr} {xs : List V} {ds : List D} (hl : H l = none) (h : H' l = some (.lst xs)) (r : RepL K G' P' xs ds) (g : G' l = none) (p : ¬ P' l) (z : ds.length ≤ sizeLine) (i : Nat) :
    WS K B G' H' P' (σ.set i (some (.ref l))) (δ.set i (some (.own ds))) := by
  have w2 := w.step s ok
  refine w2.setOwn h r g p ?_ z ?_ i
  · cases q : B.H l with
    | none => rfl
    | some o => exact absurd hl (w.since.dm l (by rw [q]; simp))
  · intro j t e m z2
    obtain ⟨v, ev, q⟩ := w.sl j t e
    rw [z2] at ev
    cases ev
    cases t with
    | val d => cases m
    | own ds =>
      obtain ⟨l2, xs2, e2, h2, _⟩ := q
      cases e2
      rw [hl] at h2; cases h2
    | inst C fs =>
      obtain ⟨l2, dx, xs2, e2, h2, _⟩ := q
      cases e2
      rw [hl] at h2; cases h2
end
section
variable {X : Cx} {B : Base} {tg e o : Expr} {es : List Expr} {g : Tgt} {ta : DT} {tf : DTF} {te : DTA} {pos apos : Pos} {i n : Nat}
theorem ds_asgO (he : DF X B e tf) (hg : PG X tg (gName i)) (hs : swapsWithSole [tg] e pos.line X.env = pure false := by rfl) (hw : swappedStores [tg] e X.env = pure none := by rfl)
    (h1 : (assignEach [tg] X.env).map (·.2) = [assign tg X.env] := by rfl) : DS X B (.Assign [tg] e pos) (dAsgO tf i) := (ps_asg he hg hs hw h1).mono fun D σ H q => by
  obtain ⟨G, P, δ, Dd, w, q, k⟩ := q
  refine ⟨G, P, δ, _, w, q, fun l xs G1 H1 P1 ds s1 ok1 hl h r g p z q1 => ?_⟩
  exact k.nx _ _ _ _ _ (w.setNew s1 ok1 hl h r g p z i) s1.gg s1.pp q1
/-- y = [..] on one line: the list is stored by the comprehension itself -/
theorem ds_lcO {scope : Scope} {own : List (Str × Nat)} {ti : DTI} {tt : DTT} {tx : DT} {y : Str} {py lpos : Pos} {elt tgt iter : Expr} {ifs : List Expr} (hc : X.calm = true) (hN : X.N.Nodup) (hy : X.N[i]? = some y) (hyl : X.env.scope.names.lookup y = some .local)
    (hsw : swapsWith (.ListComp elt [⟨tgt, iter, ifs, 0⟩] scope lpos) (some (.Name y py)) pos.line X.env = pure true) (hi : DI X B tgt iter ti) (ok : BlkOk X.N X.env.scope scope own)
    (hg : ∀ (s : Shared) (H : Hp) (C : Addr) (cl : List (Str × Addr)) (fp : List Addr), DG (X.blk s H scope (compEnvC scope cl C X.env) fp) B tgt g) (ht : ∀ (s : Shared) (H : Hp) (C : Addr) (cl : List (Str × Addr)) (fp : List Addr), PTs (X.blk s H scope (compEnvC scope cl C X.env) fp) ifs (liftT X.K B tt))
    (hel : ∀ (s : Shared) (H : Hp) (C : Addr) (cl : List (Str × Addr)) (fp : List Addr), DE (X.blk s H scope (compEnvC scope cl C X.env) fp) B elt tx) (hv : ∀ j ∈ g.slots, j ∈ own.map (·.2)) (hs : ∀ x, foldedSetIterable iter X.env x = pure x := by intro _; rfl) :
    DS X B (.Assign [.Name y py] (.ListComp elt [⟨tgt, iter, ifs, 0⟩] scope lpos) pos) (dAsgO (fLc ti g tt tx (own.map (·.2))) i) := (ps_setLc (i := i) hc hN hy hyl hsw hi ok hg ht hel hs).mono fun D σ H q => by
  obtain ⟨G, P, δ, Dd, w, q, k⟩ := q
  refine lift_lc hv σ H _ ⟨G, P, δ, _, w, q, fun l xs G1 H1 P1 ds s1 ok1 hl h r g p z q1 => ?_⟩
  exact k.nx _ _ _ _ _ (w.setNew s1 ok1 hl h r g p z i) s1.gg s1.pp q1
/-- .. which stays -/
theorem ds_lcS {scope : Scope} {own : List (Str × Nat)} {ti : DTI} {tt : DTT} {tx : DT} {y : Str} {py lpos : Pos} {elt tgt iter : Expr} {ifs : List Expr} (hc : X.calm = true) (hN : X.N.Nodup) (hy : X.N[i]? = some y) (hyl : X.env.scope.names.lookup y = some .local)
    (hsw : swapsWith (.ListComp elt [⟨tgt, iter, ifs, 0⟩] scope lpos) (some (.Name y py)) pos.line X.env = pure true) (hi : DI X B tgt iter ti) (ok : BlkOk X.N X.env.scope scope own)
    (hg : ∀ (s : Shared) (H : Hp) (C : Addr) (cl : List (Str × Addr)) (fp : List Addr), DG (X.blk s H scope (compEnvC scope cl C X.env) fp) B tgt g) (ht : ∀ (s : Shared) (H : Hp) (C : Addr) (cl : List (Str × Addr)) (fp : List Addr), PTs (X.blk s H scope (compEnvC scope cl C X.env) fp) ifs (liftT X.K B tt))
    (hel : ∀ (s : Shared) (H : Hp) (C : Addr) (cl : List (Str × Addr)) (fp : List Addr), DE (X.blk s H scope (compEnvC scope cl C X.env) fp) B elt tx) (hv : ∀ j ∈ g.slots, j ∈ own.map (·.2)) (hs : ∀ x, foldedSetIterable iter X.env x = pure x := by intro _; rfl) :
    DS X B (.Assign [.Name y py] (.ListComp elt [⟨tgt, iter, ifs, 0⟩] scope lpos) pos) (dAsg (dStay (fLc ti g tt tx (own.map (·.2)))) (.nm i)) := (ps_setLc (i := i) hc hN hy hyl hsw hi ok hg ht hel hs).mono fun D σ H q => by
  obtain ⟨G, P, δ, Dd, w, q, k⟩ := q
  refine lift_lc hv σ H _ (lift_stay σ H _ ⟨G, P, δ, _, w, q, fun v G1 H1 P1 d s1 ok1 r1 q1 => ?_⟩)
  unfold gT at q1
  exact k.nx _ _ _ _ _ ((w.step s1 ok1).set r1 i) s1.gg s1.pp q1
/-- x.append(e) -/
def dApp (i : Nat) (ta : DT) : DTS := fun D δ => match δ[i]? with
  | some (some (.own ds)) => ta δ fun d => ds.length < sizeLine ∧ D.nx (δ.set i (some (.own (ds ++ [d]))))
  | _ => False
/-- .. of a value that needs no place; own things may be looked at -/
def dAppV (i : Nat) (ta : DT) : DTS := fun D δ => match δ[i]? with
  | some (some (.own ds)) => ta (view δ) fun d => d.scal = true ∧ ds.length < sizeLine ∧ D.nx (δ.set i (some (.own (ds ++ [d]))))
  | _ => False
/-- x.extend(e), e a list -/
def dExt (i : Nat) (ta : DT) : DTS := fun D δ => match δ[i]? with
  | some (some (.own ds)) => ta δ fun d => match d with
    | .lst es => ds.length + es.length ≤ sizeLine ∧ D.nx (δ.set i (some (.own (ds ++ es))))
    | _ => False
  | _ => False
/-- tg = x.pop() -/
def dPop (i : Nat) (g : Tgt) : DTS := fun D δ => match δ[i]? with
  | some (some (.own ds)) => match ds[ds.length - 1]? with
    | some d => gT g d (δ.set i (some (.own ds.dropLast))) D.nx
    | none => False
  | _ => False
/-- x[k] = e -/
def dSetIx (i : Nat) (tk ta : DT) : DTS := fun D δ => ta δ fun d => tk δ fun k => match k, δ[i]? with
  | .int k, some (some (.own ds)) => match ixN ds.length k with
    | some j => D.nx (δ.set i (some (.own (ds.set j d))))
    | none => False
  | _, _ => False
theorem own_end {K : PySem.W.Frag} {G H : Hp} {P : Addr → Prop} {σ : L2.St} {δ : DSt} {ds es : List D} {l : Addr} {ys : List V} (w : WS K B G H P σ δ) (hd : δ[i]? = some (some (.own ds))) (ev : σ[i]? = some (some (.ref l)))
    (r : RepL K G P ys es) (z : es.length ≤ sizeLine) : WS K B G (upd H l (.lst ys)) P σ (δ.set i (some (.own es))) := by
  obtain ⟨v2, ev2, l2, xs2, rfl, hx, rl, gx, px, bx, _⟩ := w.sl i _ hd
  rw [ev] at ev2
  cases ev2
  exact w.change (s' := .own es) hd rfl ev ⟨l, _, rfl, upd_same, r, gx, px, bx, z⟩ gx px (.inl bx) (by rw [hx]; simp) rfl
theorem ds_app {spos : Pos} (ho : PE X o (tVar i)) (he : DE X B e ta) (hbase : attributeBase o "append" X.env (eval o X.env) = eval o X.env := by rfl)
    (hfew : ((backTo pos (starEach [e] X.env)).all (fun x => !x.1) && (backToKw pos (keywordEach [] X.env)).all (fun x => x.1.isSome) && decide (([e] : List Expr).length + ([] : List Keyword).length + (if ([] : List Keyword).isEmpty then 0 else 1) < 30)) = true := by rfl)
    (hline : (apos.endLine == pos.line) = true := by rfl) (hs : starEach [e] X.env = (false, eval e X.env) :: starEach [] X.env := by rfl) (hp : (backTo pos (starEach [] X.env)).any (·.1) = false := by rfl) (hsw : swapsWith (.Call (.Attribute o "append" apos) [e] [] pos) none spos.line X.env = pure false := by rfl) :
    DS X B (.Expr (.Call (.Attribute o "append" apos) [e] [] pos) spos) (dApp i ta) := (ps_expr (pe_bm PySem.F.plainAttrs_list PySem.F.slot_list_append PySem.F.type_list_append mt_append ho (pa_cons he pa_nil hs) hbase hfew hline hs hp) hsw).mono fun D σ H q => by
  obtain ⟨G, P, δ, Dd, w, q, k⟩ := q
  unfold dApp at q
  split at q
  · rename_i ds hd
    obtain ⟨v2, ev, l, xs, rfl, hx, rl, gx, px, bx, _⟩ := w.sl i _ hd
    refine ⟨_, ev, .inl ⟨rfl, xs, .inl (.inl hx)⟩, G, P, δ, _, w, q, fun v G1 H1 P1 d s1 ok1 r1 q1 => ?_⟩
    refine ⟨l, xs, v, rfl, rfl, s1.hh _ _ hx px, by rw [rl.length]; exact q1.1, ?_⟩
    exact k.nx _ _ _ _ _ (own_end (w.step s1 ok1) hd ev ((s1.repL rl).append (.cons r1 .nil)) (by have := q1.1; simp; omega)) s1.gg s1.pp q1.2
  · exact q.elim
theorem ds_appV {spos : Pos} (ho : PE X o (tVar i)) (he : DE X B e ta) (hbase : attributeBase o "append" X.env (eval o X.env) = eval o X.env := by rfl)
    (hfew : ((backTo pos (starEach [e] X.env)).all (fun x => !x.1) && (backToKw pos (keywordEach [] X.env)).all (fun x => x.1.isSome) && decide (([e] : List Expr).length + ([] : List Keyword).length + (if ([] : List Keyword).isEmpty then 0 else 1) < 30)) = true := by rfl)
    (hline : (apos.endLine == pos.line) = true := by rfl) (hs : starEach [e] X.env = (false, eval e X.env) :: starEach [] X.env := by rfl) (hp : (backTo pos (starEach [] X.env)).any (·.1) = false := by rfl) (hsw : swapsWith (.Call (.Attribute o "append" apos) [e] [] pos) none spos.line X.env = pure false := by rfl) :
    DS X B (.Expr (.Call (.Attribute o "append" apos) [e] [] pos) spos) (dAppV i ta) := (ps_expr (pe_bm PySem.F.plainAttrs_list PySem.F.slot_list_append PySem.F.type_list_append mt_append ho (pa_cons he pa_nil hs) hbase hfew hline hs hp) hsw).mono fun D σ H q => by
  obtain ⟨G, P, δ, Dd, w, q, k⟩ := q
  unfold dAppV at q
  split at q
  · rename_i ds hd
    obtain ⟨v2, ev, l, xs, rfl, hx, rl, gx, px, bx, _⟩ := w.sl i _ hd
    obtain ⟨G0, w0, gg⟩ := w.view
    refine ⟨_, ev, .inl ⟨rfl, xs, .inl (.inl hx)⟩, G0, P, _, _, w0, q, fun v G1 H1 P1 d s1 ok1 r1 q1 => ?_⟩
    obtain ⟨s2, ok2⟩ := unview w.ok gg s1 ok1
    refine ⟨l, xs, v, rfl, rfl, s1.hh _ _ hx px, by rw [rl.length]; exact q1.2.1, ?_⟩
    exact k.nx _ _ _ _ _ (own_end (w.step s2 ok2) hd ev ((s2.repL rl).append (.cons (r1.scal q1.1) .nil)) (by have := q1.2.1; simp; omega)) s2.gg s2.pp q1.2.2
  · exact q.elim
theorem ds_ext {spos : Pos} (ho : PE X o (tVar i)) (he : DE X B e ta) (hbase : attributeBase o "extend" X.env (eval o X.env) = eval o X.env := by rfl)
    (hfew : ((backTo pos (starEach [e] X.env)).all (fun x => !x.1) && (backToKw pos (keywordEach [] X.env)).all (fun x => x.1.isSome) && decide (([e] : List Expr).length + ([] : List Keyword).length + (if ([] : List Keyword).isEmpty then 0 else 1) < 30)) = true := by rfl)
    (hline : (apos.endLine == pos.line) = true := by rfl) (hs : starEach [e] X.env = (false, eval e X.env) :: starEach [] X.env := by rfl) (hp : (backTo pos (starEach [] X.env)).any (·.1) = false := by rfl) (hsw : swapsWith (.Call (.Attribute o "extend" apos) [e] [] pos) none spos.line X.env = pure false := by rfl) :
    DS X B (.Expr (.Call (.Attribute o "extend" apos) [e] [] pos) spos) (dExt i ta) := (ps_expr (pe_bm PySem.F.plainAttrs_list PySem.F.slot_list_extend PySem.F.type_list_extend mt_extend ho (pa_cons he pa_nil hs) hbase hfew hline hs hp) hsw).mono fun D σ H q => by
  obtain ⟨G, P, δ, Dd, w, q, k⟩ := q
  unfold dExt at q
  split at q
  · rename_i ds hd
    obtain ⟨v2, ev, l, xs, rfl, hx, rl, gx, px, bx, _⟩ := w.sl i _ hd
    refine ⟨_, ev, .inl ⟨rfl, xs, .inl (.inl hx)⟩, G, P, δ, _, w, q, fun v G1 H1 P1 d s1 ok1 r1 q1 => ?_⟩
    cases r1 with
    | @lst b zs es hb rz z =>
      refine ⟨l, b, xs, zs, rfl, rfl, s1.hh _ _ hx px, ok1.gh _ _ hb, by rw [rl.length, rz.length]; exact q1.1, ?_⟩
      exact k.nx _ _ _ _ _ (own_end (w.step s1 ok1) hd ev ((s1.repL rl).append rz) (by have := q1.1; simp; omega)) s1.gg s1.pp q1.2
    | _ => exact q1.elim
  · exact q.elim
theorem ds_pop (ho : PE X o (tVar i)) (hg : DG X B tg g) (hbase : attributeBase o "pop" X.env (eval o X.env) = eval o X.env := by rfl) (hline : (apos.endLine == pos.line) = true := by rfl) {spos : Pos}
    (hs : swapsWithSole [tg] (.Call (.Attribute o "pop" apos) [] [] pos) spos.line X.env = pure false := by rfl) (hw : swappedStores [tg] (.Call (.Attribute o "pop" apos) [] [] pos) X.env = pure none := by rfl)
    (h1 : (assignEach [tg] X.env).map (·.2) = [assign tg X.env] := by rfl) : DS X B (.Assign [tg] (.Call (.Attribute o "pop" apos) [] [] pos) spos) (dPop i g) :=
  (ps_asg (pe_bm0 PySem.F.plainAttrs_list PySem.F.slot_list_pop PySem.F.type_list_pop mt_pop ho hbase hline) hg hs hw h1).mono fun D σ H q => by
    obtain ⟨G, P, δ, Dd, w, q, k⟩ := q
    unfold dPop at q
    split at q
    · rename_i ds hd
      obtain ⟨v2, ev, l, xs, rfl, hx, rl, gx, px, bx, z⟩ := w.sl i _ hd
      split at q
      · rename_i d hl
        obtain ⟨v, hv, rv⟩ := rl.get hl
        refine ⟨_, ev, .inl ⟨rfl, xs, .inl (.inl hx)⟩, l, xs, v, rfl, rfl, hx, by rw [rl.length]; exact hv, ?_⟩
        have w2 := own_end w hd ev rl.dropLast (by rw [List.length_dropLast]; omega)
        exact ⟨G, P, _, d, Dd.nx, w2, rv, q, fun σ' δ' w' _ q' => k.nx _ _ _ _ _ w' (fun _ _ h => h) (fun _ h => h) q'⟩
      · exact q.elim
    · exact q.elim
end

/-! ### a def keeps its promise -/
theorem ws_start {K : PySem.W.Frag} {G H : Hp} {P : Addr → Prop} {N : List Str} {vs : List V} {ds : List D} (ok : WOk G H P) (r : RepL K G P vs ds) :
    WS K ⟨G, H, P, fun _ => False⟩ G H P (L2.start N vs) (ds.map (fun d => some (.val d)) ++ List.replicate (N.length - ds.length) none) := by
  refine ⟨ok, ⟨fun _ _ h => h, fun _ _ h _ _ => h, fun _ h => h, fun _ h => h, fun _ h => .inl h, fun _ _ h => .inl h⟩, by unfold L2.start; simp [r.length], fun i s e => ?_, fun i j s s' _ e _ m _ => ?_⟩
  · by_cases hi : i < ds.length
    · rw [List.getElem?_append_left (by simpa using hi), List.getElem?_map] at e
      obtain ⟨d, hd⟩ : ∃ d, ds[i]? = some d := ⟨ds[i], List.getElem?_eq_getElem hi⟩
      rw [hd] at e
      cases e
      obtain ⟨v, hv, rv⟩ := r.get hd
      refine ⟨v, ?_, rv⟩
      unfold L2.start
      rw [List.getElem?_append_left (by rw [List.length_map, r.length]; exact hi), List.getElem?_map, hv]
      rfl
    · rw [List.getElem?_append_right (by simpa using hi), List.getElem?_replicate] at e
      split at e <;> cases e
  · by_cases hi : i < ds.length
    · rw [List.getElem?_append_left (by simpa using hi), List.getElem?_map] at e
      obtain ⟨d, hd⟩ : ∃ d, ds[i]? = some d := ⟨ds[i], List.getElem?_eq_getElem hi⟩
      rw [hd] at e
      cases e
      cases m
    · rw [List.getElem?_append_right (by simpa using hi), List.getElem?_replicate] at e
      split at e <;> cases e
section
variable {gp : Bool} {P : Program} {w : World} {K : PySem.W.Frag} {mg : Str → Option Value} {base : Heap} {k : Nat} {f : Addr} {fd : FuncData} {x qual : Str} {params : Arguments} {body : List Stmt} {scope : Scope} {dvs0 : List V} {kws : List (Str × V)} {N ps : List Str}
  {bs : List Value} {dvs : List V} {dfl : List D} {T : DSp} {t : (Exn → Prop) → DTS}
theorem bnd_of {A : Around} {outer : List Env} {s : Shared} {H : Hp} {E : XK} {us : List Value} {vs : List V} (hb : L2.Binds K fd ps bs) (hd : Vals dvs bs) (e0 : Env0 P w K mg base A outer s H) (r : Vals vs us) (hl : (vs ++ dvs).length = ps.length) :
    StX.Bnd (L2.CX P w) P w K mg base fd ⟨us, []⟩ ps A outer s H E (fun zs H2 => zs = vs ++ dvs ∧ H2 = H) := by
  intro A' Ex Q h
  have r2 : Vals (vs ++ dvs) (us ++ bs) := r.append hd
  have KI : K.In s.heap := e0.mod.kin.keeps fun b o e => (e0.bs b o e).1
  exact hb s us KI (by rw [← r2.length]; exact hl) _ _ _ _ (h s H _ _ e0 (Un.kept fun _ _ q => q) rfl (fun _ _ z => z) r2 hl ⟨rfl, rfl⟩)
theorem dfn (F : FunD K x qual params body scope dvs0 kws f fd) (S : FnScope N ps scope) (hb : L2.Binds K fd ps bs) (hd : Vals dvs bs) (rd : ∀ G P, RepL K G P dvs dfl) (hT : ∀ ds Q E, T ds Q E → (ds ++ dfl).length = ps.length)
    (hbody : ∀ (cdv : Value) (A : Around) (outer : List Env) (s : Shared) (H : Hp) (E : XK) (B : Base) (Ed : Exn → Prop), (gp = true → A.guards = some []) → Room k (A.deeper (envOfC qual scope s.heap.objs.size f cdv)) → B.M = (fun _ => False) →
      Wish (cxOf (L2.CX P w) P w K mg base N qual scope f cdv A outer s H E) B (fun e _ => Ed e) → DSs (cxOf (L2.CX P w) P w K mg base N qual scope f cdv A outer s H E) B body (t Ed))
    (hread : ∀ ds Q Ed, T ds Q Ed → t Ed { nx := fun _ => Q .non, rt := Q } ((ds ++ dfl).map (fun d => some (.val d)) ++ List.replicate (N.length - (ds ++ dfl).length) none)) : Fn gp P w K mg base (k + 1) f T := by
  intro A outer s H us vs Q E hg hr e0 r ⟨G, P0, ds, Qd, Ed, ok, rl, ht, k1, kx⟩
  obtain ⟨oc, od, dV, kV, doc, pm, an, cdv, ct, osl, rfl, lk, hcd, _, _⟩ := (F.ex)
  have rl2 := rl.append (rd G P0)
  refine StX.run_bnd lk hcd S hr e0 (bnd_of hb hd e0 r (by rw [rl2.length]; exact hT _ _ _ ht)) ?_
  rintro s2 H2 _ ⟨rfl, rfl⟩ hr2
  have wsh : Wish (cxOf (L2.CX P w) P w K mg base N qual scope f cdv A outer s2 H2 E) ⟨G, H2, P0, fun _ => False⟩ (fun e _ => Ed e) :=
    ⟨_, takes_of rfl rfl rfl rfl, fun cls d e σ G' H' P' δ ws rx q => kx cls d G' H' P' e (ws.since.stp fun _ z => z) ws.ok rx q⟩
  refine ⟨_, hbody cdv A outer s2 H2 E ⟨G, H2, P0, fun _ => False⟩ Ed hg hr2 rfl wsh, G, P0, _, _, ws_start ok rl2, hread ds Qd Ed ht, ?_⟩
  exact ⟨fun σ H' G' P' δ ws _ _ q => k1 _ _ _ _ _ (ws.since.stp fun _ z => z) ws.ok .non q, fun _ _ _ _ _ _ _ _ q => q.elim, fun _ _ _ _ _ _ _ _ q => q.elim, fun v H' G' P' d ok' sc rv q => k1 _ _ _ _ _ (sc.stp fun _ z => z) ok' rv q⟩
/-- .. without defaults, as properties want it -/
theorem dfn1 (F : FunD K x qual params body scope dvs0 kws f fd) (S : FnScope N ps scope) (hb : L2.Binds K fd ps []) (hT : ∀ ds Q E, T ds Q E → ds.length = ps.length)
    (hbody : ∀ (cdv : Value) (A : Around) (outer : List Env) (s : Shared) (H : Hp) (E : XK) (B : Base) (Ed : Exn → Prop), Room k (A.deeper (envOfC qual scope s.heap.objs.size f cdv)) → B.M = (fun _ => False) →
      Wish (cxOf (L2.CX P w) P w K mg base N qual scope f cdv A outer s H E) B (fun e _ => Ed e) → DSs (cxOf (L2.CX P w) P w K mg base N qual scope f cdv A outer s H E) B body (t Ed))
    (hread : ∀ ds Q Ed, T ds Q Ed → t Ed { nx := fun _ => Q .non, rt := Q } (ds.map (fun d => some (.val d)) ++ List.replicate (N.length - ds.length) none)) : Fn1 P w K mg base (k + 1) f ps T := by
  refine ⟨fd, F.ok S (fun vs H Q E ⟨G, P0, ds, Qd, Ed, ok, rl, ht, _⟩ => by rw [rl.length]; exact hT _ _ _ ht) (fun cdv A outer s H vs Q E hr ⟨G, P0, ds, Qd, Ed, ok, rl, ht, k1, kx⟩ => ?_), hb⟩
  have wsh : Wish (cxOf (L2.CX P w) P w K mg base N qual scope f cdv A outer s H E) ⟨G, H, P0, fun _ => False⟩ (fun e _ => Ed e) :=
    ⟨_, takes_of rfl rfl rfl rfl, fun cls d e σ G' H' P' δ ws rx q => kx cls d G' H' P' e (ws.since.stp fun _ z => z) ws.ok rx q⟩
  refine ⟨_, hbody cdv A outer s H E ⟨G, H, P0, fun _ => False⟩ Ed hr rfl wsh, G, P0, _, _, ws_start ok rl, hread ds Qd Ed ht, ?_⟩
  exact ⟨fun σ H' G' P' δ ws _ _ q => k1 _ _ _ _ _ (ws.since.stp fun _ z => z) ws.ok .non q, fun _ _ _ _ _ _ _ _ q => q.elim, fun _ _ _ _ _ _ _ _ q => q.elim, fun v H' G' P' d ok' sc rv q => k1 _ _ _ _ _ (sc.stp fun _ z => z) ok' rv q⟩
/-- __init__ -/
def endI (C : Addr) (Q : D → Prop) (δ : DSt) : Prop := match δ[(0 : Nat)]? with
  | some (some (.inst C' fs)) => C' = C ∧ Q (.ins C fs)
  | _ => False
theorem ws_startI {G H : Hp} {P : Addr → Prop} {x dx C : Addr} {vs : List V} {ds : List D} (ok : WOk G H P) (hx : H x = some (.ins C dx [])) (gx : G x = none) (px : ¬ P x) (r : RepL K G P vs ds) :
    WS K ⟨G, H, P, fun a => a = x⟩ G H P (L2.start N (.ref x :: vs)) (some (.inst C []) :: (ds.map (fun d => some (.val d)) ++ List.replicate (N.length - (ds.length + 1)) none)) := by
  have w0 := ws_start (N := List.replicate (N.length - 1) Str.empty) ok r
  have e1 : L2.start N (.ref x :: vs) = some (.ref x) :: L2.start (List.replicate (N.length - 1) Str.empty) vs := by
    unfold L2.start
    simp only [List.map_cons, List.length_cons, List.cons_append, List.length_replicate]
    congr 2
    rw [Nat.sub_sub, Nat.add_comm]
  have e2 : (List.replicate (N.length - 1) Str.empty).length - ds.length = N.length - (ds.length + 1) := by rw [List.length_replicate]; omega
  rw [e2] at w0
  rw [e1]
  refine ⟨ok, ⟨fun _ _ h => h, fun _ _ h _ _ => h, fun _ h => h, fun _ h => h, fun _ h => .inl h, fun _ _ h => .inl h⟩, by simp [w0.len], fun i s e => ?_, fun i j s s' hij e e' m m' => ?_⟩
  · cases i with
    | zero =>
      cases e
      exact ⟨_, rfl, x, dx, [], rfl, hx, .nil, gx, px, rfl⟩
    | succ i =>
      obtain ⟨v, h1, h2⟩ := w0.sl i s (by simpa using e)
      refine ⟨v, by simpa using h1, ?_⟩
      cases s with
      | val d => exact h2
      | own ds =>
        obtain ⟨l, xs, a, b, c, d', e', f', g'⟩ := h2
        exact ⟨l, xs, a, b, c, d', e', f', g'⟩
      | inst C fs =>
        obtain ⟨l, dx, xs, a, b, c, d', e', f'⟩ := h2
        exact f'.elim
  · have key : ∀ (i : Nat) (s : SV), (some (.inst C []) :: (ds.map (fun d => some (.val d)) ++ List.replicate (N.length - (ds.length + 1)) none) : DSt)[i]? = some (some s) → s.mut = true → i = 0 := by
      intro i s e m
      cases i with
      | zero => rfl
      | succ i =>
        have e' : (ds.map (fun d => some (SV.val d)) ++ List.replicate (N.length - (ds.length + 1)) none)[i]? = some (some s) := by simpa using e
        by_cases hi : i < ds.length
        · rw [List.getElem?_append_left (by simpa using hi), List.getElem?_map] at e'
          cases hd : ds[i]? with
          | none => rw [hd] at e'; cases e'
          | some d => rw [hd] at e'; cases e'; cases m
        · rw [List.getElem?_append_right (by simpa using hi), List.getElem?_replicate] at e'
          split at e' <;> cases e'
    exact absurd ((key i s e m).trans (key j s' e' m').symm) hij
theorem dfi {C : Addr} (F : FunD K x qual params body scope dvs0 kws f fd) (S : FnScope N ps scope) (hb : L2.Binds K fd ps bs) (hd : Vals dvs bs) (rd : ∀ G P, RepL K G P dvs dfl) (hT : ∀ ds Q E, T ds Q E → (ds ++ dfl).length + 1 = ps.length)
    (hbody : ∀ (cdv : Value) (A : Around) (outer : List Env) (s : Shared) (H : Hp) (E : XK) (B : Base) (Ed : Exn → Prop), (gp = true → A.guards = some []) → Room k (A.deeper (envOfC qual scope s.heap.objs.size f cdv)) →
      Wish (cxOf (L2.CX P w) P w K mg base N qual scope f cdv A outer s H E) B (fun e _ => Ed e) → DSs (cxOf (L2.CX P w) P w K mg base N qual scope f cdv A outer s H E) B body (t Ed))
    (hread : ∀ ds Q Ed, T ds Q Ed → t Ed { nx := endI C Q, rt := fun _ => False } (some (.inst C []) :: ((ds ++ dfl).map (fun d => some (.val d)) ++ List.replicate (N.length - ((ds ++ dfl).length + 1)) none))) : FnI gp P w K mg base (k + 1) f C T := by
  rintro A outer s H us _ Q E hg hr e0 r ⟨x0, dx, vs, G, P0, ds, Qd, Ed, rfl, hx, gx, px, ok, rl, ht, k1, kx⟩
  obtain ⟨oc, od, dV, kV, doc, pm, an, cdv, ct, osl, rfl, lk, hcd, _, _⟩ := (F.ex)
  have rl2 := rl.append (rd G P0)
  refine StX.run_bnd lk hcd S hr e0 (bnd_of hb hd e0 r (by
    show (vs ++ dvs).length + 1 = _
    rw [rl2.length]; exact hT _ _ _ ht)) ?_
  rintro s2 H2 _ ⟨rfl, rfl⟩ hr2
  have wsh : Wish (cxOf (L2.CX P w) P w K mg base N qual scope f cdv A outer s2 H2 E) ⟨G, H2, P0, fun a => a = x0⟩ (fun e _ => Ed e) :=
    ⟨_, takes_of rfl rfl rfl rfl, fun cls d e σ G' H' P' δ ws rx q => kx cls d G' H' P' e ws.since ws.ok rx q⟩
  refine ⟨_, hbody cdv A outer s2 H2 E ⟨G, H2, P0, fun a => a = x0⟩ Ed hg hr2 wsh, G, P0, _, _, ws_startI ok hx gx px rl2, hread ds Qd Ed ht, ?_⟩
  refine ⟨fun σ H' G' P' δ ws _ _ q => ?_, fun _ _ _ _ _ _ _ _ q => q.elim, fun _ _ _ _ _ _ _ _ q => q.elim, fun v H' G' P' d ok' sc rv q => q.elim⟩
  have q : endI C Qd δ := q
  unfold endI at q
  split at q
  · rename_i C' fs hd
    obtain ⟨rfl, q⟩ := q
    obtain ⟨v2, _, x2, dx2, vs2, rfl, hx2, rf, g2, p2, rfl⟩ := ws.sl 0 _ hd
    exact k1 _ _ _ _ _ _ ws.since ws.ok hx2 rf g2 p2 q
  · exact q.elim
end
end FG

/-! FH: chains, subscripts, ranges, built-ins on trees. -/
namespace FG
open PySem.Spec PySem L2 PyProof.Rows

section
variable {X : Cx} {B : Base} {e a b c : Expr} {es rest : List Expr} {ta tb tc : DT} {te : DTA} {pos : Pos} {n : Nat}
/-! ### a < b < c -/
theorem de_chain {op1 op2 : CmpOp} {r r' : R2} {f g : F2} (h1 : OpR X (compareOp op1) r) (k1 : OpD X.K r f) (h2 : OpR X (compareOp op2) r') (k2 : OpD X.K r' g) (ha : DE X B a ta) (hb : DE X B b tb) (hc : DE X B c tc)
    (m : lastMarks [op1, op2] [b, c] = false := by rfl) : DE X B (.Compare a [op1, op2] [b, c] pos) (dChain f g ta tb tc) :=
  (pe_chain h1 h2 ha hb hc m).mono fun σ H Q q => lift_chain k1 k2 σ H Q q
theorem dt_chain {op1 op2 : CmpOp} {r r' : R2} {f g : F2} (h1 : OpR X (compareOp op1) r) (k1 : OpD X.K r f) (h2 : OpR X (compareOp op2) r') (k2 : OpD X.K r' g) (ha : DE X B a ta) (hb : DE X B b tb) (hc : DE X B c tc)
    (m : lastMarks [op1, op2] [b, c] = false := by rfl) : DTe X B (.Compare a [op1, op2] [b, c] pos) (dTest (dChain f g ta tb tc)) :=
  (pt_chain h1 h2 ha hb hc m).mono fun σ H Q q => lift_test (fun σ H Q q => lift_chain k1 k2 σ H Q q) σ H Q q
/-! ### xs[i] -/
def fIx : F2 := fun x y Q => match x, y with
  | .lst ds, .int i => match atI ds i with
    | some d => Q d
    | none => False
  | .tup ds, .int i => match atI ds i with
    | some d => Q d
    | none => False
  | .str z, .int i => z.length ≤ sizeLine ∧ match atI z.cps.toList i with
    | some c => Q (.str (sign c))
    | none => False
  | .scr ns, .int i => match atI ns i with
    | some n => Q (.int n)
    | none => False
  | _, _ => False
theorem atI_map {α β : Type} (f : α → β) (xs : List α) (i : Int) : L2.atI (xs.map f) i = (L2.atI xs i).map f := by
  unfold L2.atI
  rw [List.length_map]
  cases ixN xs.length i with
  | none => rfl
  | some j => simp
theorem RepL.atI {K : PySem.W.Frag} {G : Hp} {P : Addr → Prop} {vs : List V} {ds : List D} {i : Int} {d : D} (r : RepL K G P vs ds) (h : L2.atI ds i = some d) : ∃ v, L2.atI vs i = some v ∧ Rep K G P v d := by
  unfold L2.atI at h ⊢
  rw [r.length]
  cases e : ixN ds.length i with
  | none => (rw [e] at h; cases h)
  | some j =>
    rw [e] at h
    obtain ⟨v, h1, h2⟩ := r.get (i := j) h
    exact ⟨v, h1, h2⟩
theorem od_ix {K : PySem.W.Frag} : OpD K (rIx K) fIx := by
  intro G H P x y dx dy Qd Q w rx ry q k
  cases ry with
  | int i =>
    cases rx with
    | @lst p xs ds h1 h2 h3 =>
      have q : (match L2.atI ds i with | some d => Qd d | none => False) := q
      split at q
      · rename_i d hd
        obtain ⟨v, h4, h5⟩ := h2.atI hd
        exact .inl ⟨_, _, i, v, rfl, rfl, .inl (.inl (w.gh _ _ h1)), h4, k.here w h5 q⟩
      · exact q.elim
    | @tup p xs ds h1 h2 h3 =>
      have q : (match L2.atI ds i with | some d => Qd d | none => False) := q
      split at q
      · rename_i d hd
        obtain ⟨v, h4, h5⟩ := h2.atI hd
        exact .inr (.inl ⟨_, _, i, v, rfl, rfl, sqt_mono w.gh h1, h4, k.here w h5 q⟩)
      · exact q.elim
    | str z =>
      obtain ⟨z1, q⟩ := (show z.length ≤ sizeLine ∧ (match L2.atI z.cps.toList i with | some c => Qd (.str (sign c)) | none => False) from q)
      split at q
      · rename_i d hd
        exact .inr (.inr ⟨_, _, _, rfl, rfl, z1, hd, k.here w (.str _) q⟩)
      · exact q.elim
    | @scr p ns h1 =>
      have q : (match L2.atI ns i with | some n => Qd (.int n) | none => False) := q
      split at q
      · rename_i n hn
        exact .inl ⟨_, _, i, .int n, rfl, rfl, sql_mono w.gh h1, by rw [atI_map, hn]; rfl, k.here w (.int _) q⟩
      · exact q.elim
    | _ => exact q.elim
  | _ => exact (show False by cases rx <;> exact q).elim
theorem de_ix (ha : DE X B a ta) (hb : DE X B b tb) (hs : PlainIx b := by intro _ _; rfl) : DE X B (.Subscript a b pos) (dOp fIx ta tb) := (pe_ix ix_seq ha hb hs).mono fun σ H Q q => lift_op od_ix σ H Q q
/-- .. an own list, looked at -/
def dIxO (i : Nat) (tb : DT) : DT := fun δ Q => tb δ fun y => match δ[i]?, y with
  | some (some (.own ds)), .int j => match atI ds j with
    | some d => Q d
    | none => False
  | _, _ => False
/-! ### xs[::-1] -/
def dRev (ta : DT) : DTF := fun δ Q => ta δ fun x => match x with
  | .lst ds => Q ds.reverse
  | _ => False
theorem df_rev {k : Nat} {p1 p2 p3 : Pos} (ha : DE X B a ta) : DF X B (.Subscript a (.Slice none none (some (.UnaryOp .USub (.Constant (.int 1) k p1) p2)) p3) pos) (dRev ta) := (pe_revL ha).mono fun σ H Q q => by
  obtain ⟨G, P, δ, Qd, w, q, kk⟩ := q
  refine ⟨G, P, δ, _, w, q, fun v G1 H1 P1 d s1 ok1 r1 q1 => ?_⟩
  cases r1 with
  | @lst p xs ds h1 h2 h3 =>
    refine ⟨_, _, rfl, .inl (.inl (ok1.gh _ _ h1)), fun l hl => ?_⟩
    have gl : G1 l = none := by
      cases z : G1 l with
      | none => rfl
      | some o => rw [ok1.gh l o z] at hl; cases hl
    have np : ¬ P1 l := fun z => by
      obtain ⟨i, j, e, _⟩ := ok1.pt l z
      rw [e] at hl; cases hl
    have hl0 : H l = none := by
      cases z : H l with
      | none => rfl
      | some o => exact absurd hl (s1.dm l (by rw [z]; simp))
    obtain ⟨s2, ok2⟩ := s1.poke ok1 (o := .lst xs.reverse) hl0 gl np
    exact kk l _ _ _ _ _ s2 ok2 hl0 upd_same h2.reverse gl np (by rw [List.length_reverse]; exact h3) q1
  | _ => exact q1.elim
/-! ### ranges -/
def steps (lo c : Int) (n : Nat) : List D := (List.range n).map fun (k : Nat) => .int (lo + (k : Int) * c)
theorem DWalk.rangeC {K : PySem.W.Frag} {G : Hp} {P : Addr → Prop} {lo c : Int} {n : Nat} (z : n ≤ sizeLine) : DWalk K (Itc lo c n) (steps lo c n) G P := by
  have hl : (steps lo c n).length = n := by simp [steps]
  refine ⟨⟨_, _, by rw [hl]; exact walk_rangeC, fun _ _ _ _ _ => True.intro, fun i v H H' G2 P2 hi ok gg pp y => ?_⟩, by rw [hl]; exact z⟩
  obtain ⟨rfl, rfl⟩ := y
  rw [hl] at hi
  exact ⟨G2, .int (lo + (i : Int) * c), .refl, ok, by simp [steps, hi], .int _⟩
theorem DWalk.range {K : PySem.W.Frag} {G : Hp} {P : Addr → Prop} {lo : Int} {n : Nat} (z : n ≤ sizeLine) : DWalk K (Itr lo n) (steps lo 1 n) G P := by
  have hl : (steps lo 1 n).length = n := by simp [steps]
  refine ⟨⟨_, _, by rw [hl]; exact walk_range, fun _ _ _ _ _ => True.intro, fun i v H H' G2 P2 hi ok gg pp y => ?_⟩, by rw [hl]; exact z⟩
  obtain ⟨rfl, rfl⟩ := y
  rw [hl] at hi
  exact ⟨G2, .int (lo + (i : Int) * 1), .refl, ok, by simp [steps, hi], by rw [Int.mul_one]; exact .int _⟩
def iRange1 (te : DTA) : DTI := fun δ Q => te δ fun ds => match ds with
  | [.int j] => j ≤ sizeLine ∧ -(2 ^ 62) ≤ j ∧ Q (steps 0 1 j.toNat)
  | _ => False
def iRange2 (te : DTA) : DTI := fun δ Q => te δ fun ds => match ds with
  | [.int i, .int j] => j - i ≤ sizeLine ∧ (-(2 ^ 62) ≤ i ∧ i < 2 ^ 62 ∧ -(2 ^ 62) ≤ j ∧ j < 2 ^ 62) ∧ Q (steps i 1 (j - i).toNat)
  | _ => False
/-- range(i, j, -1) -/
def iRange3 (te : DTA) : DTI := fun δ Q => te δ fun ds => match ds with
  | [.int i, .int j, .int c] => c = -1 ∧ i - j ≤ sizeLine ∧ (-(2 ^ 62) ≤ i ∧ i < 2 ^ 62 ∧ -(2 ^ 62) ≤ j ∧ j < 2 ^ 62) ∧ Q (steps i (-1) (i - j).toNat)
  | _ => False
theorem RepL.int1 {K : PySem.W.Frag} {G : Hp} {P : Addr → Prop} {vs : List V} {i : Int} (r : RepL K G P vs [.int i]) : (vs = [.int i]) := RepL.of_ints (ns := [i]) r
theorem RepL.int2 {K : PySem.W.Frag} {G : Hp} {P : Addr → Prop} {vs : List V} {i j : Int} (r : RepL K G P vs [.int i, .int j]) : (vs = [.int i, .int j]) := RepL.of_ints (ns := [i, j]) r
theorem RepL.int3 {K : PySem.W.Frag} {G : Hp} {P : Addr → Prop} {vs : List V} {i j k : Int} (r : RepL K G P vs [.int i, .int j, .int k]) : (vs = [.int i, .int j, .int k]) := RepL.of_ints (ns := [i, j, k]) r
theorem line62 : (sizeLine : Int) < 2 ^ 62 := by rw [sizeLine_eq]; decide
variable {tg : Expr} {p : Pos}
theorem di_range1 (hg : Gl X "range") (hm : X.mg "range" = none) (ha : DA X B [a] n te) (hs : starEach [a] X.env = [(false, eval a X.env)] := by rfl) : DI X B tg (.Call (.Name "range" p) [a] [] pos) (iRange1 te) := (pi_range1 hg hm ha hs).mono fun σ H R q => by
  obtain ⟨G, P, δ, Qi, w, q, k⟩ := q
  refine ⟨G, P, δ, _, w, q, fun vs G1 H1 P1 ds s1 ok1 r1 _ q1 => ?_⟩
  split at q1
  · rename_i j _
    have e := r1.int1; subst e
    have := line62
    exact ⟨j, rfl, q1.2.1, by omega, k _ _ _ _ _ s1 ok1 (DWalk.range (by omega)) q1.2.2⟩
  · exact q1.elim
theorem di_range2 (hg : Gl X "range") (hm : X.mg "range" = none) (ha : DA X B [a, b] n te) (hs : starEach [a, b] X.env = [(false, eval a X.env), (false, eval b X.env)] := by rfl) (hs2 : starEach [b] X.env = [(false, eval b X.env)] := by rfl) :
    DI X B tg (.Call (.Name "range" p) [a, b] [] pos) (iRange2 te) := (pi_range2 hg hm ha hs hs2).mono fun σ H R q => by
  obtain ⟨G, P, δ, Qi, w, q, k⟩ := q
  refine ⟨G, P, δ, _, w, q, fun vs G1 H1 P1 ds s1 ok1 r1 _ q1 => ?_⟩
  split at q1
  · rename_i i j _
    have e := r1.int2; subst e
    exact ⟨i, j, rfl, q1.2.1, k _ _ _ _ _ s1 ok1 (DWalk.range (by omega)) q1.2.2⟩
  · exact q1.elim
theorem di_range3 (hg : Gl X "range") (hm : X.mg "range" = none) (ha : DA X B [a, b, c] n te) (hs : starEach [a, b, c] X.env = (false, eval a X.env) :: starEach [b, c] X.env := by rfl) (hpl : (backTo pos (starEach [b, c] X.env)).any (·.1) = false := by rfl) : DI X B tg (.Call (.Name "range" p) [a, b, c] [] pos) (iRange3 te) := (pi_range3 hg hm ha hs hpl).mono fun σ H R q => by
  obtain ⟨G, P, δ, Qi, w, q, k⟩ := q
  refine ⟨G, P, δ, _, w, q, fun vs G1 H1 P1 ds s1 ok1 r1 _ q1 => ?_⟩
  split at q1
  · rename_i i j c _
    have e := r1.int3; subst e
    obtain ⟨rfl, z, ⟨h1, h2, h3, h4⟩, q1⟩ := q1
    exact ⟨i, j, -1, _, rfl, RgC.neg h1 h2 h3 h4, k _ _ _ _ _ s1 ok1 (DWalk.rangeC (by omega)) q1⟩
  · exact q1.elim
end

/-! ### isinstance, builtin classes -/
def D.tyn : D → Option String
  | .non => some "NoneType"
  | .bl _ => some "bool"
  | .int _ => some "int"
  | .str _ => some "str"
  | .tup _ => some "tuple"
  | .lst _ | .scr _ => some "list"
  | _ => none
def tyIs (t T : String) : Bool := t == T || (t == "bool" && T == "int")
def okTys : List String := ["int", "bool", "str", "tuple", "list"]
theorem kit_tyIs {t T : String} (ht : t ∈ "NoneType" :: okTys) (hT : T ∈ okTys) : kitB t T = some (tyIs t T) := by
  have h : ∀ t ∈ "NoneType" :: okTys, ∀ T ∈ okTys, kitB t T = some (tyIs t T) := by decide +kernel
  exact h t ht T hT
def fIsi : F1 := fun ds Q => match ds with
  | [x, .ty T] => (∃ t, x.tyn = some t ∧ T ∈ okTys ∧ Q (.bl (tyIs t T)))
  | _ => False
section
variable {X : Cx} {K : PySem.W.Frag} {G H : Hp} {P : Addr → Prop}
theorem Rep.tyx (gh : ∀ a o, G a = some o → H a = some o) {v : V} {d : D} {t : String} (r : Rep K G P v d) (e : d.tyn = some t) : TyX K H v (.type t) ∧ t ∈ "NoneType" :: okTys := by
  have sq : ∀ {a : Addr} {xs : List V}, SqT K H a xs → TyX K H (.ref a) (.type "tuple") := fun {a xs} h => by
    rcases (h) with (h | ⟨o, h⟩) | h
    · exact .base (.tup h)
    · exact .fTuple h
    · obtain ⟨o, _, _, h1, h2, _⟩ := h
      exact .kTuple h1 h2
  have sl : ∀ {a : Addr} {xs : List V}, SqL K H a xs → TyX K H (.ref a) (.type "list") := fun {a xs} h => by
    rcases (h) with (h | ⟨o, h⟩) | h
    · exact .base (.lst h)
    · exact .base (.frz h)
    · obtain ⟨o, _, _, h1, h2, _⟩ := h
      exact .kList h1 h2
  cases r <;> first
    | (cases e; exact ⟨.base .non, by decide⟩)
    | (cases e; exact ⟨.base (.bl _), by decide⟩)
    | (cases e; exact ⟨.base (.int _), by decide⟩)
    | (cases e; exact ⟨.base (.str _), by decide⟩)
    | (rename_i h _ _; cases e; exact ⟨sq (sqt_mono gh h), by decide⟩)
    | (rename_i h _ _; cases e; exact ⟨.base (.lst (gh _ _ h)), by decide⟩)
    | (rename_i h; cases e; exact ⟨sl (sql_mono gh h), by decide⟩)
    | cases e
theorem kit_tys {t : String} (ht : t ∈ "NoneType" :: okTys) : ∀ {Ts : List String}, (∀ T ∈ Ts, T ∈ okTys) → PySem.W.kitAny K (.type t) (Ts.map Value.type) = some (Ts.any (tyIs t))
  | [], _ => kitAny_nil
  | T :: Ts, h => by
    have ih := kit_tys ht (Ts := Ts) fun T' h' => h T' (List.mem_cons_of_mem _ h')
    have e := kit_tyIs ht (h T List.mem_cons_self)
    rw [List.map_cons, List.any_cons]
    refine kitAny_cons (kit_ty e) (fun z => ?_) (fun z => ?_)
    · rw [z, Bool.false_or]; exact ih
    · rw [z, Bool.true_or]
theorem cd_isi : CallD K (rIsi K) fIsi := by
  intro G H P vs ds Qd Q w r q k
  unfold fIsi at q
  split at q
  · obtain ⟨t, ht, hT, q⟩ := q
    cases r with
    | cons r1 r2 =>
      cases r2 with
      | cons r2 r3 =>
        cases r2
        cases r3
        obtain ⟨h1, h2⟩ := r1.tyx w.gh ht
        exact ⟨_, _, _, _, _, rfl, .ty _, h1, kit_ty (kit_tyIs h2 hT), k.here w (.bl _) q⟩
  · exact q.elim
end
/-- isinstance(e, (T1, T2, ..)) -/
def tTys : List String → TA
  | [] => tNil
  | T :: Ts => tCons (tC (.ty T)) (tTys Ts)
def dIsiT (Ts : List String) (ta : DT) : DT := fun δ Q => ta δ fun x => ∃ t, x.tyn = some t ∧ (∀ T ∈ Ts, T ∈ okTys) ∧ Q (.bl (Ts.any (tyIs t)))
theorem tTys_run {σ : L2.St} {H : Hp} : ∀ {Ts : List String} {Q : List V → Hp → Prop}, Q (Ts.map V.ty) H → tTys Ts σ H Q
  | [], _, q => q
  | T :: Ts, Q, q => by
    unfold tTys
    show tTys Ts σ H fun xs H2 => Q (.ty T :: xs) H2
    exact tTys_run q
theorem tys_cls : ∀ {Ts : List String}, Paired ClsV (Ts.map V.ty) (Ts.map Value.type)
  | [] => .nil
  | T :: _ => .cons (.ty T) tys_cls
section
variable {X : Cx} {B : Base} {e : Expr} {cs : List Expr} {ta : DT} {Ts : List String} {x1 : Nat} {tp p pos : Pos}
theorem de_isiT (hg : Gl X "isinstance") (hm : X.mg "isinstance" = none) (ha : DE X B e ta) (hcs : PA X cs (tTys Ts)) (hn : Ts.length ≤ sizeLine := by decide)
    (h0 : starEach [e, .Tuple cs x1 tp] X.env = (false, eval e X.env) :: starEach [.Tuple cs x1 tp] X.env := by rfl) (h1 : starEach [.Tuple cs x1 tp] X.env = (false, eval (.Tuple cs x1 tp) X.env) :: starEach [] X.env := by rfl) (h2 : (backTo pos (starEach [.Tuple cs x1 tp] X.env)).any (·.1) = false := by rfl) :
    DE X B (.Call (.Name "isinstance" p) [e, .Tuple cs x1 tp] [] pos) (dIsiT Ts ta) :=
  (pe_callB call_isiT hg hm (by rfl) (pa_cons ha (pa_cons (pe_tup hcs) pa_nil h1) h0) (by decide) (by decide) h0 h2).mono fun σ H Q q => by
    obtain ⟨G, P, δ, Qd, w, q, k⟩ := q
    refine ⟨G, P, δ, _, w, q, fun v G1 H1 P1 d s1 ok1 r1 ⟨t, ht, hT, q1⟩ => ?_⟩
    refine tTys_run ⟨by simpa using hn, fun l hl => ?_⟩
    obtain ⟨s2, ok2⟩ := Stp.laid (o := .tup (Ts.map V.ty)) ok1 hl
    obtain ⟨h1, h2⟩ := (s2.rep r1).tyx ok2.gh ht
    exact ⟨v, l, _, _, _, _, rfl, upd_same, tys_cls, h1, kit_tys h2 hT, k _ _ _ _ _ (s1.trans s2) ok2 (.bl _) q1⟩
end
/-! ### one value, two values -/
section
variable {X : Cx} {K : PySem.W.Frag}
def fLen : F1 := fun ds Q => match ds with
  | [.str s] => s.length ≤ sizeLine ∧ Q (.int s.length)
  | [.lst xs] => Q (.int xs.length)
  | [.tup xs] => Q (.int xs.length)
  | [.scr xs] => Q (.int xs.length)
  | _ => False
abbrev rLen (K : PySem.W.Frag) : List V → Hp → VK → Prop := fun xs H Q => ∃ x n, xs = [x] ∧ LenV K x H n ∧ Q (.int n) H
theorem cd_len : CallD K (rLen K) fLen := by
  intro G H P vs ds Qd Q w r q k
  unfold fLen at q
  split at q
  · cases r with | cons a b => cases a; cases b; exact ⟨_, _, rfl, ⟨q.1, rfl⟩, k.here w (.int _) q.2⟩
  · cases r with | cons a b => cases b; cases a with | lst h1 h2 h3 => exact ⟨_, _, rfl, .inl ⟨_, .inl (.inl (w.gh _ _ h1)), h2.length.symm⟩, k.here w (.int _) q⟩
  · cases r with | cons a b => cases b; cases a with | tup h1 h2 h3 => exact ⟨_, _, rfl, .inr ⟨_, sqt_mono w.gh h1, h2.length.symm⟩, k.here w (.int _) q⟩
  · cases r with | cons a b => cases b; cases a with | scr h1 => exact ⟨_, _, rfl, .inl ⟨_, sql_mono w.gh h1, by simp⟩, k.here w (.int _) q⟩
  · exact q.elim
def fAbs : F1 := fun ds Q => match ds with
  | [.int i] => Q (.int (if i < 0 then -i else i))
  | _ => False
theorem cd_abs : CallD K (fun xs H Q => ∃ i, xs = [.int i] ∧ Q (.int (if i < 0 then -i else i)) H) fAbs := by
  intro G H P vs ds Qd Q w r q k
  unfold fAbs at q
  split at q
  · have e := r.int1; subst e; exact ⟨_, rfl, k.here w (.int _) q⟩
  · exact q.elim
def fMax2 : F1 := fun ds Q => match ds with
  | [.int i, .int j] => Q (.int (if j > i then j else i))
  | _ => False
theorem cd_max2 : CallD K (fun xs H Q => ∃ i j, xs = [.int i, .int j] ∧ Q (.int (if j > i then j else i)) H) fMax2 := by
  intro G H P vs ds Qd Q w r q k
  unfold fMax2 at q
  split at q
  · have e := r.int2; subst e; exact ⟨_, _, rfl, k.here w (.int _) q⟩
  · exact q.elim
def fMin2 : F1 := fun ds Q => match ds with
  | [.int i, .int j] => Q (.int (if j < i then j else i))
  | _ => False
theorem cd_min2 : CallD K (fun xs H Q => ∃ i j, xs = [.int i, .int j] ∧ Q (.int (if j < i then j else i)) H) fMin2 := by
  intro G H P vs ds Qd Q w r q k
  unfold fMin2 at q
  split at q
  · have e := r.int2; subst e; exact ⟨_, _, rfl, k.here w (.int _) q⟩
  · exact q.elim
def fInt1 : F1 := fun ds Q => match ds with
  | [.int i] => Q (.int i)
  | [.bl b] => Q (.int (if b then 1 else 0))
  | _ => False
theorem cd_int1 : CallD K (fun xs H Q => (∃ i, xs = [.int i] ∧ Q (.int i) H) ∨ ∃ k, xs = [.bl k] ∧ Q (.int (if k then 1 else 0)) H) fInt1 := by
  intro G H P vs ds Qd Q w r q k
  unfold fInt1 at q
  split at q
  · have e := r.int1; subst e; exact .inl ⟨_, rfl, k.here w (.int _) q⟩
  · cases r with | cons a b => cases a; cases b; exact .inr ⟨_, rfl, k.here w (.int _) q⟩
  · exact q.elim
/-! ### lists of ints, of bools -/
def D.asInts : List D → Option (List Int)
  | [] => some []
  | .int i :: r => (D.asInts r).map (i :: ·)
  | _ :: _ => none
theorem asInts_map : ∀ (ns : List Int), D.asInts (ns.map D.int) = some ns
  | [] => rfl
  | n :: ns => by rw [List.map_cons]; unfold D.asInts; rw [asInts_map ns]; rfl
theorem of_asInts : ∀ {ds : List D} {ns : List Int}, D.asInts ds = some ns → ds = ns.map D.int
  | [], _, e => by cases e; rfl
  | .int i :: r, _, e => by
    unfold D.asInts at e
    cases e2 : D.asInts r with
    | none => rw [e2] at e; cases e
    | some ms => rw [e2] at e; cases e; rw [List.map_cons, ← of_asInts e2]
def D.asBls : List D → Option (List Bool)
  | [] => some []
  | .bl i :: r => (D.asBls r).map (i :: ·)
  | _ :: _ => none
theorem of_asBls : ∀ {ds : List D} {ns : List Bool}, D.asBls ds = some ns → ds = ns.map D.bl
  | [], _, e => by cases e; rfl
  | .bl i :: r, _, e => by
    unfold D.asBls at e
    cases e2 : D.asBls r with
    | none => rw [e2] at e; cases e
    | some ms => rw [e2] at e; cases e; rw [List.map_cons, ← of_asBls e2]
theorem asBls_map : ∀ (ns : List Bool), D.asBls (ns.map D.bl) = some ns
  | [] => rfl
  | n :: ns => by rw [List.map_cons]; unfold D.asBls; rw [asBls_map ns]; rfl
theorem RepL.of_bls {G : Hp} {P : Addr → Prop} : ∀ {ns : List Bool} {vs : List V}, RepL K G P vs (ns.map D.bl) → vs = ns.map V.bl
  | [], _, .nil => rfl
  | n :: ns, _, .cons a b => by
    cases a
    rw [RepL.of_bls b]; rfl
/-- the ints of a list -/
def fL (f : List Int → (D → Prop) → Prop) : F1 := fun ds Q => match ds with
  | [.lst xs] => ∃ ns, D.asInts xs = some ns ∧ f ns Q
  | [.scr ns] => f ns Q
  | _ => False
theorem cd_ints {f : List Int → (D → Prop) → Prop} {r : List V → Hp → VK → Prop} (h : ∀ (G H : Hp) (P : Addr → Prop) (a : Addr) (ns : List Int) (Qd : D → Prop) (Q : VK), WOk G H P → SqL K H a (ns.map V.int) → f ns Qd → K1 K G H P Qd Q → r [.ref a] H Q) : CallD K r (fL f) := by
  intro G H P vs ds Qd Q w rr q k
  unfold fL at q
  split at q
  · obtain ⟨ns, e, q⟩ := q
    rw [of_asInts e] at rr
    cases rr with | cons a b => cases b; cases a with | lst h1 h2 h3 => exact h _ _ _ _ ns _ _ w (by rw [← RepL.of_ints h2]; exact .inl (.inl (w.gh _ _ h1))) q k
  · cases rr with | cons a b => cases b; cases a with | scr h1 => exact h _ _ _ _ _ _ _ w (sql_mono w.gh h1) q k
  · exact q.elim
def gMax (ns : List Int) (Q : D → Prop) : Prop := 0 < ns.length ∧ ∀ m, m ∈ ns → (∀ y, y ∈ ns → y ≤ m) → Q (.int m)
def gMin (ns : List Int) (Q : D → Prop) : Prop := 0 < ns.length ∧ ∀ m, m ∈ ns → (∀ y, y ∈ ns → m ≤ y) → Q (.int m)
def gSum (ns : List Int) (Q : D → Prop) : Prop := Q (.int ns.sum)
def gSort (ns : List Int) (Q : D → Prop) : Prop := ns.length ≤ sizeLine ∧ ∀ ns' : List Int, ns'.Perm ns → ns'.Pairwise (· ≤ ·) → Q (.lst (ns'.map D.int))
theorem cd_maxL : CallD K (rMax K) (fL gMax) := cd_ints fun _ _ _ a ns _ _ w h q k => ⟨a, ns, rfl, h, q.1, fun m h1 h2 => k.here w (.int m) (q.2 m h1 h2)⟩
theorem cd_minL : CallD K (rMin K) (fL gMin) := cd_ints fun _ _ _ a ns _ _ w h q k => ⟨a, ns, rfl, h, q.1, fun m h1 h2 => k.here w (.int m) (q.2 m h1 h2)⟩
theorem cd_sum : CallD K (rSum K) (fL gSum) := cd_ints fun _ _ _ a ns _ _ w h q k => ⟨a, ns, rfl, h, k.here w (.int _) q⟩
theorem cd_sort : CallD K (rSortedI K) (fL gSort) := cd_ints fun _ _ _ a ns _ _ w h q k => ⟨a, ns, rfl, h, fun ns' p h1 h2 hp => k.new w hp (.newLst w hp RepL.ints (by rw [List.length_map, h1.length_eq]; exact q.1)) (q.2 ns' h1 h2)⟩
def fAll : F1 := fun ds Q => match ds with
  | [.lst xs] => ∃ bs, D.asBls xs = some bs ∧ Q (.bl (bs.all id))
  | _ => False
theorem cd_all : CallD K (rAll K) fAll := by
  intro G H P vs ds Qd Q w rr q k
  unfold fAll at q
  split at q
  · obtain ⟨bs, e, q⟩ := q
    rw [of_asBls e] at rr
    cases rr with | cons a b => cases b; cases a with | lst h1 h2 h3 => exact ⟨_, bs, rfl, by rw [← RepL.of_bls h2]; exact .inl (.inl (w.gh _ _ h1)), k.here w (.bl _) q⟩
  · exact q.elim
def fAny : F1 := fun ds Q => match ds with
  | [.lst xs] => ∃ bs, D.asBls xs = some bs ∧ Q (.bl (bs.any id))
  | _ => False
theorem cd_any : CallD K (rAny K) fAny := by
  intro G H P vs ds Qd Q w rr q k
  unfold fAny at q
  split at q
  · obtain ⟨bs, e, q⟩ := q
    rw [of_asBls e] at rr
    cases rr with | cons a b => cases b; cases a with | lst h1 h2 h3 => exact ⟨_, bs, rfl, by rw [← RepL.of_bls h2]; exact .inl (.inl (w.gh _ _ h1)), k.here w (.bl _) q⟩
  · exact q.elim
/-! ### list(x), tuple(x) -/
def fList : F1 := fun ds Q => match ds with
  | [.lst xs] => Q (.lst xs)
  | [.tup xs] => Q (.lst xs)
  | _ => False
theorem cd_list : CallD K (fun xs H Q => ∃ p ys, xs = [.ref p] ∧ (SqL K H p ys ∨ SqT K H p ys) ∧ ∀ l, H l = none → Q (.ref l) (upd H l (.lst ys))) fList := by
  intro G H P vs ds Qd Q w rr q k
  unfold fList at q
  split at q
  · cases rr with | cons a b => cases b; cases a with | lst h1 h2 h3 => exact ⟨_, _, rfl, .inl (.inl (.inl (w.gh _ _ h1))), fun l hl => k.new w hl (.newLst w hl h2 h3) q⟩
  · cases rr with | cons a b => cases b; cases a with | tup h1 h2 h3 => exact ⟨_, _, rfl, .inr (sqt_mono w.gh h1), fun l hl => k.new w hl (.newLst w hl h2 h3) q⟩
  · exact q.elim
def fTuple : F1 := fun ds Q => match ds with
  | [.lst xs] => Q (.tup xs)
  | [.tup xs] => Q (.tup xs)
  | _ => False
theorem cd_tuple : CallD K (fun xs H Q => ∃ p ys, xs = [.ref p] ∧ ((SqL K H p ys ∧ ∀ l, H l = none → Q (.ref l) (upd H l (.tup ys))) ∨ (SqT K H p ys ∧ Q (.ref p) H))) fTuple := by
  intro G H P vs ds Qd Q w rr q k
  unfold fTuple at q
  split at q
  · cases rr with | cons a b => cases b; cases a with | lst h1 h2 h3 => exact ⟨_, _, rfl, .inl ⟨.inl (.inl (w.gh _ _ h1)), fun l hl => k.new w hl (.newTup w hl h2 h3) q⟩⟩
  · cases rr with | cons a b => cases b; cases a with | tup h1 h2 h3 => exact ⟨_, _, rfl, .inr ⟨sqt_mono w.gh h1, k.here w (.tup h1 h2 h3) q⟩⟩
  · exact q.elim
end
end FG

/-! FI: max of four, repr, a method called by keyword. -/
namespace FG
open PySem.Spec PySem L2 PyProof.Rows

/-! ### max(a, b, c, d) -/
theorem max4_ok (v1 v2 v3 v4 : Value) : argsOk "max" ⟨[v1, v2, v3, v4], []⟩ := by unfold argsOk; kernel_rfl
section
variable {w : World} {P : Program} {A : Around} {s : Shared} {E : Value → Shared → Prop}
theorem max4_raw {i1 i2 i3 i4 : Int} {t1 t2 t3 t4 : Tok} {Q : Value → Shared → Prop} (hc : A.handled = none)
    (hq : ∀ h' tk m t, (∀ b o, s.heap.get? b = some o → h'.get? b = some o) → m ∈ [i1, i2, i3, i4] → (∀ y ∈ [i1, i2, i3, i4], y ≤ m) → Q (.int m t) { s with heap := h', toks := tk }) :
    wpAny (model P w) A (call (.builtin "max") [.int i1 t1, .int i2 t2, .int i3 t3, .int i4 t4]) Q E s := by
  let ps : Array (Int × Tok) := #[(i1, t1), (i2, t2), (i3, t3), (i4, t4)]
  let ob : Obj := { cls := .type "tuple", data := .seq #[.int i1 t1, .int i2 t2, .int i3 t3, .int i4 t4] }
  let h1 : Heap := s.heap.push ob
  have z1 : h1.objs.size = s.heap.objs.size + 1 := Heap.size_push ..
  have tup : h1.IsTuple s.heap.objs.size (intItems ps) := ⟨ob, Heap.get?_push_size _ rfl, rfl, 0, by simp [ob, ps, intItems]⟩
  have nm : (toString "max" ++ toString ".loop" : String) = "max.loop" := by decide
  apply call_function_tree F.kind_max F.plain_max F.entry_max (max4_ok _ _ _ _)
  show wpAny (model P w) A.in1 (Builtin.Builtins.bindParams "max" ["key", "default"] 0 ⟨[], []⟩ >>= _) _ _ s
  apply wpAny_bind
  apply wpAny_of_eq (show Builtin.Builtins.bindParams "max" ["key", "default"] 0 ⟨[], []⟩ = pure [none, none] from rfl)
  show wpAny _ A.in1 (newTuple [.int i1 t1, .int i2 t2, .int i3 t3, .int i4 t4] >>= _) _ _ s
  refine wpAny_bind ?_
  refine wpAny_newObj_type ?_
  refine wpAny_bind (wpAny_pyIter_tuple tup ?_)
  refine wpAny_bind ?_
  refine wpAny_newObj_type ?_
  rw [nm]
  have W := Walks.tuple (prog := P) (w := w) (A := A.in1) hc h1.objs.size s.heap.objs.size (by rw [z1]; exact Nat.ne_of_lt (Nat.lt_succ_self _)) (intItems ps)
  have cmp : CmpOf P w A.in1 .Gt (fun i v => (intItems ps)[i]? = some v) (fun i j => decide (numAt ps j < numAt ps i)) := CmpOf.ints_gt (numAt ps) (fun _ _ => intItems_at)
  have lt1 : s.heap.objs.size < h1.objs.size := by rw [z1]; exact Nat.lt_succ_self _
  have nope : ¬ (s.heap.objs.size + 1 + 1 = h1.objs.size ∨ s.heap.objs.size + 1 + 1 = s.heap.objs.size) := fun z => by rw [z1] at z; omega
  have nope2 : ∀ {b : Nat}, b = h1.objs.size → b < s.heap.objs.size → False := fun {b} z z2 => by rw [z1] at z; omega
  have nope3 : ∀ {b : Nat}, b = s.heap.objs.size + 1 + 1 → b < s.heap.objs.size → False := fun {b} z z2 => by omega
  refine wpAny_pure ⟨plainId_quiet F.plain_max_loop _, codeAny_max_loop_first (A := A) W _ cmp _ (fun hm => ?_) (by simp [ps, intItems]) (W.frame 0 _ _ ⟨⟨_, Heap.get?_push_size _ rfl, rfl, rfl⟩, tup.push _⟩ fun b _ o e => Heap.get?_push_of_some _ e) (Heap.get?_push_size _ rfl) fun v h' tk hP hk => ?_⟩
  · simp only [Heap.size_push, List.mem_cons, List.not_mem_nil, or_false] at hm
    exact nope hm
  · obtain ⟨t, rfl⟩ := intItems_at hP
    obtain ⟨k1, k2⟩ := argBest_gt (numAt ps) ((intItems ps).size - 1)
    have sz : (intItems ps).size - 1 = 3 := by simp [ps, intItems]
    refine hq h' tk _ t (fun b o e => ?_) ?_ fun y hy => ?_
    · have lb := Heap.lt_size e
      refine hk b o (fun hm => ?_) (fun z => ?_) (Heap.get?_push_of_some _ (Heap.get?_push_of_some _ (Heap.get?_push_of_some _ e)))
      · simp only [List.mem_cons, List.not_mem_nil, or_false] at hm
        exact nope2 hm lb
      · simp only [Heap.size_push] at z
        exact nope3 z lb
    · have all : ∀ j : Nat, j ≤ 3 → numAt ps j ∈ [i1, i2, i3, i4] := fun j hj => by
        match j, hj with
        | 0, _ => simp [numAt, ps]
        | 1, _ => simp [numAt, ps]
        | 2, _ => simp [numAt, ps]
        | 3, _ => simp [numAt, ps]
      exact all _ (by rw [← sz]; exact k1)
    · have e0 := k2 0 (by rw [sz]; decide)
      have e1 := k2 1 (by rw [sz]; decide)
      have e2 := k2 2 (by rw [sz]; decide)
      have e3 := k2 3 (by rw [sz]; decide)
      simp only [List.mem_cons, List.not_mem_nil, or_false] at hy
      rcases hy with rfl | rfl | rfl | rfl
      · exact e0
      · exact e1
      · exact e2
      · exact e3
end
section
variable {X : Cx} {K : PySem.W.Frag}
def rMax4 : List V → Hp → VK → Prop := fun xs H Q => ∃ i1 i2 i3 i4, xs = [.int i1, .int i2, .int i3, .int i4] ∧ ∀ m, m ∈ [i1, i2, i3, i4] → (∀ y ∈ [i1, i2, i3, i4], y ≤ m) → Q (.int m) H
theorem cr_max4 (hc : X.calm = true) : CallR X (.builtin "max") rMax4 := by
  intro pns s σ H xs us Q I r h
  obtain ⟨i1, i2, i3, i4, rfl, q⟩ := h
  cases r with
  | cons r1 r =>
    cases r with
    | cons r2 r =>
      obtain ⟨u3, u4, rfl, r3, r4⟩ := vals2 r
      obtain ⟨t1, rfl⟩ := (show ∃ t, _ = Value.int i1 t from r1)
      obtain ⟨t2, rfl⟩ := (show ∃ t, _ = Value.int i2 t from r2)
      obtain ⟨t3, rfl⟩ := (show ∃ t, _ = Value.int i3 t from r3)
      obtain ⟨t4, rfl⟩ := (show ∃ t, _ = Value.int i4 t from r4)
      exact max4_raw (I.ok.hd hc) fun h' tk m t k h1 h2 => ⟨.int m, H, I.kept k, ⟨t, rfl⟩, q m h1 h2⟩
def fMax4 : F1 := fun ds Q => match ds with
  | [.int a, .int b, .int c, .int d] => ∀ m, m ∈ [a, b, c, d] → (∀ y ∈ [a, b, c, d], y ≤ m) → Q (.int m)
  | _ => False
theorem cd_max4 : CallD K rMax4 fMax4 := by
  intro G H P vs ds Qd Q w r q k
  unfold fMax4 at q
  split at q
  · have e := RepL.of_ints (ns := [_, _, _, _]) r
    subst e
    exact ⟨_, _, _, _, rfl, fun m h1 h2 => k.here w (.int m) (q m h1 h2)⟩
  · exact q.elim

/-! ### repr of plain lists and tuples -/
def D.box : D → Bool
  | .lst _ | .tup _ => true
  | _ => false
def fRepr : F1 := fun ds Q => match ds with
  | [x] => x.box = true ∧ x.plain = true ∧ x.py.showable = true ∧ x.py.depth ≤ 60 ∧ x.py.shown.length ≤ sizeLine ∧ Q (.str x.py.shown)
  | _ => False
mutual
theorem plain_noDict : ∀ d : D, d.plain = true → d.py.hasDict = false
  | .non, _ => by unfold D.py; rfl
  | .bl _, _ => by unfold D.py; rfl
  | .int _, _ => by unfold D.py; rfl
  | .str _, _ => by unfold D.py; rfl
  | .tup xs, h => by unfold D.py; unfold PyData.hasDict; exact plain_noDictL xs (by unfold D.plain at h; exact h)
  | .lst xs, h => by unfold D.py; unfold PyData.hasDict; exact plain_noDictL xs (by unfold D.plain at h; exact h)
  | .dct _, h => by unfold D.plain at h; cases h
  | .ins _ _, h => by unfold D.plain at h; cases h
  | .pot, h => by unfold D.plain at h; cases h
  | .scr _, h => by unfold D.plain at h; cases h
  | .cls _, h => by unfold D.plain at h; cases h
  | .ty _, h => by unfold D.plain at h; cases h
theorem plain_noDictL : ∀ ds : List D, D.plainL ds = true → PyData.hasDictAll (D.pyL ds) = false
  | [], _ => by unfold D.pyL; unfold PyData.hasDictAll; rfl
  | d :: ds, h => by
    unfold D.plainL at h
    obtain ⟨h1, h2⟩ := Bool.and_eq_true_iff.mp h
    unfold D.pyL; unfold PyData.hasDictAll
    rw [plain_noDict d h1, plain_noDictL ds h2]; rfl
end
def rReprD (K : PySem.W.Frag) : List V → Hp → VK → Prop := fun xs H Q => ∃ a d, xs = [V.ref a] ∧ Dp K H (.ref a) d ∧ d.showable = true ∧ d.hasDict = false ∧ d.depth ≤ 60 ∧ d.shown.length ≤ sizeLine ∧ Q (.str d.shown) H
theorem cr_reprD (hg : X.A.guards = some []) (hu : X.A.units + 64 < cLine) : CallR X (.builtin "repr") (rReprD X.K) := by
  intro pns s σ H xs us Q I r h
  obtain ⟨a, d, rfl, hd, h1, h2, h3, h4, q⟩ := h
  obtain ⟨u0, rfl, rx⟩ := vals1 r
  obtain ⟨as, hr⟩ := Dp.reads I d _ _ hd rx
  cases rx
  exact repr_of_reads' hr h1 (PyData.noDict_hsm h2) hg (by omega) (fun _ _ e => e) (fun h' t tk k => ⟨.str _, H, I.kept k, ⟨t, rfl⟩, q⟩) h4
theorem cd_repr : CallD K (rReprD K) fRepr := by
  intro G H P vs ds Qd Q w r q k
  unfold fRepr at q
  split at q
  · obtain ⟨q0, q1, q2, q3, q4, q⟩ := q
    cases r with
    | cons r1 r2 =>
      cases r2
      have dp := r1.dp w.gh q1
      have hn := plain_noDict _ q1
      cases r1 with
      | tup h1 h2 h3 => exact ⟨_, _, rfl, dp, q2, hn, q3, q4, k.here w (.str _) q⟩
      | lst h1 h2 h3 => exact ⟨_, _, rfl, dp, q2, hn, q3, q4, k.here w (.str _) q⟩
      | _ => cases q0
  · exact q.elim
end
end FG

/-! FJ: the head's hook: defs by paths, facts by one Bool; the pots. -/
namespace FG
open PySem.Spec PySem L2 PyProof.Rows
open He (ga ma eqO eqO_ok Fa FnW Dv dflB dflB_ok kwdB kwdB_ok ba)

/-- where a def stands: a global, a class's method, a property's getter, a classmethod -/
inductive Pth where
  | glo (x : Str) | meth (C m : Str) | get (C f : Str) | clm (C m : Str)
/-- a property's object, its getter -/
def prAd (K : PySem.W.Frag) (C : Addr) (f : Str) : Addr := ma K C f
def gtAd (K : PySem.W.Frag) (C : Addr) (f : Str) : Addr := match PySem.W.recIn K (prAd K C f) "property" with
  | some (.ref g :: _) => g
  | _ => 0
def cmAd (K : PySem.W.Frag) (C : Addr) (f : Str) : Addr := match PySem.W.recIn K (prAd K C f) "classmethod" with
  | some (.ref g :: _) => g
  | _ => 0
def Pth.ad (K : PySem.W.Frag) : Pth → Addr
  | .glo x => ga K x
  | .meth C m => ma K (ga K C) m
  | .get C f => gtAd K (ga K C) f
  | .clm C m => cmAd K (ga K C) m
structure DefP where
  at_ : Pth
  name : Str
  qual : Str
  params : Arguments
  body : List Stmt
  scope : Scope
  dfl : List Dv := []
def fnA (K : PySem.W.Frag) (a : Addr) : FnW := match K.lookup a with
  | some ⟨_, _, .func g, _⟩ => some (g.name, g.qualname, g.params, g.body, g.scope, g.globals, g.closure, g.builtins)
  | _ => none
def DefP.val (d : DefP) : FnW := some (d.name, d.qual, d.params, .stmts d.body, d.scope, mainGlobals, [], builtinsNs)
def DefP.dvs (K : PySem.W.Frag) (d : DefP) : List V := d.dfl.map (Dv.v K)
def DefP.ok (K : PySem.W.Frag) (d : DefP) : Bool := PySem.W.keepIn K (.ref (d.at_.ad K)) && match K.lookup (d.at_.ad K) with
  | some ⟨_, _, .func g, _⟩ => PySem.W.codeIn K g.code d.qual && dflB K g.defaults (d.dvs K)
  | _ => false
theorem DefP.fund {K : PySem.W.Frag} {d : DefP} (e : fnA K (d.at_.ad K) = d.val) (c : d.ok K = true) : ∃ fd, FunD K d.name d.qual d.params d.body d.scope (d.dvs K) [] (d.at_.ad K) fd := by
  obtain ⟨kp, c⟩ := ba c
  unfold fnA DefP.val at e
  revert c e
  generalize hq : K.lookup (d.at_.ad K) = q
  intro e c
  match q, c, e, hq with
  | some ⟨oc, od, .func ⟨a1, a2, a3, a4, a5, a6, a7, a8, a9, a10, a11, a12, a13, a14, a15⟩, osl⟩, c, e, hq =>
    have e : (some (a1, a2, a3, a4, a5, a6, a7, a15) : FnW) = some (d.name, d.qual, d.params, .stmts d.body, d.scope, mainGlobals, [], builtinsNs) := e
    injection e with e
    simp only [Prod.mk.injEq] at e
    obtain ⟨rfl, rfl, rfl, rfl, rfl, rfl, rfl, rfl⟩ := e
    obtain ⟨c1, c2⟩ := ba (show (PySem.W.codeIn K a13 d.qual && dflB K a8 (d.dvs K)) = true from c)
    exact ⟨_, ⟨oc, od, a8, a9, a10, a11, a12, a13, a14, osl, rfl, hq, c1, dflB_ok c2, .inl rfl⟩, kp⟩

/-! ### the hook -/
abbrev AlF : Type := Bool × List FnW
def obsF (ex : PySem.W.Frag → Bool) (fn : List DefP) (K : PySem.W.Frag) : AlF := (ex K && fn.all fun d => d.ok K, fn.map fun d => fnA K (d.at_.ad K))
def SaysF (ex : PySem.W.Frag → Bool) (fn : List DefP) (K : PySem.W.Frag) : Prop := obsF ex fn K = (true, fn.map DefP.val)
def obsFG (n : Nat) (ex : PySem.W.Frag → Bool) (fn : List DefP) (g : Addr → Option Obj) : AlF := obsF ex fn (He.frG g (He.asD g n))
def hookF (n : Nat) (ex : PySem.W.Frag → Bool) (fn : List DefP) : PySem.W.Hook where
  α := AlF
  obs s := obsFG n ex fn s.heap.get?
  val _ := (true, fn.map DefP.val)
  says _ h := ∃ K : PySem.W.Frag, K.In h ∧ SaysF ex fn K
  of _ _ e := ⟨_, He.frG_in, e⟩
  keeps _ _ _ z k := let ⟨K, h1, h2⟩ := z; ⟨K, h1.keeps k, h2⟩
theorem obsFG_eq {n : Nat} {ex : PySem.W.Frag → Bool} {fn : List DefP} {g : Addr → Option Obj} {s : Shared} (h : ∀ a, g a = s.heap.get? a) : obsFG n ex fn g = (hookF n ex fn).obs s := by
  rw [show g = s.heap.get? from funext h]
  rfl
section
variable {ex : PySem.W.Frag → Bool} {fn : List DefP} {K : PySem.W.Frag}
theorem SaysF.yes (c : SaysF ex fn K) : ex K = true := (ba (congrArg Prod.fst c : (ex K && fn.all fun d => d.ok K) = true)).1
theorem SaysF.fund (c : SaysF ex fn K) (i : Nat) {d : DefP} (h : fn[i]? = some d := by rfl) : ∃ fd, FunD K d.name d.qual d.params d.body d.scope (d.dvs K) [] (d.at_.ad K) fd := by
  have ok := List.all_eq_true.mp (ba (congrArg Prod.fst c : (ex K && fn.all fun d => d.ok K) = true)).2 d (List.mem_of_getElem? h)
  have v : (fn.map fun d => fnA K (d.at_.ad K))[i]? = (fn.map DefP.val)[i]? := congrArg (fun z : AlF => z.2[i]?) c
  rw [List.getElem?_map, List.getElem?_map, h] at v
  exact DefP.fund (Option.some.inj v) ok
end
/-! ### facts of one's own -/
def propB (K : PySem.W.Frag) (x f : Str) : Bool := eqO (PySem.W.findIn K (.ref (ga K x)) f) (some (some (.ref (prAd K (ga K x) f)))) && (eqO (PySem.W.specialIn K (.ref (prAd K (ga K x) f)) "__get__") (some (some (.builtin "property.__get__"))) &&
  (decide (PySem.W.takesIn K (.ref (prAd K (ga K x) f)) = some true) && match PySem.W.recIn K (prAd K (ga K x) f) "property" with
    | some (.ref _ :: _) => true
    | _ => false))
theorem propB_ok {K : PySem.W.Frag} {x f : Str} (h : propB K x f = true) : PropOf K (ga K x) f (prAd K (ga K x) f) (gtAd K (ga K x) f) := by
  obtain ⟨h1, h⟩ := ba h
  obtain ⟨h2, h⟩ := ba h
  obtain ⟨h3, h4⟩ := ba h
  refine ⟨eqO_ok h1, eqO_ok h2, of_decide_eq_true h3, ?_⟩
  unfold gtAd
  split at h4
  · rename_i g r e
    rw [e]
    exact ⟨r, rfl⟩
  · cases h4
def callB (K : PySem.W.Frag) (x : Str) : Bool := eqO (PySem.W.findIn K (.ref (ga K x)) "__call__") (some (some (.ref (ma K (ga K x) "__call__")))) && (PySem.W.isFn K (.ref (ma K (ga K x) "__call__")) && PySem.W.fnIn K (ma K (ga K x) "__call__"))
theorem callB_ok {K : PySem.W.Frag} {x : Str} (h : callB K x = true) : StX.CallO K (ga K x) (ma K (ga K x) "__call__") := by
  obtain ⟨h1, h⟩ := ba h
  obtain ⟨h2, h3⟩ := ba h
  exact ⟨eqO_ok h1, h2, h3⟩
end FG

/-! FK: the laws' pots of digits. -/
namespace FG
open PySem.Spec PySem L2 PyProof.Rows

theorem intBits_le {i : Int} {a : Nat} (h : i.natAbs < 2 ^ a) : Builtin.Int.intBits i ≤ a := by
  unfold Builtin.Int.intBits
  split
  · exact Nat.zero_le _
  · rename_i h0
    have : i.natAbs.log2 < a := (Nat.log2_lt (by intro z; apply h0; simp at z; simp [z])).mpr h
    omega
theorem cmulx {i j : Int} (a b : Nat) (h1 : i.natAbs < 2 ^ a) (h2 : j.natAbs < 2 ^ b) (h3 : a + b ≤ 134217728) : CMulX i j := by
  have k1 := intBits_le h1
  have k2 := intBits_le h2
  show (Builtin.Int.intBits i : Int) + (Builtin.Int.intBits j : Int) ≤ 134217728
  omega

/-! ### a draw -/
abbrev rDm : List V → Hp → VK → Prop := fun xs H Q => ∃ i j, xs = [.int i, .int j] ∧ CDivP i j ∧ ∀ p, H p = none → Q (.ref p) (upd H p (.tup [.int (i / j), .int (i % j)]))
abbrev tIx (K : PySem.W.Frag) (i : Nat) (k : Int) : TE := tOp (rIx K) (tVar i) (tC (.int k))
abbrev rM : R2 := rI (fun _ j => 0 < j) fun i j => .int (i % j)
abbrev rX : R2 := rI CMulX fun i j => .int (i * j)
abbrev rF : R2 := rI CDivW fun i j => .int (i / j)
abbrev rP : R2 := rI0 fun i j => .int (i + j)
def tDraw (K : PySem.W.Frag) : TS := tSeq
  (tIfS (tB (tGt (tIx K 0 0) (tC (.int 0)))) (tSeq (tAsg (tCB rDm (tCons (tIx K 0 0) (tCons (tVar 1) tNil))) (gTup K 2 (gCons (gSub (tVar 0) (tC (.int 0)) rSetL) (gCons (gName 2) gNil)))) (tRet (tVar 2))) tNext)
  (tSeq (tAsg (tOp rM (tOp rP (tOp rX (tIx K 0 1) (tC (.int 39373))) (tC (.int 12227))) (tC (.int 2147483629))) (gSub (tVar 0) (tC (.int 1)) rSetL))
    (tRet (tOp rM (tOp rF (tOp rM (tOp rX (tIx K 0 1) (tIx K 0 1)) (tC (.int 2147483563))) (tC (.int 13))) (tVar 1))))
/-- a digit below n -/
structure DrawP (ds : List D) (Q : D → Prop) (E : Exn → Prop) : Prop where
  out : ∃ n : Int, ds = [.pot, .int n] ∧ 0 < n ∧ n.natAbs.log2 < 9000 ∧ ∀ d : Int, 0 ≤ d → d < n → Q (.int d)
def T_draw : DSp := DrawP
theorem pot_set {G H : Hp} {P : Addr → Prop} {a : Addr} {i j : Int} (w : WOk G H P) (pa : P a) (h : PotN i j) : Stp G H P G (upd H a (.lst [.int i, .int j])) P ∧ WOk G (upd H a (.lst [.int i, .int j])) P := by
  have ga := w.pg a pa
  refine ⟨⟨fun _ _ z => z, fun b o e n => ?_, fun b e => ?_, fun _ z => z, fun _ z => .inl z, fun _ _ z => .inl z⟩, fun b o e => ?_, w.pg, fun b pb => ?_⟩
  · rw [upd_ne (fun z : b = a => n (z ▸ pa))]; exact e
  · by_cases q : b = a
    · subst q; rw [upd_same]; simp
    · rw [upd_ne q]; exact e
  · rw [upd_ne (ne_of_none e ga)]; exact w.gh b o e
  · by_cases q : b = a
    · subst q; rw [upd_same]; exact ⟨i, j, rfl, h⟩
    · rw [upd_ne q]; exact w.pt b pb
theorem rd_draw {K : PySem.W.Frag} {N : List Str} (hN : N.length = 3) (vs : List V) (H : Hp) (Q : VK) (E : XK) (h : spD K T_draw vs H Q E) : tDraw K { nx := fun _ H' => Q .non H', rt := Q } (L2.start N vs) H := by
  obtain ⟨G, P, ds, Qd, Ed, ok, rl, ⟨n, rfl, n0, nb, qd⟩, k1, _⟩ := h
  cases rl with
  | cons r1 rl =>
    cases rl with
    | cons r2 rl =>
      cases rl
      cases r2
      cases r1 with
      | @pot a pa =>
        obtain ⟨i, j, ha, hi, hj, hj2⟩ := ok.pt a pa
        have st : L2.start N [V.ref a, V.int n] = [some (.ref a), some (.int n), none] := by
          unfold L2.start
          rw [hN]
          rfl
        rw [st]
        have ix : ∀ {H' : Hp} {x y : Int} {Q' : VK}, H' a = some (.lst [.int x, .int y]) → Q' (.int x) H' → rIx K (.ref a) (.int 0) H' Q' := fun h1 h2 => .inl ⟨a, _, 0, _, rfl, rfl, .inl (.inl h1), rfl, h2⟩
        have iy : ∀ {H' : Hp} {x y : Int} {Q' : VK}, H' a = some (.lst [.int x, .int y]) → Q' (.int y) H' → rIx K (.ref a) (.int 1) H' Q' := fun h1 h2 => .inl ⟨a, _, 1, _, rfl, rfl, .inl (.inl h1), rfl, h2⟩
        refine ⟨_, rfl, ix ha ⟨_, _, rfl, rfl, _, rfl, ?_⟩⟩
        by_cases hp : 0 < i
        · refine Eq.mpr (if_pos (decide_eq_true hp)) ?_
          refine ⟨_, rfl, ix ha ⟨_, rfl, _, _, rfl, ⟨n0, PyProof.noPylong_of_log2 nb⟩, fun p hp2 => ?_⟩⟩
          have ne : a ≠ p := ne_of_none ha hp2
          have ha2 : upd H p (.tup [.int (i / n), .int (i % n)]) a = some (.lst [.int i, .int j]) := by rw [upd_ne ne]; exact ha
          refine ⟨p, _, rfl, .inl (.inl upd_same), rfl, _, _, rfl, _, rfl, ⟨a, _, 0, 0, rfl, rfl, ha2, rfl, _, _, rfl, ⟨rfl, ?_⟩⟩⟩
          obtain ⟨s1, ok1⟩ := Stp.laid (o := .tup [.int (i / n), .int (i % n)]) ok hp2
          obtain ⟨s2, ok2⟩ := pot_set (i := i / n) (j := j) ok1 pa ⟨Int.ediv_nonneg hi (Int.le_of_lt n0), hj, hj2⟩
          exact ⟨_, rfl, k1 _ _ _ _ _ (s1.trans s2) ok2 (.int _) (qd _ (Int.emod_nonneg _ (Int.ne_of_gt n0)) (Int.emod_lt_of_pos _ n0))⟩
        · refine Eq.mpr (if_neg (by simpa using hp)) ?_
          have c1 : CMulX j 39373 := cmulx 31 16 (by omega) (by decide) (by decide)
          refine ⟨_, rfl, iy ha ⟨_, _, rfl, rfl, c1, _, _, rfl, rfl, _, _, rfl, rfl, (by decide : (0 : Int) < 2147483629), _, rfl, a, _, 1, 1, rfl, rfl, ha, rfl, ?_⟩⟩
          have b0 : 0 ≤ (j * 39373 + 12227) % 2147483629 := Int.emod_nonneg _ (by decide)
          have b1 : (j * 39373 + 12227) % 2147483629 < 2147483629 := Int.emod_lt_of_pos _ (by decide)
          obtain ⟨s2, ok2⟩ := pot_set (i := i) (j := (j * 39373 + 12227) % 2147483629) ok pa ⟨hi, b0, by omega⟩
          show tRet (tOp rM (tOp rF (tOp rM (tOp rX (tIx K 0 1) (tIx K 0 1)) (tC (.int 2147483563))) (tC (.int 13))) (tVar 1)) { nx := fun _ H' => Q .non H', rt := Q } [some (.ref a), some (.int n), none] (upd H a (.lst [.int i, .int ((j * 39373 + 12227) % 2147483629)]))
          generalize (j * 39373 + 12227) % 2147483629 = z at *
          have ha2 : upd H a (.lst [.int i, .int z]) a = some (.lst [.int i, .int z]) := upd_same
          generalize upd H a (.lst [.int i, .int z]) = H2 at *
          have c2 : CMulX z z := cmulx 31 31 (by omega) (by omega) (by decide)
          refine ⟨_, rfl, iy ha2 ⟨_, rfl, iy ha2 ⟨_, _, rfl, rfl, c2, _, _, rfl, rfl, (by decide : (0 : Int) < 2147483563), _, _, rfl, rfl, (⟨by decide, by decide⟩ : (0 : Int) < 13 ∧ (13 : Int).natAbs.log2 < 9000), _, rfl, _, _, rfl, rfl, n0, ?_⟩⟩⟩
          exact k1 _ _ _ _ _ s2 ok2 (.int _) (qd _ (Int.emod_nonneg _ (Int.ne_of_gt n0)) (Int.emod_lt_of_pos _ n0))

/-! ### a new pot leaves a def -/
def dRetPot (tf : DTF) : DTS := fun D δ => tf (view δ) fun ds => ∃ i j, ds = [.int i, .int j] ∧ PotN i j ∧ D.rt .pot
theorem ds_retPot {X : Cx} {B : Base} {e : Expr} {tf : DTF} {pos : Pos} (he : DF X B e tf) : DS X B (.Return (some e) pos) (dRetPot tf) := (ps_ret he).mono fun D σ H q => by
  obtain ⟨G, P, δ, Dd, w, q, k⟩ := q
  obtain ⟨G0, w0, gg⟩ := w.view
  refine ⟨G0, P, _, _, w0, q, fun l xs G1 H1 P1 ds s1 ok1 hl h r g p z ⟨i, j, e, pn, q1⟩ => ?_⟩
  subst e
  have e := r.int2
  subst e
  have sc := w0.since.step s1
  have bl : B.H l = none := by
    cases e : B.H l with
    | none => rfl
    | some o => exact absurd hl (w.since.dm l (by rw [e]; simp))
  refine k.rt (.ref l) H1 G1 (fun a => P1 a ∨ a = l) .pot ⟨ok1.gh, fun a q => ?_, fun a q => ?_⟩ ⟨sc.gg, sc.hh, sc.dm, fun a q => .inl (sc.pp a q), fun a q => ?_, sc.gn⟩ (.pot (.inr rfl)) q1
  · rcases q with q | rfl
    · exact ok1.pg a q
    · exact g
  · rcases q with q | rfl
    · exact ok1.pt a q
    · exact ⟨i, j, h, pn⟩
  · rcases q with q | rfl
    · exact sc.pn a q
    · exact .inr bl
end FG

/-! FL: calls by keyword. -/
namespace FG
open PySem.Spec PySem L2 PyProof.Rows

/-- a promise by n positional values and keywords ks behind them -/
def FnPK (gp : Bool) (n : Nat) (ks : List Str) (P : Program) (w : World) (K : PySem.W.Frag) (mg : Str → Option Value) (base : Heap) (k : Nat) (f : Addr) (sp : Sp) : Prop :=
  ∀ (A : Around) (outer : List Env) (s : Shared) (H : Hp) (us ws : List Value) (vs zs : List V) (Q : VK) (E : XK), (gp = true → A.guards = some []) → Room k A → Env0 P w K mg base A outer s H → Vals vs us → vs.length = n → Vals zs ws → zs.length = ks.length → sp (vs ++ zs) H Q E →
    codeAny (model P w) A (.call (.ref f) ⟨us, ks.zip ws⟩) (CR (L2.CX P w) outer P w H s Q E) s
abbrev FnK (gp : Bool) (n : Nat) (ks : List Str) (P : Program) (w : World) (K : PySem.W.Frag) (mg : Str → Option Value) (base : Heap) (k : Nat) (f : Addr) (T : DSp) : Prop := FnPK gp n ks P w K mg base k f (spD K T)
section
variable {X : Cx} {B : Base} {gp : Bool} {k n m' : Nat} {f C g : Addr} {T : DSp} {W : XW} {x m : Str} {p pos apos kpos : Pos} {e o : Expr} {es : List Expr} {te tk : DTA} {ta : DT} {ks : List Str} {nm : Option Str} {kws : List Keyword}
theorem run_atK {pins : List (Addr × Obj)} {σ : L2.St} {H : Hp} {s : Shared} {Q : VK} {sp : Sp} {E : XK} {us ws : List Value} {vs zs : List V} (F : FnPK gp n ks X.prog X.w X.K X.mg X.base k f sp) (hgd : gp = true → X.A.guards = some []) (hr : Room k X.A)
    (hx : PassesAt (L2.CX X.prog X.w) X σ E) (I : Inv X pins σ H s) (r : Vals vs us) (hn : vs.length = n) (rz : Vals zs ws) (hz : zs.length = ks.length) (h : sp (vs ++ zs) H Q E) : wpAny (model X.prog X.w) X.A (call (.ref f) us (ks.zip ws)) (EP X pins σ Q) X.xe s := by
  apply wpAny_call
  refine codeAny_mono (F _ _ _ _ _ _ _ _ _ _ hgd hr I.env0 r hn rz hz h) ?_
  rintro (e | (u | _ | _ | _)) s' hq
  · exact hx _ _ _ _ _ I hq
  all_goals first | exact I.after hq | exact False.elim hq
abbrev DK (X : Cx) (B : Base) (kws : List Keyword) (n : Nat) (t : DTA) : Prop := PK X kws (liftA X.K B n t)
theorem _root_.L2.PK.mono {t u : TA} (h : PK X kws t) (i : ∀ σ H Q, u σ H Q → t σ H Q) : PK X kws u := ⟨fun pos pins s σ H Q I q => h.run pos pins s σ H Q I (i σ H Q q)⟩
theorem dk_nil : DK X B [] 0 dNil := pk_nil.mono fun σ H Q q => by
  obtain ⟨G, P, δ, Qd, w, q, k⟩ := q
  exact k _ _ _ _ _ .refl w.ok .nil rfl q
theorem dk_cons (ha : DE X B e ta) (hr : DK X B kws n tk) : DK X B (⟨nm, e, kpos⟩ :: kws) (n + 1) (dCons ta tk) := (pk_cons ha hr).mono fun σ H Q q => by
  obtain ⟨G, P, δ, Qd, w, q, k⟩ := q
  refine ⟨G, P, δ, _, w, q, fun v G1 H1 P1 d s1 ok1 r1 q1 => ?_⟩
  refine ⟨G1, P1, δ, _, w.step s1 ok1, q1, fun vs G2 H2 P2 ds s2 ok2 r2 hl q2 => ?_⟩
  exact k _ _ _ _ _ (s1.trans s2) ok2 (.cons (s2.rep r1) r2) (by simp [hl]) q2
/-- o.m(k = v, ..) -/
theorem pe_methK0 {sp : Sp} {E : L2.St → XK} {to : TE} {t : TA} {pl : Sem Bool} (ho : PE X o to) (c : Cls X.K C) (hm : Meth X.K C m f) (F : FnPK gp 1 ks X.prog X.w X.K X.mg X.base k f sp) (hgd : gp = true → X.A.guards = some []) (hr : Room k X.A)
    (hx : ∀ σ, PassesAt (L2.CX X.prog X.w) X σ (E σ)) (hk : PK X kws t) (hall : (backToKw pos (keywordEach kws X.env)).all (·.1.isSome) = true) (hks : (backToKw pos (keywordEach kws X.env)).filterMap (·.1) = ks)
    (hpl : ((backTo pos (starEach [] X.env)).any (·.1) || (backToKw pos (keywordEach kws X.env)).any (·.1.isNone)) = false)
    (ht : eval (.Call (.Attribute o m apos) [] kws pos) X.env = (do
      let v ← eval o X.env; standAt apos.atName
      let (g, fst) ← holding [v] (getMethod v m pl); callWith pos g fst (backTo pos (starEach [] X.env)) (backToKw pos (keywordEach kws X.env)))) :
    PE X (.Call (.Attribute o m apos) [] kws pos) (fun σ H Q => to σ H fun x H1 => ∃ a dx fs, x = .ref a ∧ H1 a = some (.ins C dx fs) ∧ fs.lookup m = none ∧ t σ H1 fun zs H2 => zs.length = ks.length ∧ sp (x :: zs) H2 Q (E σ)) := by
  constructor
  intro pins s σ H Q I h
  refine PySem.W.methodCall_KW (pl := pl) (thn (ho.run _ _ _ _ _ I h) ?_) ht
  rintro u s1 ⟨x, H1, I1, rx, a, dx, fs, rfl, ea, l, q⟩
  cases rx
  apply getmeth_ok I1 ea c hm l
  refine PySem.W.callWith_KW0 (h₀ := X.base) (first := [.ref a]) I.ok.mod.kin hm.kp hall (thn (hk.run pos pins s1 σ H1 _ I1 q) ?_) hpl
  rintro ws s2 ⟨zs, H2, I2, rz, hl, q2⟩
  refine ⟨I2.kIn, ?_⟩
  rw [hks]
  exact run_atK (us := [.ref a]) (vs := [.ref a]) F hgd hr (hx σ) I2 (.cons rfl .nil) rfl rz hl q2
theorem de_methK0 {pl : Sem Bool} (ho : DE X B o ta) (c : Cls X.K C) (hm : Meth X.K C m f) (F : FnK gp 1 ks X.prog X.w X.K X.mg X.base k f T) (hgd : gp = true → X.A.guards = some []) (hr : Room k X.A) (hw : Wish X B W) (hk : DK X B kws ks.length tk)
    (hall : (backToKw pos (keywordEach kws X.env)).all (·.1.isSome) = true := by rfl) (hks : (backToKw pos (keywordEach kws X.env)).filterMap (·.1) = ks := by rfl) (hpl : ((backTo pos (starEach [] X.env)).any (·.1) || (backToKw pos (keywordEach kws X.env)).any (·.1.isNone)) = false := by rfl)
    (ht : eval (.Call (.Attribute o m apos) [] kws pos) X.env = (do
      let v ← eval o X.env; standAt apos.atName
      let (g, fst) ← holding [v] (getMethod v m pl); callWith pos g fst (backTo pos (starEach [] X.env)) (backToKw pos (keywordEach kws X.env))) := by rfl) :
    DE X B (.Call (.Attribute o m apos) [] kws pos) (dMeth C m T W ta tk) := by
  obtain ⟨Wx, tks, hW⟩ := hw.ex
  refine (pe_methK0 (E := WE Wx) ho c hm F hgd hr (fun σ => passAt tks σ) hk hall hks hpl ht).mono fun σ H Q q => ?_
  obtain ⟨G, P, δ, Qd, w, q, kk⟩ := q
  refine ⟨G, P, δ, _, w, q, fun v G1 H1 P1 d s1 ok1 r1 q1 => ?_⟩
  cases r1 with
  | ins a b =>
    obtain ⟨rfl, hl, q1⟩ := q1
    refine ⟨_, _, _, rfl, ok1.gh _ _ a, b.lookup_none hl, G1, P1, δ, _, w.step s1 ok1, q1, fun vs G2 H2 P2 ds s2 ok2 r2 hn q2 => ⟨by rw [r2.length, hn], ?_⟩⟩
    exact sp_lift hW ((w.step s1 ok1).step s2 ok2) (.cons (s2.rep (.ins a b)) r2) q2 (kk.step (s1.trans s2))
  | _ => exact q1.elim
end
section
variable {gp : Bool} {P : Program} {w : World} {K : PySem.W.Frag} {mg : Str → Option Value} {base : Heap} {k n : Nat} {f : Addr} {fd : FuncData} {x qual : Str} {params : Arguments} {body : List Stmt} {scope : Scope} {kws : List (Str × V)} {N ps ks : List Str} {T : DSp} {t : (Exn → Prop) → DTS}
/-- how the keywords bind, no defaults -/
theorem bndK_of (F : FunD K x qual params body scope [] kws f fd) (h : ∀ (kV doc pm : Value) (an : Option Addr) (cdv ct : Value) (us ws : List Value), us.length = n → ws.length = ks.length → bindArgs (PySem.W.fnOf x qual params body scope .none kV doc pm an cdv ct) ⟨us, ks.zip ws⟩ = pure (ps.zip (us ++ ws)))
    {A : Around} {outer : List Env} {s : Shared} {H : Hp} {E : XK} {us ws : List Value} {vs zs : List V} (e0 : Env0 P w K mg base A outer s H) (r : Vals vs us) (hn : vs.length = n) (rz : Vals zs ws) (hz : zs.length = ks.length) (hl : (vs ++ zs).length = ps.length) :
    StX.Bnd (L2.CX P w) P w K mg base fd ⟨us, ks.zip ws⟩ ps A outer s H E (fun ys H2 => ys = vs ++ zs ∧ H2 = H) := by
  intro A' Ex Q hq
  obtain ⟨oc, od, dV, kV, doc, pm, an, cdv, ct, osl, rfl, lk, hcd, hD, _⟩ := F.ex
  have hd : dV = .none := by
    rcases hD with ⟨_, e⟩ | ⟨e, _⟩
    · exact e
    · exact absurd rfl e
  subst hd
  rw [h kV doc pm an cdv ct us ws (by rw [← r.length]; exact hn) (by rw [← rz.length]; exact hz)]
  exact wpAny_pure (hq s H (vs ++ zs) (us ++ ws) e0 (Un.kept fun _ _ q => q) rfl (fun _ _ z => z) (r.append rz) hl ⟨rfl, rfl⟩)
theorem dfnK (F : FunD K x qual params body scope [] kws f fd) (S : FnScope N ps scope) (h : ∀ (kV doc pm : Value) (an : Option Addr) (cdv ct : Value) (us ws : List Value), us.length = n → ws.length = ks.length → bindArgs (PySem.W.fnOf x qual params body scope .none kV doc pm an cdv ct) ⟨us, ks.zip ws⟩ = pure (ps.zip (us ++ ws)))
    (hT : ∀ ds Q E, T ds Q E → ds.length = ps.length)
    (hbody : ∀ (cdv : Value) (A : Around) (outer : List Env) (s : Shared) (H : Hp) (E : XK) (B : Base) (Ed : Exn → Prop), (gp = true → A.guards = some []) → Room k (A.deeper (envOfC qual scope s.heap.objs.size f cdv)) → B.M = (fun _ => False) →
      Wish (cxOf (L2.CX P w) P w K mg base N qual scope f cdv A outer s H E) B (fun e _ => Ed e) → DSs (cxOf (L2.CX P w) P w K mg base N qual scope f cdv A outer s H E) B body (t Ed))
    (hread : ∀ ds Q Ed, T ds Q Ed → t Ed { nx := fun _ => Q .non, rt := Q } (ds.map (fun d => some (.val d)) ++ List.replicate (N.length - ds.length) none)) : FnK gp n ks P w K mg base (k + 1) f T := by
  intro A outer s H us ws vs zs Q E hg hr e0 r hn rz hz ⟨G, P0, ds, Qd, Ed, ok, rl, ht, k1, kx⟩
  obtain ⟨oc, od, dV, kV, doc, pm, an, cdv, ct, osl, rfl, lk, hcd, _, _⟩ := (F.ex)
  refine StX.run_bnd lk hcd S hr e0 (bndK_of F h e0 r hn rz hz (by rw [rl.length]; exact hT _ _ _ ht)) ?_
  rintro s2 H2 _ ⟨rfl, rfl⟩ hr2
  have wsh : Wish (cxOf (L2.CX P w) P w K mg base N qual scope f cdv A outer s2 H2 E) ⟨G, H2, P0, fun _ => False⟩ (fun e _ => Ed e) :=
    ⟨_, takes_of rfl rfl rfl rfl, fun cls d e σ G' H' P' δ ws rx q => kx cls d G' H' P' e (ws.since.stp fun _ z => z) ws.ok rx q⟩
  refine ⟨_, hbody cdv A outer s2 H2 E ⟨G, H2, P0, fun _ => False⟩ Ed hg hr2 rfl wsh, G, P0, _, _, ws_start ok rl, hread ds Qd Ed ht, ?_⟩
  exact ⟨fun σ H' G' P' δ ws _ _ q => k1 _ _ _ _ _ (ws.since.stp fun _ z => z) ws.ok .non q, fun _ _ _ _ _ _ _ _ q => q.elim, fun _ _ _ _ _ _ _ _ q => q.elim, fun v H' G' P' d ok' sc rv q => k1 _ _ _ _ _ (sc.stp fun _ z => z) ok' rv q⟩
end
end FG

/-! FM: built-ins' names, several names at once. -/
namespace FG
open PySem.Spec PySem L2 PyProof.Rows

theorem b_len : bootBuiltins "len" = some (.builtin "len") := by kernel_rfl
theorem b_abs : bootBuiltins "abs" = some (.builtin "abs") := by kernel_rfl
theorem b_max : bootBuiltins "max" = some (.builtin "max") := by kernel_rfl
theorem b_min : bootBuiltins "min" = some (.builtin "min") := by kernel_rfl
theorem b_sum : bootBuiltins "sum" = some (.builtin "sum") := by kernel_rfl
theorem b_all : bootBuiltins "all" = some (.builtin "all") := by kernel_rfl
theorem b_any : bootBuiltins "any" = some (.builtin "any") := by kernel_rfl
theorem b_sorted : bootBuiltins "sorted" = some (.builtin "sorted") := by kernel_rfl
theorem b_isinstance : bootBuiltins "isinstance" = some (.builtin "isinstance") := by kernel_rfl
theorem b_repr : bootBuiltins "repr" = some (.builtin "repr") := by kernel_rfl
theorem b_divmod : bootBuiltins "divmod" = some (.builtin "divmod") := by kernel_rfl
theorem b_list : bootBuiltins "list" = some (.type "list") := by kernel_rfl
theorem b_tuple : bootBuiltins "tuple" = some (.type "tuple") := by kernel_rfl
theorem b_int : bootBuiltins "int" = some (.type "int") := by kernel_rfl
theorem b_bool : bootBuiltins "bool" = some (.type "bool") := by kernel_rfl
theorem b_str : bootBuiltins "str" = some (.type "str") := by kernel_rfl

/-- from the library's own promise -/
theorem FnP.of_ok {gp : Bool} {P : Program} {w : World} {K : PySem.W.Frag} {mg : Str → Option Value} {base : Heap} {k : Nat} {f : Addr} {fd : FuncData} {ps : List Str} {sp : Sp} (F : FnOk P w K mg base (L2.CX P w) k f fd ps sp) (hb : L2.Binds K fd ps []) : FnP gp P w K mg base k f sp := by
  have h := F.raw hb .nil
  intro A outer s H us vs Q E _ hr e0 r q
  apply h A outer s H us vs Q E hr e0 r
  show sp (vs ++ []) H Q E
  rw [List.append_nil]
  exact q
section
variable {K : PySem.W.Frag} {B : Base} {G H G1 H1 G' H' : Hp} {P P1 P' : Addr → Prop} {σ : L2.St} {δ : DSt}
/-- a new list stays itself through a step -/
theorem fresh_step {l : Addr} {xs : List V} {ds : List D} (s : Stp G1 H1 P1 G' H' P') (h : H1 l = some (.lst xs)) (r : RepL K G1 P1 xs ds) (g : G1 l = none) (p : ¬ P1 l) : H' l = some (.lst xs) ∧ RepL K G' P' xs ds ∧ G' l = none ∧ ¬ P' l := by
  refine ⟨s.hh _ _ h p, s.repL r, ?_, fun z => (s.pn l z).elim p fun z => by rw [h] at z; cases z⟩
  cases e : G' l with
  | none => rfl
  | some o =>
    rcases s.gn l o e with z | z
    · rw [g] at z; cases z
    · rw [h] at z; cases z
end
section
variable {X : Cx} {B : Base} {i j l : Nat} {x y z : Str} {a b c : Expr} {ta tb tc : DT} {tf : DTF} {px py pz pt pos : Pos} {kt k2 : Nat} {pt2 : Pos}
/-- x, y = a, b -/
def dPar2 (i j : Nat) (ta tb : DT) : DTS := fun D δ => ta δ fun u => tb δ fun v => D.nx ((δ.set i (some (.val u))).set j (some (.val v)))
theorem ds_par2 (hc : X.calm = true) (hN : X.N.Nodup) (hi : X.N[i]? = some x) (hj : X.N[j]? = some y) (hx : X.env.scope.names.lookup x = some .local) (hy : X.env.scope.names.lookup y = some .local) (ha : DE X B a ta) (hb : DE X B b tb) (hij : i ≠ j := by decide)
    (hw : swappedStores [.Tuple [.Name x px, .Name y py] kt pt] (.Tuple [a, b] k2 pt2) X.env = pure (some [x, y]) := by rfl) (hs : swapsWithSole [.Tuple [.Name x px, .Name y py] kt pt] (.Tuple [a, b] k2 pt2) pos.line X.env = pure false := by rfl)
    (h1 : starEach [a, b] X.env = (false, eval a X.env) :: starEach [b] X.env := by rfl) (h2 : starEach [b] X.env = (false, eval b X.env) :: starEach [] X.env := by rfl) : DS X B (.Assign [.Tuple [.Name x px, .Name y py] kt pt] (.Tuple [a, b] k2 pt2) pos) (dPar2 i j ta tb) :=
  (ps_par hc hN hi hj hij hx hy (pa_cons ha (pa_cons hb pa_nil h2) h1) hw hs).mono fun D σ H q => by
    obtain ⟨G, P, δ, Dd, w, q, k⟩ := q
    refine ⟨G, P, δ, _, w, q, fun u G1 H1 P1 d1 s1 ok1 r1 q1 => ?_⟩
    refine ⟨G1, P1, δ, _, w.step s1 ok1, q1, fun v G2 H2 P2 d2 s2 ok2 r2 q2 => ?_⟩
    refine ⟨u, v, rfl, k.nx _ _ _ _ _ ((((w.step s1 ok1).step s2 ok2).set (s2.rep r1) i).set r2 j) (fun a o e => s2.gg _ _ (s1.gg a o e)) (fun a e => s2.pp _ (s1.pp a e)) q2⟩
/-- x, y = a list of one's own, b -/
def dParO (i j : Nat) (tf : DTF) (tb : DT) : DTS := fun D δ => tf δ fun u => tb δ fun v => D.nx ((δ.set i (some (.own u))).set j (some (.val v)))
theorem ds_parO (hc : X.calm = true) (hN : X.N.Nodup) (hi : X.N[i]? = some x) (hj : X.N[j]? = some y) (hx : X.env.scope.names.lookup x = some .local) (hy : X.env.scope.names.lookup y = some .local) (ha : DF X B a tf) (hb : DE X B b tb) (hij : i ≠ j := by decide)
    (hw : swappedStores [.Tuple [.Name x px, .Name y py] kt pt] (.Tuple [a, b] k2 pt2) X.env = pure (some [x, y]) := by rfl) (hs : swapsWithSole [.Tuple [.Name x px, .Name y py] kt pt] (.Tuple [a, b] k2 pt2) pos.line X.env = pure false := by rfl)
    (h1 : starEach [a, b] X.env = (false, eval a X.env) :: starEach [b] X.env := by rfl) (h2 : starEach [b] X.env = (false, eval b X.env) :: starEach [] X.env := by rfl) : DS X B (.Assign [.Tuple [.Name x px, .Name y py] kt pt] (.Tuple [a, b] k2 pt2) pos) (dParO i j tf tb) :=
  (ps_par hc hN hi hj hij hx hy (pa_cons ha (pa_cons hb pa_nil h2) h1) hw hs).mono fun D σ H q => by
    obtain ⟨G, P, δ, Dd, w, q, k⟩ := q
    refine ⟨G, P, δ, _, w, q, fun l xs G1 H1 P1 us s1 ok1 hl h r g p z q1 => ?_⟩
    refine ⟨G1, P1, δ, _, w.step s1 ok1, q1, fun v G2 H2 P2 d2 s2 ok2 r2 q2 => ?_⟩
    obtain ⟨a1, a2, a3, a4⟩ := fresh_step s2 h r g p
    exact ⟨.ref l, v, rfl, k.nx _ _ _ _ _ ((w.setNew (s1.trans s2) ok2 hl a1 a2 a3 a4 z i).set r2 j) (fun a o e => s2.gg _ _ (s1.gg a o e)) (fun a e => s2.pp _ (s1.pp a e)) q2⟩
end
end FG

/-! FN: readings: comprehensions, subscripts, texts of data. -/
namespace FG
open PySem.Spec PySem L2 PyProof.Rows

/-! ### what is computed, by rules -/
@[simp] theorem sx_dRet (t : DT) : (dRet t : DTS) = (fun D δ => t (view δ) D.rt) := rfl
@[simp] theorem sx_dRetN  : (dRetN  : DTS) = (fun D _ => D.rt .non) := rfl
@[simp] theorem sx_dIf (c : DTT) (t u : DTS) : (dIf c t u : DTS) = (fun D δ => c (view δ) fun b => if b = true then t D δ else u D δ) := rfl
@[simp] theorem sx_dSeq (t u : DTS) : (dSeq t u : DTS) = (fun D δ => t { D with nx := u D } δ) := rfl
@[simp] theorem sx_dNext  : (dNext  : DTS) = (fun D δ => D.nx δ) := rfl
@[simp] theorem sx_dNever  : (dNever  : DTS) = (fun _ _ => False) := rfl
@[simp] theorem sx_dAsg (t : DT) (g : Tgt) : (dAsg t g : DTS) = (fun D δ => t δ fun d => gT g d δ D.nx) := rfl
@[simp] theorem sx_dVar (i : Nat) : (dVar i : DT) = (fun δ Q => match δ[i]? with
  | some (some (.val d)) => Q d
  | _ => False) := rfl
@[simp] theorem sx_dC (d : D) : (dC d : DT) = (fun _ Q => Q d) := rfl
@[simp] theorem sx_dOp (f : F2) (ta tb : DT) : (dOp f ta tb : DT) = (fun δ Q => ta δ fun x => tb δ fun y => f x y Q) := rfl
@[simp] theorem sx_dTest (t : DT) : (dTest t : DTT) = (fun δ Q => t δ fun d => match d with
  | .bl b => Q b
  | _ => False) := rfl
@[simp] theorem sx_dAnd (t u : DTT) : (dAnd t u : DTT) = (fun δ Q => t δ fun c => if c = true then u δ Q else Q false) := rfl
@[simp] theorem sx_dOr (t u : DTT) : (dOr t u : DTT) = (fun δ Q => t δ fun c => if c = true then Q true else u δ Q) := rfl
@[simp] theorem sx_dNot (t : DTT) : (dNot t : DTT) = (fun δ Q => t δ fun c => Q (!c)) := rfl
@[simp] theorem sx_dAndV (ta tb : DT) : (dAndV ta tb : DT) = (fun δ Q => ta δ fun x => match x with
  | .bl c => if c = true then tb δ Q else Q (.bl false)
  | _ => False) := rfl
@[simp] theorem sx_dOrV (ta tb : DT) : (dOrV ta tb : DT) = (fun δ Q => ta δ fun x => match x with
  | .bl c => if c = true then Q (.bl true) else tb δ Q
  | _ => False) := rfl
@[simp] theorem sx_dNotV (ta : DT) : (dNotV ta : DT) = (fun δ Q => ta δ fun x => match x with
  | .bl c => Q (.bl (!c))
  | _ => False) := rfl
@[simp] theorem sx_dIfE (t : DTT) (ta tb : DT) : (dIfE t ta tb : DT) = (fun δ Q => t (view δ) fun c => if c = true then ta δ Q else tb δ Q) := rfl
@[simp] theorem sx_dCB (f : List D → (D → Prop) → Prop) (te : DTA) : (dCB f te : DT) = (fun δ Q => te δ fun ds => f ds Q) := rfl
@[simp] theorem sx_dCons (ta : DT) (tr : DTA) : (dCons ta tr : DTA) = (fun δ Q => ta δ fun x => tr δ fun xs => Q (x :: xs)) := rfl
@[simp] theorem sx_dNil  : (dNil  : DTA) = (fun _ Q => Q []) := rfl
@[simp] theorem sx_dTup (ta : DTA) : (dTup ta : DT) = (fun δ Q => ta δ fun ds => Q (.tup ds)) := rfl
@[simp] theorem sx_dLst (ta : DTA) : (dLst ta : DT) = (fun δ Q => ta δ fun ds => Q (.lst ds)) := rfl
@[simp] theorem sx_dCall (T : DSp) (W : XW) (te : DTA) : (dCall T W te : DT) = (fun δ Q => te δ fun ds => T ds Q fun e => W e δ) := rfl
@[simp] theorem sx_dMeth (C : Addr) (m : Str) (T : DSp) (W : XW) (ta : DT) (te : DTA) : (dMeth C m T W ta te : DT) = (fun δ Q => ta δ fun x => match x with
  | .ins C' fs => C' = C ∧ fs.lookup m = none ∧ te δ fun ds => T (x :: ds) Q fun e => W e δ
  | _ => False) := rfl
@[simp] theorem sx_dFld (C : Addr) (f : Str) (ta : DT) : (dFld C f ta : DT) = (fun δ Q => ta δ fun x => match x with
  | .ins C' fs => C' = C ∧ match fs.lookup f with
    | some d => Q d
    | none => False
  | _ => False) := rfl
@[simp] theorem sx_dProp (C : Addr) (T : DSp) (ta : DT) : (dProp C T ta : DT) = (fun δ Q => ta δ fun x => match x with
  | .ins C' _ => C' = C ∧ T [x] Q fun _ => False
  | _ => False) := rfl
@[simp] theorem sx_dCallO (C : Addr) (T : DSp) (tf : DT) (te : DTA) : (dCallO C T tf te : DT) = (fun δ Q => tf δ fun x => match x with
  | .ins C' _ => C' = C ∧ te δ fun ds => T (x :: ds) Q fun _ => False
  | _ => False) := rfl
@[simp] theorem sx_dFldI (i : Nat) (C : Addr) (f : Str) : (dFldI i C f : DT) = (fun δ Q => match δ[i]? with
  | some (some (.inst C' fs)) => C' = C ∧ match fs.lookup f with
    | some d => Q d
    | none => False
  | _ => False) := rfl
@[simp] theorem sx_dSetF (i : Nat) (C : Addr) (f : Str) (ta : DT) : (dSetF i C f ta : DTS) = (fun D δ => ta δ fun d => match δ[i]? with
  | some (some (.inst C' fs)) => C' = C ∧ fs.length < 1000 ∧ D.nx (δ.set i (some (.inst C (putD f d fs))))
  | _ => False) := rfl
@[simp] theorem sx_view (δ : DSt) : (view δ : DSt) = (δ.map fun o => o.map SV.view) := rfl
@[simp] theorem sx_dIsiT (Ts : List String) (ta : DT) : (dIsiT Ts ta : DT) = (fun δ Q => ta δ fun x => ∃ t, x.tyn = some t ∧ (∀ T ∈ Ts, T ∈ okTys) ∧ Q (.bl (Ts.any (tyIs t)))) := rfl
@[simp] theorem sx_iSeq (t : DT) : (iSeq t : DTI) = (fun δ Q => t δ fun d => match d with
  | .lst ds => Q ds
  | .tup ds => Q ds
  | _ => False) := rfl
@[simp] theorem sx_dFor (ti : DTI) (tg : Tgt) (tb : DTS) : (dFor ti tg tb : DTS) = (fun D δ => ti δ fun items => dLoop tg tb D items δ) := rfl
@[simp] theorem sx_dChain (f g : F2) (ta tb tc : DT) : (dChain f g ta tb tc : DT) = (fun δ Q => ta δ fun x => tb δ fun y => f x y fun z => match z with
  | .bl k => if k = true then tc δ fun w => g y w Q else Q (.bl false)
  | _ => False) := rfl
@[simp] theorem sx_dNeg (ta : DT) : (dNeg ta : DT) = (fun δ Q => ta δ fun x => match x with
  | .int i => Q (.int (-i))
  | _ => False) := rfl
@[simp] theorem sx_dStay (t : DTF) : (dStay t : DT) = (fun δ Q => t δ fun ds => Q (.lst ds)) := rfl
@[simp] theorem sx_fLc (ti : DTI) (tg : Tgt) (tt : DTT) (te : DT) (vs : List Nat) : (fLc ti tg tt te vs : DTF) = (fun δ Q => ti δ fun items => dLcL tg tt te (wipeD δ vs) items [] Q) := rfl
@[simp] theorem sx_dYes  : (dYes  : DTT) = (fun _ Q => Q true) := rfl
@[simp] theorem sx_dParO (i j : Nat) (tf : DTF) (tb : DT) : (dParO i j tf tb : DTS) = (fun D δ => tf δ fun u => tb δ fun v => D.nx ((δ.set i (some (.own u))).set j (some (.val v)))) := rfl
@[simp] theorem sx_dPar2 (i j : Nat) (ta tb : DT) : (dPar2 i j ta tb : DTS) = (fun D δ => ta δ fun u => tb δ fun v => D.nx ((δ.set i (some (.val u))).set j (some (.val v)))) := rfl
@[simp] theorem sx_fLst (te : DTA) : (fLst te : DTF) = (fun δ Q => te δ Q) := rfl
@[simp] theorem sx_dRev (ta : DT) : (dRev ta : DTF) = (fun δ Q => ta δ fun x => match x with
  | .lst ds => Q ds.reverse
  | _ => False) := rfl
@[simp] theorem sx_dRetPot (tf : DTF) : (dRetPot tf : DTS) = (fun D δ => tf (view δ) fun ds => ∃ i j, ds = [.int i, .int j] ∧ PotN i j ∧ D.rt .pot) := rfl
@[simp] theorem sx_iRange1 (te : DTA) : (iRange1 te : DTI) = (fun δ Q => te δ fun ds => match ds with
  | [.int j] => j ≤ sizeLine ∧ -(2 ^ 62) ≤ j ∧ Q (steps 0 1 j.toNat)
  | _ => False) := rfl
@[simp] theorem sx_iRange2 (te : DTA) : (iRange2 te : DTI) = (fun δ Q => te δ fun ds => match ds with
  | [.int i, .int j] => j - i ≤ sizeLine ∧ (-(2 ^ 62) ≤ i ∧ i < 2 ^ 62 ∧ -(2 ^ 62) ≤ j ∧ j < 2 ^ 62) ∧ Q (steps i 1 (j - i).toNat)
  | _ => False) := rfl
@[simp] theorem sx_iRange3 (te : DTA) : (iRange3 te : DTI) = (fun δ Q => te δ fun ds => match ds with
  | [.int i, .int j, .int c] => c = -1 ∧ i - j ≤ sizeLine ∧ (-(2 ^ 62) ≤ i ∧ i < 2 ^ 62 ∧ -(2 ^ 62) ≤ j ∧ j < 2 ^ 62) ∧ Q (steps i (-1) (i - j).toNat)
  | _ => False) := rfl
@[simp] theorem sx_dApp (i : Nat) (ta : DT) : (dApp i ta : DTS) = (fun D δ => match δ[i]? with
  | some (some (.own ds)) => ta δ fun d => ds.length < sizeLine ∧ D.nx (δ.set i (some (.own (ds ++ [d]))))
  | _ => False) := rfl
@[simp] theorem sx_tyIs (t T : String) : (tyIs t T : Bool) = (t == T || (t == "bool" && T == "int")) := rfl
@[simp] theorem sx_okTys  : (okTys  : List String) = (["int", "bool", "str", "tuple", "list"]) := rfl
@[simp] theorem sx_endI (C : Addr) (Q : D → Prop) (δ : DSt) : (endI C Q δ : Prop) = (match δ[(0 : Nat)]? with
  | some (some (.inst C' fs)) => C' = C ∧ Q (.ins C fs)
  | _ => False) := rfl

section
variable {x : D} {xs : List D} {ks : List (Key × D)} {C : Addr} {fs : List (Str × D)} {ns : List Int} {i : Int} {b : Bool} {s : Str} {n : String} {j : Nat} {ts : List Tgt} {t : Tgt} {δ : DSt} {Q : DSt → Prop} {f g : Str}
@[simp] theorem isN_n : D.isN .non = true := rfl
@[simp] theorem isN_b : D.isN (.bl b) = false := rfl
@[simp] theorem isN_i : D.isN (.int i) = false := rfl
@[simp] theorem isN_s : D.isN (.str s) = false := rfl
@[simp] theorem isN_t : D.isN (.tup xs) = false := rfl
@[simp] theorem isN_l : D.isN (.lst xs) = false := rfl
@[simp] theorem isN_o : D.isN (.ins C fs) = false := rfl
@[simp] theorem tyn_n : D.tyn .non = some "NoneType" := rfl
@[simp] theorem tyn_b : D.tyn (.bl b) = some "bool" := rfl
@[simp] theorem tyn_i : D.tyn (.int i) = some "int" := rfl
@[simp] theorem tyn_s : D.tyn (.str s) = some "str" := rfl
@[simp] theorem tyn_t : D.tyn (.tup xs) = some "tuple" := rfl
@[simp] theorem tyn_l : D.tyn (.lst xs) = some "list" := rfl
@[simp] theorem tyn_r : D.tyn (.scr ns) = some "list" := rfl
@[simp] theorem tyn_d : D.tyn (.dct ks) = none := rfl
@[simp] theorem tyn_o : D.tyn (.ins C fs) = none := rfl
@[simp] theorem tyn_p : D.tyn .pot = none := rfl
@[simp] theorem tyn_c : D.tyn (.cls C) = none := rfl
@[simp] theorem tyn_y : D.tyn (.ty n) = none := rfl
@[simp] theorem putD_n : putD f x [] = [(f, x)] := rfl
@[simp] theorem putD_c {y : D} : putD f x ((g, y) :: fs) = if g = f then (g, x) :: fs else (g, y) :: putD f x fs := rfl
@[simp] theorem sv_v : SV.view (.val x) = .val x := rfl
@[simp] theorem sv_o : SV.view (.own xs) = .val (.lst xs) := rfl
@[simp] theorem sv_i : SV.view (.inst C fs) = .val (.ins C fs) := rfl
@[simp] theorem gT_n : gT (.nm j) x δ Q = Q (δ.set j (some (.val x))) := by simp only [gT]
@[simp] theorem gT_t : gT (.tp ts) (.tup xs) δ Q = gTs ts xs δ Q := by simp only [gT]
@[simp] theorem gT_l : gT (.tp ts) (.lst xs) δ Q = gTs ts xs δ Q := by simp only [gT]
@[simp] theorem gTs_n : gTs [] [] δ Q = Q δ := by simp only [gTs]
@[simp] theorem gTs_c : gTs (t :: ts) (x :: xs) δ Q = gT t x δ fun δ' => gTs ts xs δ' Q := by simp only [gTs]
end
section
variable {i j : Int} {s t : Str} {a b : List D} {x y z u : D} {p q : Bool} {Q : D → Prop} {ns : List Int} {f : Int → Int → Bool} {g : List Int → (D → Prop) → Prop}
@[simp] theorem fAdd_i : fAdd (.int i) (.int j) Q = Q (.int (i + j)) := rfl
@[simp] theorem fAdd_s : fAdd (.str s) (.str t) Q = (s.length + t.length ≤ sizeLine ∧ Q (.str (s ++ t))) := rfl
@[simp] theorem fAdd_l : fAdd (.lst a) (.lst b) Q = (a.length + b.length ≤ sizeLine ∧ Q (.lst (a ++ b))) := rfl
@[simp] theorem fAdd_t : fAdd (.tup a) (.tup b) Q = (a.length + b.length ≤ sizeLine ∧ Q (.tup (a ++ b))) := rfl
@[simp] theorem fSub_i : fSub (.int i) (.int j) Q = Q (.int (i - j)) := rfl
@[simp] theorem fMul_i : fMul (.int i) (.int j) Q = (CMulX i j ∧ Q (.int (i * j))) := rfl
@[simp] theorem fMul_l : fMul (.lst a) (.int j) Q = (-(2 ^ 63) ≤ j ∧ j < 2 ^ 63 ∧ a.length * j.toNat ≤ sizeLine ∧ Q (.lst (List.replicate j.toNat a).flatten)) := rfl
@[simp] theorem fFdiv_i : fFdiv (.int i) (.int j) Q = (CDivW i j ∧ Q (.int (i / j))) := rfl
@[simp] theorem fMod_i : fMod (.int i) (.int j) Q = (0 < j ∧ Q (.int (i % j))) := rfl
@[simp] theorem fPow_i : fPow (.int i) (.int j) Q = (CPow i j ∧ Q (.int (i ^ j.toNat))) := rfl
@[simp] theorem fInt_i : fInt f (.int i) (.int j) Q = Q (.bl (f i j)) := rfl
@[simp] theorem fEq_i : fEq (.int i) (.int j) Q = Q (.bl (decide (i = j))) := rfl
@[simp] theorem fEq_s : fEq (.str s) (.str t) Q = Q (.bl (decide (s = t))) := rfl
@[simp] theorem fEq_b : fEq (.bl p) (.bl q) Q = Q (.bl (decide (p = q))) := rfl
@[simp] theorem fEq_n : fEq .non .non Q = Q (.bl true) := rfl
@[simp] theorem fNe_i : fNe (.int i) (.int j) Q = Q (.bl (!decide (i = j))) := rfl
@[simp] theorem fNe_s : fNe (.str s) (.str t) Q = Q (.bl (!decide (s = t))) := rfl
@[simp] theorem fNe_b : fNe (.bl p) (.bl q) Q = Q (.bl (!decide (p = q))) := rfl
@[simp] theorem fNe_n : fNe .non .non Q = Q (.bl false) := rfl
@[simp] theorem fIsN_n : fIsN x .non Q = Q (.bl x.isN) := by cases x <;> rfl
@[simp] theorem fNotN_n : fNotN x .non Q = Q (.bl (!x.isN)) := by cases x <;> rfl
@[simp] theorem fIx_l : fIx (.lst a) (.int i) Q = (match L2.atI a i with | some d => Q d | none => False) := rfl
@[simp] theorem fIx_t : fIx (.tup a) (.int i) Q = (match L2.atI a i with | some d => Q d | none => False) := rfl
@[simp] theorem fIx_scr : fIx (.scr ns) (.int i) Q = (match L2.atI ns i with | some d => Q (.int d) | none => False) := rfl
@[simp] theorem fIx_s : fIx (.str s) (.int i) Q = (s.length ≤ sizeLine ∧ match L2.atI s.cps.toList i with | some c => Q (.str (sign c)) | none => False) := rfl
@[simp] theorem fLen_l : fLen [.lst a] Q = Q (.int a.length) := rfl
@[simp] theorem fLen_t : fLen [.tup a] Q = Q (.int a.length) := rfl
@[simp] theorem fLen_scr : fLen [.scr ns] Q = Q (.int ns.length) := rfl
@[simp] theorem fLen_s : fLen [.str s] Q = (s.length ≤ sizeLine ∧ Q (.int s.length)) := rfl
@[simp] theorem fMax2_i : fMax2 [.int i, .int j] Q = Q (.int (if j > i then j else i)) := rfl
@[simp] theorem fMin2_i : fMin2 [.int i, .int j] Q = Q (.int (if j < i then j else i)) := rfl
@[simp] theorem fMax4_i {k l : Int} : fMax4 [.int i, .int j, .int k, .int l] Q = ∀ m, m ∈ [i, j, k, l] → (∀ y ∈ [i, j, k, l], y ≤ m) → Q (.int m) := rfl
@[simp] theorem fAbs_i : fAbs [.int i] Q = Q (.int (if i < 0 then -i else i)) := rfl
@[simp] theorem fInt1_i : fInt1 [.int i] Q = Q (.int i) := rfl
@[simp] theorem fInt1_b : fInt1 [.bl p] Q = Q (.int (if p then 1 else 0)) := rfl
@[simp] theorem fAll_l : fAll [.lst a] Q = ∃ bs, D.asBls a = some bs ∧ Q (.bl (bs.all id)) := rfl
@[simp] theorem fAny_l : fAny [.lst a] Q = ∃ bs, D.asBls a = some bs ∧ Q (.bl (bs.any id)) := rfl
@[simp] theorem fL_l : fL g [.lst a] Q = ∃ ns, D.asInts a = some ns ∧ g ns Q := rfl
@[simp] theorem fL_scr : fL g [.scr ns] Q = g ns Q := rfl
@[simp] theorem fList_l : fList [.lst a] Q = Q (.lst a) := rfl
@[simp] theorem fList_t : fList [.tup a] Q = Q (.lst a) := rfl
@[simp] theorem fTuple_l : fTuple [.lst a] Q = Q (.tup a) := rfl
@[simp] theorem fTuple_t : fTuple [.tup a] Q = Q (.tup a) := rfl
@[simp] theorem fIsi_c {T : String} : fIsi [x, .ty T] Q = ∃ t, x.tyn = some t ∧ T ∈ okTys ∧ Q (.bl (tyIs t T)) := rfl
end

/-! ### comprehensions -/
section
variable {tg : Tgt} {tt : DTT} {te : DT} {δ : DSt} {Q : List D → Prop}
theorem lcl_gen (Y : D → D → Prop) : ∀ (items acc : List D), (∀ x ∈ items, ∀ R : D → Prop, (∀ y, Y x y → R y) → gT tg x δ fun δ' => te δ' R) → (∀ ys, Paired Y items ys → Q (acc ++ ys)) → dLcL tg dYes te δ items acc Q
  | [], acc, _, q => by
    unfold dLcL
    have := q [] .nil
    rwa [List.append_nil] at this
  | x :: xs, acc, h, q => by
    unfold dLcL
    show gT tg x δ fun δ' => if true = true then te δ' fun y => dLcL tg dYes te δ xs (acc ++ [y]) Q else dLcL tg dYes te δ xs acc Q
    simp only [if_true]
    refine h x List.mem_cons_self _ fun y hy => ?_
    refine lcl_gen Y xs (acc ++ [y]) (fun z hz => h z (List.mem_cons_of_mem _ hz)) fun ys hys => ?_
    rw [List.append_assoc]
    exact q (y :: ys) (.cons hy hys)
/-- each item gives f of it -/
theorem lcl_map (f : D → D) {items : List D} (h : ∀ x ∈ items, ∀ R : D → Prop, R (f x) → gT tg x δ fun δ' => te δ' R) (q : Q (items.map f)) : dLcL tg dYes te δ items [] Q := by
  refine lcl_gen (fun x y => y = f x) items [] (fun x hx R hR => h x hx R (hR _ rfl)) fun ys hys => ?_
  have : ys = items.map f := by
    clear h q
    induction hys with
    | nil => rfl
    | cons e _ ih => rw [List.map_cons, ← ih, e]
  rw [List.nil_append, this]
  exact q
/-- each item gives something that is Y -/
theorem lcl_any (Y : D → Prop) {items : List D} (h : ∀ x ∈ items, ∀ R : D → Prop, (∀ y, Y y → R y) → gT tg x δ fun δ' => te δ' R) (q : ∀ ys : List D, ys.length = items.length → (∀ y ∈ ys, Y y) → Q ys) : dLcL tg dYes te δ items [] Q := by
  refine lcl_gen (fun _ y => Y y) items [] h fun ys hys => ?_
  rw [List.nil_append]
  refine q ys ?_ ?_
  · clear h q
    induction hys with
    | nil => rfl
    | cons _ _ ih => simp [ih]
  · clear h q
    induction hys with
    | nil => intro y hy; cases hy
    | cons e _ ih =>
      intro y hy
      rcases (List.mem_cons.mp hy) with rfl | hy
      · exact e
      · exact ih y hy
/-- those items that pass p give f of it -/
theorem lcl_fm (p : D → Bool) (f : D → D) : ∀ (items acc : List D), (∀ x ∈ items, ∀ (R : D → Prop) (R0 : Prop), (p x = true → R (f x)) → (p x = false → R0) → gT tg x δ fun δ' => tt (view δ') fun b => if b = true then te δ' R else R0) → Q (acc ++ (items.filter p).map f) → dLcL tg tt te δ items acc Q
  | [], acc, _, q => by
    unfold dLcL
    simpa using q
  | x :: xs, acc, h, q => by
    unfold dLcL
    refine h x List.mem_cons_self _ _ (fun e => ?_) (fun e => ?_)
    · refine lcl_fm p f xs (acc ++ [f x]) (fun z hz => h z (List.mem_cons_of_mem _ hz)) ?_
      rw [List.filter_cons_of_pos e, List.map_cons] at q
      rwa [List.append_assoc, List.singleton_append]
    · refine lcl_fm p f xs acc (fun z hz => h z (List.mem_cons_of_mem _ hz)) ?_
      rwa [List.filter_cons_of_neg (by rw [e]; exact Bool.false_ne_true)] at q
end

/-! ### statements, one by one -/
section
variable {t : DT} {c : DTT} {a b : DTS} {i : Nat} {De : DEnds} {δ : DSt} {v d : D} {Y : D → Prop} {R : D → Prop}
theorem go_seq (h : a { De with nx := b De } δ) : dSeq a b De δ := h
/-- x = t, t's value is v -/
theorem go_asg (v : D) (h : ∀ k : D → Prop, k v → t δ k) (q : De.nx (δ.set i (some (.val v)))) : dAsg t (.nm i) De δ := h _ (by simp only [gT]; exact q)
/-- .. is one of Y's -/
theorem go_asgY (Y : D → Prop) (h : ∀ k : D → Prop, (∀ v, Y v → k v) → t δ k) (q : ∀ v, Y v → De.nx (δ.set i (some (.val v)))) : dAsg t (.nm i) De δ := h _ fun v hv => by simp only [gT]; exact q v hv
theorem go_if_t (h : ∀ k : Bool → Prop, k true → c (FG.view δ) k) (q : a De δ) : dIf c a b De δ := h _ (by rw [if_pos rfl]; exact q)
theorem go_if_f (h : ∀ k : Bool → Prop, k false → c (FG.view δ) k) (q : b De δ) : dIf c a b De δ := h _ (by rw [if_neg Bool.false_ne_true]; exact q)
theorem gs_asg {b : DTS} (v : D) (h : ∀ k : D → Prop, k v → t δ k) (q : b De (δ.set i (some (.val v)))) : dSeq (dAsg t (.nm i)) b De δ := h _ (by simp only [gT]; exact q)
theorem gs_asgY {b : DTS} (Y : D → Prop) (h : ∀ k : D → Prop, (∀ v, Y v → k v) → t δ k) (q : ∀ v, Y v → b De (δ.set i (some (.val v)))) : dSeq (dAsg t (.nm i)) b De δ := h _ fun v hv => by simp only [gT]; exact q v hv
theorem gs_next {b : DTS} {a : DTS} (h : ∀ k : Bool → Prop, k false → c (FG.view δ) k) (q : b De δ) : dSeq (dIf c a dNext) b De δ := h _ (by rw [if_neg Bool.false_ne_true]; exact q)
theorem go_ret (v : D) (h : ∀ k : D → Prop, k v → t (FG.view δ) k) (q : De.rt v) : dRet t De δ := h _ q
theorem go_var (h : δ[i]? = some (some (.val d))) (q : R d) : dVar i δ R := by
  unfold dVar
  rw [h]
  exact q
end

/-! ### subscripts -/
theorem atI_end {α : Type} (xs : List α) : L2.atI xs (-1) = xs.getLast? := by
  unfold L2.atI L2.ixN
  rw [if_neg (by decide)]
  cases xs with
  | nil => rfl
  | cons x xs =>
    have h : -(((x :: xs).length : Nat) : Int) ≤ -1 := by simp only [List.length_cons]; omega
    rw [if_pos h]
    have e : (-1 + (((x :: xs).length : Nat) : Int)).toNat = xs.length := by simp only [List.length_cons]; omega
    rw [e]
    show (x :: xs)[xs.length]? = _
    rw [(List.getLast?_eq_getElem?)]
    simp
theorem atI_n {α : Type} (xs : List α) (n : Nat) : L2.atI xs (n : Int) = xs[n]? := by
  unfold L2.atI L2.ixN
  rw [if_pos (by omega)]
  by_cases h : (n : Int) < ((xs.length : Nat) : Int)
  · rw [if_pos h]; simp
  · rw [if_neg h, List.getElem?_eq_none (by omega)]; rfl
@[simp] theorem atI_0 {α : Type} (x : α) (xs : List α) : L2.atI (x :: xs) 0 = some x := atI_n _ 0
@[simp] theorem atI_1 {α : Type} (x y : α) (xs : List α) : L2.atI (x :: y :: xs) 1 = some y := atI_n _ 1
@[simp] theorem atI_2 {α : Type} (x y z : α) (xs : List α) : L2.atI (x :: y :: z :: xs) 2 = some z := atI_n _ 2
@[simp] theorem atI_3 {α : Type} (x y z u : α) (xs : List α) : L2.atI (x :: y :: z :: u :: xs) 3 = some u := atI_n _ 3

/-! ### data of ints that can be shown -/
mutual
/-- ints of moderate size, in lists and tuples -/
def D.nice : D → Bool
  | .int i => decide (i.natAbs < 10 ^ 500)
  | .tup xs => D.niceL xs
  | .lst xs => D.niceL xs
  | _ => false
def D.niceL : List D → Bool
  | [] => true
  | x :: xs => D.nice x && D.niceL xs
end
mutual
/-- a bound of the shown text's length -/
def D.wt : D → Nat
  | .tup xs => D.wtL xs + 4
  | .lst xs => D.wtL xs + 4
  | _ => 502
def D.wtL : List D → Nat
  | [] => 0
  | x :: xs => D.wt x + 2 + D.wtL xs
end
mutual
def D.dep : D → Nat
  | .tup xs => D.depL xs + 1
  | .lst xs => D.depL xs + 1
  | _ => 0
def D.depL : List D → Nat
  | [] => 0
  | x :: xs => max (D.dep x) (D.depL xs)
end
mutual
theorem nice_plain : ∀ d : D, d.nice = true → d.plain = true
  | .non, h => nomatch h
  | .bl _, h => nomatch h
  | .int _, _ => by unfold D.plain; rfl
  | .str _, h => nomatch h
  | .tup xs, h => by unfold D.plain; exact nice_plainL xs (by unfold D.nice at h; exact h)
  | .lst xs, h => by unfold D.plain; exact nice_plainL xs (by unfold D.nice at h; exact h)
  | .dct _, h => nomatch h
  | .ins _ _, h => nomatch h
  | .pot, h => nomatch h
  | .scr _, h => nomatch h
  | .cls _, h => nomatch h
  | .ty _, h => nomatch h
theorem nice_plainL : ∀ ds : List D, D.niceL ds = true → D.plainL ds = true
  | [], _ => by unfold D.plainL; rfl
  | d :: ds, h => by
    unfold D.niceL at h
    obtain ⟨h1, h2⟩ := Bool.and_eq_true_iff.mp h
    unfold D.plainL
    rw [nice_plain d h1, nice_plainL ds h2]; rfl
end
theorem log_of {i : Int} (h : i.natAbs < 10 ^ 500) : i.natAbs.log2 < 1920 := by
  by_cases h0 : i.natAbs = 0
  · rw [h0]; decide
  · exact (Nat.log2_lt h0).mpr (Nat.lt_trans h (by decide +kernel))
mutual
theorem nice_show : ∀ d : D, d.nice = true → d.py.showable = true
  | .non, h => nomatch h
  | .bl _, h => nomatch h
  | .int i, h => by
    unfold D.py PyData.showable
    unfold D.nice at h
    exact decide_eq_true (log_of (of_decide_eq_true h))
  | .str _, h => nomatch h
  | .tup xs, h => by unfold D.py PyData.showable; exact nice_showL xs (by unfold D.nice at h; exact h)
  | .lst xs, h => by unfold D.py PyData.showable; exact nice_showL xs (by unfold D.nice at h; exact h)
  | .dct _, h => nomatch h
  | .ins _ _, h => nomatch h
  | .pot, h => nomatch h
  | .scr _, h => nomatch h
  | .cls _, h => nomatch h
  | .ty _, h => nomatch h
theorem nice_showL : ∀ ds : List D, D.niceL ds = true → PyData.showableAll (D.pyL ds) = true
  | [], _ => by unfold D.pyL PyData.showableAll; rfl
  | d :: ds, h => by
    unfold D.niceL at h
    obtain ⟨h1, h2⟩ := Bool.and_eq_true_iff.mp h
    unfold D.pyL PyData.showableAll
    rw [nice_show d h1, nice_showL ds h2]; rfl
end
mutual
theorem dep_py : ∀ d : D, d.plain = true → d.py.depth = d.dep
  | .non, _ => by unfold D.py D.dep PyData.depth; rfl
  | .bl _, _ => by unfold D.py D.dep PyData.depth; rfl
  | .int _, _ => by unfold D.py D.dep PyData.depth; rfl
  | .str _, _ => by unfold D.py D.dep PyData.depth; rfl
  | .tup xs, h => by unfold D.py D.dep PyData.depth; rw [dep_pyL xs (by unfold D.plain at h; exact h)]
  | .lst xs, h => by unfold D.py D.dep PyData.depth; rw [dep_pyL xs (by unfold D.plain at h; exact h)]
  | .dct _, h => nomatch h
  | .ins _ _, h => nomatch h
  | .pot, h => nomatch h
  | .scr _, h => nomatch h
  | .cls _, h => nomatch h
  | .ty _, h => nomatch h
theorem dep_pyL : ∀ ds : List D, D.plainL ds = true → PyData.depthAll (D.pyL ds) = D.depL ds
  | [], _ => by unfold D.pyL D.depL PyData.depthAll; rfl
  | d :: ds, h => by
    unfold D.plainL at h
    obtain ⟨h1, h2⟩ := Bool.and_eq_true_iff.mp h
    unfold D.pyL D.depL PyData.depthAll
    rw [dep_py d h1, dep_pyL ds h2]
end
mutual
theorem nice_lay : ∀ d : D, d.nice = true → d.py.canLay0 = true
  | .non, h => nomatch h
  | .bl _, h => nomatch h
  | .int i, h => by unfold D.py PyData.canLay0; rfl
  | .str _, h => nomatch h
  | .tup xs, h => by unfold D.py PyData.canLay0; exact nice_layL xs (by unfold D.nice at h; exact h)
  | .lst xs, h => by unfold D.py PyData.canLay0; exact nice_layL xs (by unfold D.nice at h; exact h)
  | .dct _, h => nomatch h
  | .ins _ _, h => nomatch h
  | .pot, h => nomatch h
  | .scr _, h => nomatch h
  | .cls _, h => nomatch h
  | .ty _, h => nomatch h
theorem nice_layL : ∀ ds : List D, D.niceL ds = true → PyData.canLayAll0 (D.pyL ds) = true
  | [], _ => by unfold D.pyL PyData.canLayAll0; rfl
  | d :: ds, h => by
    unfold D.niceL at h
    obtain ⟨h1, h2⟩ := Bool.and_eq_true_iff.mp h
    unfold D.pyL PyData.canLayAll0
    rw [nice_lay d h1, nice_layL ds h2]; rfl
end
theorem nice_okEq {d : D} (h : d.nice = true) (hd : d.dep ≤ 64) : d.okEq = true := by
  unfold D.okEq SeqAt.shaped
  rw [nice_plain d h, nice_lay d h, dep_py d (nice_plain d h), decide_eq_true hd]
  rfl
/-- xs == [] -/
theorem eq_nil {xs : List D} {Q : D → Prop} (h : D.nice (.lst xs) = true) (hd : D.dep (.lst xs) ≤ 64) (q : Q (.bl xs.isEmpty)) : fEq (.lst xs) (.lst []) Q := by
  have e : D.eqq (.lst xs) (.lst []) = xs.isEmpty := by
    unfold D.eqq
    cases xs <;> (simp only [D.py, D.pyL]; unfold PyData.eqv PyData.eqvAll; rfl)
  show D.okEq (.lst xs) = true ∧ D.okEq (.lst []) = true ∧ Q (.bl (D.eqq (.lst xs) (.lst [])))
  rw [e]
  exact ⟨nice_okEq h hd, by decide +kernel, q⟩
/-- one of some ints -/
theorem pick {xs : List Int} {d M : Int} (h0 : 0 ≤ d) (h1 : d < xs.length) (h : ∀ x ∈ xs, 0 ≤ x ∧ x ≤ M) : ∃ x, L2.atI (xs.map D.int) d = some (.int x) ∧ 0 ≤ x ∧ x ≤ M := by
  obtain ⟨n, rfl⟩ := (Int.eq_ofNat_of_zero_le h0)
  have hn : n < xs.length := by omega
  refine ⟨xs[n], ?_, h _ (List.getElem_mem hn)⟩
  rw [atI_n, List.getElem?_map, List.getElem?_eq_getElem hn]
  rfl
theorem ints_of {Y : Int → Prop} : ∀ {ys : List D}, (∀ y ∈ ys, ∃ v, y = .int v ∧ Y v) → ∃ vs : List Int, ys = vs.map D.int ∧ ∀ v ∈ vs, Y v
  | [], _ => ⟨[], rfl, fun _ h => nomatch h⟩
  | y :: ys, h => by
    obtain ⟨v, rfl, hv⟩ := h y List.mem_cons_self
    obtain ⟨vs, rfl, hs⟩ := ints_of (ys := ys) fun z hz => h z (List.mem_cons_of_mem _ hz)
    exact ⟨v :: vs, rfl, fun w hw => by
      rcases List.mem_cons.mp hw with rfl | hw
      · exact hv
      · exact hs w hw⟩
theorem int_len {i : Int} (h : i.natAbs < 10 ^ 500) : (Str.ofString (toString i)).length ≤ 502 := by
  have big : ((10 ^ 500 : Nat) : Int) = 10 ^ 500 := by norm_cast
  by_cases h0 : 0 ≤ i
  · exact Nat.le_trans (toString_length_le h0 (k := 500) (by decide) (by omega)) (by decide)
  · have e := len_text_negI (n := i) (by omega)
    have l := toString_length_le (v := 0 - i) (by omega) (k := 500) (by decide) (by omega)
    omega
mutual
theorem shown_len : ∀ d : D, d.nice = true → d.py.shown.length ≤ d.wt
  | .non, h => nomatch h
  | .bl _, h => nomatch h
  | .int i, h => by
    unfold D.nice at h
    unfold D.py PyData.shown D.wt
    exact int_len (of_decide_eq_true h)
  | .str _, h => nomatch h
  | .tup xs, h => by
    unfold D.nice at h
    have := shown_lenL xs h
    unfold D.py PyData.shown D.wt
    have k := tupleText_len_le (PyData.shownAll (D.pyL xs))
    omega
  | .lst xs, h => by
    unfold D.nice at h
    have := shown_lenL xs h
    unfold D.py PyData.shown D.wt
    have k := listText_len_le (PyData.shownAll (D.pyL xs))
    omega
  | .dct _, h => nomatch h
  | .ins _ _, h => nomatch h
  | .pot, h => nomatch h
  | .scr _, h => nomatch h
  | .cls _, h => nomatch h
  | .ty _, h => nomatch h
theorem shown_lenL : ∀ ds : List D, D.niceL ds = true → ((PyData.shownAll (D.pyL ds)).map (·.length)).sum + 2 * (PyData.shownAll (D.pyL ds)).length ≤ D.wtL ds
  | [], _ => by unfold D.pyL PyData.shownAll D.wtL; simp
  | d :: ds, h => by
    unfold D.niceL at h
    obtain ⟨h1, h2⟩ := Bool.and_eq_true_iff.mp h
    have k1 := shown_len d h1
    have k2 := shown_lenL ds h2
    unfold D.pyL PyData.shownAll D.wtL
    simp only [List.length_cons, List.sum_cons, List.map_cons]
    omega
end
/-- what repr asks -/
theorem repr_ok {x : D} {Q : D → Prop} (hb : x.box = true) (hn : x.nice = true) (hd : x.dep ≤ 60) (hw : x.wt ≤ 1000000) (q : Q (.str x.py.shown)) : fRepr [x] Q :=
  ⟨hb, nice_plain x hn, nice_show x hn, by rw [dep_py x (nice_plain x hn)]; exact hd, Nat.le_trans (shown_len x hn) (Nat.le_trans hw (by rw [sizeLine_eq]; decide)), q⟩
end FG

/-! FO: a law's end, where repr may be called. -/
namespace FG
open PySem.Spec PySem L2 PyProof.Rows

/-- the law's def is called with the script behind the top -/
theorem end_call {P : Program} {w : World} {K : PySem.W.Frag} {mg mb : Str → Option Value} {k : Nat} {fa a : Addr} {sp : Sp} {s : Shared} {vs : List Value} {ns : List Int} (KX : K.In s.heap) (n1 : s.heap.Ns mainGlobals mg) (n2 : s.heap.Ns builtinsNs mb) (n3 : ∀ x : Str, x ≠ "__name__" → mb x = bootBuiltins x) (n4 : s.heap.NoLimit) (g0 : s.gens = #[])
    (oa : s.heap.get? a = some { cls := .type "list", data := .seq vs.toArray }) (iv : IntsAre vs ns) (sz : ns.length ≤ sizeLine) (rm : Room k callerA) (F : ∀ base : Heap, K.In base → base.Ns mainGlobals mg → FnP true P w K mg base k fa sp)
    (goal : ∀ H : Hp, Only H → SqL K H a (ns.map V.int) → sp [.ref a] H (fun v _ => v = .bl true) fun _ _ _ => False) :
    codeAny (model P w) callerA (.call (.ref fa) ⟨[.ref a], []⟩) (fun r s' => r = .ok (.ret (.bool true)) ∧ OldK s.heap s'.heap ∧ s'.os = s.os ∧ AllBare s'.gens) s := by
  have rv := vals_ints iv
  have lv := iv.length
  have main : ∀ H : Hp, Only H → SqL K H a (ns.map V.int) → HOk P w H s.heap → (∀ b, H b ≠ none → b = a ∧ K.lookup a = none) →
      codeAny (model P w) callerA (.call (.ref fa) ⟨[.ref a], []⟩) (fun r s' => r = .ok (.ret (.bool true)) ∧ OldK s.heap s'.heap ∧ s'.os = s.os ∧ AllBare s'.gens) s := by
    intro H only sq hok own
    have free : ∀ {b : Addr} {o : Obj} {es : Array DictEntry} {m : Nat}, s.heap.get? b = some o → o.data = .dict es m → H b = none := by
      intro b o es m e d
      cases q : H b with
      | none => rfl
      | some u =>
        have z : b = a := (own b (by rw [q]; exact Option.some_ne_none u)).1
        rw [z, oa] at e
        cases e
        cases (show Data.seq vs.toArray _ = Data.dict es m from d)
    have ns' : ∀ {b : Addr} {m : Str → Option Value}, s.heap.Ns b m → (hidT s.heap H).Ns b m := by
      rintro b m ⟨o, es, j, e, d, r⟩
      exact ⟨o, es, j, hidT_get e (free e d), d, r⟩
    have kin : K.In (hidT s.heap H) := by
      intro b o e
      refine hidT_get (KX b o e) ?_
      cases q : H b with
      | none => rfl
      | some u =>
        obtain ⟨z1, z2⟩ := own b (by rw [q]; exact Option.some_ne_none u)
        rw [z1, z2] at e
        cases e
    have md : Mod K mg (hidT s.heap H) := by
      refine ⟨kin, ns' n1, ⟨mb, ns' n2, n3⟩, ?_⟩
      obtain ⟨mc, h1, h2⟩ := n4
      exact ⟨mc, ns' h1, h2⟩
    have en : Env0 P w K mg (hidT s.heap H) callerA [] s H := by
      refine ⟨rfl, md, fun b o e => of_hidT e, Nat.le_of_eq (hidT_size _ _), trivial, fun b hb => ?_, hok, .of_eq g0⟩
      cases (show b ∈ ([] : List Addr) from hb)
    refine codeAny_mono (F _ kin (ns' n1) callerA [] s H [.ref a] [.ref a] _ _ (fun _ => rfl) rm en (.cons rfl .nil) (goal H only sq)) ?_
    rintro (er | fl) s' h
    · obtain ⟨_, _, _, _, _, _, _, _, _, _, _, _, z⟩ := (show CX P w [] H s (fun _ _ _ => False) er s' from h)
      exact z.elim
    cases fl with
    | ret u =>
      obtain ⟨v, H', os, bare, un, hok', r', rfl⟩ := h
      cases (show u = Value.bool true from r')
      refine ⟨rfl, (OldK.of_keep fun b o e => ?_), os, bare⟩
      cases q : H b with
      | none => exact un.keep b o e q (fun z => by cases (show b ∈ ([] : List Addr) from z)) (by simp)
      | some u =>
        obtain ⟨ob, xs, z⟩ := (only b).resolve_left (by rw [q]; exact Option.some_ne_none u)
        have z1 := (hok b _ z).1
        have z2 := (hok' b _ (un.frzs b ob _ z)).1
        rw [e] at z1
        cases z1
        exact z2
    | _ => exact False.elim h
  cases hk : K.lookup a with
  | some o =>
    have e := KX a o hk
    rw [oa] at e
    cases e
    exact main (fun _ => none) (fun _ => .inl rfl) (.inr ⟨_, vs.toArray, _, hk, rfl, rfl, rfl, by rw [List.size_toArray, lv]; exact sz, by simpa using rv⟩) (fun b u z => nomatch (show (none : Option HO) = some u from z)) fun b z => absurd rfl z
  | none =>
    have hh : ∀ {b : Addr} {u : HO}, (if b = a then some (HO.frz { cls := .type "list", data := .seq vs.toArray } (.lst (ns.map V.int))) else none) = some u → b = a ∧ u = .frz { cls := .type "list", data := .seq vs.toArray } (.lst (ns.map V.int)) := by
      intro b u z
      split at z
      · rename_i h
        exact ⟨h, (Option.some.inj z).symm⟩
      · cases z
    refine main (fun b => if b = a then some (.frz { cls := .type "list", data := .seq vs.toArray } (.lst (ns.map V.int))) else none) (fun b => ?_) (.inl (.inr ⟨_, if_pos rfl⟩)) (fun b u z => ?_) fun b z => ?_
    · cases q : (if b = a then some (HO.frz { cls := .type "list", data := .seq vs.toArray } (.lst (ns.map V.int))) else none) with
      | none => exact .inl q
      | some u =>
        obtain ⟨_, rfl⟩ := hh q
        exact .inr ⟨_, _, q⟩
    · obtain ⟨rfl, rfl⟩ := hh z
      exact ⟨oa, by rw [List.length_map]; exact sz, vs, _, rv, oa⟩
    · cases q : (if b = a then some (HO.frz { cls := .type "list", data := .seq vs.toArray } (.lst (ns.map V.int))) else none) with
      | none => exact absurd q z
      | some u => exact ⟨(hh q).1, hk⟩
/-- the end over a head by facts -/
theorem walk_fg {l : PySem.W.OpenLaw} {n k : Nat} {q : Program} {loose : List Str} {XP : (Str → Option Value) → Heap → Prop} {YP : World → Heap → Prop} {d : DefRec} (h1 : l.most = some n) (h2 : n ≤ sizeLine) (h3 : d.params.defaults = []) (h4 : Room k callerA)
    (F : ∀ (w : World) (mg : Str → Option Value) (fa : Addr) (h : Heap), YP w h → h.Ns mainGlobals mg → mg d.name = some (.ref fa) → ∃ (K : PySem.W.Frag) (T : DSp), K.In h ∧ (∀ (ns : List Int) (E : Exn → Prop) (Q : D → Prop), ns.length ≤ n → Q (.bl true) → T [.scr ns] Q E) ∧ ∀ base : Heap, K.In base → base.Ns mainGlobals mg → Fn true l.prog w K mg base k fa T) :
    PySem.W.WalkO q loose XP YP (l.row.toRowW) d [] (fun f vs => PySem.call f vs) := by
  refine Att.attach_call h1 h3 fun w s₀ s₁ mg mb fa o pm cd doc a vs ns G Y ho hd hcd hmg hobj hints hlen hg => ?_
  obtain ⟨K, T, KX, hT, hF⟩ := F w mg fa _ Y G.T.g hmg
  refine end_call KX G.T.g G.T.b G.T.builtins G.T.nolimit hg hobj hints (Nat.le_trans hlen h2) h4 hF fun H only sq => ?_
  refine ⟨H, fun _ => False, [.scr ns], fun x => x = .bl true, fun _ => False, ⟨fun _ _ z => z, fun _ z => z.elim, fun _ z => z.elim⟩, .cons (.scr sq) .nil, hT ns _ _ hlen rfl, ?_, fun _ _ _ _ _ _ _ _ _ z => z⟩
  rintro v G' H' P' x _ _ r rfl
  cases r
  rfl
end FG

namespace K36
open PySem.Spec PySem L2 PyProof.Rows FG
open He (ga ma Fa Dv)
def top (i : Nat) : Stmt := PySem.Challenge.pw_finishgate_k36_profiles_called.main.body.getD i (.Pass ⟨0, 0, 0, 0⟩)
def clsBody (s : Stmt) : List Stmt := match s with
  | .ClassDef _ _ _ b _ _ _ _ _ _ _ => b
  | _ => []
abbrev st_is_integer : Stmt := top 11
abbrev N_is_integer : List Str := ["value"]
theorem sc_is_integer : FnScope N_is_integer ["value"] (defScope st_is_integer) := ⟨rfl, rfl, rfl, by decide +kernel, rfl, by decide +kernel, by decide +kernel⟩
abbrev st_is_count : Stmt := top 32
abbrev N_is_count : List Str := ["value"]
theorem sc_is_count : FnScope N_is_count ["value"] (defScope st_is_count) := ⟨rfl, rfl, rfl, by decide +kernel, rfl, by decide +kernel, by decide +kernel⟩
abbrev st_is_row : Stmt := top 33
abbrev N_is_row : List Str := ["value"]
theorem sc_is_row : FnScope N_is_row ["value"] (defScope st_is_row) := ⟨rfl, rfl, rfl, by decide +kernel, rfl, by decide +kernel, by decide +kernel⟩
abbrev st_are_rows : Stmt := top 34
abbrev N_are_rows : List Str := ["value", "level", "before", "row"]
theorem sc_are_rows : FnScope N_are_rows ["value", "level"] (defScope st_are_rows) := ⟨rfl, rfl, rfl, by decide +kernel, rfl, by decide +kernel, by decide +kernel⟩
abbrev st_last_valley : Stmt := top 35
abbrev N_last_valley : List Str := ["rows", "level"]
theorem sc_last_valley : FnScope N_last_valley ["rows", "level"] (defScope st_last_valley) := ⟨rfl, rfl, rfl, by decide +kernel, rfl, by decide +kernel, by decide +kernel⟩
abbrev st_greatest_peak : Stmt := top 36
abbrev N_greatest_peak : List Str := ["rows", "level"]
theorem sc_greatest_peak : FnScope N_greatest_peak ["rows", "level"] (defScope st_greatest_peak) := ⟨rfl, rfl, rfl, by decide +kernel, rfl, by decide +kernel, by decide +kernel⟩
abbrev st_problem_of : Stmt := top 37
abbrev N_problem_of : List Str := ["descent", "ascent", "end", "height"]
theorem sc_problem_of : FnScope N_problem_of ["descent", "ascent", "end", "height"] (defScope st_problem_of) := ⟨rfl, rfl, rfl, by decide +kernel, rfl, by decide +kernel, by decide +kernel⟩
abbrev st_fallen : Stmt := top 38
abbrev N_fallen : List Str := ["rows", "bound", "level", "found", "peak", "valley"]
theorem sc_fallen : FnScope N_fallen ["rows", "bound", "level"] (defScope st_fallen) := ⟨rfl, rfl, rfl, by decide +kernel, rfl, by decide +kernel, by decide +kernel⟩
abbrev st_Profile___init__ : Stmt := (clsBody (top 45)).getD 0 (.Pass ⟨0, 0, 0, 0⟩)
abbrev N_Profile___init__ : List Str := ["self", "descent", "ascent", "end", "height", "problem"]
theorem sc_Profile___init__ : FnScope N_Profile___init__ ["self", "descent", "ascent", "end", "height"] (defScope st_Profile___init__) := ⟨rfl, rfl, rfl, by decide +kernel, rfl, by decide +kernel, by decide +kernel⟩
abbrev st_Profile_end : Stmt := (clsBody (top 45)).getD 1 (.Pass ⟨0, 0, 0, 0⟩)
abbrev N_Profile_end : List Str := ["self"]
theorem sc_Profile_end : FnScope N_Profile_end ["self"] (defScope st_Profile_end) := ⟨rfl, rfl, rfl, by decide +kernel, rfl, by decide +kernel, by decide +kernel⟩
abbrev st_Profile_height : Stmt := (clsBody (top 45)).getD 2 (.Pass ⟨0, 0, 0, 0⟩)
abbrev N_Profile_height : List Str := ["self"]
theorem sc_Profile_height : FnScope N_Profile_height ["self"] (defScope st_Profile_height) := ⟨rfl, rfl, rfl, by decide +kernel, rfl, by decide +kernel, by decide +kernel⟩
abbrev st_Profile_lowest : Stmt := (clsBody (top 45)).getD 3 (.Pass ⟨0, 0, 0, 0⟩)
abbrev N_Profile_lowest : List Str := ["self"]
theorem sc_Profile_lowest : FnScope N_Profile_lowest ["self"] (defScope st_Profile_lowest) := ⟨rfl, rfl, rfl, by decide +kernel, rfl, by decide +kernel, by decide +kernel⟩
abbrev st_Profile_descent : Stmt := (clsBody (top 45)).getD 4 (.Pass ⟨0, 0, 0, 0⟩)
abbrev N_Profile_descent : List Str := ["self"]
theorem sc_Profile_descent : FnScope N_Profile_descent ["self"] (defScope st_Profile_descent) := ⟨rfl, rfl, rfl, by decide +kernel, rfl, by decide +kernel, by decide +kernel⟩
abbrev st_Profile_ascent : Stmt := (clsBody (top 45)).getD 5 (.Pass ⟨0, 0, 0, 0⟩)
abbrev N_Profile_ascent : List Str := ["self"]
theorem sc_Profile_ascent : FnScope N_Profile_ascent ["self"] (defScope st_Profile_ascent) := ⟨rfl, rfl, rfl, by decide +kernel, rfl, by decide +kernel, by decide +kernel⟩
abbrev st_Profile_back : Stmt := (clsBody (top 45)).getD 6 (.Pass ⟨0, 0, 0, 0⟩)
abbrev N_Profile_back : List Str := ["self", "bound"]
theorem sc_Profile_back : FnScope N_Profile_back ["self", "bound"] (defScope st_Profile_back) := ⟨rfl, rfl, rfl, by decide +kernel, rfl, by decide +kernel, by decide +kernel⟩
abbrev st_Profile___call__ : Stmt := (clsBody (top 45)).getD 9 (.Pass ⟨0, 0, 0, 0⟩)
abbrev N_Profile___call__ : List Str := ["self", "headroom"]
theorem sc_Profile___call__ : FnScope N_Profile___call__ ["self", "headroom"] (defScope st_Profile___call__) := ⟨rfl, rfl, rfl, by decide +kernel, rfl, by decide +kernel, by decide +kernel⟩
abbrev st__law_pot : Stmt := top 47
abbrev N__law_pot : List Str := ["_law_script", "_law_k", "_law_cell"]
theorem sc__law_pot : FnScope N__law_pot ["_law_script", "_law_k"] (defScope st__law_pot) := ⟨rfl, rfl, rfl, by decide +kernel, rfl, by decide +kernel, by decide +kernel⟩
abbrev st__law_draw : Stmt := top 48
abbrev N__law_draw : List Str := ["_law_pot_here", "_law_many", "_law_digit"]
theorem sc__law_draw : FnScope N__law_draw ["_law_pot_here", "_law_many"] (defScope st__law_draw) := ⟨rfl, rfl, rfl, by decide +kernel, rfl, by decide +kernel, by decide +kernel⟩
abbrev st__law_rows_down : Stmt := top 49
abbrev N__law_rows_down : List Str := ["_law_pot_here", "_law_begin", "_law_low", "_law_many", "_law_marks", "_law_valley", "_law_found", "_law_peak", "_law_k"]
theorem sc__law_rows_down : FnScope N__law_rows_down ["_law_pot_here", "_law_begin", "_law_low", "_law_many"] (defScope st__law_rows_down) := ⟨rfl, rfl, rfl, by decide +kernel, rfl, by decide +kernel, by decide +kernel⟩
abbrev st__law_values : Stmt := top 50
abbrev N__law_values : List Str := ["_law_pot_here", "_law_many", "_law_far", "_law_low", "_law_last", "_law_down", "_law_back", "_law_top", "_law_row"]
theorem sc__law_values : FnScope N__law_values ["_law_pot_here", "_law_many", "_law_far"] (defScope st__law_values) := ⟨rfl, rfl, rfl, by decide +kernel, rfl, by decide +kernel, by decide +kernel⟩
abbrev st__law_at : Stmt := top 51
abbrev N__law_at : List Str := ["_law_rows", "_law_cap", "_law_begin", "_law_row"]
theorem sc__law_at : FnScope N__law_at ["_law_rows", "_law_cap", "_law_begin"] (defScope st__law_at) := ⟨rfl, rfl, rfl, by decide +kernel, rfl, by decide +kernel, by decide +kernel⟩
abbrev st__law_right : Stmt := top 52
abbrev N__law_right : List Str := ["_law_given", "_law_made", "_law_caps", "_law_due", "_law_low", "_law_down", "_law_back", "_law_last", "_law_top", "_law_one", "_law_row"]
theorem sc__law_right : FnScope N__law_right ["_law_given"] (defScope st__law_right) := ⟨rfl, rfl, rfl, by decide +kernel, rfl, by decide +kernel, by decide +kernel⟩
abbrev st_law : Stmt := top 53
abbrev N_law : List Str := ["_law_script", "_law_k", "_law_pot_here", "_law_turn"]
theorem sc_law : FnScope N_law ["_law_script"] (defScope st_law) := ⟨rfl, rfl, rfl, by decide +kernel, rfl, by decide +kernel, by decide +kernel⟩
end K36

namespace K36
open PySem.Spec PySem L2 PyProof.Rows FG
open He (ga ma Fa Dv)
/-! what the defs promise -/
abbrev Rows := List (Int × Int)
def dRow (r : Int × Int) : D := .tup [.int r.1, .int r.2]
def dRows (rs : Rows) : List D := rs.map dRow
def RowsAs (x : D) (rs : Rows) : Prop := x = .lst (dRows rs) ∨ x = .tup (dRows rs)
def okFrom : Int → Int → Rows → Prop
  | _, _, [] => True
  | p, v, r :: rs => p < r.1 ∧ r.2 < v ∧ okFrom r.1 r.2 rs
def okRows (l : Int) (rs : Rows) : Prop := okFrom (l - 1) l rs
def lastV (rs : Rows) (l : Int) : Int := match rs.getLast? with
  | some r => r.2
  | none => l
def lastP (rs : Rows) (l : Int) : Int := match rs.getLast? with
  | some r => r.1
  | none => l
def fall (rs : Rows) (b l : Int) : Int := rs.foldl (fun f r => if r.1 ≤ b then r.2 else f) l
structure Valid (rs1 rs2 : Rows) (e h : Int) : Prop where
  o1 : okRows 0 rs1
  o2 : okRows e rs2
  low : lastV rs1 0 = lastV rs2 e
  p1 : lastP rs1 0 ≤ h
  p2 : lastP rs2 e ≤ h
  h0 : 0 ≤ h
  he : e ≤ h
def isI : D → Bool
  | .int _ => true
  | _ => false
def T_is_integer (K : PySem.W.Frag) : DSp := fun ds Q _ => ∃ d t, ds = [d] ∧ d.tyn = some t ∧ Q (.bl (isI d))
def T_is_count (K : PySem.W.Frag) : DSp := fun ds Q _ => ∃ i, ds = [.int i] ∧ Q (.bl (decide (0 ≤ i)))
def T_is_row (K : PySem.W.Frag) : DSp := fun ds Q _ => ∃ r, ds = [dRow r] ∧ Q (.bl true)
def T_are_rows (K : PySem.W.Frag) : DSp := fun ds Q _ => ∃ x rs l, ds = [x, .int l] ∧ RowsAs x rs ∧ okRows l rs ∧ Q (.bl true)
def T_last_valley (K : PySem.W.Frag) : DSp := fun ds Q _ => ∃ x rs l, ds = [x, .int l] ∧ RowsAs x rs ∧ Q (.int (lastV rs l))
def T_greatest_peak (K : PySem.W.Frag) : DSp := fun ds Q _ => ∃ x rs l, ds = [x, .int l] ∧ RowsAs x rs ∧ Q (.int (lastP rs l))
def T_problem_of (K : PySem.W.Frag) : DSp := fun ds Q _ => ∃ x y rs1 rs2 e h, ds = [x, y, .int e, .int h] ∧ RowsAs x rs1 ∧ RowsAs y rs2 ∧ Valid rs1 rs2 e h ∧ Q .non
def T_fallen (K : PySem.W.Frag) : DSp := fun ds Q _ => ∃ x rs b l, ds = [x, .int b, .int l] ∧ RowsAs x rs ∧ Q (.int (fall rs b l))
def prof (K : PySem.W.Frag) (rs1 rs2 : Rows) (e h : Int) : D := .ins (ga K "Profile") [("own_plain", .tup [.tup (dRows rs1), .tup (dRows rs2), .int e, .int h]), ("own_lowest", .int (lastV rs1 0))]
def T_Profile___init__ (K : PySem.W.Frag) : DSp := fun ds Q _ => ∃ x y rs1 rs2 e h, ds = [x, y, .int e, .int h] ∧ RowsAs x rs1 ∧ RowsAs y rs2 ∧ Valid rs1 rs2 e h ∧ Q (prof K rs1 rs2 e h)
def T_Profile_end (K : PySem.W.Frag) : DSp := fun ds Q _ => ∃ rs1 rs2 e h, ds = [prof K rs1 rs2 e h] ∧ Q (.int e)
def T_Profile_height (K : PySem.W.Frag) : DSp := fun ds Q _ => ∃ rs1 rs2 e h, ds = [prof K rs1 rs2 e h] ∧ Q (.int h)
def T_Profile_lowest (K : PySem.W.Frag) : DSp := fun ds Q _ => ∃ rs1 rs2 e h, ds = [prof K rs1 rs2 e h] ∧ Q (.int (lastV rs1 0))
def T_Profile_descent (K : PySem.W.Frag) : DSp := fun ds Q _ => ∃ rs1 rs2 e h, ds = [prof K rs1 rs2 e h] ∧ Q (.lst (dRows rs1))
def T_Profile_ascent (K : PySem.W.Frag) : DSp := fun ds Q _ => ∃ rs1 rs2 e h, ds = [prof K rs1 rs2 e h] ∧ Q (.lst (dRows rs2))
def T_Profile_back (K : PySem.W.Frag) : DSp := fun ds Q _ => ∃ rs1 rs2 e h b, ds = [prof K rs1 rs2 e h, .int b] ∧ e ≤ b ∧ Q (.int (fall rs2 b e))
def T_Profile___call__ (K : PySem.W.Frag) : DSp := fun ds Q _ => ∃ rs1 rs2 e h b, ds = [prof K rs1 rs2 e h, .int b] ∧ 0 ≤ b ∧ Q (.int (fall rs1 b 0))
def T__law_pot (K : PySem.W.Frag) : DSp := fun ds Q _ => ∃ (ns : List Int) (k : Nat), ds = [.scr ns, .int k] ∧ k < 100 ∧ Q .pot
def T__law_draw (K : PySem.W.Frag) : DSp := T_draw
/-- of at most n digits -/
def sm (n : Nat) (i : Int) : Prop := -(10 ^ n) ≤ i ∧ i ≤ 10 ^ n
def smR (n : Nat) (rs : Rows) : Prop := rs.length ≤ 12 ∧ ∀ r ∈ rs, sm n r.1 ∧ sm n r.2
def T__law_rows_down (K : PySem.W.Frag) : DSp := fun ds Q _ => ∃ b l m : Int, ds = [.pot, .int b, .int l, .int m] ∧ l < b ∧ m = 9 ∧ sm 58 b ∧ sm 58 l ∧ ∀ rs, okRows b rs → lastV rs b = l → smR 59 rs → Q (.lst (dRows rs))
def T__law_values (K : PySem.W.Frag) : DSp := fun ds Q _ => ∃ far : Int, ds = [.pot, .int 9, .int far] ∧ 0 < far ∧ far ≤ 10 ^ 58 ∧ ∀ rs1 rs2 e h, Valid rs1 rs2 e h → smR 59 rs1 → smR 59 rs2 → sm 58 e → sm 60 h → Q (.lst [.lst (dRows rs1), .lst (dRows rs2), .int e, .int h])
def T__law_at (K : PySem.W.Frag) : DSp := fun ds Q _ => ∃ rs c b, ds = [.lst (dRows rs), .int c, .int b] ∧ rs.length ≤ 12 ∧ Q (.int (fall rs c b))
def T__law_right (K : PySem.W.Frag) : DSp := fun ds Q _ => ∃ rs1 rs2 e h, ds = [.lst [.lst (dRows rs1), .lst (dRows rs2), .int e, .int h]] ∧ Valid rs1 rs2 e h ∧ smR 59 rs1 ∧ smR 59 rs2 ∧ sm 58 e ∧ sm 60 h ∧ Q (.bl true)
def T_law (K : PySem.W.Frag) : DSp := fun ds Q _ => ∃ ns : List Int, ds = [.scr ns] ∧ Q (.bl true)
end K36

namespace K36
open PySem.Spec PySem L2 PyProof.Rows FG
open He (ga ma Fa Dv)
/-- slots: 0 value -/
def t_is_integer (K : PySem.W.Frag) : (Exn → Prop) → DTS := fun Ed => dRet (dAndV (dCB fIsi (dCons (dVar 0) (dCons (dC (.ty "int")) dNil))) (dNotV (dCB fIsi (dCons (dVar 0) (dCons (dC (.ty "bool")) dNil)))))
/-- slots: 0 value -/
def t_is_count (K : PySem.W.Frag) : (Exn → Prop) → DTS := fun Ed => dRet (dAndV (dCall (T_is_integer K) (fun e _ => Ed e) (dCons (dVar 0) dNil)) (dOp fGe (dVar 0) (dC (.int 0))))
/-- slots: 0 value -/
def t_is_row (K : PySem.W.Frag) : (Exn → Prop) → DTS := fun Ed => dRet (dAndV (dCB fIsi (dCons (dVar 0) (dCons (dC (.ty "tuple")) dNil))) (dAndV (dOp fEq (dCB fLen (dCons (dVar 0) dNil)) (dC (.int 2))) (dAndV (dCall (T_is_integer K) (fun e _ => Ed e) (dCons (dOp fIx (dVar 0) (dC (.int 0))) dNil)) (dCall (T_is_integer K) (fun e _ => Ed e) (dCons (dOp fIx (dVar 0) (dC (.int 1))) dNil)))))
def e_are_rows_1 (K : PySem.W.Frag) (Ed : Exn → Prop) : DT := dStay (fLc (iSeq (dVar 0)) (.nm 3) dYes (dCall (T_is_row K) wNo (dCons (dVar 3) dNil)) [3])
def b_are_rows_2 (K : PySem.W.Frag) (Ed : Exn → Prop) : DTS := dSeq (dIf (dOr (dTest (dOp fLe (dOp fIx (dVar 3) (dC (.int 0))) (dOp fIx (dVar 2) (dC (.int 0))))) (dTest (dOp fGe (dOp fIx (dVar 3) (dC (.int 1))) (dOp fIx (dVar 2) (dC (.int 1)))))) (dRet (dC (.bl false))) dNext) (dAsg (dVar 3) (.nm 2))
/-- slots: 0 value, 1 level, 2 before, 3 row -/
def t_are_rows (K : PySem.W.Frag) : (Exn → Prop) → DTS := fun Ed => dSeq (dIf (dOr (dNot (dTest (dIsiT (["list", "tuple"]) (dVar 0)))) (dNot (dTest (dCB fAll (dCons (e_are_rows_1 K Ed) dNil))))) (dRet (dC (.bl false))) dNext) (dSeq (dAsg (dTup (dCons (dOp fSub (dVar 1) (dC (.int 1))) (dCons (dVar 1) dNil))) (.nm 2)) (dSeq (dFor (iSeq (dVar 0)) (.nm 3) (b_are_rows_2 K Ed)) (dRet (dC (.bl true)))))
/-- slots: 0 rows, 1 level -/
def t_last_valley (K : PySem.W.Frag) : (Exn → Prop) → DTS := fun Ed => dRet (dIfE (dTest (dOp fGt (dCB fLen (dCons (dVar 0) dNil)) (dC (.int 0)))) (dOp fIx (dOp fIx (dVar 0) (dNeg (dC (.int 1)))) (dC (.int 1))) (dVar 1))
/-- slots: 0 rows, 1 level -/
def t_greatest_peak (K : PySem.W.Frag) : (Exn → Prop) → DTS := fun Ed => dRet (dIfE (dTest (dOp fGt (dCB fLen (dCons (dVar 0) dNil)) (dC (.int 0)))) (dOp fIx (dOp fIx (dVar 0) (dNeg (dC (.int 1)))) (dC (.int 0))) (dVar 1))
/-- slots: 0 descent, 1 ascent, 2 end, 3 height -/
def t_problem_of (K : PySem.W.Frag) : (Exn → Prop) → DTS := fun Ed => dSeq (dIf (dNot (dTest (dCall (T_are_rows K) (fun e _ => Ed e) (dCons (dVar 0) (dCons (dC (.int 0)) dNil))))) (dRet (dC (.str "descent"))) dNext) (dSeq (dIf (dNot (dTest (dCall (T_is_integer K) (fun e _ => Ed e) (dCons (dVar 2) dNil)))) (dRet (dC (.str "end"))) dNext) (dSeq (dIf (dNot (dTest (dCall (T_are_rows K) (fun e _ => Ed e) (dCons (dVar 1) (dCons (dVar 2) dNil))))) (dRet (dC (.str "ascent"))) dNext) (dSeq (dIf (dTest (dOp fNe (dCall (T_last_valley K) (fun e _ => Ed e) (dCons (dVar 0) (dCons (dC (.int 0)) dNil))) (dCall (T_last_valley K) (fun e _ => Ed e) (dCons (dVar 1) (dCons (dVar 2) dNil))))) (dRet (dC (.str "lowest"))) dNext) (dSeq (dIf (dOr (dNot (dTest (dCall (T_is_integer K) (fun e _ => Ed e) (dCons (dVar 3) dNil)))) (dTest (dOp fLt (dVar 3) (dCB fMax4 (dCons (dCall (T_greatest_peak K) (fun e _ => Ed e) (dCons (dVar 0) (dCons (dC (.int 0)) dNil))) (dCons (dCall (T_greatest_peak K) (fun e _ => Ed e) (dCons (dVar 1) (dCons (dVar 2) dNil))) (dCons (dC (.int 0)) (dCons (dVar 2) dNil)))))))) (dRet (dC (.str "height"))) dNext) (dRet (dC .non))))))
def b_fallen_1 (K : PySem.W.Frag) (Ed : Exn → Prop) : DTS := dIf (dTest (dOp fLe (dVar 4) (dVar 1))) (dAsg (dVar 5) (.nm 3)) dNext
/-- slots: 0 rows, 1 bound, 2 level, 3 found, 4 peak, 5 valley -/
def t_fallen (K : PySem.W.Frag) : (Exn → Prop) → DTS := fun Ed => dSeq (dAsg (dVar 2) (.nm 3)) (dSeq (dFor (iSeq (dVar 0)) (.tp [(.nm 4), (.nm 5)]) (b_fallen_1 K Ed)) (dRet (dVar 3)))
/-- slots: 0 self, 1 descent, 2 ascent, 3 end, 4 height, 5 problem -/
def t_Profile___init__ (K : PySem.W.Frag) : (Exn → Prop) → DTS := fun Ed => dSeq (dAsg (dCall (T_problem_of K) (fun e _ => Ed e) (dCons (dVar 1) (dCons (dVar 2) (dCons (dVar 3) (dCons (dVar 4) dNil))))) (.nm 5)) (dSeq (dIf (dTest (dOp fNotN (dVar 5) (dC .non))) dNever dNext) (dSeq (dSetF 0 (ga K "Profile") "own_plain" (dTup (dCons (dCB fTuple (dCons (dVar 1) dNil)) (dCons (dCB fTuple (dCons (dVar 2) dNil)) (dCons (dVar 3) (dCons (dVar 4) dNil)))))) (dSetF 0 (ga K "Profile") "own_lowest" (dCall (T_last_valley K) (fun e _ => Ed e) (dCons (dVar 1) (dCons (dC (.int 0)) dNil))))))
/-- slots: 0 self -/
def t_Profile_end (K : PySem.W.Frag) : (Exn → Prop) → DTS := fun Ed => dRet (dOp fIx (dFld (ga K "Profile") "own_plain" (dVar 0)) (dC (.int 2)))
/-- slots: 0 self -/
def t_Profile_height (K : PySem.W.Frag) : (Exn → Prop) → DTS := fun Ed => dRet (dOp fIx (dFld (ga K "Profile") "own_plain" (dVar 0)) (dC (.int 3)))
/-- slots: 0 self -/
def t_Profile_lowest (K : PySem.W.Frag) : (Exn → Prop) → DTS := fun Ed => dRet (dFld (ga K "Profile") "own_lowest" (dVar 0))
/-- slots: 0 self -/
def t_Profile_descent (K : PySem.W.Frag) : (Exn → Prop) → DTS := fun Ed => dRet (dCB fList (dCons (dOp fIx (dFld (ga K "Profile") "own_plain" (dVar 0)) (dC (.int 0))) dNil))
/-- slots: 0 self -/
def t_Profile_ascent (K : PySem.W.Frag) : (Exn → Prop) → DTS := fun Ed => dRet (dCB fList (dCons (dOp fIx (dFld (ga K "Profile") "own_plain" (dVar 0)) (dC (.int 1))) dNil))
/-- slots: 0 self, 1 bound -/
def t_Profile_back (K : PySem.W.Frag) : (Exn → Prop) → DTS := fun Ed => dSeq (dIf (dOr (dNot (dTest (dCall (T_is_integer K) (fun e _ => Ed e) (dCons (dVar 1) dNil)))) (dTest (dOp fLt (dVar 1) (dOp fIx (dFld (ga K "Profile") "own_plain" (dVar 0)) (dC (.int 2)))))) dNever dNext) (dRet (dCall (T_fallen K) (fun e _ => Ed e) (dCons (dOp fIx (dFld (ga K "Profile") "own_plain" (dVar 0)) (dC (.int 1))) (dCons (dVar 1) (dCons (dOp fIx (dFld (ga K "Profile") "own_plain" (dVar 0)) (dC (.int 2))) dNil)))))
/-- slots: 0 self, 1 headroom -/
def t_Profile___call__ (K : PySem.W.Frag) : (Exn → Prop) → DTS := fun Ed => dSeq (dIf (dNot (dTest (dCall (T_is_count K) (fun e _ => Ed e) (dCons (dVar 1) dNil)))) dNever dNext) (dRet (dCall (T_fallen K) (fun e _ => Ed e) (dCons (dOp fIx (dFld (ga K "Profile") "own_plain" (dVar 0)) (dC (.int 0))) (dCons (dVar 1) (dCons (dC (.int 0)) dNil)))))
/-- slots: 0 _law_script, 1 _law_k, 2 _law_cell -/
def t__law_pot (K : PySem.W.Frag) : (Exn → Prop) → DTS := fun Ed => dSeq (dAsg (dIfE (dTest (dOp fLt (dVar 1) (dCB fLen (dCons (dVar 0) dNil)))) (dCB fAbs (dCons (dOp fIx (dVar 0) (dVar 1)) dNil)) (dC (.int 0))) (.nm 2)) (dRetPot (fLst (dCons (dCB fMax2 (dCons (dC (.int 0)) (dCons (dOp fSub (dVar 2) (dOp fPow (dC (.int 10)) (dC (.int 18)))) dNil))) (dCons (dOp fMod (dOp fAdd (dOp fAdd (dOp fMul (dOp fMod (dVar 2) (dC (.int 2147483587))) (dC (.int 48271))) (dOp fMul (dC (.int 60013)) (dVar 1))) (dC (.int 29))) (dC (.int 2147483647))) dNil))))
def e__law_rows_down_1 (K : PySem.W.Frag) (Ed : Exn → Prop) : DT := dOp fIx (dLst (dCons (dC (.int 0)) (dCons (dC (.int 1)) (dCons (dCall (T__law_draw K) (fun e _ => Ed e) (dCons (dVar 0) (dCons (dOp fPow (dC (.int 10)) (dC (.int 20))) dNil))) dNil)))) (dCall (T__law_draw K) (fun e _ => Ed e) (dCons (dVar 0) (dCons (dC (.int 3)) dNil)))
def e__law_rows_down_2 (K : PySem.W.Frag) (Ed : Exn → Prop) : DT := dOp fAdd (dVar 2) (dCall (T__law_draw K) wNo (dCons (dVar 0) (dCons (dOp fSub (dVar 1) (dVar 2)) dNil)))
def e__law_rows_down_3 (K : PySem.W.Frag) (Ed : Exn → Prop) : DT := dStay (fLc (iRange1 (dCons (dCall (T__law_draw K) (fun e _ => Ed e) (dCons (dVar 0) (dCons (dVar 3) dNil))) dNil)) (.nm 8) dYes (e__law_rows_down_2 K Ed) [8])
def e__law_rows_down_4 (K : PySem.W.Frag) (Ed : Exn → Prop) : DT := dOp fIx (dLst (dCons (dC (.int 0)) (dCons (dCall (T__law_draw K) (fun e _ => Ed e) (dCons (dVar 0) (dCons (dC (.int 5)) dNil))) (dCons (dCall (T__law_draw K) (fun e _ => Ed e) (dCons (dVar 0) (dCons (dOp fPow (dC (.int 10)) (dC (.int 25))) dNil))) dNil)))) (dCall (T__law_draw K) (fun e _ => Ed e) (dCons (dVar 0) (dCons (dC (.int 3)) dNil)))
def b__law_rows_down_5 (K : PySem.W.Frag) (Ed : Exn → Prop) : DTS := dIf (dOr (dTest (dOp fEq (dVar 6) (dLst dNil))) (dTest (dOp fLt (dVar 5) (dOp fIx (dOp fIx (dVar 6) (dNeg (dC (.int 1)))) (dC (.int 1)))))) (dSeq (dApp 6 (dTup (dCons (dVar 7) (dCons (dVar 5) dNil)))) (dAsg (dOp fAdd (dOp fAdd (dVar 7) (dC (.int 1))) (e__law_rows_down_4 K Ed)) (.nm 7))) dNext
/-- slots: 0 _law_pot_here, 1 _law_begin, 2 _law_low, 3 _law_many, 4 _law_marks, 5 _law_valley, 6 _law_found, 7 _law_peak, 8 _law_k -/
def t__law_rows_down (K : PySem.W.Frag) : (Exn → Prop) → DTS := fun Ed => dSeq (dParO 6 7 (fLst dNil) (dOp fAdd (dVar 1) (e__law_rows_down_1 K Ed))) (dSeq (dAsg (dStay (dRev (dCB (fL gSort) (dCons (dOp fAdd (e__law_rows_down_3 K Ed) (dLst (dCons (dVar 2) dNil))) dNil)))) (.nm 4)) (dSeq (dFor (iSeq (dVar 4)) (.nm 5) (b__law_rows_down_5 K Ed)) (dRet (dVar 6))))
def e__law_values_1 (K : PySem.W.Frag) (Ed : Exn → Prop) : DT := dOp fIx (dLst (dCons (dC (.int 0)) (dCons (dCall (T__law_draw K) (fun e _ => Ed e) (dCons (dVar 0) (dCons (dVar 2) dNil))) dNil))) (dCall (T__law_draw K) (fun e _ => Ed e) (dCons (dVar 0) (dCons (dC (.int 2)) dNil)))
def e__law_values_2 (K : PySem.W.Frag) (Ed : Exn → Prop) : DT := dStay (fLc (iSeq (dOp fAdd (dVar 5) (dVar 6))) (.nm 8) dYes (dOp fIx (dVar 8) (dC (.int 0))) [8])
def e__law_values_3 (K : PySem.W.Frag) (Ed : Exn → Prop) : DT := dOp fIx (dLst (dCons (dC (.int 0)) (dCons (dC (.int 0)) (dCons (dC (.int 1)) (dCons (dCall (T__law_draw K) (fun e _ => Ed e) (dCons (dVar 0) (dCons (dOp fPow (dC (.int 10)) (dC (.int 30))) dNil))) dNil))))) (dCall (T__law_draw K) (fun e _ => Ed e) (dCons (dVar 0) (dCons (dC (.int 4)) dNil)))
/-- slots: 0 _law_pot_here, 1 _law_many, 2 _law_far, 3 _law_low, 4 _law_last, 5 _law_down, 6 _law_back, 7 _law_top, 8 _law_row -/
def t__law_values (K : PySem.W.Frag) : (Exn → Prop) → DTS := fun Ed => dSeq (dAsg (dOp fSub (dC (.int 0)) (dCall (T__law_draw K) (fun e _ => Ed e) (dCons (dVar 0) (dCons (dVar 2) dNil)))) (.nm 3)) (dSeq (dAsg (dOp fAdd (dVar 3) (e__law_values_1 K Ed)) (.nm 4)) (dSeq (dAsg (dIfE (dTest (dOp fLt (dVar 3) (dC (.int 0)))) (dCall (T__law_rows_down K) (fun e _ => Ed e) (dCons (dVar 0) (dCons (dC (.int 0)) (dCons (dVar 3) (dCons (dVar 1) dNil))))) (dLst dNil)) (.nm 5)) (dSeq (dAsg (dIfE (dTest (dOp fLt (dVar 3) (dVar 4))) (dCall (T__law_rows_down K) (fun e _ => Ed e) (dCons (dVar 0) (dCons (dVar 4) (dCons (dVar 3) (dCons (dVar 1) dNil))))) (dLst dNil)) (.nm 6)) (dSeq (dAsg (dCB (fL gMax) (dCons (dOp fAdd (e__law_values_2 K Ed) (dLst (dCons (dC (.int 0)) (dCons (dVar 4) dNil)))) dNil)) (.nm 7)) (dRet (dLst (dCons (dVar 5) (dCons (dVar 6) (dCons (dVar 4) (dCons (dOp fAdd (dVar 7) (e__law_values_3 K Ed)) dNil))))))))))
def e__law_at_1 (K : PySem.W.Frag) (Ed : Exn → Prop) : DT := dStay (fLc (iSeq (dVar 0)) (.nm 3) (dTest (dOp fLe (dOp fIx (dVar 3) (dC (.int 0))) (dVar 1))) (dOp fIx (dVar 3) (dC (.int 1))) [3])
/-- slots: 0 _law_rows, 1 _law_cap, 2 _law_begin, 3 _law_row -/
def t__law_at (K : PySem.W.Frag) : (Exn → Prop) → DTS := fun Ed => dRet (dOp fIx (dOp fAdd (dLst (dCons (dVar 2) dNil)) (e__law_at_1 K Ed)) (dNeg (dC (.int 1))))
def e__law_right_1 (K : PySem.W.Frag) (Ed : Exn → Prop) : DT := dStay (fLc (iSeq (dOp fAdd (dVar 5) (dVar 6))) (.nm 10) dYes (dOp fIx (dVar 10) (dC (.int 0))) [10])
def e__law_right_2 (K : PySem.W.Frag) (Ed : Exn → Prop) : DT := dStay (fLc (iSeq (dVar 2)) (.nm 9) dYes (dOp fAdd (dVar 9) (dC (.int 1))) [9])
def e__law_right_3 (K : PySem.W.Frag) (Ed : Exn → Prop) : DT := dStay (fLc (iSeq (dVar 2)) (.nm 9) dYes (dOp fSub (dVar 9) (dC (.int 1))) [9])
def e__law_right_4 (K : PySem.W.Frag) (Ed : Exn → Prop) : DT := dStay (fLc (iSeq (dVar 2)) (.nm 9) (dTest (dOp fGe (dVar 9) (dC (.int 0)))) (dCall (T__law_at K) wNo (dCons (dVar 5) (dCons (dVar 9) (dCons (dC (.int 0)) dNil)))) [9])
def e__law_right_5 (K : PySem.W.Frag) (Ed : Exn → Prop) : DT := dStay (fLc (iSeq (dVar 2)) (.nm 9) (dTest (dOp fGe (dVar 9) (dC (.int 0)))) (dCallO (ga K "Profile") (T_Profile___call__ K) (dVar 1) (dCons (dVar 9) dNil)) [9])
def e__law_right_6 (K : PySem.W.Frag) (Ed : Exn → Prop) : DT := dStay (fLc (iSeq (dVar 2)) (.nm 9) (dTest (dOp fGe (dVar 9) (dVar 7))) (dCall (T__law_at K) wNo (dCons (dVar 6) (dCons (dVar 9) (dCons (dVar 7) dNil)))) [9])
def e__law_right_7 (K : PySem.W.Frag) (Ed : Exn → Prop) : DT := dStay (fLc (iSeq (dVar 2)) (.nm 9) (dTest (dOp fGe (dVar 9) (dVar 7))) (dMeth (ga K "Profile") "back" (T_Profile_back K) wNo (dVar 1) (dCons (dVar 9) dNil)) [9])
def e__law_right_8 (K : PySem.W.Frag) (Ed : Exn → Prop) : DT := dStay (fLc (iSeq (dVar 5)) (.nm 10) dYes (dOp fIx (dVar 10) (dC (.int 1))) [10])
/-- slots: 0 _law_given, 1 _law_made, 2 _law_caps, 3 _law_due, 4 _law_low, 5 _law_down, 6 _law_back, 7 _law_last, 8 _law_top, 9 _law_one, 10 _law_row -/
def t__law_right (K : PySem.W.Frag) : (Exn → Prop) → DTS := fun Ed => dSeq (dAsg (dVar 0) (.tp [(.nm 5), (.nm 6), (.nm 7), (.nm 8)])) (dSeq (dAsg (dCall (T_Profile___init__ K) (fun e _ => Ed e) (dCons (dVar 5) (dCons (dCB fTuple (dCons (dVar 6) dNil)) (dCons (dVar 7) (dCons (dVar 8) dNil))))) (.nm 1)) (dSeq (dAsg (dOp fAdd (dLst (dCons (dC (.int 0)) (dCons (dVar 7) (dCons (dVar 8) (dCons (dOp fPow (dC (.int 10)) (dC (.int 59))) dNil))))) (e__law_right_1 K Ed)) (.nm 2)) (dSeq (dAsg (dCB (fL gSort) (dCons (dOp fAdd (dOp fAdd (dVar 2) (e__law_right_2 K Ed)) (e__law_right_3 K Ed)) dNil)) (.nm 2)) (dSeq (dAsg (e__law_right_4 K Ed) (.nm 3)) (dSeq (dIf (dTest (dOp fNe (dCB fRepr (dCons (e__law_right_5 K Ed) dNil)) (dCB fRepr (dCons (dVar 3) dNil)))) (dRet (dC (.bl false))) dNext) (dSeq (dAsg (e__law_right_6 K Ed) (.nm 3)) (dSeq (dIf (dTest (dOp fNe (dCB fRepr (dCons (e__law_right_7 K Ed) dNil)) (dCB fRepr (dCons (dVar 3) dNil)))) (dRet (dC (.bl false))) dNext) (dSeq (dIf (dTest (dOp fNe (dCB fRepr (dCons (dLst (dCons (dMeth (ga K "Profile") "descent" (T_Profile_descent K) (fun e _ => Ed e) (dVar 1) dNil) (dCons (dMeth (ga K "Profile") "ascent" (T_Profile_ascent K) (fun e _ => Ed e) (dVar 1) dNil) (dCons (dProp (ga K "Profile") (T_Profile_end K) (dVar 1)) (dCons (dProp (ga K "Profile") (T_Profile_height K) (dVar 1)) dNil))))) dNil)) (dCB fRepr (dCons (dVar 0) dNil)))) (dRet (dC (.bl false))) dNext) (dSeq (dAsg (dOp fIx (dOp fAdd (dLst (dCons (dC (.int 0)) dNil)) (e__law_right_8 K Ed)) (dNeg (dC (.int 1)))) (.nm 4)) (dRet (dOp fEq (dCB fRepr (dCons (dLst (dCons (dProp (ga K "Profile") (T_Profile_lowest K) (dVar 1)) (dCons (dCallO (ga K "Profile") (T_Profile___call__ K) (dVar 1) (dCons (dOp fPow (dC (.int 10)) (dC (.int 59))) dNil)) (dCons (dMeth (ga K "Profile") "back" (T_Profile_back K) (fun e _ => Ed e) (dVar 1) (dCons (dOp fPow (dC (.int 10)) (dC (.int 59))) dNil)) dNil)))) dNil)) (dCB fRepr (dCons (dOp fMul (dLst (dCons (dVar 4) dNil)) (dC (.int 3))) dNil)))))))))))))
def e_law_1 (K : PySem.W.Frag) (Ed : Exn → Prop) : DT := dOp fIx (dLst (dCons (dC (.int 4)) (dCons (dC (.int 40)) (dCons (dOp fPow (dC (.int 10)) (dC (.int 58))) dNil)))) (dOp fMod (dVar 3) (dC (.int 3)))
def e_law_2 (K : PySem.W.Frag) (Ed : Exn → Prop) : DT := dCall (T__law_right K) wNo (dCons (dCall (T__law_values K) wNo (dCons (dVar 2) (dCons (dC (.int 9)) (dCons (e_law_1 K Ed) dNil)))) dNil)
def e_law_3 (K : PySem.W.Frag) (Ed : Exn → Prop) : DT := dStay (fLc (iRange1 (dCons (dC (.int 6)) dNil)) (.nm 3) dYes (e_law_2 K Ed) [3])
def b_law_4 (K : PySem.W.Frag) (Ed : Exn → Prop) : DTS := dSeq (dAsg (dCall (T__law_pot K) (fun e _ => Ed e) (dCons (dVar 0) (dCons (dVar 1) dNil))) (.nm 2)) (dIf (dNot (dTest (dCB fAll (dCons (e_law_3 K Ed) dNil)))) (dRet (dC (.bl false))) dNext)
/-- slots: 0 _law_script, 1 _law_k, 2 _law_pot_here, 3 _law_turn -/
def t_law (K : PySem.W.Frag) : (Exn → Prop) → DTS := fun Ed => dSeq (dFor (iRange1 (dCons (dCB fMax2 (dCons (dC (.int 1)) (dCons (dCB fMin2 (dCons (dC (.int 6)) (dCons (dCB fLen (dCons (dVar 0) dNil)) dNil))) dNil))) dNil)) (.nm 1) (b_law_4 K Ed)) (dRet (dC (.bl true)))
end K36

namespace K36
open PySem.Spec PySem L2 PyProof.Rows FG
open He (ga ma Fa Dv)
@[local simp] theorem isI_i {i : Int} : isI (.int i) = true := rfl
@[local simp] theorem isI_b {b : Bool} : isI (.bl b) = false := rfl
@[local simp] theorem isI_n : isI .non = false := rfl
@[local simp] theorem isI_s {s : Str} : isI (.str s) = false := rfl
@[local simp] theorem isI_t {xs : List D} : isI (.tup xs) = false := rfl
@[local simp] theorem isI_l {xs : List D} : isI (.lst xs) = false := rfl
@[local simp] theorem isI_r {xs : List Int} : isI (.scr xs) = false := rfl
@[local simp] theorem cpow_ok {i j : Int} : CPow i j = (0 ≤ j ∧ j ≤ 1000000 ∧ i.natAbs < 2 ^ 64) := rfl
@[local simp] theorem ne_fld : (Str.ofString "own_plain" = Str.ofString "own_lowest") = False := by decide +kernel
@[local simp] theorem ne_fld2 : (Str.ofString "own_lowest" == Str.ofString "own_plain") = false := by decide +kernel
section
variable {K : PySem.W.Frag} {ds : List D} {Q : D → Prop} {Ed : Exn → Prop}
/-- the slots of a def's start -/
abbrev st0 (N : List Str) (ds : List D) : DSt := ds.map (fun d => some (.val d)) ++ List.replicate (N.length - ds.length) none
abbrev en (Q : D → Prop) : DEnds := { nx := fun _ => Q .non, rt := Q }
theorem rd_is_integer (h : T_is_integer K ds Q Ed) : t_is_integer K Ed (en Q) (st0 N_is_integer ds) := by
  obtain ⟨d, t, rfl, h, q⟩ := h
  unfold t_is_integer
  cases d <;> simp at h <;> subst h <;> simp <;> simpa using q
theorem rd_is_count (h : T_is_count K ds Q Ed) : t_is_count K Ed (en Q) (st0 N_is_count ds) := by
  obtain ⟨i, rfl, q⟩ := h
  unfold t_is_count
  simp
  exact ⟨_, _, rfl, rfl, by simpa using q⟩
theorem rd_is_row (h : T_is_row K ds Q Ed) : t_is_row K Ed (en Q) (st0 N_is_row ds) := by
  obtain ⟨r, rfl, q⟩ := h
  unfold t_is_row dRow
  simp
  refine ⟨_, _, rfl, rfl, ?_⟩
  simp
  exact ⟨_, _, rfl, rfl, q⟩
theorem dRows_cons (r : Int × Int) (rs : Rows) : dRows (r :: rs) = dRow r :: dRows rs := rfl
theorem last_dRows (rs : Rows) : L2.atI (dRows rs) (-1) = rs.getLast?.map dRow := by
  rw [atI_end]
  unfold dRows
  rw [List.getLast?_map]
theorem rd_last_valley (h : T_last_valley K ds Q Ed) : t_last_valley K Ed (en Q) (st0 N_last_valley ds) := by
  obtain ⟨x, rs, l, rfl, h, q⟩ := h
  unfold t_last_valley
  rcases h with rfl | rfl <;> simp [last_dRows] <;> cases e : rs.getLast? <;> simp_all [lastV, dRows, dRow] <;> intro hn <;> subst hn <;> simp at e
theorem rd_greatest_peak (h : T_greatest_peak K ds Q Ed) : t_greatest_peak K Ed (en Q) (st0 N_greatest_peak ds) := by
  obtain ⟨x, rs, l, rfl, h, q⟩ := h
  unfold t_greatest_peak
  rcases h with rfl | rfl <;> simp [last_dRows] <;> cases e : rs.getLast? <;> simp_all [lastP, dRows, dRow] <;> intro hn <;> subst hn <;> simp at e
theorem rd_are_rows (h : T_are_rows K ds Q Ed) : t_are_rows K Ed (en Q) (st0 N_are_rows ds) := by
  obtain ⟨x, rs, l, rfl, h, ok, q⟩ := h
  unfold t_are_rows e_are_rows_1
  have loop : ∀ (rs : Rows) (p v : Int) (o : Option SV), okFrom p v rs → dLoop (.nm 3) (b_are_rows_2 K Ed) { nx := dRet (dC (.bl true)) (en Q), rt := Q } (dRows rs) [some (.val x), some (.val (.int l)), some (.val (.tup [.int p, .int v])), o] := by
    intro rs
    induction rs with
    | nil => intro p v o _; simp [dRows, dLoop]; exact q
    | cons r rs ih =>
      intro p v o hr
      rw [dRows_cons]
      obtain ⟨h1, h2, h3⟩ := hr
      have := ih r.1 r.2 (some (.val (dRow r))) h3
      simp [dLoop, b_are_rows_2, dRow, Int.not_le.mpr h1, Int.not_le.mpr h2] at this ⊢
      exact this
  have all : (dRows rs).map (fun _ => D.bl true) = (rs.map fun _ => true).map D.bl := by simp [dRows]
  have allT : (rs.map fun _ => true).all id = true := by simp
  rcases h with rfl | rfl
  · simp
    refine lcl_map (fun _ => .bl true) (fun x hx R hR => ?_) ?_
    · obtain ⟨r, _, rfl⟩ := List.mem_map.mp hx
      simp
      exact ⟨r, rfl, hR⟩
    · rw [all]
      refine ⟨_, asBls_map _, ?_⟩
      rw [if_neg (by simp)]
      exact loop rs _ _ none ok
  · simp
    refine lcl_map (fun _ => .bl true) (fun x hx R hR => ?_) ?_
    · obtain ⟨r, _, rfl⟩ := List.mem_map.mp hx
      simp
      exact ⟨r, rfl, hR⟩
    · rw [all]
      refine ⟨_, asBls_map _, ?_⟩
      rw [if_neg (by simp)]
      exact loop rs _ _ none ok
theorem rows_max (a b e h m : Int) (h1 : a ≤ h) (h2 : b ≤ h) (h3 : 0 ≤ h) (h4 : e ≤ h) (hm : m ∈ [a, b, 0, e]) : m ≤ h := by
  simp at hm
  omega
theorem rd_problem_of (h : T_problem_of K ds Q Ed) : t_problem_of K Ed (en Q) (st0 N_problem_of ds) := by
  obtain ⟨x, y, rs1, rs2, e, h, rfl, hx, hy, v, q⟩ := h
  unfold t_problem_of
  simp
  refine ⟨x, rs1, 0, rfl, hx, v.o1, ?_⟩
  simp
  refine ⟨_, _, rfl, rfl, ?_⟩
  simp
  refine ⟨y, rs2, e, rfl, hy, v.o2, ?_⟩
  simp
  refine ⟨x, rs1, 0, rfl, hx, y, rs2, e, rfl, hy, ?_⟩
  simp [v.low]
  refine ⟨_, _, rfl, rfl, ?_⟩
  simp
  refine ⟨x, rs1, 0, rfl, hx, y, rs2, e, rfl, hy, ?_⟩
  simp
  have := v.p1
  have := v.p2
  have := v.h0
  have := v.he
  refine ⟨fun _ _ _ => ?_, fun _ _ _ => ?_, fun _ _ _ => ?_, fun _ _ _ => ?_⟩ <;> (rw [if_neg (by omega)]; exact q)
theorem rd_fallen (h : T_fallen K ds Q Ed) : t_fallen K Ed (en Q) (st0 N_fallen ds) := by
  obtain ⟨x, rs, b, l, rfl, h, q⟩ := h
  unfold t_fallen
  have loop : ∀ (rs : Rows) (f : Int) (o1 o2 : Option SV), Q (.int (fall rs b f)) → dLoop (.tp [.nm 4, .nm 5]) (b_fallen_1 K Ed) { nx := dRet (dVar 3) (en Q), rt := Q } (dRows rs) [some (.val x), some (.val (.int b)), some (.val (.int l)), some (.val (.int f)), o1, o2] := by
    intro rs
    induction rs with
    | nil => intro f o1 o2 q; simp [dRows, dLoop]; exact q
    | cons r rs ih =>
      intro f o1 o2 hr
      rw [dRows_cons]
      by_cases hb : r.1 ≤ b
      · have := ih r.2 (some (.val (.int r.1))) (some (.val (.int r.2))) (by unfold fall at hr; rw [List.foldl_cons, if_pos hb] at hr; exact hr)
        simp [dLoop, b_fallen_1, dRow, hb] at this ⊢
        exact this
      · have := ih f (some (.val (.int r.1))) (some (.val (.int r.2))) (by unfold fall at hr; rw [List.foldl_cons, if_neg hb] at hr; exact hr)
        simp [dLoop, b_fallen_1, dRow, hb] at this ⊢
        exact this
  rcases h with rfl | rfl
  · show dSeq _ _ _ [some (.val (.lst (dRows rs))), some (.val (.int b)), some (.val (.int l)), none, none, none]
    refine gs_asg (.int l) (fun k hk => go_var rfl hk) ?_
    show dSeq _ _ _ [some (.val (.lst (dRows rs))), some (.val (.int b)), some (.val (.int l)), some (.val (.int l)), none, none]
    refine go_seq ?_
    simp only [dFor, iSeq]
    exact go_var (d := .lst (dRows rs)) rfl (loop rs l none none q)
  · show dSeq _ _ _ [some (.val (.tup (dRows rs))), some (.val (.int b)), some (.val (.int l)), none, none, none]
    refine gs_asg (.int l) (fun k hk => go_var rfl hk) ?_
    show dSeq _ _ _ [some (.val (.tup (dRows rs))), some (.val (.int b)), some (.val (.int l)), some (.val (.int l)), none, none]
    refine go_seq ?_
    simp only [dFor, iSeq]
    exact go_var (d := .tup (dRows rs)) rfl (loop rs l none none q)
theorem rd_Profile___init__ (h : T_Profile___init__ K ds Q Ed) : t_Profile___init__ K Ed { nx := endI (ga K "Profile") Q, rt := fun _ => False } (some (.inst (ga K "Profile") []) :: (ds.map (fun d => some (.val d)) ++ List.replicate (N_Profile___init__.length - (ds.length + 1)) none)) := by
  obtain ⟨x, y, rs1, rs2, e, h, rfl, hx, hy, v, q⟩ := h
  unfold t_Profile___init__
  simp
  refine ⟨x, y, rs1, rs2, e, h, rfl, hx, hy, v, ?_⟩
  rcases hx with rfl | rfl <;> rcases hy with rfl | rfl <;> (simp; exact ⟨_, rs1, 0, rfl, by first | exact .inl rfl | exact .inr rfl, by simpa [prof] using q⟩)
theorem rd_Profile_end (h : T_Profile_end K ds Q Ed) : t_Profile_end K Ed (en Q) (st0 N_Profile_end ds) := by
  obtain ⟨rs1, rs2, e, h, rfl, q⟩ := h
  unfold t_Profile_end prof
  simpa using q
theorem rd_Profile_height (h : T_Profile_height K ds Q Ed) : t_Profile_height K Ed (en Q) (st0 N_Profile_height ds) := by
  obtain ⟨rs1, rs2, e, h, rfl, q⟩ := h
  unfold t_Profile_height prof
  simpa using q
theorem rd_Profile_lowest (h : T_Profile_lowest K ds Q Ed) : t_Profile_lowest K Ed (en Q) (st0 N_Profile_lowest ds) := by
  obtain ⟨rs1, rs2, e, h, rfl, q⟩ := h
  unfold t_Profile_lowest prof
  simpa [List.lookup_cons] using q
theorem rd_Profile_descent (h : T_Profile_descent K ds Q Ed) : t_Profile_descent K Ed (en Q) (st0 N_Profile_descent ds) := by
  obtain ⟨rs1, rs2, e, h, rfl, q⟩ := h
  unfold t_Profile_descent prof
  simpa using q
theorem rd_Profile_ascent (h : T_Profile_ascent K ds Q Ed) : t_Profile_ascent K Ed (en Q) (st0 N_Profile_ascent ds) := by
  obtain ⟨rs1, rs2, e, h, rfl, q⟩ := h
  unfold t_Profile_ascent prof
  simpa using q
theorem rd_Profile_back (h : T_Profile_back K ds Q Ed) : t_Profile_back K Ed (en Q) (st0 N_Profile_back ds) := by
  obtain ⟨rs1, rs2, e, h, b, rfl, hb, q⟩ := h
  unfold t_Profile_back prof
  simp
  refine ⟨_, _, rfl, rfl, ?_⟩
  simp [Int.not_lt.mpr hb]
  exact ⟨hb, _, rs2, b, e, rfl, .inr rfl, q⟩
theorem rd_Profile___call__ (h : T_Profile___call__ K ds Q Ed) : t_Profile___call__ K Ed (en Q) (st0 N_Profile___call__ ds) := by
  obtain ⟨rs1, rs2, e, h, b, rfl, hb, q⟩ := h
  unfold t_Profile___call__ prof
  simp
  refine ⟨_, rfl, ?_⟩
  simp [hb]
  exact ⟨_, rs1, b, 0, rfl, .inr rfl, q⟩
theorem draw_ok {n : Int} {R : D → Prop} {E : Exn → Prop} (h0 : 0 < n) (h1 : n ≤ 10 ^ 100) (h : ∀ d : Int, 0 ≤ d → d < n → R (.int d)) : T__law_draw K [.pot, .int n] R E := by
  refine ⟨n, rfl, h0, ?_, h⟩
  have : n.natAbs < 2 ^ 400 := by
    have : (10 : Int) ^ 100 < 2 ^ 400 := by decide +kernel
    omega
  by_cases z : n.natAbs = 0
  · rw [z]; decide
  · exact Nat.lt_trans ((Nat.log2_lt z).mpr this) (by decide)
theorem rd__law_pot (h : T__law_pot K ds Q Ed) : t__law_pot K Ed (en Q) (st0 N__law_pot ds) := by
  obtain ⟨ns, k, rfl, hk, q⟩ := h
  unfold t__law_pot
  simp
  have c2 : CMulX 60013 (k : Int) := cmulx 17 10 (by decide) (by omega) (by decide)
  have hb : ∀ c : Int, 0 ≤ c → ((c % 2147483587 * 48271 + 60013 * (k : Int) + 29) % 2147483647) ≥ 0 ∧ ((c % 2147483587 * 48271 + 60013 * (k : Int) + 29) % 2147483647) < 2147483648 := fun c _ => ⟨Int.emod_nonneg _ (by decide), Int.lt_trans (Int.emod_lt_of_pos _ (by decide)) (by decide)⟩
  split
  · rename_i hl
    rw [atI_n, List.getElem?_eq_getElem hl]
    show CMulX _ _ ∧ _
    generalize hn : ns[k] = n
    have c0 : 0 ≤ (if n < 0 then -n else n) := by split <;> omega
    generalize (if n < 0 then -n else n) = c at *
    have r0 := Int.emod_nonneg c (show (2147483587 : Int) ≠ 0 by decide)
    have r1 := Int.emod_lt_of_pos c (show (0 : Int) < 2147483587 by decide)
    refine ⟨cmulx 31 16 (by omega) (by decide) (by decide), c2, _, _, ⟨rfl, rfl⟩, ⟨?_, (hb c c0).1, (hb c c0).2⟩, q⟩
    split <;> omega
  · have := hb 0 (by decide)
    simp at this
    exact ⟨cmulx 0 16 (by decide) (by decide) (by decide), c2, _, _, ⟨rfl, rfl⟩, ⟨by decide, this.1, this.2⟩, q⟩
theorem last_app (rs : Rows) (r : Int × Int) (l : Int) : lastV (rs ++ [r]) l = r.2 ∧ lastP (rs ++ [r]) l = r.1 := by
  simp [lastV, lastP]
theorem ok_app : ∀ (rs : Rows) (p v : Int) (r : Int × Int), okFrom p v rs → lastP rs p < r.1 → r.2 < lastV rs v → okFrom p v (rs ++ [r])
  | [], p, v, r, _, h1, h2 => ⟨h1, h2, trivial⟩
  | x :: xs, p, v, r, ⟨a, b, c⟩, h1, h2 => by
    refine ⟨a, b, ok_app xs x.1 x.2 r c ?_ ?_⟩
    · cases xs with
      | nil => exact h1
      | cons y ys =>
        obtain ⟨z, hz⟩ : ∃ z, (y :: ys).getLast? = some z := ⟨_, List.getLast?_eq_some_getLast (List.cons_ne_nil _ _)⟩
        simpa [lastP, List.getLast?_cons_cons, hz] using h1
    · cases xs with
      | nil => exact h2
      | cons y ys =>
        obtain ⟨z, hz⟩ : ∃ z, (y :: ys).getLast? = some z := ⟨_, List.getLast?_eq_some_getLast (List.cons_ne_nil _ _)⟩
        simpa [lastV, List.getLast?_cons_cons, hz] using h2
theorem nice_rows {n : Nat} (hn : n ≤ 400) : ∀ {rs : Rows}, (∀ r ∈ rs, sm n r.1 ∧ sm n r.2) → D.niceL (dRows rs) = true ∧ D.depL (dRows rs) ≤ 1 ∧ D.wtL (dRows rs) ≤ 1014 * rs.length
  | [], _ => by simp [dRows, D.niceL, D.depL, D.wtL]
  | r :: rs, h => by
    obtain ⟨h1, h2, h3⟩ := nice_rows hn (rs := rs) fun z hz => h z (List.mem_cons_of_mem _ hz)
    obtain ⟨⟨a1, a2⟩, b1, b2⟩ := h r List.mem_cons_self
    have big : (10 : Int) ^ n ≤ 10 ^ 400 := by
      have : (10 : Nat) ^ n ≤ 10 ^ 400 := Nat.pow_le_pow_right (by decide) hn
      exact_mod_cast this
    have b5 : ((10 ^ 500 : Nat) : Int) > 10 ^ 400 := by decide +kernel
    have k1 : r.1.natAbs < 10 ^ 500 := by omega
    have k2 : r.2.natAbs < 10 ^ 500 := by omega
    refine ⟨?_, ?_, ?_⟩
    · simp only [dRows_cons, D.niceL, dRow, D.nice, k1, k2, decide_true, h1, Bool.and_true]
    · simp only [dRows_cons, D.depL, dRow, D.dep]
      omega
    · simp only [dRows_cons, D.wtL, dRow, D.wt, List.length_cons]
      omega
theorem ev_rows1 {δ : DSt} {Q : D → Prop} (h : δ[0]? = some (some (.val .pot))) (q : ∀ v : Int, 0 ≤ v → v ≤ 10 ^ 20 → Q (.int v)) : e__law_rows_down_1 K Ed δ Q := by
  unfold e__law_rows_down_1
  simp [h]
  refine draw_ok (by decide) (by decide +kernel) fun d1 a1 b1 => draw_ok (by decide) (by decide +kernel) fun d2 a2 b2 => ?_
  obtain ⟨x, hx, x0, x1⟩ := pick (xs := [0, 1, d1]) (d := d2) (M := 10 ^ 20) a2 b2 (by simp; omega)
  simp at hx
  simp [hx]
  exact q x x0 x1
theorem ev_rows4 {δ : DSt} {Q : D → Prop} (h : δ[0]? = some (some (.val .pot))) (q : ∀ v : Int, 0 ≤ v → v ≤ 10 ^ 25 → Q (.int v)) : e__law_rows_down_4 K Ed δ Q := by
  unfold e__law_rows_down_4
  simp [h]
  refine draw_ok (by decide) (by decide +kernel) fun d1 a1 b1 => draw_ok (by decide) (by decide +kernel) fun d3 a3 b3 => draw_ok (by decide) (by decide +kernel) fun d2 a2 b2 => ?_
  obtain ⟨x, hx, x0, x1⟩ := pick (xs := [0, d1, d3]) (d := d2) (M := 10 ^ 25) a2 b2 (by simp; omega)
  simp at hx
  simp [hx]
  exact q x x0 x1
theorem ev_rows3 {b l : Int} {o4 o5 o6 o7 : Option SV} {Q : D → Prop} (hlb : l < b) (hb : b - l ≤ 10 ^ 60) (q : ∀ vs : List Int, vs.length ≤ 9 → (∀ v ∈ vs, l ≤ v ∧ v < b) → Q (.lst (vs.map D.int))) : e__law_rows_down_3 K Ed [some (.val .pot), some (.val (.int b)), some (.val (.int l)), some (.val (.int 9)), o4, o5, o6, o7, none] Q := by
  unfold e__law_rows_down_3
  simp
  refine draw_ok (by decide) (by decide +kernel) fun d a1 b1 => ?_
  refine ⟨by rw [sizeLine_eq]; omega, by omega, ?_⟩
  refine lcl_any (fun y => ∃ v, y = .int v ∧ l ≤ v ∧ v < b) (fun x _ R hR => ?_) fun ys hl hy => ?_
  · unfold e__law_rows_down_2
    simp [wipeD]
    refine draw_ok (by omega) (by have : (10 : Int) ^ 60 ≤ 10 ^ 100 := by decide +kernel
                                  omega) fun e a2 b2 => hR _ ⟨_, rfl, by omega, by omega⟩
  · obtain ⟨vs, rfl, hv⟩ := ints_of hy
    refine q vs ?_ hv
    simp [steps] at hl
    omega
theorem rows_br {δ : DSt} {p m : Int} {fs : Rows} {R1 : DSt → Prop} {rt : D → Prop} {R2 R3 : DSt → Prop} (h0 : δ[0]? = some (some (.val .pot))) (h6 : δ[6]? = some (some (.own (dRows fs)))) (h7 : δ[7]? = some (some (.val (.int p)))) (h5 : δ[5]? = some (some (.val (.int m)))) (hl : fs.length ≤ 10)
    (hz : 7 < δ.length) (q : ∀ x : Int, 0 ≤ x → x ≤ 10 ^ 25 → R1 ((δ.set 6 (some (.own (dRows (fs ++ [(p, m)]))))).set 7 (some (.val (.int (p + 1 + x)))))) :
    (dSeq (dApp 6 (dTup (dCons (dVar 7) (dCons (dVar 5) dNil)))) (dAsg (dOp fAdd (dOp fAdd (dVar 7) (dC (.int 1))) (e__law_rows_down_4 K Ed)) (.nm 7))) { nx := R1, rt := rt, bk := R2, ct := R3 } δ := by
  have e3 : dRows (fs ++ [(p, m)]) = dRows fs ++ [.tup [.int p, .int m]] := by simp [dRows, dRow]
  have k7 : (δ.set 6 (some (.own (dRows (fs ++ [(p, m)])))))[7]? = some (some (.val (.int p))) := by rw [List.getElem?_set_ne (by decide)]; exact h7
  have k0 : (δ.set 6 (some (.own (dRows (fs ++ [(p, m)])))))[0]? = some (some (.val .pot)) := by rw [List.getElem?_set_ne (by decide)]; exact h0
  have hfl : (dRows fs).length ≤ 10 := by
    simp only [dRows, List.length_map]
    exact hl
  simp only [dSeq, dApp, h6, dTup, dCons, dVar, h7, h5, dNil]
  refine ⟨Nat.lt_of_le_of_lt hfl (by rw [sizeLine_eq]; decide), ?_⟩
  rw [← e3]
  simp only [dAsg, dOp, dVar, k7, dC, fAdd_i]
  refine ev_rows4 k0 fun x x0 x1 => ?_
  simp only [fAdd_i, gT]
  exact q x x0 x1
theorem rows_if {δ : DSt} {m b : Int} {fs : Rows} {De : DEnds} (h6 : δ[6]? = some (some (.own (dRows fs)))) (h5 : δ[5]? = some (some (.val (.int m)))) (hn : D.niceL (dRows fs) = true) (hd : D.depL (dRows fs) ≤ 1)
    (q1 : (fs = [] ∨ m < lastV fs b) → (dSeq (dApp 6 (dTup (dCons (dVar 7) (dCons (dVar 5) dNil)))) (dAsg (dOp fAdd (dOp fAdd (dVar 7) (dC (.int 1))) (e__law_rows_down_4 K Ed)) (.nm 7))) De δ) (q2 : ¬ (fs = [] ∨ m < lastV fs b) → De.nx δ) : b__law_rows_down_5 K Ed De δ := by
  unfold b__law_rows_down_5
  generalize (dSeq (dApp 6 (dTup (dCons (dVar 7) (dCons (dVar 5) dNil)))) (dAsg (dOp fAdd (dOp fAdd (dVar 7) (dC (.int 1))) (e__law_rows_down_4 K Ed)) (.nm 7))) = C at q1 ⊢
  have v6 : (FG.view δ)[6]? = some (some (.val (.lst (dRows fs)))) := by rw [view_get, h6]; rfl
  have v5 : (FG.view δ)[5]? = some (some (.val (.int m))) := by rw [view_get, h5]; rfl
  simp only [dIf, dOr, dTest, dOp, dVar, v6, v5, dLst, dNil, dC, dNeg, dNext]
  refine eq_nil (by unfold D.nice; exact hn) (by unfold D.dep; exact Nat.le_trans (Nat.succ_le_succ hd) (by decide)) ?_
  cases fs with
  | nil => exact q1 (.inl rfl)
  | cons r rs =>
    have nn : r :: rs ≠ [] := List.cons_ne_nil _ _
    simp only [dRows_cons, List.isEmpty_cons, Bool.false_eq_true, if_false, fIx_l]
    obtain ⟨z, hz⟩ : ∃ z, (r :: rs).getLast? = some z := ⟨_, List.getLast?_eq_some_getLast nn⟩
    have hl := last_dRows (r :: rs)
    rw [hz] at hl
    have lv : lastV (r :: rs) b = z.2 := by unfold lastV; rw [hz]
    rw [← dRows_cons, hl]
    simp only [Option.map, dRow, fIx_t, atI_1, fInt_i]
    by_cases h : m < z.2
    · rw [if_pos (decide_eq_true h)]
      exact q1 (.inr (by rw [lv]; exact h))
    · rw [if_neg (by simpa using h)]
      exact q2 (by
        rintro (h1 | h1)
        · exact nn h1
        · rw [lv] at h1; exact h h1)
theorem rows_loop {b l p0 C : Int} {mz : D} (hC : (10 : Int) ^ 25 + 1 ≤ C) (hbig : p0 + 10 * C ≤ 10 ^ 59) (hlow : -(10 ^ 59) ≤ l) (hlb : l < b) (hb59 : b ≤ 10 ^ 59) (q : ∀ rs, okRows b rs → lastV rs b = l → smR 59 rs → Q (.lst (dRows rs))) : ∀ (ms : List Int) (fs : Rows) (p : Int) (o o8 : Option SV), ms.Pairwise (· ≥ ·) → (∀ m ∈ ms, l ≤ m ∧ m < b ∧ m ≤ lastV fs b) → okRows b fs → lastP fs (b - 1) < p → b ≤ p → fs.length + ms.length ≤ 10 → p ≤ p0 + fs.length * C → (∀ r ∈ fs, sm 59 r.1 ∧ sm 59 r.2) →
      (ms = [] → lastV fs b = l) → (ms ≠ [] → ms.getLast? = some l) →
      dLoop (.nm 5) (b__law_rows_down_5 K Ed) { nx := dRet (dVar 6) (en Q), rt := Q } (ms.map D.int)
        [some (.val .pot), some (.val (.int b)), some (.val (.int l)), some (.val (.int 9)), some (.val mz), o, some (.own (dRows fs)), some (.val (.int p)), o8] := by
  intro ms
  induction ms with
  | nil =>
    intro fs p o o8 _ _ h3 _ _ h5 _ h7 h8 _
    have hl : fs.length ≤ 12 := Nat.le_trans (Nat.le_add_right _ _) (Nat.le_trans h5 (by decide))
    exact q fs h3 (h8 rfl) ⟨hl, h7⟩
  | cons m ms ih =>
    intro fs p o o8 h1 h2 h3 h4 hp h5 h6 h7 h8 h9
    obtain ⟨n1, n2, n3⟩ := nice_rows (n := 59) (by decide) h7
    obtain ⟨g1, g2, g3⟩ := h2 m List.mem_cons_self
    have hp1 := (List.pairwise_cons.mp h1).1
    have hp2 := (List.pairwise_cons.mp h1).2
    have h5' : fs.length + (ms.length + 1) ≤ 10 := h5
    have hlast : ms = [] → m = l := fun hz => by
      subst hz
      have := h9 (List.cons_ne_nil _ _)
      simpa using this
    have hlast2 : ms ≠ [] → ms.getLast? = some l := fun hz => by
      have := h9 (List.cons_ne_nil _ _)
      obtain ⟨z, zs, rfl⟩ := List.exists_cons_of_ne_nil hz
      rwa [List.getLast?_cons_cons] at this
    rw [List.map_cons]
    unfold dLoop
    refine rows_if (b := b) (fs := fs) (m := m) rfl rfl n1 n2 (fun hn => ?_) (fun hn => ?_)
    · refine rows_br (p := p) (m := m) (fs := fs) rfl rfl rfl rfl (by omega) (by simp) fun x x0 x1 => ?_
      have e1 := last_app fs (p, m) b
      have e2 := last_app fs (p, m) (b - 1)
      have hm : m < lastV fs b := by
        rcases hn with rfl | hn
        · exact g2
        · exact hn
      have hfC : (fs.length : Int) * C ≤ 9 * C := Int.mul_le_mul_of_nonneg_right (by omega) (by omega)
      refine ih (fs ++ [(p, m)]) (p + 1 + x) (some (.val (.int m))) o8 hp2 (fun z hz => ⟨(h2 z (List.mem_cons_of_mem _ hz)).1, (h2 z (List.mem_cons_of_mem _ hz)).2.1, by rw [e1.1]; exact hp1 z hz⟩) (ok_app fs (b - 1) b (p, m) h3 h4 hm) (by rw [e2.2]; show p < p + 1 + x; omega) (by omega)
        (by rw [List.length_append, List.length_singleton]; omega) ?_ ?_ (fun hz => by rw [e1.1]; exact hlast hz) hlast2
      · simp only [List.length_append, List.length_singleton]
        have : ((fs.length + 1 : Nat) : Int) * C = fs.length * C + C := by push_cast; rw [Int.add_mul]; omega
        rw [this]
        omega
      · intro r hr
        rcases (List.mem_append.mp hr) with hr | hr
        · exact h7 r hr
        · have hr := List.mem_singleton.mp hr
          subst hr
          refine ⟨⟨?_, ?_⟩, ⟨?_, ?_⟩⟩
          · show -(10 ^ 59) ≤ p; omega
          · show p ≤ 10 ^ 59; omega
          · show -(10 ^ 59) ≤ m; omega
          · show m ≤ 10 ^ 59; omega
    · have hv : lastV fs b = m := by
        have : ¬ m < lastV fs b := fun z => hn (.inr z)
        omega
      exact ih fs p (some (.val (.int m))) o8 hp2 (fun z hz => ⟨(h2 z (List.mem_cons_of_mem _ hz)).1, (h2 z (List.mem_cons_of_mem _ hz)).2.1, by rw [hv]; exact hp1 z hz⟩) h3 h4 hp (by omega) h6 h7 (fun hz => by rw [hv]; exact hlast hz) hlast2
theorem rd__law_rows_down (h : T__law_rows_down K ds Q Ed) : t__law_rows_down K Ed (en Q) (st0 N__law_rows_down ds) := by
  obtain ⟨b, l, m, rfl, hlb, rfl, ⟨hb1, hb2⟩, ⟨hl1, hl2⟩, q⟩ := h
  unfold t__law_rows_down
  have c1 : (10 : Int) ^ 58 + 10 ^ 20 + 10 * (10 ^ 25 + 1) ≤ 10 ^ 59 := by decide +kernel
  have c2 : (10 : Int) ^ 58 ≤ 10 ^ 59 := by decide +kernel
  have c3 : (10 : Int) ^ 58 + 10 ^ 58 ≤ 10 ^ 60 := by decide +kernel
  simp only [dSeq, dParO, fLst, dNil, dOp, dVar, List.map_cons, List.map_nil, List.length_cons, List.length_nil, List.cons_append, List.nil_append, List.replicate, List.getElem?_cons_zero, List.getElem?_cons_succ]
  refine ev_rows1 rfl fun x x0 x1 => ?_
  rw [fAdd_i]
  show dAsg _ (.nm 4) _ [some (.val .pot), some (.val (.int b)), some (.val (.int l)), some (.val (.int 9)), none, none, some (.own []), some (.val (.int (b + x))), none]
  simp only [dAsg, dStay, dRev, dCB, dCons, dOp, dNil]
  refine ev_rows3 hlb (by omega) fun vs hv1 hv2 => ?_
  simp only [dLst, dCons, dVar, dNil, List.getElem?_cons_zero, List.getElem?_cons_succ, fAdd_l, fL_l]
  refine ⟨by simp; rw [sizeLine_eq]; omega, vs ++ [l], ?_, ?_, fun ns hperm hsort => ?_⟩
  · rw [show vs.map D.int ++ [.int l] = (vs ++ [l]).map D.int by simp]
    exact asInts_map _
  · simp; rw [sizeLine_eq]; omega
  have hlen : ns.length ≤ 10 := by rw [hperm.length_eq]; simp; omega
  have hmem : ∀ n ∈ ns, l ≤ n ∧ n < b := fun n hn => by
    have := hperm.mem_iff.mp hn
    rcases List.mem_append.mp this with h | h
    · exact hv2 n h
    · have := List.mem_singleton.mp h
      subst this
      exact ⟨Int.le_refl _, hlb⟩
  have hlm : l ∈ ns := hperm.mem_iff.mpr (by simp)
  have hhead : ns.head? = some l := by
    cases ns with
    | nil => cases hlm
    | cons n ns =>
      have h1 := (hmem n List.mem_cons_self).1
      rcases List.mem_cons.mp hlm with h2 | h2
      · rw [h2]; rfl
      · have h3 := (List.pairwise_cons.mp hsort).1 l h2
        have : n = l := by omega
        rw [this]; rfl
  show dSeq (dFor (iSeq (dVar 4)) (.nm 5) (b__law_rows_down_5 K Ed)) (dRet (dVar 6)) (en Q) [some (.val .pot), some (.val (.int b)), some (.val (.int l)), some (.val (.int 9)), some (.val (.lst (ns.map D.int).reverse)), none, some (.own []), some (.val (.int (b + x))), none]
  simp only [dSeq, dFor, iSeq, dVar, List.getElem?_cons_zero, List.getElem?_cons_succ]
  rw [← List.map_reverse]
  have hrl : ns.reverse.getLast? = some l := by rw [List.getLast?_reverse]; exact hhead
  have hne : ns.reverse ≠ [] := fun z => by rw [z] at hrl; cases hrl
  exact rows_loop (p0 := 10 ^ 58 + 10 ^ 20) (C := 10 ^ 25 + 1) (Int.le_refl _) c1 (by omega) hlb (by omega) q ns.reverse [] (b + x) none none (List.pairwise_reverse.mpr hsort) (fun m hm => by
      have := hmem m (List.mem_reverse.mp hm)
      exact ⟨this.1, this.2, Int.le_of_lt this.2⟩) trivial (by show b - 1 < b + x; omega) (by omega) (by simp; omega) (by simp; omega) (fun r hr => by cases hr) (fun z => absurd z hne) fun _ => hrl
/-! ### _law_at -/
def lowOf (c : Int) : D → Bool
  | .tup [.int a, .int _] => decide (a ≤ c)
  | _ => false
def valOf : D → D
  | .tup [.int _, .int v] => .int v
  | _ => .non
def pkOf : D → D
  | .tup [.int v, .int _] => .int v
  | _ => .non
theorem map_val (rs : Rows) : (dRows rs).map valOf = (rs.map Prod.snd).map D.int := by
  unfold dRows
  simp only [List.map_map]
  rfl
theorem map_pk (rs : Rows) : (dRows rs).map pkOf = (rs.map Prod.fst).map D.int := by
  unfold dRows
  simp only [List.map_map]
  rfl
theorem filter_val (c : Int) (rs : Rows) : ((dRows rs).filter (lowOf c)).map valOf = ((rs.filter fun r => decide (r.1 ≤ c)).map Prod.snd).map D.int := by
  unfold dRows
  rw [List.filter_map, List.map_map, List.map_map]
  rfl
theorem fall_last (c : Int) : ∀ (rs : Rows) (b : Int), (b :: (rs.filter fun r => decide (r.1 ≤ c)).map Prod.snd).getLast? = some (fall rs c b)
  | [], b => rfl
  | r :: rs, b => by
    by_cases h : r.1 ≤ c
    · rw [List.filter_cons_of_pos (by simpa using h), List.map_cons, List.getLast?_cons_cons, fall_last c rs r.2]
      unfold fall
      rw [List.foldl_cons, if_pos h]
    · rw [List.filter_cons_of_neg (by simpa using h), fall_last c rs b]
      unfold fall
      rw [List.foldl_cons, if_neg h]
theorem fall_all (c : Int) : ∀ (rs : Rows) (l : Int), (∀ r ∈ rs, r.1 ≤ c) → fall rs c l = lastV rs l
  | [], l, _ => rfl
  | r :: rs, l, h => by
    have e : fall (r :: rs) c l = fall rs c r.2 := by
      unfold fall
      rw [List.foldl_cons, if_pos (h r List.mem_cons_self)]
    rw [e, fall_all c rs r.2 fun z hz => h z (List.mem_cons_of_mem _ hz)]
    cases rs with
    | nil => rfl
    | cons y ys =>
      obtain ⟨z, hz⟩ : ∃ z, (y :: ys).getLast? = some z := ⟨_, List.getLast?_eq_some_getLast (List.cons_ne_nil _ _)⟩
      unfold lastV
      rw [List.getLast?_cons_cons, hz]
theorem fall_sm {n : Nat} (c : Int) : ∀ (rs : Rows) (l : Int), sm n l → (∀ r ∈ rs, sm n r.1 ∧ sm n r.2) → sm n (fall rs c l)
  | [], l, h, _ => h
  | r :: rs, l, h, h2 => by
    unfold fall
    rw [List.foldl_cons]
    refine fall_sm c rs _ ?_ fun z hz => h2 z (List.mem_cons_of_mem _ hz)
    split
    · exact (h2 r List.mem_cons_self).2
    · exact h
theorem rd__law_at (h : T__law_at K ds Q Ed) : t__law_at K Ed (en Q) (st0 N__law_at ds) := by
  obtain ⟨rs, c, b, rfl, hl, q⟩ := h
  unfold t__law_at
  show dRet _ _ [some (.val (.lst (dRows rs))), some (.val (.int c)), some (.val (.int b)), none]
  simp only [dRet, dOp, dLst, dCons, dVar, dNil, FG.view, List.map_cons, List.map_nil, Option.map, SV.view, List.getElem?_cons_zero, List.getElem?_cons_succ]
  unfold e__law_at_1
  simp only [dStay, fLc, iSeq, dVar, List.getElem?_cons_zero, List.getElem?_cons_succ]
  refine lcl_fm (lowOf c) valOf _ [] (fun x hx R R0 h1 h2 => ?_) ?_
  · obtain ⟨r, _, rfl⟩ := List.mem_map.mp hx
    simp [wipeD, dRow]
    by_cases hc : r.1 ≤ c
    · rw [if_pos hc]
      exact h1 (decide_eq_true hc)
    · rw [if_neg hc]
      exact h2 (decide_eq_false hc)
  · rw [List.nil_append, filter_val, fAdd_l]
    have hf : (rs.filter fun r => decide (r.1 ≤ c)).length ≤ rs.length := List.length_filter_le _ _
    refine ⟨by simp; rw [sizeLine_eq]; omega, ?_⟩
    have e := fall_last c rs b
    simp only [dNeg, dC, fIx_l]
    rw [atI_end, List.singleton_append, ← List.map_cons, List.getLast?_map, e]
    exact q
/-! ### _law_values -/
theorem ev_val1 {δ : DSt} {far : Int} {Q : D → Prop} (h : δ[0]? = some (some (.val .pot))) (h2 : δ[2]? = some (some (.val (.int far)))) (f0 : 0 < far) (f1 : far ≤ 10 ^ 58) (q : ∀ v : Int, 0 ≤ v → v < far → Q (.int v)) : e__law_values_1 K Ed δ Q := by
  have c1 : (10 : Int) ^ 58 ≤ 10 ^ 100 := by decide +kernel
  unfold e__law_values_1
  simp [h, h2]
  refine draw_ok f0 (by omega) fun d1 a1 b1 => draw_ok (by decide) (by decide +kernel) fun d2 a2 b2 => ?_
  obtain ⟨x, hx, x0, x1⟩ := pick (xs := [0, d1]) (d := d2) (M := far - 1) a2 b2 (by simp; omega)
  simp at hx
  simp [hx]
  exact q x x0 (by omega)
theorem ev_val3 {δ : DSt} {Q : D → Prop} (h : δ[0]? = some (some (.val .pot))) (q : ∀ v : Int, 0 ≤ v → v ≤ 10 ^ 30 → Q (.int v)) : e__law_values_3 K Ed δ Q := by
  unfold e__law_values_3
  simp [h]
  refine draw_ok (by decide) (by decide +kernel) fun d1 a1 b1 => draw_ok (by decide) (by decide +kernel) fun d2 a2 b2 => ?_
  obtain ⟨x, hx, x0, x1⟩ := pick (xs := [0, 0, 1, d1]) (d := d2) (M := 10 ^ 30) a2 b2 (by simp; omega)
  simp at hx
  simp [hx]
  exact q x x0 x1
theorem ev_val2 {δ : DSt} {rs1 rs2 : Rows} {Q : D → Prop} (h5 : δ[5]? = some (some (.val (.lst (dRows rs1))))) (h6 : δ[6]? = some (some (.val (.lst (dRows rs2))))) (l1 : rs1.length ≤ 12) (l2 : rs2.length ≤ 12) (hz : δ.length = 9)
    (q : Q (.lst (((rs1 ++ rs2).map Prod.fst).map D.int))) : e__law_values_2 K Ed δ Q := by
  unfold e__law_values_2
  simp only [dStay, fLc, iSeq, dOp, dVar, h5, h6, fAdd_l]
  refine ⟨by simp [dRows]; rw [sizeLine_eq]; omega, ?_⟩
  rw [show dRows rs1 ++ dRows rs2 = dRows (rs1 ++ rs2) by simp [dRows]]
  refine lcl_map pkOf (fun x hx R hR => ?_) ?_
  · obtain ⟨r, _, rfl⟩ := List.mem_map.mp hx
    simp only [gT, dYes, dOp, dVar, wipeD]
    rw [List.getElem?_set_self (by simp [hz])]
    simpa [dRow, pkOf] using hR
  · rw [map_pk]
    exact q
theorem lastP_le {rs : Rows} {l m : Int} (h1 : l ≤ m) (h2 : ∀ r ∈ rs, r.1 ≤ m) : lastP rs l ≤ m := by
  unfold lastP
  split
  · rename_i r e
    exact h2 r (List.mem_of_getLast? e)
  · exact h1
theorem ev_down {δ : DSt} {b l : Int} {ix : Nat} {tb : DT} {Q : D → Prop} (h0 : δ[0]? = some (some (.val .pot))) (h1 : δ[1]? = some (some (.val (.int 9)))) (h3 : δ[3]? = some (some (.val (.int l)))) (hb : ∀ Q : D → Prop, Q (.int b) → tb δ Q) (hv : ∀ Q : D → Prop, Q (.int b) → tb (FG.view δ) Q) (hlb : l ≤ b) (b1 : sm 58 b) (l1 : sm 58 l)
    (q : ∀ rs, okRows b rs → lastV rs b = l → smR 59 rs → Q (.lst (dRows rs))) : dIfE (dTest (dOp fLt (dVar 3) tb)) (dCall (T__law_rows_down K) (fun e _ => Ed e) (dCons (dVar 0) (dCons tb (dCons (dVar 3) (dCons (dVar 1) dNil))))) (dLst dNil) δ Q := by
  have v3 : (FG.view δ)[3]? = some (some (.val (.int l))) := by rw [view_get, h3]; rfl
  simp only [dIfE, dTest, dOp, dVar, v3]
  refine hv _ ?_
  simp only [fInt_i]
  by_cases h : l < b
  · rw [if_pos (decide_eq_true h)]
    simp only [dCall, dCons, dVar, h0, h3, h1, dNil]
    exact hb _ ⟨b, l, 9, rfl, h, rfl, b1, l1, q⟩
  · rw [if_neg (by simpa using h)]
    exact q [] trivial (by show b = l; omega) ⟨by decide, fun r hr => by cases hr⟩
theorem rd__law_values (h : T__law_values K ds Q Ed) : t__law_values K Ed (en Q) (st0 N__law_values ds) := by
  obtain ⟨far, rfl, f0, f1, q⟩ := h
  have c1 : (10 : Int) ^ 58 ≤ 10 ^ 100 := by decide +kernel
  have c2 : (10 : Int) ^ 59 + 10 ^ 30 ≤ 10 ^ 60 := by decide +kernel
  have c3 : (10 : Int) ^ 58 ≤ 10 ^ 59 := by decide +kernel
  have c4 : (0 : Int) ≤ 10 ^ 30 := by decide +kernel
  unfold t__law_values
  show dSeq _ _ _ [some (.val .pot), some (.val (.int 9)), some (.val (.int far)), none, none, none, none, none, none]
  simp only [dSeq, dAsg, dOp, dC, dCall, dCons, dVar, dNil, List.getElem?_cons_zero, List.getElem?_cons_succ, gT]
  refine draw_ok f0 (by omega) fun d d0 d1 => ?_
  rw [fSub_i]
  refine ev_val1 (far := far) rfl rfl f0 f1 fun v v0 v1 => ?_
  rw [fAdd_i]
  have hlow : sm 58 (0 - d) := ⟨by omega, by omega⟩
  have hlast : sm 58 (0 - d + v) := ⟨by omega, by omega⟩
  generalize hl : 0 - d = low at *
  generalize he : low + v = e at *
  show dIfE _ _ _ [some (.val .pot), some (.val (.int 9)), some (.val (.int far)), some (.val (.int low)), some (.val (.int e)), none, none, none, none] _
  refine ev_down (b := 0) (l := low) (ix := 0) rfl rfl rfl (fun Q h => h) (fun Q h => h) (by omega) ⟨by decide +kernel, by decide +kernel⟩ hlow fun rs1 o1 v1 s1 => ?_
  show dIfE _ _ _ [some (.val .pot), some (.val (.int 9)), some (.val (.int far)), some (.val (.int low)), some (.val (.int e)), some (.val (.lst (dRows rs1))), none, none, none] _
  refine ev_down (b := e) (l := low) (ix := 0) rfl rfl rfl (fun Q h => h) (fun Q h => h) (by omega) hlast hlow fun rs2 o2 v2 s2 => ?_
  show dCB _ _ [some (.val .pot), some (.val (.int 9)), some (.val (.int far)), some (.val (.int low)), some (.val (.int e)), some (.val (.lst (dRows rs1))), some (.val (.lst (dRows rs2))), none, none] _
  simp only [dCB, dCons, dOp, dNil]
  refine ev_val2 (rs1 := rs1) (rs2 := rs2) rfl rfl s1.1 s2.1 rfl ?_
  have hs1 := s1.1
  have hs2 := s2.1
  simp only [dLst, dCons, dC, dVar, dNil, List.getElem?_cons_zero, List.getElem?_cons_succ, fAdd_l, fL_l]
  refine ⟨by simp; rw [sizeLine_eq]; omega, (rs1 ++ rs2).map Prod.fst ++ [0, e], ?_, by simp; omega, fun m hm hmax => ?_⟩
  · rw [show ((rs1 ++ rs2).map Prod.fst).map D.int ++ [.int 0, .int e] = ((rs1 ++ rs2).map Prod.fst ++ [0, e]).map D.int by simp]
    exact asInts_map _
  have hm0 : 0 ≤ m := hmax 0 (by simp)
  have hme : e ≤ m := hmax e (by simp)
  have hm1 : ∀ r ∈ rs1, r.1 ≤ m := fun r hr => hmax _ (List.mem_append_left _ (List.mem_map.mpr ⟨r, List.mem_append_left _ hr, rfl⟩))
  have hm2 : ∀ r ∈ rs2, r.1 ≤ m := fun r hr => hmax _ (List.mem_append_left _ (List.mem_map.mpr ⟨r, List.mem_append_right _ hr, rfl⟩))
  have hmu : m ≤ 10 ^ 59 := by
    rcases (List.mem_append.mp hm) with hm | hm
    · obtain ⟨r, hr, rfl⟩ := List.mem_map.mp hm
      rcases (List.mem_append.mp hr) with hr | hr
      · exact (s1.2 r hr).1.2
      · exact (s2.2 r hr).1.2
    · have := hlast.2
      simp at hm
      omega
  show dRet _ _ [some (.val .pot), some (.val (.int 9)), some (.val (.int far)), some (.val (.int low)), some (.val (.int e)), some (.val (.lst (dRows rs1))), some (.val (.lst (dRows rs2))), some (.val (.int m)), none]
  simp only [dRet, FG.view, List.map_cons, List.map_nil, Option.map, SV.view, dLst, dCons, dVar, dOp, List.getElem?_cons_zero, List.getElem?_cons_succ]
  refine ev_val3 rfl fun w w0 w1 => ?_
  rw [fAdd_i]
  simp only [dNil]
  refine q rs1 rs2 e (m + w) ⟨o1, o2, by rw [v1, v2], ?_, ?_, by omega, by omega⟩ s1 s2 hlast ⟨by omega, by omega⟩
  · exact Int.le_trans (lastP_le hm0 hm1) (by omega)
  · exact Int.le_trans (lastP_le hme hm2) (by omega)
/-! ### _law_right -/
def sR (x made caps due low : Option SV) (rs1 rs2 : Rows) (e h : Int) (one row : Option SV) : DSt := [x, made, caps, due, low, some (.val (.lst (dRows rs1))), some (.val (.lst (dRows rs2))), some (.val (.int e)), some (.val (.int h)), one, row]
section
variable {x made caps due low : Option SV} {rs1 rs2 : Rows} {e h : Int} {ns : List Int}
theorem ev_r1 (l1 : rs1.length ≤ 12) (l2 : rs2.length ≤ 12) (q : Q (.lst (((rs1 ++ rs2).map Prod.fst).map D.int))) : e__law_right_1 K Ed (sR x made caps due low rs1 rs2 e h none none) Q := by
  unfold e__law_right_1 sR
  simp only [dStay, fLc, iSeq, dOp, dVar, List.getElem?_cons_zero, List.getElem?_cons_succ, fAdd_l]
  refine ⟨by simp [dRows]; rw [sizeLine_eq]; omega, ?_⟩
  rw [show dRows rs1 ++ dRows rs2 = dRows (rs1 ++ rs2) by simp [dRows]]
  refine lcl_map pkOf (fun x hx R hR => ?_) ?_
  · obtain ⟨r, _, rfl⟩ := List.mem_map.mp hx
    simpa [wipeD, dRow, pkOf] using hR
  · rw [map_pk]
    exact q
theorem ev_r2 (q : Q (.lst ((ns.map (· + 1)).map D.int))) : e__law_right_2 K Ed (sR x made (some (.val (.lst (ns.map D.int)))) due low rs1 rs2 e h none none) Q := by
  unfold e__law_right_2 sR
  simp only [dStay, fLc, iSeq, dVar, List.getElem?_cons_zero, List.getElem?_cons_succ]
  refine lcl_map (fun d => match d with | .int i => .int (i + 1) | d => d) (fun x hx R hR => ?_) ?_
  · obtain ⟨r, _, rfl⟩ := List.mem_map.mp hx
    simpa [wipeD] using hR
  · rw [List.map_map] at q ⊢
    exact q
theorem ev_r3 (q : Q (.lst ((ns.map (· - 1)).map D.int))) : e__law_right_3 K Ed (sR x made (some (.val (.lst (ns.map D.int)))) due low rs1 rs2 e h none none) Q := by
  unfold e__law_right_3 sR
  simp only [dStay, fLc, iSeq, dVar, List.getElem?_cons_zero, List.getElem?_cons_succ]
  refine lcl_map (fun d => match d with | .int i => .int (i - 1) | d => d) (fun x hx R hR => ?_) ?_
  · obtain ⟨r, _, rfl⟩ := List.mem_map.mp hx
    simpa [wipeD] using hR
  · rw [List.map_map] at q ⊢
    exact q
def geD (l : Int) : D → Bool
  | .int i => decide (l ≤ i)
  | _ => false
def faD (rs : Rows) (l : Int) : D → D
  | .int i => .int (fall rs i l)
  | d => d
theorem fa_map (rs : Rows) (l b : Int) (ns : List Int) : ((ns.map D.int).filter (geD b)).map (faD rs l) = ((ns.filter fun i => decide (b ≤ i)).map fun i => fall rs i l).map D.int := by
  rw [List.filter_map, List.map_map, List.map_map]
  rfl
theorem ev_r4 (l1 : rs1.length ≤ 12) (q : Q (.lst (((ns.filter fun i => decide (0 ≤ i)).map fun i => fall rs1 i 0).map D.int))) : e__law_right_4 K Ed (sR x made (some (.val (.lst (ns.map D.int)))) due low rs1 rs2 e h none none) Q := by
  unfold e__law_right_4 sR
  simp only [dStay, fLc, iSeq, dVar, List.getElem?_cons_zero, List.getElem?_cons_succ]
  refine lcl_fm (geD 0) (faD rs1 0) _ [] (fun x hx R R0 h1 h2 => ?_) ?_
  · obtain ⟨i, _, rfl⟩ := List.mem_map.mp hx
    simp [wipeD]
    by_cases hc : 0 ≤ i
    · rw [if_pos hc]
      exact ⟨rs1, i, 0, rfl, l1, h1 (decide_eq_true hc)⟩
    · rw [if_neg hc]
      exact h2 (decide_eq_false hc)
  · rw [List.nil_append, fa_map]
    exact q
theorem ev_r5 (q : Q (.lst (((ns.filter fun i => decide (0 ≤ i)).map fun i => fall rs1 i 0).map D.int))) : e__law_right_5 K Ed (sR x (some (.val (prof K rs1 rs2 e h))) (some (.val (.lst (ns.map D.int)))) due low rs1 rs2 e h none none) Q := by
  unfold e__law_right_5 sR
  simp only [dStay, fLc, iSeq, dVar, List.getElem?_cons_zero, List.getElem?_cons_succ]
  refine lcl_fm (geD 0) (faD rs1 0) _ [] (fun x hx R R0 h1 h2 => ?_) ?_
  · obtain ⟨i, _, rfl⟩ := List.mem_map.mp hx
    simp [wipeD]
    by_cases hc : 0 ≤ i
    · rw [if_pos hc]
      exact ⟨rfl, rs1, rs2, e, h, i, rfl, hc, h1 (decide_eq_true hc)⟩
    · rw [if_neg hc]
      exact h2 (decide_eq_false hc)
  · rw [List.nil_append, fa_map]
    exact q
theorem ev_r6 (l1 : rs2.length ≤ 12) (q : Q (.lst (((ns.filter fun i => decide (e ≤ i)).map fun i => fall rs2 i e).map D.int))) : e__law_right_6 K Ed (sR x made (some (.val (.lst (ns.map D.int)))) due low rs1 rs2 e h none none) Q := by
  unfold e__law_right_6 sR
  simp only [dStay, fLc, iSeq, dVar, List.getElem?_cons_zero, List.getElem?_cons_succ]
  refine lcl_fm (geD e) (faD rs2 e) _ [] (fun x hx R R0 h1 h2 => ?_) ?_
  · obtain ⟨i, _, rfl⟩ := List.mem_map.mp hx
    simp [wipeD]
    by_cases hc : e ≤ i
    · rw [if_pos hc]
      exact ⟨rs2, i, e, rfl, l1, h1 (decide_eq_true hc)⟩
    · rw [if_neg hc]
      exact h2 (decide_eq_false hc)
  · rw [List.nil_append, fa_map]
    exact q
theorem ev_r7 (q : Q (.lst (((ns.filter fun i => decide (e ≤ i)).map fun i => fall rs2 i e).map D.int))) : e__law_right_7 K Ed (sR x (some (.val (prof K rs1 rs2 e h))) (some (.val (.lst (ns.map D.int)))) due low rs1 rs2 e h none none) Q := by
  unfold e__law_right_7 sR
  simp only [dStay, fLc, iSeq, dVar, List.getElem?_cons_zero, List.getElem?_cons_succ]
  refine lcl_fm (geD e) (faD rs2 e) _ [] (fun x hx R R0 h1 h2 => ?_) ?_
  · obtain ⟨i, _, rfl⟩ := List.mem_map.mp hx
    simp [wipeD]
    by_cases hc : e ≤ i
    · rw [if_pos hc]
      exact ⟨rfl, (by intro a d hm; simp at hm; rcases hm with ⟨rfl, _⟩ | ⟨rfl, _⟩ <;> decide +kernel), rs1, rs2, e, h, i, rfl, hc, h1 (decide_eq_true hc)⟩
    · rw [if_neg hc]
      exact h2 (decide_eq_false hc)
  · rw [List.nil_append, fa_map]
    exact q
theorem ev_r8 (q : Q (.lst ((rs1.map Prod.snd).map D.int))) : e__law_right_8 K Ed (sR x made caps due low rs1 rs2 e h none none) Q := by
  unfold e__law_right_8 sR
  simp only [dStay, fLc, iSeq, dVar, List.getElem?_cons_zero, List.getElem?_cons_succ]
  refine lcl_map valOf (fun x hx R hR => ?_) ?_
  · obtain ⟨r, _, rfl⟩ := List.mem_map.mp hx
    simpa [wipeD, dRow, valOf] using hR
  · rw [map_val]
    exact q
end
theorem nice_ints {n : Nat} (hn : n ≤ 400) : ∀ {vs : List Int}, (∀ v ∈ vs, sm n v) → D.niceL (vs.map D.int) = true ∧ D.depL (vs.map D.int) = 0 ∧ D.wtL (vs.map D.int) = 504 * vs.length
  | [], _ => by simp [D.niceL, D.depL, D.wtL]
  | v :: vs, h => by
    obtain ⟨h1, h2, h3⟩ := nice_ints hn (vs := vs) fun z hz => h z (List.mem_cons_of_mem _ hz)
    obtain ⟨a1, a2⟩ := h v List.mem_cons_self
    have big : (10 : Int) ^ n ≤ 10 ^ 400 := by
      have : (10 : Nat) ^ n ≤ 10 ^ 400 := Nat.pow_le_pow_right (by decide) hn
      exact_mod_cast this
    have b5 : ((10 ^ 500 : Nat) : Int) > 10 ^ 400 := by decide +kernel
    have k1 : v.natAbs < 10 ^ 500 := by omega
    refine ⟨?_, ?_, ?_⟩
    · simp only [List.map_cons, D.niceL, D.nice, k1, decide_true, h1, Bool.and_true]
    · simp only [List.map_cons, D.depL, D.dep, h2, Nat.max_self]
    · simp only [List.map_cons, D.wtL, D.wt, List.length_cons]
      omega
/-- two ints' lists that are the same: their texts do not differ -/
theorem rep_ints {n : Nat} {vs : List Int} {R : D → Prop} (hn : n ≤ 400) (h : ∀ v ∈ vs, sm n v) (hl : vs.length ≤ 1000) (q : R (.str (D.lst (vs.map D.int)).py.shown)) : fRepr [.lst (vs.map D.int)] R := by
  obtain ⟨h1, h2, h3⟩ := nice_ints hn h
  refine repr_ok rfl (by unfold D.nice; exact h1) (by unfold D.dep; rw [h2]; decide) (by unfold D.wt; omega) q
end
end K36

namespace K36
open PySem.Spec PySem L2 PyProof.Rows FG
open He (ga ma Fa Dv)
section
variable {K : PySem.W.Frag} {ds : List D} {Q : D → Prop} {Ed : Exn → Prop}
/-- the test repr(a) != repr(b) of ints' lists that are the same, then what follows -/
theorem ne_same {ta tb : DT} {t b : DTS} {De : DEnds} {δ : DSt} {a : D} (ha : ∀ R : D → Prop, R a → ta (FG.view δ) R) (hb : ∀ R : D → Prop, R a → tb (FG.view δ) R) (hr : ∀ R : D → Prop, R (.str a.py.shown) → fRepr [a] R) (q : b De δ) : dSeq (dIf (dTest (dOp fNe (dCB fRepr (dCons ta dNil)) (dCB fRepr (dCons tb dNil)))) t dNext) b De δ := by
  refine gs_next (fun k hk => ?_) q
  simp only [dTest, dOp, dCB, dCons, dNil]
  refine ha _ (hr _ (hb _ (hr _ ?_)))
  rw [fNe_s, decide_eq_true rfl]
  exact hk
theorem lk_prof {m : Str} (a b : D) (h1 : (m == Str.ofString "own_plain") = false) (h2 : (m == Str.ofString "own_lowest") = false) : List.lookup m [(Str.ofString "own_plain", a), (Str.ofString "own_lowest", b)] = none := by
  simp only [List.lookup, h1, h2]
theorem view_sR {x made caps due low : Option SV} {rs1 rs2 : Rows} {e h : Int} (h1 : x.map SV.view = x) (h2 : made.map SV.view = made) (h3 : caps.map SV.view = caps) (h4 : due.map SV.view = due) (h5 : low.map SV.view = low) : FG.view (sR x made caps due low rs1 rs2 e h none none) = sR x made caps due low rs1 rs2 e h none none := by
  simp [sR, FG.view, h1, h2, h3, h4, h5, SV.view]
theorem right_nice {rs1 rs2 : Rows} {e h : Int} (s1 : smR 59 rs1) (s2 : smR 59 rs2) (se : sm 58 e) (sh : sm 60 h) : (D.lst [.lst (dRows rs1), .lst (dRows rs2), .int e, .int h]).nice = true ∧ (D.lst [.lst (dRows rs1), .lst (dRows rs2), .int e, .int h]).dep ≤ 60 ∧ (D.lst [.lst (dRows rs1), .lst (dRows rs2), .int e, .int h]).wt ≤ 1000000 := by
  have hs1 := s1.1
  have hs2 := s2.1
  obtain ⟨a1, a2, a3⟩ := nice_rows (n := 59) (by decide) s1.2
  obtain ⟨b1, b2, b3⟩ := nice_rows (n := 59) (by decide) s2.2
  obtain ⟨z1, z2⟩ := se
  obtain ⟨y1, y2⟩ := sh
  have b5 : ((10 ^ 500 : Nat) : Int) > 10 ^ 60 := by decide +kernel
  have b6 : ((10 ^ 500 : Nat) : Int) > 10 ^ 58 := by decide +kernel
  have k1 : e.natAbs < 10 ^ 500 := by omega
  have k2 : h.natAbs < 10 ^ 500 := by omega
  refine ⟨?_, ?_, ?_⟩
  · simp only [D.nice, D.niceL, a1, b1, k1, k2, decide_true, Bool.and_true]
  · simp only [D.dep, D.depL]
    omega
  · simp only [D.wt, D.wtL]
    omega
theorem rd__law_right (h : T__law_right K ds Q Ed) : t__law_right K Ed (en Q) (st0 N__law_right ds) := by
  obtain ⟨rs1, rs2, e, h, rfl, v, s1, s2, se, sh, q⟩ := h
  have c3 : (10 : Int) ^ 58 ≤ 10 ^ 59 := by decide +kernel
  have c5 : (0 : Int) ≤ 10 ^ 59 := by decide +kernel
  unfold t__law_right
  generalize hg : D.lst [.lst (dRows rs1), .lst (dRows rs2), .int e, .int h] = g
  show dSeq _ _ _ [some (.val g), none, none, none, none, none, none, none, none, none, none]
  refine go_seq ?_
  simp only [dAsg, dVar, List.getElem?_cons_zero]
  rw [← hg]
  simp only [gT, gTs]
  rw [hg]
  show dSeq _ _ _ (sR (some (.val g)) none none none none rs1 rs2 e h none none)
  refine gs_asg (prof K rs1 rs2 e h) (fun k hk => ?_) ?_
  · simp only [dCall, dCons, dCB, dNil]
    exact ⟨.lst (dRows rs1), .tup (dRows rs2), rs1, rs2, e, h, rfl, .inl rfl, .inr rfl, v, hk⟩
  generalize hp : prof K rs1 rs2 e h = pf
  have hs1 := s1.1
  have hs2 := s2.1
  obtain ⟨caps, hc, hcl⟩ : ∃ caps : List Int, [D.int 0, .int e, .int h, .int (10 ^ (59 : Int).toNat)] ++ ((rs1 ++ rs2).map Prod.fst).map D.int = caps.map D.int ∧ caps.length ≤ 28 := ⟨[0, e, h, 10 ^ (59 : Int).toNat] ++ (rs1 ++ rs2).map Prod.fst, by simp, by simp; omega⟩
  show dSeq _ _ _ (sR (some (.val g)) (some (.val pf)) none none none rs1 rs2 e h none none)
  refine gs_asg (.lst (caps.map D.int)) (fun k hk => ?_) ?_
  · simp only [dOp, dLst, dCons, dC, dNil]
    refine go_var (d := .int e) rfl (go_var (d := .int h) rfl ?_)
    rw [fPow_i]
    refine ⟨⟨by decide, by decide, by decide⟩, ?_⟩
    refine ev_r1 s1.1 s2.1 ?_
    rw [fAdd_l]
    refine ⟨by simp; rw [sizeLine_eq]; omega, ?_⟩
    rw [hc]
    exact hk
  show dSeq _ _ _ (sR (some (.val g)) (some (.val pf)) (some (.val (.lst (caps.map D.int)))) none none rs1 rs2 e h none none)
  refine gs_asgY (fun d => ∃ ns : List Int, d = .lst (ns.map D.int) ∧ ns.length ≤ 84) (fun k hk => ?_) ?_
  · simp only [dCB, dCons, dOp, dNil]
    refine go_var (d := .lst (caps.map D.int)) rfl ?_
    refine ev_r2 ?_
    rw [fAdd_l]
    refine ⟨by simp; rw [sizeLine_eq]; omega, ?_⟩
    refine ev_r3 ?_
    rw [fAdd_l]
    refine ⟨by simp; rw [sizeLine_eq]; omega, ?_⟩
    rw [fL_l, ← List.map_append, ← List.map_append]
    refine ⟨_, asInts_map _, by simp; rw [sizeLine_eq]; omega, fun ns hperm _ => hk _ ⟨ns, rfl, ?_⟩⟩
    rw [hperm.length_eq]
    simp
    omega
  rintro _ ⟨ns, rfl, hns⟩
  generalize hL : ((ns.filter fun i => decide (0 ≤ i)).map fun i => fall rs1 i 0) = L
  have hLs : ∀ z ∈ L, sm 59 z := fun z hz => by
    rw [← hL] at hz
    obtain ⟨i, _, rfl⟩ := List.mem_map.mp hz
    exact fall_sm i rs1 0 ⟨by omega, by omega⟩ s1.2
  have hLl : L.length ≤ 1000 := by
    rw [← hL, List.length_map]
    have := List.length_filter_le (fun i : Int => decide (0 ≤ i)) ns
    omega
  have gv := right_nice s1 s2 se sh
  rw [hg] at gv
  show dSeq _ _ _ (sR (some (.val g)) (some (.val pf)) (some (.val (.lst (ns.map D.int)))) none none rs1 rs2 e h none none)
  refine gs_asg (.lst (L.map D.int)) (fun k hk => ev_r4 s1.1 (by rw [hL]; exact hk)) ?_
  show dSeq _ _ _ (sR (some (.val g)) (some (.val pf)) (some (.val (.lst (ns.map D.int)))) (some (.val (.lst (L.map D.int)))) none rs1 rs2 e h none none)
  refine ne_same (a := .lst (L.map D.int)) (fun R hR => ?_) (fun R hR => hR) (fun R hR => rep_ints (n := 59) (by decide) hLs hLl hR) ?_
  · rw [view_sR rfl rfl rfl rfl rfl, ← hp]
    refine ev_r5 ?_
    rw [hL]
    exact hR
  generalize hM : ((ns.filter fun i => decide (e ≤ i)).map fun i => fall rs2 i e) = M
  have hMs : ∀ z ∈ M, sm 59 z := fun z hz => by
    rw [← hM] at hz
    obtain ⟨i, _, rfl⟩ := List.mem_map.mp hz
    exact fall_sm i rs2 e ⟨by have := se.1; omega, by have := se.2; omega⟩ s2.2
  have hMl : M.length ≤ 1000 := by
    rw [← hM, List.length_map]
    have := List.length_filter_le (fun i : Int => decide (e ≤ i)) ns
    omega
  show dSeq _ _ _ (sR (some (.val g)) (some (.val pf)) (some (.val (.lst (ns.map D.int)))) (some (.val (.lst (L.map D.int)))) none rs1 rs2 e h none none)
  refine gs_asg (.lst (M.map D.int)) (fun k hk => ev_r6 s2.1 (by rw [hM]; exact hk)) ?_
  show dSeq _ _ _ (sR (some (.val g)) (some (.val pf)) (some (.val (.lst (ns.map D.int)))) (some (.val (.lst (M.map D.int)))) none rs1 rs2 e h none none)
  refine ne_same (a := .lst (M.map D.int)) (fun R hR => ?_) (fun R hR => hR) (fun R hR => rep_ints (n := 59) (by decide) hMs hMl hR) ?_
  · rw [view_sR rfl rfl rfl rfl rfl, ← hp]
    refine ev_r7 ?_
    rw [hM]
    exact hR
  show dSeq _ _ _ (sR (some (.val g)) (some (.val pf)) (some (.val (.lst (ns.map D.int)))) (some (.val (.lst (M.map D.int)))) none rs1 rs2 e h none none)
  refine ne_same (a := g) (fun R hR => ?_) (fun R hR => hR) (fun R hR => repr_ok (by rw [← hg]; rfl) gv.1 gv.2.1 gv.2.2 hR) ?_
  · rw [view_sR rfl rfl rfl rfl rfl, ← hp]
    simp only [dLst, dCons, dMeth, dProp, dNil]
    refine ⟨rfl, lk_prof _ _ (by decide +kernel) (by decide +kernel), rs1, rs2, e, h, rfl, ?_⟩
    refine ⟨rfl, lk_prof _ _ (by decide +kernel) (by decide +kernel), rs1, rs2, e, h, rfl, ?_⟩
    refine ⟨rfl, rs1, rs2, e, h, rfl, ?_⟩
    refine ⟨rfl, rs1, rs2, e, h, rfl, ?_⟩
    rw [← hg] at hR
    exact hR
  show dSeq _ _ _ (sR (some (.val g)) (some (.val pf)) (some (.val (.lst (ns.map D.int)))) (some (.val (.lst (M.map D.int)))) none rs1 rs2 e h none none)
  have hlv : (0 :: rs1.map Prod.snd).getLast? = some (lastV rs1 0) := by
    have z := fall_last (10 ^ 59) rs1 0
    rw [List.filter_eq_self.mpr (fun r hr => decide_eq_true (s1.2 r hr).1.2)] at z
    rw [z, fall_all _ _ _ fun r hr => (s1.2 r hr).1.2]
  refine gs_asg (.int (lastV rs1 0)) (fun k hk => ?_) ?_
  · simp only [dOp, dLst, dCons, dC, dNil]
    refine ev_r8 ?_
    rw [fAdd_l]
    refine ⟨by simp; rw [sizeLine_eq]; omega, ?_⟩
    simp only [dNeg, dC, fIx_l]
    rw [atI_end, List.singleton_append, ← List.map_cons, List.getLast?_map, hlv]
    exact hk
  show dRet _ _ (sR (some (.val g)) (some (.val pf)) (some (.val (.lst (ns.map D.int)))) (some (.val (.lst (M.map D.int)))) (some (.val (.int (lastV rs1 0)))) rs1 rs2 e h none none)
  refine go_ret (.bl true) (fun k hk => ?_) q
  rw [view_sR rfl rfl rfl rfl rfl, ← hp]
  simp only [dOp, dCB, dCons, dLst, dProp, dCallO, dMeth, dC, dNil]
  refine ⟨rfl, rs1, rs2, e, h, rfl, ?_⟩
  refine ⟨rfl, ?_⟩
  rw [fPow_i]
  refine ⟨⟨by decide, by decide, by decide⟩, rs1, rs2, e, h, _, rfl, by decide +kernel, ?_⟩
  refine ⟨rfl, lk_prof _ _ (by decide +kernel) (by decide +kernel), ?_⟩
  rw [fPow_i]
  refine ⟨⟨by decide, by decide, by decide⟩, rs1, rs2, e, h, _, rfl, ?_, ?_⟩
  · have := se.2
    show e ≤ 10 ^ 59
    omega
  have f1 : fall rs1 (10 ^ (59 : Int).toNat) 0 = lastV rs1 0 := fall_all _ _ _ fun r hr => (s1.2 r hr).1.2
  have f2 : fall rs2 (10 ^ (59 : Int).toNat) e = lastV rs1 0 := by rw [v.low]; exact fall_all _ _ _ fun r hr => (s2.2 r hr).1.2
  rw [f1, f2]
  have hlow : sm 59 (lastV rs1 0) := by rw [← f1]; exact fall_sm _ rs1 0 ⟨by omega, by omega⟩ s1.2
  have h3 : ∀ z ∈ [lastV rs1 0, lastV rs1 0, lastV rs1 0], sm 59 z := fun z hz => by
    simp at hz
    rw [hz]; exact hlow
  refine rep_ints (vs := [lastV rs1 0, lastV rs1 0, lastV rs1 0]) (n := 59) (by decide) h3 (by simp) ?_
  refine go_var (d := .int (lastV rs1 0)) rfl ?_
  rw [fMul_l]
  refine ⟨by decide, by decide, by rw [sizeLine_eq]; show 3 ≤ 16777216; decide, ?_⟩
  refine rep_ints (vs := [lastV rs1 0, lastV rs1 0, lastV rs1 0]) (n := 59) (by decide) h3 (by simp) ?_
  rw [fEq_s, decide_eq_true rfl]
  exact hk
/-! ### law -/
theorem ev_law1 {i : Int} {x1 x2 x3 : Option SV} {R : D → Prop} (i0 : 0 ≤ i) (q : ∀ far : Int, 0 < far → far ≤ 10 ^ 58 → R (.int far)) : e_law_1 K Ed [x1, x2, x3, some (.val (.int i))] R := by
  unfold e_law_1
  simp only [dOp, dLst, dCons, dC, dVar, dNil, List.getElem?_cons_zero, List.getElem?_cons_succ, fPow_i, fMod_i]
  refine ⟨⟨by decide, by decide, by decide⟩, by decide, ?_⟩
  have h0 := Int.emod_nonneg i (show (3 : Int) ≠ 0 by decide)
  have h1 := Int.emod_lt_of_pos i (show (0 : Int) < 3 by decide)
  have big : (40 : Int) ≤ 10 ^ 58 := by decide +kernel
  rw [fIx_l]
  generalize i % 3 = j at *
  have hj : j = 0 ∨ j = 1 ∨ j = 2 := by omega
  rcases hj with rfl | rfl | rfl
  · rw [atI_0]; exact q 4 (by decide) (by omega)
  · rw [atI_1]; exact q 40 (by decide) big
  · rw [atI_2]; exact q _ (by decide +kernel) (Int.le_refl _)
theorem ev_law3 {ns : List Int} {x2 o3 : Option SV} {R : D → Prop} (q : ∀ bs : List Bool, bs.all id = true → R (.lst (bs.map D.bl))) : e_law_3 K Ed [some (.val (.scr ns)), x2, some (.val .pot), o3] R := by
  unfold e_law_3
  simp only [dStay, fLc, iRange1, dCons, dC, dNil]
  refine ⟨by rw [sizeLine_eq]; decide, by decide, ?_⟩
  refine lcl_map (fun _ => .bl true) (fun x hx R hR => ?_) ?_
  · obtain ⟨i, _, rfl⟩ := List.mem_map.mp hx
    simp only [gT]
    unfold e_law_2
    show dCall _ _ _ [some (.val (.scr ns)), x2, some (.val .pot), some (.val (.int (0 + (i : Int) * 1)))] _
    simp only [dCall, dCons, dC, dNil]
    refine go_var (d := .pot) rfl ?_
    refine ev_law1 (by omega) fun far f0 f1 => ?_
    refine ⟨far, rfl, f0, f1, fun rs1 rs2 e h v s1 s2 se sh => ?_⟩
    exact ⟨rs1, rs2, e, h, rfl, v, s1, s2, se, sh, hR⟩
  · have := q ((steps 0 1 (6 : Int).toNat).map fun _ => true) (by simp)
    rwa [List.map_map] at this
theorem rd_law (h : T_law K ds Q Ed) : t_law K Ed (en Q) (st0 N_law ds) := by
  obtain ⟨ns, rfl, q⟩ := h
  unfold t_law
  have loop : ∀ (items : List Nat) (o1 o2 o3 : Option SV), (∀ i ∈ items, i < 100) → dLoop (.nm 1) (b_law_4 K Ed) { nx := dRet (dC (.bl true)) (en Q), rt := Q } (items.map fun (k : Nat) => D.int (0 + (k : Int) * 1)) [some (.val (.scr ns)), o1, o2, o3] := by
    intro items
    induction items with
    | nil =>
      intro o1 o2 o3 _
      unfold dLoop
      exact q
    | cons i items ih =>
      intro o1 o2 o3 hi
      rw [List.map_cons]
      unfold dLoop
      simp only [gT]
      show b_law_4 K Ed _ [some (.val (.scr ns)), some (.val (.int (0 + (i : Int) * 1))), o2, o3]
      unfold b_law_4
      simp only [dSeq, dAsg, gT, dCall, dCons, dNil]
      refine go_var (d := .scr ns) rfl (go_var (d := .int (0 + (i : Int) * 1)) rfl ?_)
      refine ⟨ns, i, by simp, hi i List.mem_cons_self, ?_⟩
      show dIf _ _ _ _ [some (.val (.scr ns)), some (.val (.int (0 + (i : Int) * 1))), some (.val .pot), o3]
      simp only [dIf, dNot, dTest, dCB, dCons, dNil]
      show e_law_3 K Ed [some (.val (.scr ns)), some (.val (.int (0 + (i : Int) * 1))), some (.val .pot), o3.map SV.view] _
      refine ev_law3 fun bs hb => ?_
      rw [fAll_l]
      refine ⟨bs, asBls_map _, ?_⟩
      simp only [hb, Bool.not_true, Bool.false_eq_true, if_false, dNext]
      exact ih _ _ _ fun z hz => hi z (List.mem_cons_of_mem _ hz)
  show dSeq _ _ _ [some (.val (.scr ns)), none, none, none]
  simp only [dSeq, dFor, iRange1, dCons, dCB, dC, dNil]
  refine go_var (d := .scr ns) rfl ?_
  rw [fLen_scr, fMin2_i, fMax2_i]
  have hb : (if (if ((ns.length : Nat) : Int) < 6 then ((ns.length : Nat) : Int) else 6) > 1 then (if ((ns.length : Nat) : Int) < 6 then ((ns.length : Nat) : Int) else 6) else 1) ≤ 6 ∧ 1 ≤ (if (if ((ns.length : Nat) : Int) < 6 then ((ns.length : Nat) : Int) else 6) > 1 then (if ((ns.length : Nat) : Int) < 6 then ((ns.length : Nat) : Int) else 6) else 1) := by
    split <;> split <;> omega
  generalize (if (if ((ns.length : Nat) : Int) < 6 then ((ns.length : Nat) : Int) else 6) > 1 then (if ((ns.length : Nat) : Int) < 6 then ((ns.length : Nat) : Int) else 6) else 1) = n at *
  refine ⟨by rw [sizeLine_eq]; omega, by omega, ?_⟩
  refine loop _ _ _ _ fun i hi => ?_
  have := List.mem_range.mp hi
  omega
/-! ### lengths -/
theorem len_is_integer (h : T_is_integer K ds Q Ed) : ds.length = 1 := by obtain ⟨_, _, rfl, _⟩ := h; rfl
theorem len_is_count (h : T_is_count K ds Q Ed) : ds.length = 1 := by obtain ⟨_, rfl, _⟩ := h; rfl
theorem len_is_row (h : T_is_row K ds Q Ed) : ds.length = 1 := by obtain ⟨_, rfl, _⟩ := h; rfl
theorem len_are_rows (h : T_are_rows K ds Q Ed) : ds.length = 2 := by obtain ⟨_, _, _, rfl, _⟩ := h; rfl
theorem len_last_valley (h : T_last_valley K ds Q Ed) : ds.length = 2 := by obtain ⟨_, _, _, rfl, _⟩ := h; rfl
theorem len_greatest_peak (h : T_greatest_peak K ds Q Ed) : ds.length = 2 := by obtain ⟨_, _, _, rfl, _⟩ := h; rfl
theorem len_problem_of (h : T_problem_of K ds Q Ed) : ds.length = 4 := by obtain ⟨_, _, _, _, _, _, rfl, _⟩ := h; rfl
theorem len_fallen (h : T_fallen K ds Q Ed) : ds.length = 3 := by obtain ⟨_, _, _, _, rfl, _⟩ := h; rfl
theorem len_Profile___init__ (h : T_Profile___init__ K ds Q Ed) : (ds ++ []).length + 1 = 5 := by obtain ⟨_, _, _, _, _, _, rfl, _⟩ := h; rfl
theorem len_Profile_end (h : T_Profile_end K ds Q Ed) : ds.length = 1 := by obtain ⟨_, _, _, _, rfl, _⟩ := h; rfl
theorem len_Profile_height (h : T_Profile_height K ds Q Ed) : ds.length = 1 := by obtain ⟨_, _, _, _, rfl, _⟩ := h; rfl
theorem len_Profile_lowest (h : T_Profile_lowest K ds Q Ed) : ds.length = 1 := by obtain ⟨_, _, _, _, rfl, _⟩ := h; rfl
theorem len_Profile_descent (h : T_Profile_descent K ds Q Ed) : ds.length = 1 := by obtain ⟨_, _, _, _, rfl, _⟩ := h; rfl
theorem len_Profile_ascent (h : T_Profile_ascent K ds Q Ed) : ds.length = 1 := by obtain ⟨_, _, _, _, rfl, _⟩ := h; rfl
theorem len_Profile_back (h : T_Profile_back K ds Q Ed) : ds.length = 2 := by obtain ⟨_, _, _, _, _, rfl, _⟩ := h; rfl
theorem len_Profile___call__ (h : T_Profile___call__ K ds Q Ed) : ds.length = 2 := by obtain ⟨_, _, _, _, _, rfl, _⟩ := h; rfl
theorem len__law_pot (h : T__law_pot K ds Q Ed) : ds.length = 2 := by obtain ⟨_, _, rfl, _⟩ := h; rfl
theorem len__law_rows_down (h : T__law_rows_down K ds Q Ed) : ds.length = 4 := by obtain ⟨_, _, _, rfl, _⟩ := h; rfl
theorem len__law_values (h : T__law_values K ds Q Ed) : ds.length = 3 := by obtain ⟨_, rfl, _⟩ := h; rfl
theorem len__law_at (h : T__law_at K ds Q Ed) : ds.length = 3 := by obtain ⟨_, _, _, rfl, _⟩ := h; rfl
theorem len__law_right (h : T__law_right K ds Q Ed) : ds.length = 1 := by obtain ⟨_, _, _, _, rfl, _⟩ := h; rfl
theorem len_law (h : T_law K ds Q Ed) : ds.length = 1 := by obtain ⟨_, rfl, _⟩ := h; rfl
end
end K36

namespace K36
open PySem.Spec PySem L2 PyProof.Rows FG
open He (ga ma Fa Dv)
structure Fx (K : PySem.W.Frag) (mg : Str → Option Value) : Prop where
  d_is_integer : ∃ fd, FunD K "is_integer" "is_integer" (defArgs st_is_integer) (defBody st_is_integer) (defScope st_is_integer) [] [] (ga K "is_integer") fd
  d_is_count : ∃ fd, FunD K "is_count" "is_count" (defArgs st_is_count) (defBody st_is_count) (defScope st_is_count) [] [] (ga K "is_count") fd
  d_is_row : ∃ fd, FunD K "is_row" "is_row" (defArgs st_is_row) (defBody st_is_row) (defScope st_is_row) [] [] (ga K "is_row") fd
  d_are_rows : ∃ fd, FunD K "are_rows" "are_rows" (defArgs st_are_rows) (defBody st_are_rows) (defScope st_are_rows) [] [] (ga K "are_rows") fd
  d_last_valley : ∃ fd, FunD K "last_valley" "last_valley" (defArgs st_last_valley) (defBody st_last_valley) (defScope st_last_valley) [] [] (ga K "last_valley") fd
  d_greatest_peak : ∃ fd, FunD K "greatest_peak" "greatest_peak" (defArgs st_greatest_peak) (defBody st_greatest_peak) (defScope st_greatest_peak) [] [] (ga K "greatest_peak") fd
  d_problem_of : ∃ fd, FunD K "problem_of" "problem_of" (defArgs st_problem_of) (defBody st_problem_of) (defScope st_problem_of) [] [] (ga K "problem_of") fd
  d_fallen : ∃ fd, FunD K "fallen" "fallen" (defArgs st_fallen) (defBody st_fallen) (defScope st_fallen) [] [] (ga K "fallen") fd
  d_Profile___init__ : ∃ fd, FunD K "__init__" "Profile.__init__" (defArgs st_Profile___init__) (defBody st_Profile___init__) (defScope st_Profile___init__) [Dv.v K (.adr (He.dflAt ("Profile", some "__init__") 0)), Dv.v K (.adr (He.dflAt ("Profile", some "__init__") 1)), Dv.v K (.int 0), Dv.v K (.int 0)] [] (ma K (ga K "Profile") "__init__") fd
  d_Profile_end : ∃ fd, FunD K "end" "Profile.end" (defArgs st_Profile_end) (defBody st_Profile_end) (defScope st_Profile_end) [] [] (gtAd K (ga K "Profile") "end") fd
  d_Profile_height : ∃ fd, FunD K "height" "Profile.height" (defArgs st_Profile_height) (defBody st_Profile_height) (defScope st_Profile_height) [] [] (gtAd K (ga K "Profile") "height") fd
  d_Profile_lowest : ∃ fd, FunD K "lowest" "Profile.lowest" (defArgs st_Profile_lowest) (defBody st_Profile_lowest) (defScope st_Profile_lowest) [] [] (gtAd K (ga K "Profile") "lowest") fd
  d_Profile_descent : ∃ fd, FunD K "descent" "Profile.descent" (defArgs st_Profile_descent) (defBody st_Profile_descent) (defScope st_Profile_descent) [] [] (ma K (ga K "Profile") "descent") fd
  d_Profile_ascent : ∃ fd, FunD K "ascent" "Profile.ascent" (defArgs st_Profile_ascent) (defBody st_Profile_ascent) (defScope st_Profile_ascent) [] [] (ma K (ga K "Profile") "ascent") fd
  d_Profile_back : ∃ fd, FunD K "back" "Profile.back" (defArgs st_Profile_back) (defBody st_Profile_back) (defScope st_Profile_back) [] [] (ma K (ga K "Profile") "back") fd
  d_Profile___call__ : ∃ fd, FunD K "__call__" "Profile.__call__" (defArgs st_Profile___call__) (defBody st_Profile___call__) (defScope st_Profile___call__) [] [] (ma K (ga K "Profile") "__call__") fd
  d__law_pot : ∃ fd, FunD K "_law_pot" "_law_pot" (defArgs st__law_pot) (defBody st__law_pot) (defScope st__law_pot) [] [] (ga K "_law_pot") fd
  d__law_draw : ∃ fd, FunD K "_law_draw" "_law_draw" (defArgs st__law_draw) (defBody st__law_draw) (defScope st__law_draw) [] [] (ga K "_law_draw") fd
  d__law_rows_down : ∃ fd, FunD K "_law_rows_down" "_law_rows_down" (defArgs st__law_rows_down) (defBody st__law_rows_down) (defScope st__law_rows_down) [] [] (ga K "_law_rows_down") fd
  d__law_values : ∃ fd, FunD K "_law_values" "_law_values" (defArgs st__law_values) (defBody st__law_values) (defScope st__law_values) [] [] (ga K "_law_values") fd
  d__law_at : ∃ fd, FunD K "_law_at" "_law_at" (defArgs st__law_at) (defBody st__law_at) (defScope st__law_at) [] [] (ga K "_law_at") fd
  d__law_right : ∃ fd, FunD K "_law_right" "_law_right" (defArgs st__law_right) (defBody st__law_right) (defScope st__law_right) [] [] (ga K "_law_right") fd
  d_law : ∃ fd, FunD K "law" "law" (defArgs st_law) (defBody st_law) (defScope st_law) [] [] (ga K "law") fd
  g_Profile : mg "Profile" = some (.ref (ga K "Profile"))
  g__law_at : mg "_law_at" = some (.ref (ga K "_law_at"))
  g__law_draw : mg "_law_draw" = some (.ref (ga K "_law_draw"))
  g__law_pot : mg "_law_pot" = some (.ref (ga K "_law_pot"))
  g__law_right : mg "_law_right" = some (.ref (ga K "_law_right"))
  g__law_rows_down : mg "_law_rows_down" = some (.ref (ga K "_law_rows_down"))
  g__law_values : mg "_law_values" = some (.ref (ga K "_law_values"))
  g_are_rows : mg "are_rows" = some (.ref (ga K "are_rows"))
  g_fallen : mg "fallen" = some (.ref (ga K "fallen"))
  g_greatest_peak : mg "greatest_peak" = some (.ref (ga K "greatest_peak"))
  g_is_count : mg "is_count" = some (.ref (ga K "is_count"))
  g_is_integer : mg "is_integer" = some (.ref (ga K "is_integer"))
  g_is_row : mg "is_row" = some (.ref (ga K "is_row"))
  g_last_valley : mg "last_valley" = some (.ref (ga K "last_valley"))
  g_law : mg "law" = some (.ref (ga K "law"))
  g_problem_of : mg "problem_of" = some (.ref (ga K "problem_of"))
  f_abs : mg "abs" = none
  f_all : mg "all" = none
  f_bool : mg "bool" = none
  f_divmod : mg "divmod" = none
  f_int : mg "int" = none
  f_isinstance : mg "isinstance" = none
  f_len : mg "len" = none
  f_list : mg "list" = none
  f_max : mg "max" = none
  f_min : mg "min" = none
  f_range : mg "range" = none
  f_repr : mg "repr" = none
  f_sorted : mg "sorted" = none
  f_tuple : mg "tuple" = none
  c_Profile : Cls K (ga K "Profile")
  mk_Profile : Mk K (ga K "Profile") (ma K (ga K "Profile") "__init__")
  n_Profile_own_lowest : NoAttr K (ga K "Profile") "own_lowest"
  n_Profile_own_plain : NoAttr K (ga K "Profile") "own_plain"
  p_Profile_end : PropOf K (ga K "Profile") "end" (prAd K (ga K "Profile") "end") (gtAd K (ga K "Profile") "end")
  p_Profile_height : PropOf K (ga K "Profile") "height" (prAd K (ga K "Profile") "height") (gtAd K (ga K "Profile") "height")
  p_Profile_lowest : PropOf K (ga K "Profile") "lowest" (prAd K (ga K "Profile") "lowest") (gtAd K (ga K "Profile") "lowest")
  m_Profile_ascent : Meth K (ga K "Profile") "ascent" (ma K (ga K "Profile") "ascent")
  m_Profile_back : Meth K (ga K "Profile") "back" (ma K (ga K "Profile") "back")
  m_Profile_descent : Meth K (ga K "Profile") "descent" (ma K (ga K "Profile") "descent")
  co_Profile : StX.CallO K (ga K "Profile") (ma K (ga K "Profile") "__call__")
def exs (K : PySem.W.Frag) : List Bool := [(Fa.glo "Profile").ok K, (Fa.glo "_law_at").ok K, (Fa.glo "_law_draw").ok K, (Fa.glo "_law_pot").ok K, (Fa.glo "_law_right").ok K, (Fa.glo "_law_rows_down").ok K, (Fa.glo "_law_values").ok K, (Fa.glo "are_rows").ok K, (Fa.glo "fallen").ok K, (Fa.glo "greatest_peak").ok K, (Fa.glo "is_count").ok K, (Fa.glo "is_integer").ok K, (Fa.glo "is_row").ok K, (Fa.glo "last_valley").ok K, (Fa.glo "law").ok K, (Fa.glo "problem_of").ok K, (Fa.free "abs").ok K, (Fa.free "all").ok K, (Fa.free "bool").ok K, (Fa.free "divmod").ok K, (Fa.free "int").ok K, (Fa.free "isinstance").ok K, (Fa.free "len").ok K, (Fa.free "list").ok K, (Fa.free "max").ok K, (Fa.free "min").ok K, (Fa.free "range").ok K, (Fa.free "repr").ok K, (Fa.free "sorted").ok K, (Fa.free "tuple").ok K, (Fa.cls "Profile").ok K, (Fa.mkr "Profile").ok K, (Fa.noat "Profile" "own_lowest").ok K, (Fa.noat "Profile" "own_plain").ok K, propB K "Profile" "end", propB K "Profile" "height", propB K "Profile" "lowest", (Fa.meth "Profile" "ascent").ok K, (Fa.meth "Profile" "back").ok K, (Fa.meth "Profile" "descent").ok K, callB K "Profile"]
def ex (K : PySem.W.Frag) : Bool := (exs K).all id
def defs : List DefP := [⟨.glo "is_integer", "is_integer", "is_integer", defArgs st_is_integer, defBody st_is_integer, defScope st_is_integer, []⟩,
  ⟨.glo "is_count", "is_count", "is_count", defArgs st_is_count, defBody st_is_count, defScope st_is_count, []⟩,
  ⟨.glo "is_row", "is_row", "is_row", defArgs st_is_row, defBody st_is_row, defScope st_is_row, []⟩,
  ⟨.glo "are_rows", "are_rows", "are_rows", defArgs st_are_rows, defBody st_are_rows, defScope st_are_rows, []⟩,
  ⟨.glo "last_valley", "last_valley", "last_valley", defArgs st_last_valley, defBody st_last_valley, defScope st_last_valley, []⟩,
  ⟨.glo "greatest_peak", "greatest_peak", "greatest_peak", defArgs st_greatest_peak, defBody st_greatest_peak, defScope st_greatest_peak, []⟩,
  ⟨.glo "problem_of", "problem_of", "problem_of", defArgs st_problem_of, defBody st_problem_of, defScope st_problem_of, []⟩,
  ⟨.glo "fallen", "fallen", "fallen", defArgs st_fallen, defBody st_fallen, defScope st_fallen, []⟩,
  ⟨.meth "Profile" "__init__", "__init__", "Profile.__init__", defArgs st_Profile___init__, defBody st_Profile___init__, defScope st_Profile___init__, [.adr (He.dflAt ("Profile", some "__init__") 0), .adr (He.dflAt ("Profile", some "__init__") 1), .int 0, .int 0]⟩,
  ⟨.get "Profile" "end", "end", "Profile.end", defArgs st_Profile_end, defBody st_Profile_end, defScope st_Profile_end, []⟩,
  ⟨.get "Profile" "height", "height", "Profile.height", defArgs st_Profile_height, defBody st_Profile_height, defScope st_Profile_height, []⟩,
  ⟨.get "Profile" "lowest", "lowest", "Profile.lowest", defArgs st_Profile_lowest, defBody st_Profile_lowest, defScope st_Profile_lowest, []⟩,
  ⟨.meth "Profile" "descent", "descent", "Profile.descent", defArgs st_Profile_descent, defBody st_Profile_descent, defScope st_Profile_descent, []⟩,
  ⟨.meth "Profile" "ascent", "ascent", "Profile.ascent", defArgs st_Profile_ascent, defBody st_Profile_ascent, defScope st_Profile_ascent, []⟩,
  ⟨.meth "Profile" "back", "back", "Profile.back", defArgs st_Profile_back, defBody st_Profile_back, defScope st_Profile_back, []⟩,
  ⟨.meth "Profile" "__call__", "__call__", "Profile.__call__", defArgs st_Profile___call__, defBody st_Profile___call__, defScope st_Profile___call__, []⟩,
  ⟨.glo "_law_pot", "_law_pot", "_law_pot", defArgs st__law_pot, defBody st__law_pot, defScope st__law_pot, []⟩,
  ⟨.glo "_law_draw", "_law_draw", "_law_draw", defArgs st__law_draw, defBody st__law_draw, defScope st__law_draw, []⟩,
  ⟨.glo "_law_rows_down", "_law_rows_down", "_law_rows_down", defArgs st__law_rows_down, defBody st__law_rows_down, defScope st__law_rows_down, []⟩,
  ⟨.glo "_law_values", "_law_values", "_law_values", defArgs st__law_values, defBody st__law_values, defScope st__law_values, []⟩,
  ⟨.glo "_law_at", "_law_at", "_law_at", defArgs st__law_at, defBody st__law_at, defScope st__law_at, []⟩,
  ⟨.glo "_law_right", "_law_right", "_law_right", defArgs st__law_right, defBody st__law_right, defScope st__law_right, []⟩,
  ⟨.glo "law", "law", "law", defArgs st_law, defBody st_law, defScope st_law, []⟩]
theorem all_at {K : PySem.W.Frag} (h : ex K = true) (i : Nat) {b : Bool} (e : (exs K)[i]? = some b := by rfl) : b = true := List.all_eq_true.mp h b (List.mem_of_getElem? e)
theorem fx_of {K : PySem.W.Frag} {h : Heap} {mg : Str → Option Value} (X : K.In h) (G : h.Ns mainGlobals mg) (c : SaysF ex defs K) : Fx K mg := by
  constructor
  · exact c.fund 0
  · exact c.fund 1
  · exact c.fund 2
  · exact c.fund 3
  · exact c.fund 4
  · exact c.fund 5
  · exact c.fund 6
  · exact c.fund 7
  · exact c.fund 8
  · exact c.fund 9
  · exact c.fund 10
  · exact c.fund 11
  · exact c.fund 12
  · exact c.fund 13
  · exact c.fund 14
  · exact c.fund 15
  · exact c.fund 16
  · exact c.fund 17
  · exact c.fund 18
  · exact c.fund 19
  · exact c.fund 20
  · exact c.fund 21
  · exact c.fund 22
  · exact He.glo_ok X G (all_at (c.yes) 0)
  · exact He.glo_ok X G (all_at (c.yes) 1)
  · exact He.glo_ok X G (all_at (c.yes) 2)
  · exact He.glo_ok X G (all_at (c.yes) 3)
  · exact He.glo_ok X G (all_at (c.yes) 4)
  · exact He.glo_ok X G (all_at (c.yes) 5)
  · exact He.glo_ok X G (all_at (c.yes) 6)
  · exact He.glo_ok X G (all_at (c.yes) 7)
  · exact He.glo_ok X G (all_at (c.yes) 8)
  · exact He.glo_ok X G (all_at (c.yes) 9)
  · exact He.glo_ok X G (all_at (c.yes) 10)
  · exact He.glo_ok X G (all_at (c.yes) 11)
  · exact He.glo_ok X G (all_at (c.yes) 12)
  · exact He.glo_ok X G (all_at (c.yes) 13)
  · exact He.glo_ok X G (all_at (c.yes) 14)
  · exact He.glo_ok X G (all_at (c.yes) 15)
  · exact He.free_ok X G (all_at (c.yes) 16)
  · exact He.free_ok X G (all_at (c.yes) 17)
  · exact He.free_ok X G (all_at (c.yes) 18)
  · exact He.free_ok X G (all_at (c.yes) 19)
  · exact He.free_ok X G (all_at (c.yes) 20)
  · exact He.free_ok X G (all_at (c.yes) 21)
  · exact He.free_ok X G (all_at (c.yes) 22)
  · exact He.free_ok X G (all_at (c.yes) 23)
  · exact He.free_ok X G (all_at (c.yes) 24)
  · exact He.free_ok X G (all_at (c.yes) 25)
  · exact He.free_ok X G (all_at (c.yes) 26)
  · exact He.free_ok X G (all_at (c.yes) 27)
  · exact He.free_ok X G (all_at (c.yes) 28)
  · exact He.free_ok X G (all_at (c.yes) 29)
  · exact He.cls_ok (all_at (c.yes) 30)
  · exact He.mkr_ok (all_at (c.yes) 31)
  · exact He.noat_ok (all_at (c.yes) 32)
  · exact He.noat_ok (all_at (c.yes) 33)
  · exact propB_ok (all_at (c.yes) 34)
  · exact propB_ok (all_at (c.yes) 35)
  · exact propB_ok (all_at (c.yes) 36)
  · exact He.meth_ok (all_at (c.yes) 37)
  · exact He.meth_ok (all_at (c.yes) 38)
  · exact He.meth_ok (all_at (c.yes) 39)
  · exact callB_ok (all_at (c.yes) 40)
section
variable {w : World} {P : Program} {mg : Str → Option Value} {K : PySem.W.Frag} {base : Heap}
theorem bd_is_integer (F : Fx K mg) (cdv : Value) (A : Around) (outer : List Env) (s : Shared) (H : Hp) (E : XK) (B : Base) (Ed : Exn → Prop) (hg : false = true → A.guards = some []) (hr : Room 0 (A.deeper (envOfC "is_integer" (defScope st_is_integer) s.heap.objs.size (ga K "is_integer") cdv)))
    (hw : Wish (cxOf (L2.CX P w) P w K mg base N_is_integer "is_integer" (defScope st_is_integer) (ga K "is_integer") cdv A outer s H E) B (fun e _ => Ed e)) : DSs (cxOf (L2.CX P w) P w K mg base N_is_integer "is_integer" (defScope st_is_integer) (ga K "is_integer") cdv A outer s H E) B (defBody st_is_integer) (t_is_integer K Ed) :=
  dss_one (ds_ret (de_and (de_callB call_isi cd_isi (by rfl) (by exact F.f_isinstance) b_isinstance (da_cons (de_var (pv 0)) (da_cons (de_ty (by exact F.f_int) (by rfl) b_int) da_nil))) (de_one (de_not (de_callB call_isi cd_isi (by rfl) (by exact F.f_isinstance) b_isinstance (da_cons (de_var (pv 0)) (da_cons (de_ty (by exact F.f_bool) (by rfl) b_bool) da_nil)))))))
theorem fn_is_integer (F : Fx K mg) : Fn false P w K mg base 1 (ga K "is_integer") (T_is_integer K) := by
  obtain ⟨fd, D⟩ := F.d_is_integer
  exact dfn (t := t_is_integer K) (dfl := []) D sc_is_integer (D.bindsN fun _ _ _ _ _ _ us hl => match us, hl with | [_], _ => rfl) .nil (fun _ _ => .nil) (fun ds Q E h => by rw [List.append_nil]; exact len_is_integer h) (fun cdv A outer s H E B Ed hg hr hM hw => bd_is_integer F cdv A outer s H E B Ed hg hr hw) (fun ds Q Ed h => by rw [List.append_nil]; exact rd_is_integer h)
theorem bd_is_count (F : Fx K mg) (cdv : Value) (A : Around) (outer : List Env) (s : Shared) (H : Hp) (E : XK) (B : Base) (Ed : Exn → Prop) (hg : false = true → A.guards = some []) (hr : Room 1 (A.deeper (envOfC "is_count" (defScope st_is_count) s.heap.objs.size (ga K "is_count") cdv)))
    (hw : Wish (cxOf (L2.CX P w) P w K mg base N_is_count "is_count" (defScope st_is_count) (ga K "is_count") cdv A outer s H E) B (fun e _ => Ed e)) : DSs (cxOf (L2.CX P w) P w K mg base N_is_count "is_count" (defScope st_is_count) (ga K "is_count") cdv A outer s H E) B (defBody st_is_count) (t_is_count K Ed) :=
  dss_one (ds_ret (de_and (de_call (by exact fn_is_integer F) (by nofun) (by exact hr.mono (by decide)) (by rfl) (by exact F.g_is_integer) (by exact F.d_is_integer.elim fun _ D => D.kp) (by exact hw) (da_cons (de_var (pv 0)) da_nil)) (de_one (de_cmp op_ge od_int (de_var (pv 0)) de_int (by rfl)))))
theorem fn_is_count (F : Fx K mg) : Fn false P w K mg base 2 (ga K "is_count") (T_is_count K) := by
  obtain ⟨fd, D⟩ := F.d_is_count
  exact dfn (t := t_is_count K) (dfl := []) D sc_is_count (D.bindsN fun _ _ _ _ _ _ us hl => match us, hl with | [_], _ => rfl) .nil (fun _ _ => .nil) (fun ds Q E h => by rw [List.append_nil]; exact len_is_count h) (fun cdv A outer s H E B Ed hg hr hM hw => bd_is_count F cdv A outer s H E B Ed hg hr hw) (fun ds Q Ed h => by rw [List.append_nil]; exact rd_is_count h)
theorem bd_is_row (F : Fx K mg) (cdv : Value) (A : Around) (outer : List Env) (s : Shared) (H : Hp) (E : XK) (B : Base) (Ed : Exn → Prop) (hg : false = true → A.guards = some []) (hr : Room 1 (A.deeper (envOfC "is_row" (defScope st_is_row) s.heap.objs.size (ga K "is_row") cdv)))
    (hw : Wish (cxOf (L2.CX P w) P w K mg base N_is_row "is_row" (defScope st_is_row) (ga K "is_row") cdv A outer s H E) B (fun e _ => Ed e)) : DSs (cxOf (L2.CX P w) P w K mg base N_is_row "is_row" (defScope st_is_row) (ga K "is_row") cdv A outer s H E) B (defBody st_is_row) (t_is_row K Ed) :=
  dss_one (ds_ret (de_and (de_callB call_isi cd_isi (by rfl) (by exact F.f_isinstance) b_isinstance (da_cons (de_var (pv 0)) (da_cons (de_ty (by exact F.f_tuple) (by rfl) b_tuple) da_nil))) (de_and (de_cmp (op_eqDD (by exact hr.units)) od_eq (de_callB call_len cd_len (by rfl) (by exact F.f_len) b_len (da_cons (de_var (pv 0)) da_nil)) de_int (by rfl)) (de_and (de_call (by exact fn_is_integer F) (by nofun) (by exact hr.mono (by decide)) (by rfl) (by exact F.g_is_integer) (by exact F.d_is_integer.elim fun _ D => D.kp) (by exact hw) (da_cons (de_ix (de_var (pv 0)) de_int) da_nil)) (de_one (de_call (by exact fn_is_integer F) (by nofun) (by exact hr.mono (by decide)) (by rfl) (by exact F.g_is_integer) (by exact F.d_is_integer.elim fun _ D => D.kp) (by exact hw) (da_cons (de_ix (de_var (pv 0)) de_int) da_nil)))))))
theorem fn_is_row (F : Fx K mg) : Fn false P w K mg base 2 (ga K "is_row") (T_is_row K) := by
  obtain ⟨fd, D⟩ := F.d_is_row
  exact dfn (t := t_is_row K) (dfl := []) D sc_is_row (D.bindsN fun _ _ _ _ _ _ us hl => match us, hl with | [_], _ => rfl) .nil (fun _ _ => .nil) (fun ds Q E h => by rw [List.append_nil]; exact len_is_row h) (fun cdv A outer s H E B Ed hg hr hM hw => bd_is_row F cdv A outer s H E B Ed hg hr hw) (fun ds Q Ed h => by rw [List.append_nil]; exact rd_is_row h)
theorem bd_are_rows (F : Fx K mg) (cdv : Value) (A : Around) (outer : List Env) (s : Shared) (H : Hp) (E : XK) (B : Base) (Ed : Exn → Prop) (hg : false = true → A.guards = some []) (hr : Room 2 (A.deeper (envOfC "are_rows" (defScope st_are_rows) s.heap.objs.size (ga K "are_rows") cdv)))
    (hw : Wish (cxOf (L2.CX P w) P w K mg base N_are_rows "are_rows" (defScope st_are_rows) (ga K "are_rows") cdv A outer s H E) B (fun e _ => Ed e)) : DSs (cxOf (L2.CX P w) P w K mg base N_are_rows "are_rows" (defScope st_are_rows) (ga K "are_rows") cdv A outer s H E) B (defBody st_are_rows) (t_are_rows K Ed) :=
  dss_cons (ds_if (dt_w (dw_or (dt_not (dt_val (de_isiT (by rfl) (by exact F.f_isinstance) (de_var (pv 0)) (pa_cons (pe_bltn (v := .ty "list") (by rfl) (by exact F.f_list) b_list (by rfl)) (pa_cons (pe_bltn (v := .ty "tuple") (by rfl) (by exact F.f_tuple) b_tuple (by rfl)) pa_nil))))) (dw_or1 (dt_not (dt_val (de_callB (cr_all (by rfl)) cd_all (by rfl) (by exact F.f_all) b_all (da_cons (de_stay (df_lc (own := [("row", 3)]) (by rfl) (by exact sc_are_rows.nd) (di_seq (de_var (pv 0))) (by exact blkOk_by (own := [("row", 3)]) (N := N_are_rows) (sc := defScope st_are_rows) (by decide +kernel)) (fun _ _ _ _ _ => (dg_name (pg_name (i := 3) (by exact sc_are_rows.nd) (by rfl) (by first | exact Or.inl rfl | exact Or.inr rfl)))) (fun _ _ _ _ _ => dts_nil) (fun _ _ _ _ _ => de_call (by exact fn_is_row F) (by nofun) (by exact hr.mono (by decide)) (by rfl) (by exact F.g_is_row) (by exact F.d_is_row.elim fun _ D => D.kp) wish_no (da_cons (de_var (pv 3)) da_nil)) (by decide))) da_nil))))))) (dss_one (ds_ret de_bl)) dss_nil) (dss_cons (ds_asg (de_tup (da_cons (de_op op_sub od_sub (de_var (pv 1)) de_int) (da_cons (de_var (pv 1)) da_nil))) (dg_name (pg_name (i := 2) (by exact sc_are_rows.nd) (by rfl) (by first | exact Or.inl rfl | exact Or.inr rfl)))) (dss_cons (ds_for (passes_of (by rfl)) (by rfl) (di_seq (de_var (pv 0))) (dg_name (pg_name (i := 3) (by exact sc_are_rows.nd) (by rfl) (by first | exact Or.inl rfl | exact Or.inr rfl))) (dss_cons (ds_if (dt_w (dw_or (dt_cmp op_le od_int (de_ix (de_var (pv 3)) de_int) (de_ix (de_var (pv 2)) de_int) (by rfl)) (dw_or1 (dt_cmp op_ge od_int (de_ix (de_var (pv 3)) de_int) (de_ix (de_var (pv 2)) de_int) (by rfl))))) (dss_one (ds_ret de_bl)) dss_nil) (dss_one (ds_asg (de_var (pv 3)) (dg_name (pg_name (i := 2) (by exact sc_are_rows.nd) (by rfl) (by first | exact Or.inl rfl | exact Or.inr rfl))))))) (dss_one (ds_ret de_bl))))
theorem fn_are_rows (F : Fx K mg) : Fn false P w K mg base 3 (ga K "are_rows") (T_are_rows K) := by
  obtain ⟨fd, D⟩ := F.d_are_rows
  exact dfn (t := t_are_rows K) (dfl := []) D sc_are_rows (D.bindsN fun _ _ _ _ _ _ us hl => match us, hl with | [_, _], _ => rfl) .nil (fun _ _ => .nil) (fun ds Q E h => by rw [List.append_nil]; exact len_are_rows h) (fun cdv A outer s H E B Ed hg hr hM hw => bd_are_rows F cdv A outer s H E B Ed hg hr hw) (fun ds Q Ed h => by rw [List.append_nil]; exact rd_are_rows h)
theorem bd_last_valley (F : Fx K mg) (cdv : Value) (A : Around) (outer : List Env) (s : Shared) (H : Hp) (E : XK) (B : Base) (Ed : Exn → Prop) (hg : false = true → A.guards = some []) (hr : Room 0 (A.deeper (envOfC "last_valley" (defScope st_last_valley) s.heap.objs.size (ga K "last_valley") cdv)))
    (hw : Wish (cxOf (L2.CX P w) P w K mg base N_last_valley "last_valley" (defScope st_last_valley) (ga K "last_valley") cdv A outer s H E) B (fun e _ => Ed e)) : DSs (cxOf (L2.CX P w) P w K mg base N_last_valley "last_valley" (defScope st_last_valley) (ga K "last_valley") cdv A outer s H E) B (defBody st_last_valley) (t_last_valley K Ed) :=
  dss_one (ds_ret (de_if (dt_cmp op_gt od_int (de_callB call_len cd_len (by rfl) (by exact F.f_len) b_len (da_cons (de_var (pv 0)) da_nil)) de_int (by rfl)) (de_ix (de_ix (de_var (pv 0)) (de_neg de_int)) de_int) (de_var (pv 1))))
theorem fn_last_valley (F : Fx K mg) : Fn false P w K mg base 1 (ga K "last_valley") (T_last_valley K) := by
  obtain ⟨fd, D⟩ := F.d_last_valley
  exact dfn (t := t_last_valley K) (dfl := []) D sc_last_valley (D.bindsN fun _ _ _ _ _ _ us hl => match us, hl with | [_, _], _ => rfl) .nil (fun _ _ => .nil) (fun ds Q E h => by rw [List.append_nil]; exact len_last_valley h) (fun cdv A outer s H E B Ed hg hr hM hw => bd_last_valley F cdv A outer s H E B Ed hg hr hw) (fun ds Q Ed h => by rw [List.append_nil]; exact rd_last_valley h)
theorem bd_greatest_peak (F : Fx K mg) (cdv : Value) (A : Around) (outer : List Env) (s : Shared) (H : Hp) (E : XK) (B : Base) (Ed : Exn → Prop) (hg : false = true → A.guards = some []) (hr : Room 0 (A.deeper (envOfC "greatest_peak" (defScope st_greatest_peak) s.heap.objs.size (ga K "greatest_peak") cdv)))
    (hw : Wish (cxOf (L2.CX P w) P w K mg base N_greatest_peak "greatest_peak" (defScope st_greatest_peak) (ga K "greatest_peak") cdv A outer s H E) B (fun e _ => Ed e)) : DSs (cxOf (L2.CX P w) P w K mg base N_greatest_peak "greatest_peak" (defScope st_greatest_peak) (ga K "greatest_peak") cdv A outer s H E) B (defBody st_greatest_peak) (t_greatest_peak K Ed) :=
  dss_one (ds_ret (de_if (dt_cmp op_gt od_int (de_callB call_len cd_len (by rfl) (by exact F.f_len) b_len (da_cons (de_var (pv 0)) da_nil)) de_int (by rfl)) (de_ix (de_ix (de_var (pv 0)) (de_neg de_int)) de_int) (de_var (pv 1))))
theorem fn_greatest_peak (F : Fx K mg) : Fn false P w K mg base 1 (ga K "greatest_peak") (T_greatest_peak K) := by
  obtain ⟨fd, D⟩ := F.d_greatest_peak
  exact dfn (t := t_greatest_peak K) (dfl := []) D sc_greatest_peak (D.bindsN fun _ _ _ _ _ _ us hl => match us, hl with | [_, _], _ => rfl) .nil (fun _ _ => .nil) (fun ds Q E h => by rw [List.append_nil]; exact len_greatest_peak h) (fun cdv A outer s H E B Ed hg hr hM hw => bd_greatest_peak F cdv A outer s H E B Ed hg hr hw) (fun ds Q Ed h => by rw [List.append_nil]; exact rd_greatest_peak h)
theorem bd_problem_of (F : Fx K mg) (cdv : Value) (A : Around) (outer : List Env) (s : Shared) (H : Hp) (E : XK) (B : Base) (Ed : Exn → Prop) (hg : false = true → A.guards = some []) (hr : Room 3 (A.deeper (envOfC "problem_of" (defScope st_problem_of) s.heap.objs.size (ga K "problem_of") cdv)))
    (hw : Wish (cxOf (L2.CX P w) P w K mg base N_problem_of "problem_of" (defScope st_problem_of) (ga K "problem_of") cdv A outer s H E) B (fun e _ => Ed e)) : DSs (cxOf (L2.CX P w) P w K mg base N_problem_of "problem_of" (defScope st_problem_of) (ga K "problem_of") cdv A outer s H E) B (defBody st_problem_of) (t_problem_of K Ed) :=
  dss_cons (ds_if (dt_not (dt_val (de_call (by exact fn_are_rows F) (by nofun) (by exact hr.mono (by decide)) (by rfl) (by exact F.g_are_rows) (by exact F.d_are_rows.elim fun _ D => D.kp) (by exact hw) (da_cons (de_var (pv 0)) (da_cons de_int da_nil))))) (dss_one (ds_ret de_str)) dss_nil) (dss_cons (ds_if (dt_not (dt_val (de_call (by exact fn_is_integer F) (by nofun) (by exact hr.mono (by decide)) (by rfl) (by exact F.g_is_integer) (by exact F.d_is_integer.elim fun _ D => D.kp) (by exact hw) (da_cons (de_var (pv 2)) da_nil)))) (dss_one (ds_ret de_str)) dss_nil) (dss_cons (ds_if (dt_not (dt_val (de_call (by exact fn_are_rows F) (by nofun) (by exact hr.mono (by decide)) (by rfl) (by exact F.g_are_rows) (by exact F.d_are_rows.elim fun _ D => D.kp) (by exact hw) (da_cons (de_var (pv 1)) (da_cons (de_var (pv 2)) da_nil))))) (dss_one (ds_ret de_str)) dss_nil) (dss_cons (ds_if (dt_cmp (op_neDD (by exact hr.units)) od_ne (de_call (by exact fn_last_valley F) (by nofun) (by exact hr.mono (by decide)) (by rfl) (by exact F.g_last_valley) (by exact F.d_last_valley.elim fun _ D => D.kp) (by exact hw) (da_cons (de_var (pv 0)) (da_cons de_int da_nil))) (de_call (by exact fn_last_valley F) (by nofun) (by exact hr.mono (by decide)) (by rfl) (by exact F.g_last_valley) (by exact F.d_last_valley.elim fun _ D => D.kp) (by exact hw) (da_cons (de_var (pv 1)) (da_cons (de_var (pv 2)) da_nil))) (by rfl)) (dss_one (ds_ret de_str)) dss_nil) (dss_cons (ds_if (dt_w (dw_or (dt_not (dt_val (de_call (by exact fn_is_integer F) (by nofun) (by exact hr.mono (by decide)) (by rfl) (by exact F.g_is_integer) (by exact F.d_is_integer.elim fun _ D => D.kp) (by exact hw) (da_cons (de_var (pv 3)) da_nil)))) (dw_or1 (dt_cmp op_lt od_int (de_var (pv 3)) (de_callB (cr_max4 (by rfl)) cd_max4 (by rfl) (by exact F.f_max) b_max (da_cons (de_call (by exact fn_greatest_peak F) (by nofun) (by exact hr.mono (by decide)) (by rfl) (by exact F.g_greatest_peak) (by exact F.d_greatest_peak.elim fun _ D => D.kp) (by exact hw) (da_cons (de_var (pv 0)) (da_cons de_int da_nil))) (da_cons (de_call (by exact fn_greatest_peak F) (by nofun) (by exact hr.mono (by decide)) (by rfl) (by exact F.g_greatest_peak) (by exact F.d_greatest_peak.elim fun _ D => D.kp) (by exact hw) (da_cons (de_var (pv 1)) (da_cons (de_var (pv 2)) da_nil))) (da_cons de_int (da_cons (de_var (pv 2)) da_nil))))) (by rfl))))) (dss_one (ds_ret de_str)) dss_nil) (dss_one (ds_ret de_non))))))
theorem fn_problem_of (F : Fx K mg) : Fn false P w K mg base 4 (ga K "problem_of") (T_problem_of K) := by
  obtain ⟨fd, D⟩ := F.d_problem_of
  exact dfn (t := t_problem_of K) (dfl := []) D sc_problem_of (D.bindsN fun _ _ _ _ _ _ us hl => match us, hl with | [_, _, _, _], _ => rfl) .nil (fun _ _ => .nil) (fun ds Q E h => by rw [List.append_nil]; exact len_problem_of h) (fun cdv A outer s H E B Ed hg hr hM hw => bd_problem_of F cdv A outer s H E B Ed hg hr hw) (fun ds Q Ed h => by rw [List.append_nil]; exact rd_problem_of h)
theorem bd_fallen (F : Fx K mg) (cdv : Value) (A : Around) (outer : List Env) (s : Shared) (H : Hp) (E : XK) (B : Base) (Ed : Exn → Prop) (hg : false = true → A.guards = some []) (hr : Room 0 (A.deeper (envOfC "fallen" (defScope st_fallen) s.heap.objs.size (ga K "fallen") cdv)))
    (hw : Wish (cxOf (L2.CX P w) P w K mg base N_fallen "fallen" (defScope st_fallen) (ga K "fallen") cdv A outer s H E) B (fun e _ => Ed e)) : DSs (cxOf (L2.CX P w) P w K mg base N_fallen "fallen" (defScope st_fallen) (ga K "fallen") cdv A outer s H E) B (defBody st_fallen) (t_fallen K Ed) :=
  dss_cons (ds_asg (de_var (pv 2)) (dg_name (pg_name (i := 3) (by exact sc_fallen.nd) (by rfl) (by first | exact Or.inl rfl | exact Or.inr rfl)))) (dss_cons (ds_for (passes_of (by rfl)) (by rfl) (di_seq (de_var (pv 0))) (dg_tup (by rfl) (dgs_cons (dg_name (pg_name (i := 4) (by exact sc_fallen.nd) (by rfl) (by first | exact Or.inl rfl | exact Or.inr rfl))) (dgs_cons (dg_name (pg_name (i := 5) (by exact sc_fallen.nd) (by rfl) (by first | exact Or.inl rfl | exact Or.inr rfl))) dgs_nil))) (dss_one (ds_if (dt_cmp op_le od_int (de_var (pv 4)) (de_var (pv 1)) (by rfl)) (dss_one (ds_asg (de_var (pv 5)) (dg_name (pg_name (i := 3) (by exact sc_fallen.nd) (by rfl) (by first | exact Or.inl rfl | exact Or.inr rfl))))) dss_nil))) (dss_one (ds_ret (de_var (pv 3)))))
theorem fn_fallen (F : Fx K mg) : Fn false P w K mg base 1 (ga K "fallen") (T_fallen K) := by
  obtain ⟨fd, D⟩ := F.d_fallen
  exact dfn (t := t_fallen K) (dfl := []) D sc_fallen (D.bindsN fun _ _ _ _ _ _ us hl => match us, hl with | [_, _, _], _ => rfl) .nil (fun _ _ => .nil) (fun ds Q E h => by rw [List.append_nil]; exact len_fallen h) (fun cdv A outer s H E B Ed hg hr hM hw => bd_fallen F cdv A outer s H E B Ed hg hr hw) (fun ds Q Ed h => by rw [List.append_nil]; exact rd_fallen h)
theorem fn_Profile___init__ (F : Fx K mg) : FnI false P w K mg base 5 (ma K (ga K "Profile") "__init__") (ga K "Profile") (T_Profile___init__ K) := by
  obtain ⟨fd, D⟩ := F.d_Profile___init__
  obtain ⟨bs, hd, hb⟩ := D.binds1 (ps := ["self", "descent", "ascent", "end", "height"]) 5 4 (by simp) (by rfl) fun T kV doc pm an cdv ct us its hl hi => match us, its, hl, hi with | [_, _, _, _, _], [_, _, _, _], _, _ => ⟨_, rfl, rfl⟩
  refine dfi (t := t_Profile___init__ K) (dfl := []) D sc_Profile___init__ hb hd (fun _ _ => .nil) (fun ds Q E h => len_Profile___init__ h) (fun cdv A outer s H E B Ed hg hr hw => ?_) (fun ds Q Ed h => by rw [List.append_nil]; exact rd_Profile___init__ h)
  exact dss_cons (ds_asg (de_call (by exact fn_problem_of F) (by nofun) (by exact hr.mono (by decide)) (by rfl) (by exact F.g_problem_of) (by exact F.d_problem_of.elim fun _ D => D.kp) (by exact hw) (da_cons (de_var (pv 1)) (da_cons (de_var (pv 2)) (da_cons (de_var (pv 3)) (da_cons (de_var (pv 4)) da_nil))))) (dg_name (pg_name (i := 5) (by exact sc_Profile___init__.nd) (by rfl) (by first | exact Or.inl rfl | exact Or.inr rfl)))) (dss_cons (ds_if (dt_cmp op_notN od_notN (de_var (pv 5)) de_non (by rfl)) (dss_one ds_never) dss_nil) (dss_cons (ds_setF (i := 0) (pv 0) (de_tup (da_cons (de_callT call_tuple_of cd_tuple (by rfl) (by exact F.f_tuple) b_tuple (da_cons (de_var (pv 1)) da_nil)) (da_cons (de_callT call_tuple_of cd_tuple (by rfl) (by exact F.f_tuple) b_tuple (da_cons (de_var (pv 2)) da_nil)) (da_cons (de_var (pv 3)) (da_cons (de_var (pv 4)) da_nil))))) (by exact F.c_Profile) (by exact F.n_Profile_own_plain)) (dss_one (ds_setF (i := 0) (pv 0) (de_call (by exact fn_last_valley F) (by nofun) (by exact hr.mono (by decide)) (by rfl) (by exact F.g_last_valley) (by exact F.d_last_valley.elim fun _ D => D.kp) (by exact hw) (da_cons (de_var (pv 1)) (da_cons de_int da_nil))) (by exact F.c_Profile) (by exact F.n_Profile_own_lowest)))))
theorem fn_Profile_end (F : Fx K mg) : Fn1 P w K mg base 1 (gtAd K (ga K "Profile") "end") ["self"] (T_Profile_end K) := by
  obtain ⟨fd, D⟩ := F.d_Profile_end
  refine dfn1 (t := t_Profile_end K) D sc_Profile_end (D.bindsN fun _ _ _ _ _ _ us hl => match us, hl with | [_], _ => rfl) (fun ds Q E h => len_Profile_end h) (fun cdv A outer s H E B Ed hr hM hw => ?_) (fun ds Q Ed h => rd_Profile_end h)
  exact dss_one (ds_ret (de_ix (de_fld (de_var (pv 0)) (by exact F.c_Profile) (by exact F.n_Profile_own_plain)) de_int))
theorem fn_Profile_height (F : Fx K mg) : Fn1 P w K mg base 1 (gtAd K (ga K "Profile") "height") ["self"] (T_Profile_height K) := by
  obtain ⟨fd, D⟩ := F.d_Profile_height
  refine dfn1 (t := t_Profile_height K) D sc_Profile_height (D.bindsN fun _ _ _ _ _ _ us hl => match us, hl with | [_], _ => rfl) (fun ds Q E h => len_Profile_height h) (fun cdv A outer s H E B Ed hr hM hw => ?_) (fun ds Q Ed h => rd_Profile_height h)
  exact dss_one (ds_ret (de_ix (de_fld (de_var (pv 0)) (by exact F.c_Profile) (by exact F.n_Profile_own_plain)) de_int))
theorem fn_Profile_lowest (F : Fx K mg) : Fn1 P w K mg base 1 (gtAd K (ga K "Profile") "lowest") ["self"] (T_Profile_lowest K) := by
  obtain ⟨fd, D⟩ := F.d_Profile_lowest
  refine dfn1 (t := t_Profile_lowest K) D sc_Profile_lowest (D.bindsN fun _ _ _ _ _ _ us hl => match us, hl with | [_], _ => rfl) (fun ds Q E h => len_Profile_lowest h) (fun cdv A outer s H E B Ed hr hM hw => ?_) (fun ds Q Ed h => rd_Profile_lowest h)
  exact dss_one (ds_ret (de_fld (de_var (pv 0)) (by exact F.c_Profile) (by exact F.n_Profile_own_lowest)))
theorem bd_Profile_descent (F : Fx K mg) (cdv : Value) (A : Around) (outer : List Env) (s : Shared) (H : Hp) (E : XK) (B : Base) (Ed : Exn → Prop) (hg : false = true → A.guards = some []) (hr : Room 0 (A.deeper (envOfC "Profile.descent" (defScope st_Profile_descent) s.heap.objs.size (ma K (ga K "Profile") "descent") cdv)))
    (hw : Wish (cxOf (L2.CX P w) P w K mg base N_Profile_descent "Profile.descent" (defScope st_Profile_descent) (ma K (ga K "Profile") "descent") cdv A outer s H E) B (fun e _ => Ed e)) : DSs (cxOf (L2.CX P w) P w K mg base N_Profile_descent "Profile.descent" (defScope st_Profile_descent) (ma K (ga K "Profile") "descent") cdv A outer s H E) B (defBody st_Profile_descent) (t_Profile_descent K Ed) :=
  dss_one (ds_ret (de_callT call_list_of cd_list (by rfl) (by exact F.f_list) b_list (da_cons (de_ix (de_fld (de_var (pv 0)) (by exact F.c_Profile) (by exact F.n_Profile_own_plain)) de_int) da_nil)))
theorem fn_Profile_descent (F : Fx K mg) : Fn false P w K mg base 1 (ma K (ga K "Profile") "descent") (T_Profile_descent K) := by
  obtain ⟨fd, D⟩ := F.d_Profile_descent
  exact dfn (t := t_Profile_descent K) (dfl := []) D sc_Profile_descent (D.bindsN fun _ _ _ _ _ _ us hl => match us, hl with | [_], _ => rfl) .nil (fun _ _ => .nil) (fun ds Q E h => by rw [List.append_nil]; exact len_Profile_descent h) (fun cdv A outer s H E B Ed hg hr hM hw => bd_Profile_descent F cdv A outer s H E B Ed hg hr hw) (fun ds Q Ed h => by rw [List.append_nil]; exact rd_Profile_descent h)
theorem bd_Profile_ascent (F : Fx K mg) (cdv : Value) (A : Around) (outer : List Env) (s : Shared) (H : Hp) (E : XK) (B : Base) (Ed : Exn → Prop) (hg : false = true → A.guards = some []) (hr : Room 0 (A.deeper (envOfC "Profile.ascent" (defScope st_Profile_ascent) s.heap.objs.size (ma K (ga K "Profile") "ascent") cdv)))
    (hw : Wish (cxOf (L2.CX P w) P w K mg base N_Profile_ascent "Profile.ascent" (defScope st_Profile_ascent) (ma K (ga K "Profile") "ascent") cdv A outer s H E) B (fun e _ => Ed e)) : DSs (cxOf (L2.CX P w) P w K mg base N_Profile_ascent "Profile.ascent" (defScope st_Profile_ascent) (ma K (ga K "Profile") "ascent") cdv A outer s H E) B (defBody st_Profile_ascent) (t_Profile_ascent K Ed) :=
  dss_one (ds_ret (de_callT call_list_of cd_list (by rfl) (by exact F.f_list) b_list (da_cons (de_ix (de_fld (de_var (pv 0)) (by exact F.c_Profile) (by exact F.n_Profile_own_plain)) de_int) da_nil)))
theorem fn_Profile_ascent (F : Fx K mg) : Fn false P w K mg base 1 (ma K (ga K "Profile") "ascent") (T_Profile_ascent K) := by
  obtain ⟨fd, D⟩ := F.d_Profile_ascent
  exact dfn (t := t_Profile_ascent K) (dfl := []) D sc_Profile_ascent (D.bindsN fun _ _ _ _ _ _ us hl => match us, hl with | [_], _ => rfl) .nil (fun _ _ => .nil) (fun ds Q E h => by rw [List.append_nil]; exact len_Profile_ascent h) (fun cdv A outer s H E B Ed hg hr hM hw => bd_Profile_ascent F cdv A outer s H E B Ed hg hr hw) (fun ds Q Ed h => by rw [List.append_nil]; exact rd_Profile_ascent h)
theorem bd_Profile_back (F : Fx K mg) (cdv : Value) (A : Around) (outer : List Env) (s : Shared) (H : Hp) (E : XK) (B : Base) (Ed : Exn → Prop) (hg : false = true → A.guards = some []) (hr : Room 1 (A.deeper (envOfC "Profile.back" (defScope st_Profile_back) s.heap.objs.size (ma K (ga K "Profile") "back") cdv)))
    (hw : Wish (cxOf (L2.CX P w) P w K mg base N_Profile_back "Profile.back" (defScope st_Profile_back) (ma K (ga K "Profile") "back") cdv A outer s H E) B (fun e _ => Ed e)) : DSs (cxOf (L2.CX P w) P w K mg base N_Profile_back "Profile.back" (defScope st_Profile_back) (ma K (ga K "Profile") "back") cdv A outer s H E) B (defBody st_Profile_back) (t_Profile_back K Ed) :=
  dss_cons (ds_if (dt_w (dw_or (dt_not (dt_val (de_call (by exact fn_is_integer F) (by nofun) (by exact hr.mono (by decide)) (by rfl) (by exact F.g_is_integer) (by exact F.d_is_integer.elim fun _ D => D.kp) (by exact hw) (da_cons (de_var (pv 1)) da_nil)))) (dw_or1 (dt_cmp op_lt od_int (de_var (pv 1)) (de_ix (de_fld (de_var (pv 0)) (by exact F.c_Profile) (by exact F.n_Profile_own_plain)) de_int) (by rfl))))) (dss_one ds_never) dss_nil) (dss_one (ds_ret (de_call (by exact fn_fallen F) (by nofun) (by exact hr.mono (by decide)) (by rfl) (by exact F.g_fallen) (by exact F.d_fallen.elim fun _ D => D.kp) (by exact hw) (da_cons (de_ix (de_fld (de_var (pv 0)) (by exact F.c_Profile) (by exact F.n_Profile_own_plain)) de_int) (da_cons (de_var (pv 1)) (da_cons (de_ix (de_fld (de_var (pv 0)) (by exact F.c_Profile) (by exact F.n_Profile_own_plain)) de_int) da_nil))))))
theorem fn_Profile_back (F : Fx K mg) : Fn false P w K mg base 2 (ma K (ga K "Profile") "back") (T_Profile_back K) := by
  obtain ⟨fd, D⟩ := F.d_Profile_back
  exact dfn (t := t_Profile_back K) (dfl := []) D sc_Profile_back (D.bindsN fun _ _ _ _ _ _ us hl => match us, hl with | [_, _], _ => rfl) .nil (fun _ _ => .nil) (fun ds Q E h => by rw [List.append_nil]; exact len_Profile_back h) (fun cdv A outer s H E B Ed hg hr hM hw => bd_Profile_back F cdv A outer s H E B Ed hg hr hw) (fun ds Q Ed h => by rw [List.append_nil]; exact rd_Profile_back h)
theorem fnK_Profile_back (F : Fx K mg) : FnK false 1 ["bound"] P w K mg base 2 (ma K (ga K "Profile") "back") (T_Profile_back K) := by
  obtain ⟨fd, D⟩ := F.d_Profile_back
  exact dfnK (t := t_Profile_back K) D sc_Profile_back (fun _ _ _ _ _ _ us ws h1 h2 => match us, ws, h1, h2 with | [_], [_], _, _ => rfl) (fun ds Q E h => len_Profile_back h) (fun cdv A outer s H E B Ed hg hr hM hw => bd_Profile_back F cdv A outer s H E B Ed hg hr hw) (fun ds Q Ed h => rd_Profile_back h)
theorem bd_Profile___call__ (F : Fx K mg) (cdv : Value) (A : Around) (outer : List Env) (s : Shared) (H : Hp) (E : XK) (B : Base) (Ed : Exn → Prop) (hg : false = true → A.guards = some []) (hr : Room 2 (A.deeper (envOfC "Profile.__call__" (defScope st_Profile___call__) s.heap.objs.size (ma K (ga K "Profile") "__call__") cdv)))
    (hw : Wish (cxOf (L2.CX P w) P w K mg base N_Profile___call__ "Profile.__call__" (defScope st_Profile___call__) (ma K (ga K "Profile") "__call__") cdv A outer s H E) B (fun e _ => Ed e)) : DSs (cxOf (L2.CX P w) P w K mg base N_Profile___call__ "Profile.__call__" (defScope st_Profile___call__) (ma K (ga K "Profile") "__call__") cdv A outer s H E) B (defBody st_Profile___call__) (t_Profile___call__ K Ed) :=
  dss_cons (ds_if (dt_not (dt_val (de_call (by exact fn_is_count F) (by nofun) (by exact hr.mono (by decide)) (by rfl) (by exact F.g_is_count) (by exact F.d_is_count.elim fun _ D => D.kp) (by exact hw) (da_cons (de_var (pv 1)) da_nil)))) (dss_one ds_never) dss_nil) (dss_one (ds_ret (de_call (by exact fn_fallen F) (by nofun) (by exact hr.mono (by decide)) (by rfl) (by exact F.g_fallen) (by exact F.d_fallen.elim fun _ D => D.kp) (by exact hw) (da_cons (de_ix (de_fld (de_var (pv 0)) (by exact F.c_Profile) (by exact F.n_Profile_own_plain)) de_int) (da_cons (de_var (pv 1)) (da_cons de_int da_nil))))))
theorem fn_Profile___call__ (F : Fx K mg) : Fn false P w K mg base 3 (ma K (ga K "Profile") "__call__") (T_Profile___call__ K) := by
  obtain ⟨fd, D⟩ := F.d_Profile___call__
  exact dfn (t := t_Profile___call__ K) (dfl := []) D sc_Profile___call__ (D.bindsN fun _ _ _ _ _ _ us hl => match us, hl with | [_, _], _ => rfl) .nil (fun _ _ => .nil) (fun ds Q E h => by rw [List.append_nil]; exact len_Profile___call__ h) (fun cdv A outer s H E B Ed hg hr hM hw => bd_Profile___call__ F cdv A outer s H E B Ed hg hr hw) (fun ds Q Ed h => by rw [List.append_nil]; exact rd_Profile___call__ h)
theorem bd__law_pot (F : Fx K mg) (cdv : Value) (A : Around) (outer : List Env) (s : Shared) (H : Hp) (E : XK) (B : Base) (Ed : Exn → Prop) (hg : false = true → A.guards = some []) (hr : Room 0 (A.deeper (envOfC "_law_pot" (defScope st__law_pot) s.heap.objs.size (ga K "_law_pot") cdv)))
    (hw : Wish (cxOf (L2.CX P w) P w K mg base N__law_pot "_law_pot" (defScope st__law_pot) (ga K "_law_pot") cdv A outer s H E) B (fun e _ => Ed e)) : DSs (cxOf (L2.CX P w) P w K mg base N__law_pot "_law_pot" (defScope st__law_pot) (ga K "_law_pot") cdv A outer s H E) B (defBody st__law_pot) (t__law_pot K Ed) :=
  dss_cons (ds_asg (de_if (dt_cmp op_lt od_int (de_var (pv 1)) (de_callB call_len cd_len (by rfl) (by exact F.f_len) b_len (da_cons (de_var (pv 0)) da_nil)) (by rfl)) (de_callB call_abs cd_abs (by rfl) (by exact F.f_abs) b_abs (da_cons (de_ix (de_var (pv 0)) (de_var (pv 1))) da_nil)) de_int) (dg_name (pg_name (i := 2) (by exact sc__law_pot.nd) (by rfl) (by first | exact Or.inl rfl | exact Or.inr rfl)))) (dss_one (ds_retPot (df_lst (da_cons (de_callB (call_max2 (by rfl)) cd_max2 (by rfl) (by exact F.f_max) b_max (da_cons de_int (da_cons (de_op op_sub od_sub (de_var (pv 2)) (de_op op_pow od_pow de_int de_int)) da_nil))) (da_cons (de_op op_mod od_mod (de_op op_addD od_add (de_op op_addD od_add (de_op op_mulD od_mul (de_op op_mod od_mod (de_var (pv 2)) de_int) de_int) (de_op op_mulD od_mul de_int (de_var (pv 1)))) de_int) de_int) da_nil)))))
theorem fn__law_pot (F : Fx K mg) : Fn false P w K mg base 1 (ga K "_law_pot") (T__law_pot K) := by
  obtain ⟨fd, D⟩ := F.d__law_pot
  exact dfn (t := t__law_pot K) (dfl := []) D sc__law_pot (D.bindsN fun _ _ _ _ _ _ us hl => match us, hl with | [_, _], _ => rfl) .nil (fun _ _ => .nil) (fun ds Q E h => by rw [List.append_nil]; exact len__law_pot h) (fun cdv A outer s H E B Ed hg hr hM hw => bd__law_pot F cdv A outer s H E B Ed hg hr hw) (fun ds Q Ed h => by rw [List.append_nil]; exact rd__law_pot h)
theorem fn__law_draw (F : Fx K mg) : Fn false P w K mg base 1 (ga K "_law_draw") (T__law_draw K) := by
  obtain ⟨fd, D⟩ := F.d__law_draw
  refine FnP.of_ok (D.ok sc__law_draw (fun vs H Q E ⟨_, _, ds, _, _, _, rl, ⟨⟨_, e, _⟩⟩, _⟩ => by rw [rl.length, e]; rfl) fun cdv A outer s H vs Q E hr h => ⟨tDraw K, ?_, rd_draw rfl vs H Q E h⟩) (D.bindsN fun _ _ _ _ _ _ us hl => match us, hl with | [_, _], _ => rfl)
  exact pss_cons (ps_if (pt_cmp (pc_gt (pe_ix ix_seq (pv 0) pe_int fun _ _ => rfl) pe_int)) (pss_cons (ps_asg (pe_callB call_divmodW rfl F.f_divmod b_divmod (pa_cons (pe_ix ix_seq (pv 0) pe_int fun _ _ => rfl) (pa_cons (pv 1) pa_nil))) (pg_tup rfl (pgs_cons (pg_sub (pv 0) pe_int set_list) (pgs_cons (pg_name (i := 2) sc__law_draw.nd rfl (Or.inl rfl)) pgs_nil)))) (pss_one (ps_ret (pv 2)))) pss_nil)
    (pss_cons (ps_asg (pe_op op_mod (pe_op op_add (pe_op op_mulX (pe_ix ix_seq (pv 0) pe_int fun _ _ => rfl) pe_int) pe_int) pe_int) (pg_sub (pv 0) pe_int set_list))
      (pss_one (ps_ret (pe_op op_mod (pe_op op_fdivW (pe_op op_mod (pe_op op_mulX (pe_ix ix_seq (pv 0) pe_int fun _ _ => rfl) (pe_ix ix_seq (pv 0) pe_int fun _ _ => rfl)) pe_int) pe_int) (pv 1)))))
theorem bd__law_rows_down (F : Fx K mg) (cdv : Value) (A : Around) (outer : List Env) (s : Shared) (H : Hp) (E : XK) (B : Base) (Ed : Exn → Prop) (hg : false = true → A.guards = some []) (hr : Room 1 (A.deeper (envOfC "_law_rows_down" (defScope st__law_rows_down) s.heap.objs.size (ga K "_law_rows_down") cdv)))
    (hw : Wish (cxOf (L2.CX P w) P w K mg base N__law_rows_down "_law_rows_down" (defScope st__law_rows_down) (ga K "_law_rows_down") cdv A outer s H E) B (fun e _ => Ed e)) : DSs (cxOf (L2.CX P w) P w K mg base N__law_rows_down "_law_rows_down" (defScope st__law_rows_down) (ga K "_law_rows_down") cdv A outer s H E) B (defBody st__law_rows_down) (t__law_rows_down K Ed) :=
  dss_cons (ds_parO (by rfl) (by exact sc__law_rows_down.nd) (by rfl) (by rfl) (by rfl) (by rfl) (df_lst da_nil) (de_op op_addD od_add (de_var (pv 1)) (de_ix (de_lst (da_cons de_int (da_cons de_int (da_cons (de_call (by exact fn__law_draw F) (by nofun) (by exact hr.mono (by decide)) (by rfl) (by exact F.g__law_draw) (by exact F.d__law_draw.elim fun _ D => D.kp) (by exact hw) (da_cons (de_var (pv 0)) (da_cons (de_op op_pow od_pow de_int de_int) da_nil))) da_nil)))) (de_call (by exact fn__law_draw F) (by nofun) (by exact hr.mono (by decide)) (by rfl) (by exact F.g__law_draw) (by exact F.d__law_draw.elim fun _ D => D.kp) (by exact hw) (da_cons (de_var (pv 0)) (da_cons de_int da_nil)))))) (dss_cons (ds_asg (de_stay (df_rev (de_callB cr_sortedI cd_sort (by rfl) (by exact F.f_sorted) b_sorted (da_cons (de_op op_addD od_add (de_stay (df_lc (own := [("_law_k", 8)]) (by rfl) (by exact sc__law_rows_down.nd) (di_range1 (by rfl) (by exact F.f_range) (da_cons (de_call (by exact fn__law_draw F) (by nofun) (by exact hr.mono (by decide)) (by rfl) (by exact F.g__law_draw) (by exact F.d__law_draw.elim fun _ D => D.kp) (by exact hw) (da_cons (de_var (pv 0)) (da_cons (de_var (pv 3)) da_nil))) da_nil)) (by exact blkOk_by (own := [("_law_k", 8)]) (N := N__law_rows_down) (sc := defScope st__law_rows_down) (by decide +kernel)) (fun _ _ _ _ _ => (dg_name (pg_name (i := 8) (by exact sc__law_rows_down.nd) (by rfl) (by first | exact Or.inl rfl | exact Or.inr rfl)))) (fun _ _ _ _ _ => dts_nil) (fun _ _ _ _ _ => de_op op_addD od_add (de_var (pv 2)) (de_call (by exact fn__law_draw F) (by nofun) (by exact hr.mono (by decide)) (by rfl) (by exact F.g__law_draw) (by exact F.d__law_draw.elim fun _ D => D.kp) wish_no (da_cons (de_var (pv 0)) (da_cons (de_op op_sub od_sub (de_var (pv 1)) (de_var (pv 2))) da_nil)))) (by decide))) (de_lst (da_cons (de_var (pv 2)) da_nil))) da_nil)))) (dg_name (pg_name (i := 4) (by exact sc__law_rows_down.nd) (by rfl) (by first | exact Or.inl rfl | exact Or.inr rfl)))) (dss_cons (ds_for (passes_of (by rfl)) (by rfl) (di_seq (de_var (pv 4))) (dg_name (pg_name (i := 5) (by exact sc__law_rows_down.nd) (by rfl) (by first | exact Or.inl rfl | exact Or.inr rfl))) (dss_one (ds_if (dt_w (dw_or (dt_cmp (op_eqDD (by exact hr.units)) od_eq (de_var (pv 6)) (de_lst da_nil) (by rfl)) (dw_or1 (dt_cmp op_lt od_int (de_var (pv 5)) (de_ix (de_ix (de_var (pv 6)) (de_neg de_int)) de_int) (by rfl))))) (dss_cons (ds_app (pv 6) (de_tup (da_cons (de_var (pv 7)) (da_cons (de_var (pv 5)) da_nil)))) (dss_one (ds_asg (de_op op_addD od_add (de_op op_addD od_add (de_var (pv 7)) de_int) (de_ix (de_lst (da_cons de_int (da_cons (de_call (by exact fn__law_draw F) (by nofun) (by exact hr.mono (by decide)) (by rfl) (by exact F.g__law_draw) (by exact F.d__law_draw.elim fun _ D => D.kp) (by exact hw) (da_cons (de_var (pv 0)) (da_cons de_int da_nil))) (da_cons (de_call (by exact fn__law_draw F) (by nofun) (by exact hr.mono (by decide)) (by rfl) (by exact F.g__law_draw) (by exact F.d__law_draw.elim fun _ D => D.kp) (by exact hw) (da_cons (de_var (pv 0)) (da_cons (de_op op_pow od_pow de_int de_int) da_nil))) da_nil)))) (de_call (by exact fn__law_draw F) (by nofun) (by exact hr.mono (by decide)) (by rfl) (by exact F.g__law_draw) (by exact F.d__law_draw.elim fun _ D => D.kp) (by exact hw) (da_cons (de_var (pv 0)) (da_cons de_int da_nil))))) (dg_name (pg_name (i := 7) (by exact sc__law_rows_down.nd) (by rfl) (by first | exact Or.inl rfl | exact Or.inr rfl)))))) dss_nil))) (dss_one (ds_ret (de_var (pv 6))))))
theorem fn__law_rows_down (F : Fx K mg) : Fn false P w K mg base 2 (ga K "_law_rows_down") (T__law_rows_down K) := by
  obtain ⟨fd, D⟩ := F.d__law_rows_down
  exact dfn (t := t__law_rows_down K) (dfl := []) D sc__law_rows_down (D.bindsN fun _ _ _ _ _ _ us hl => match us, hl with | [_, _, _, _], _ => rfl) .nil (fun _ _ => .nil) (fun ds Q E h => by rw [List.append_nil]; exact len__law_rows_down h) (fun cdv A outer s H E B Ed hg hr hM hw => bd__law_rows_down F cdv A outer s H E B Ed hg hr hw) (fun ds Q Ed h => by rw [List.append_nil]; exact rd__law_rows_down h)
theorem bd__law_values (F : Fx K mg) (cdv : Value) (A : Around) (outer : List Env) (s : Shared) (H : Hp) (E : XK) (B : Base) (Ed : Exn → Prop) (hg : false = true → A.guards = some []) (hr : Room 2 (A.deeper (envOfC "_law_values" (defScope st__law_values) s.heap.objs.size (ga K "_law_values") cdv)))
    (hw : Wish (cxOf (L2.CX P w) P w K mg base N__law_values "_law_values" (defScope st__law_values) (ga K "_law_values") cdv A outer s H E) B (fun e _ => Ed e)) : DSs (cxOf (L2.CX P w) P w K mg base N__law_values "_law_values" (defScope st__law_values) (ga K "_law_values") cdv A outer s H E) B (defBody st__law_values) (t__law_values K Ed) :=
  dss_cons (ds_asg (de_op op_sub od_sub de_int (de_call (by exact fn__law_draw F) (by nofun) (by exact hr.mono (by decide)) (by rfl) (by exact F.g__law_draw) (by exact F.d__law_draw.elim fun _ D => D.kp) (by exact hw) (da_cons (de_var (pv 0)) (da_cons (de_var (pv 2)) da_nil)))) (dg_name (pg_name (i := 3) (by exact sc__law_values.nd) (by rfl) (by first | exact Or.inl rfl | exact Or.inr rfl)))) (dss_cons (ds_asg (de_op op_addD od_add (de_var (pv 3)) (de_ix (de_lst (da_cons de_int (da_cons (de_call (by exact fn__law_draw F) (by nofun) (by exact hr.mono (by decide)) (by rfl) (by exact F.g__law_draw) (by exact F.d__law_draw.elim fun _ D => D.kp) (by exact hw) (da_cons (de_var (pv 0)) (da_cons (de_var (pv 2)) da_nil))) da_nil))) (de_call (by exact fn__law_draw F) (by nofun) (by exact hr.mono (by decide)) (by rfl) (by exact F.g__law_draw) (by exact F.d__law_draw.elim fun _ D => D.kp) (by exact hw) (da_cons (de_var (pv 0)) (da_cons de_int da_nil))))) (dg_name (pg_name (i := 4) (by exact sc__law_values.nd) (by rfl) (by first | exact Or.inl rfl | exact Or.inr rfl)))) (dss_cons (ds_asg (de_if (dt_cmp op_lt od_int (de_var (pv 3)) de_int (by rfl)) (de_call (by exact fn__law_rows_down F) (by nofun) (by exact hr.mono (by decide)) (by rfl) (by exact F.g__law_rows_down) (by exact F.d__law_rows_down.elim fun _ D => D.kp) (by exact hw) (da_cons (de_var (pv 0)) (da_cons de_int (da_cons (de_var (pv 3)) (da_cons (de_var (pv 1)) da_nil))))) (de_lst da_nil)) (dg_name (pg_name (i := 5) (by exact sc__law_values.nd) (by rfl) (by first | exact Or.inl rfl | exact Or.inr rfl)))) (dss_cons (ds_asg (de_if (dt_cmp op_lt od_int (de_var (pv 3)) (de_var (pv 4)) (by rfl)) (de_call (by exact fn__law_rows_down F) (by nofun) (by exact hr.mono (by decide)) (by rfl) (by exact F.g__law_rows_down) (by exact F.d__law_rows_down.elim fun _ D => D.kp) (by exact hw) (da_cons (de_var (pv 0)) (da_cons (de_var (pv 4)) (da_cons (de_var (pv 3)) (da_cons (de_var (pv 1)) da_nil))))) (de_lst da_nil)) (dg_name (pg_name (i := 6) (by exact sc__law_values.nd) (by rfl) (by first | exact Or.inl rfl | exact Or.inr rfl)))) (dss_cons (ds_asg (de_callB (cr_max (by rfl)) cd_maxL (by rfl) (by exact F.f_max) b_max (da_cons (de_op op_addD od_add (de_stay (df_lc (own := [("_law_row", 8)]) (by rfl) (by exact sc__law_values.nd) (di_seq (de_op op_addD od_add (de_var (pv 5)) (de_var (pv 6)))) (by exact blkOk_by (own := [("_law_row", 8)]) (N := N__law_values) (sc := defScope st__law_values) (by decide +kernel)) (fun _ _ _ _ _ => (dg_name (pg_name (i := 8) (by exact sc__law_values.nd) (by rfl) (by first | exact Or.inl rfl | exact Or.inr rfl)))) (fun _ _ _ _ _ => dts_nil) (fun _ _ _ _ _ => de_ix (de_var (pv 8)) de_int) (by decide))) (de_lst (da_cons de_int (da_cons (de_var (pv 4)) da_nil)))) da_nil)) (dg_name (pg_name (i := 7) (by exact sc__law_values.nd) (by rfl) (by first | exact Or.inl rfl | exact Or.inr rfl)))) (dss_one (ds_ret (de_lst (da_cons (de_var (pv 5)) (da_cons (de_var (pv 6)) (da_cons (de_var (pv 4)) (da_cons (de_op op_addD od_add (de_var (pv 7)) (de_ix (de_lst (da_cons de_int (da_cons de_int (da_cons de_int (da_cons (de_call (by exact fn__law_draw F) (by nofun) (by exact hr.mono (by decide)) (by rfl) (by exact F.g__law_draw) (by exact F.d__law_draw.elim fun _ D => D.kp) (by exact hw) (da_cons (de_var (pv 0)) (da_cons (de_op op_pow od_pow de_int de_int) da_nil))) da_nil))))) (de_call (by exact fn__law_draw F) (by nofun) (by exact hr.mono (by decide)) (by rfl) (by exact F.g__law_draw) (by exact F.d__law_draw.elim fun _ D => D.kp) (by exact hw) (da_cons (de_var (pv 0)) (da_cons de_int da_nil))))) da_nil)))))))))))
theorem fn__law_values (F : Fx K mg) : Fn false P w K mg base 3 (ga K "_law_values") (T__law_values K) := by
  obtain ⟨fd, D⟩ := F.d__law_values
  exact dfn (t := t__law_values K) (dfl := []) D sc__law_values (D.bindsN fun _ _ _ _ _ _ us hl => match us, hl with | [_, _, _], _ => rfl) .nil (fun _ _ => .nil) (fun ds Q E h => by rw [List.append_nil]; exact len__law_values h) (fun cdv A outer s H E B Ed hg hr hM hw => bd__law_values F cdv A outer s H E B Ed hg hr hw) (fun ds Q Ed h => by rw [List.append_nil]; exact rd__law_values h)
theorem bd__law_at (F : Fx K mg) (cdv : Value) (A : Around) (outer : List Env) (s : Shared) (H : Hp) (E : XK) (B : Base) (Ed : Exn → Prop) (hg : false = true → A.guards = some []) (hr : Room 0 (A.deeper (envOfC "_law_at" (defScope st__law_at) s.heap.objs.size (ga K "_law_at") cdv)))
    (hw : Wish (cxOf (L2.CX P w) P w K mg base N__law_at "_law_at" (defScope st__law_at) (ga K "_law_at") cdv A outer s H E) B (fun e _ => Ed e)) : DSs (cxOf (L2.CX P w) P w K mg base N__law_at "_law_at" (defScope st__law_at) (ga K "_law_at") cdv A outer s H E) B (defBody st__law_at) (t__law_at K Ed) :=
  dss_one (ds_ret (de_ix (de_op op_addD od_add (de_lst (da_cons (de_var (pv 2)) da_nil)) (de_stay (df_lc (own := [("_law_row", 3)]) (by rfl) (by exact sc__law_at.nd) (di_seq (de_var (pv 0))) (by exact blkOk_by (own := [("_law_row", 3)]) (N := N__law_at) (sc := defScope st__law_at) (by decide +kernel)) (fun _ _ _ _ _ => (dg_name (pg_name (i := 3) (by exact sc__law_at.nd) (by rfl) (by first | exact Or.inl rfl | exact Or.inr rfl)))) (fun _ _ _ _ _ => dts_one (dt_cmp op_le od_int (de_ix (de_var (pv 3)) de_int) (de_var (pv 1)) (by rfl))) (fun _ _ _ _ _ => de_ix (de_var (pv 3)) de_int) (by decide)))) (de_neg de_int)))
theorem fn__law_at (F : Fx K mg) : Fn false P w K mg base 1 (ga K "_law_at") (T__law_at K) := by
  obtain ⟨fd, D⟩ := F.d__law_at
  exact dfn (t := t__law_at K) (dfl := []) D sc__law_at (D.bindsN fun _ _ _ _ _ _ us hl => match us, hl with | [_, _, _], _ => rfl) .nil (fun _ _ => .nil) (fun ds Q E h => by rw [List.append_nil]; exact len__law_at h) (fun cdv A outer s H E B Ed hg hr hM hw => bd__law_at F cdv A outer s H E B Ed hg hr hw) (fun ds Q Ed h => by rw [List.append_nil]; exact rd__law_at h)
theorem bd__law_right (F : Fx K mg) (cdv : Value) (A : Around) (outer : List Env) (s : Shared) (H : Hp) (E : XK) (B : Base) (Ed : Exn → Prop) (hg : true = true → A.guards = some []) (hr : Room 6 (A.deeper (envOfC "_law_right" (defScope st__law_right) s.heap.objs.size (ga K "_law_right") cdv)))
    (hw : Wish (cxOf (L2.CX P w) P w K mg base N__law_right "_law_right" (defScope st__law_right) (ga K "_law_right") cdv A outer s H E) B (fun e _ => Ed e)) : DSs (cxOf (L2.CX P w) P w K mg base N__law_right "_law_right" (defScope st__law_right) (ga K "_law_right") cdv A outer s H E) B (defBody st__law_right) (t__law_right K Ed) :=
  dss_cons (ds_asg (de_var (pv 0)) (dg_tup (by rfl) (dgs_cons (dg_name (pg_name (i := 5) (by exact sc__law_right.nd) (by rfl) (by first | exact Or.inl rfl | exact Or.inr rfl))) (dgs_cons (dg_name (pg_name (i := 6) (by exact sc__law_right.nd) (by rfl) (by first | exact Or.inl rfl | exact Or.inr rfl))) (dgs_cons (dg_name (pg_name (i := 7) (by exact sc__law_right.nd) (by rfl) (by first | exact Or.inl rfl | exact Or.inr rfl))) (dgs_cons (dg_name (pg_name (i := 8) (by exact sc__law_right.nd) (by rfl) (by first | exact Or.inl rfl | exact Or.inr rfl))) dgs_nil)))))) (dss_cons (ds_asg (de_make (by exact F.mk_Profile) (by exact fn_Profile___init__ F) (by nofun) (by exact hr.mono (by decide)) (by rfl) (by exact F.g_Profile) (by exact hw) (da_cons (de_var (pv 5)) (da_cons (de_callT call_tuple_of cd_tuple (by rfl) (by exact F.f_tuple) b_tuple (da_cons (de_var (pv 6)) da_nil)) (da_cons (de_var (pv 7)) (da_cons (de_var (pv 8)) da_nil))))) (dg_name (pg_name (i := 1) (by exact sc__law_right.nd) (by rfl) (by first | exact Or.inl rfl | exact Or.inr rfl)))) (dss_cons (ds_asg (de_op op_addD od_add (de_lst (da_cons de_int (da_cons (de_var (pv 7)) (da_cons (de_var (pv 8)) (da_cons (de_op op_pow od_pow de_int de_int) da_nil))))) (de_stay (df_lc (own := [("_law_row", 10)]) (by rfl) (by exact sc__law_right.nd) (di_seq (de_op op_addD od_add (de_var (pv 5)) (de_var (pv 6)))) (by exact blkOk_by (own := [("_law_row", 10)]) (N := N__law_right) (sc := defScope st__law_right) (by decide +kernel)) (fun _ _ _ _ _ => (dg_name (pg_name (i := 10) (by exact sc__law_right.nd) (by rfl) (by first | exact Or.inl rfl | exact Or.inr rfl)))) (fun _ _ _ _ _ => dts_nil) (fun _ _ _ _ _ => de_ix (de_var (pv 10)) de_int) (by decide)))) (dg_name (pg_name (i := 2) (by exact sc__law_right.nd) (by rfl) (by first | exact Or.inl rfl | exact Or.inr rfl)))) (dss_cons (ds_asg (de_callB cr_sortedI cd_sort (by rfl) (by exact F.f_sorted) b_sorted (da_cons (de_op op_addD od_add (de_op op_addD od_add (de_var (pv 2)) (de_stay (df_lc (own := [("_law_one", 9)]) (by rfl) (by exact sc__law_right.nd) (di_seq (de_var (pv 2))) (by exact blkOk_by (own := [("_law_one", 9)]) (N := N__law_right) (sc := defScope st__law_right) (by decide +kernel)) (fun _ _ _ _ _ => (dg_name (pg_name (i := 9) (by exact sc__law_right.nd) (by rfl) (by first | exact Or.inl rfl | exact Or.inr rfl)))) (fun _ _ _ _ _ => dts_nil) (fun _ _ _ _ _ => de_op op_addD od_add (de_var (pv 9)) de_int) (by decide)))) (de_stay (df_lc (own := [("_law_one", 9)]) (by rfl) (by exact sc__law_right.nd) (di_seq (de_var (pv 2))) (by exact blkOk_by (own := [("_law_one", 9)]) (N := N__law_right) (sc := defScope st__law_right) (by decide +kernel)) (fun _ _ _ _ _ => (dg_name (pg_name (i := 9) (by exact sc__law_right.nd) (by rfl) (by first | exact Or.inl rfl | exact Or.inr rfl)))) (fun _ _ _ _ _ => dts_nil) (fun _ _ _ _ _ => de_op op_sub od_sub (de_var (pv 9)) de_int) (by decide)))) da_nil)) (dg_name (pg_name (i := 2) (by exact sc__law_right.nd) (by rfl) (by first | exact Or.inl rfl | exact Or.inr rfl)))) (dss_cons (ds_lcS (i := 3) (own := [("_law_one", 9)]) (by rfl) (by exact sc__law_right.nd) (by rfl) (by rfl) (sw_true (by rfl) (by rfl) (by rfl) (by decide +kernel)) (di_seq (de_var (pv 2))) (by exact blkOk_by (own := [("_law_one", 9)]) (N := N__law_right) (sc := defScope st__law_right) (by decide +kernel)) (fun _ _ _ _ _ => (dg_name (pg_name (i := 9) (by exact sc__law_right.nd) (by rfl) (by first | exact Or.inl rfl | exact Or.inr rfl)))) (fun _ _ _ _ _ => dts_one (dt_cmp op_ge od_int (de_var (pv 9)) de_int (by rfl))) (fun _ _ _ _ _ => de_call (by exact fn__law_at F) (by nofun) (by exact hr.mono (by decide)) (by rfl) (by exact F.g__law_at) (by exact F.d__law_at.elim fun _ D => D.kp) wish_no (da_cons (de_var (pv 5)) (da_cons (de_var (pv 9)) (da_cons de_int da_nil)))) (by decide)) (dss_cons (ds_if (dt_cmp (op_neDD (by exact hr.units)) od_ne (de_callB (cr_reprD (by exact hg rfl) (by exact hr.units)) cd_repr (by rfl) (by exact F.f_repr) b_repr (da_cons (de_stay (df_lc (own := [("_law_one", 9)]) (by rfl) (by exact sc__law_right.nd) (di_seq (de_var (pv 2))) (by exact blkOk_by (own := [("_law_one", 9)]) (N := N__law_right) (sc := defScope st__law_right) (by decide +kernel)) (fun _ _ _ _ _ => (dg_name (pg_name (i := 9) (by exact sc__law_right.nd) (by rfl) (by first | exact Or.inl rfl | exact Or.inr rfl)))) (fun _ _ _ _ _ => dts_one (dt_cmp op_ge od_int (de_var (pv 9)) de_int (by rfl))) (fun _ _ _ _ _ => de_callO (de_var (pv 1)) (by exact F.co_Profile) (by exact fn_Profile___call__ F) (by exact hr.mono (by decide)) (da_cons (de_var (pv 9)) da_nil)) (by decide))) da_nil)) (de_callB (cr_reprD (by exact hg rfl) (by exact hr.units)) cd_repr (by rfl) (by exact F.f_repr) b_repr (da_cons (de_var (pv 3)) da_nil)) (by rfl)) (dss_one (ds_ret de_bl)) dss_nil) (dss_cons (ds_lcS (i := 3) (own := [("_law_one", 9)]) (by rfl) (by exact sc__law_right.nd) (by rfl) (by rfl) (sw_true (by rfl) (by rfl) (by rfl) (by decide +kernel)) (di_seq (de_var (pv 2))) (by exact blkOk_by (own := [("_law_one", 9)]) (N := N__law_right) (sc := defScope st__law_right) (by decide +kernel)) (fun _ _ _ _ _ => (dg_name (pg_name (i := 9) (by exact sc__law_right.nd) (by rfl) (by first | exact Or.inl rfl | exact Or.inr rfl)))) (fun _ _ _ _ _ => dts_one (dt_cmp op_ge od_int (de_var (pv 9)) (de_var (pv 7)) (by rfl))) (fun _ _ _ _ _ => de_call (by exact fn__law_at F) (by nofun) (by exact hr.mono (by decide)) (by rfl) (by exact F.g__law_at) (by exact F.d__law_at.elim fun _ D => D.kp) wish_no (da_cons (de_var (pv 6)) (da_cons (de_var (pv 9)) (da_cons (de_var (pv 7)) da_nil)))) (by decide)) (dss_cons (ds_if (dt_cmp (op_neDD (by exact hr.units)) od_ne (de_callB (cr_reprD (by exact hg rfl) (by exact hr.units)) cd_repr (by rfl) (by exact F.f_repr) b_repr (da_cons (de_stay (df_lc (own := [("_law_one", 9)]) (by rfl) (by exact sc__law_right.nd) (di_seq (de_var (pv 2))) (by exact blkOk_by (own := [("_law_one", 9)]) (N := N__law_right) (sc := defScope st__law_right) (by decide +kernel)) (fun _ _ _ _ _ => (dg_name (pg_name (i := 9) (by exact sc__law_right.nd) (by rfl) (by first | exact Or.inl rfl | exact Or.inr rfl)))) (fun _ _ _ _ _ => dts_one (dt_cmp op_ge od_int (de_var (pv 9)) (de_var (pv 7)) (by rfl))) (fun _ _ _ _ _ => de_meth (de_var (pv 1)) (by exact F.c_Profile) (by exact F.m_Profile_back) (by exact fn_Profile_back F) (by nofun) (by exact hr.mono (by decide)) wish_no (da_cons (de_var (pv 9)) da_nil)) (by decide))) da_nil)) (de_callB (cr_reprD (by exact hg rfl) (by exact hr.units)) cd_repr (by rfl) (by exact F.f_repr) b_repr (da_cons (de_var (pv 3)) da_nil)) (by rfl)) (dss_one (ds_ret de_bl)) dss_nil) (dss_cons (ds_if (dt_cmp (op_neDD (by exact hr.units)) od_ne (de_callB (cr_reprD (by exact hg rfl) (by exact hr.units)) cd_repr (by rfl) (by exact F.f_repr) b_repr (da_cons (de_lst (da_cons (de_meth0 (de_var (pv 1)) (by exact F.c_Profile) (by exact F.m_Profile_descent) (by exact fn_Profile_descent F) (by nofun) (by exact hr.mono (by decide)) (by exact hw)) (da_cons (de_meth0 (de_var (pv 1)) (by exact F.c_Profile) (by exact F.m_Profile_ascent) (by exact fn_Profile_ascent F) (by nofun) (by exact hr.mono (by decide)) (by exact hw)) (da_cons (de_prop (de_var (pv 1)) (by exact F.c_Profile) (by exact F.p_Profile_end) (by exact fn_Profile_end F) (by exact hr.mono (by decide))) (da_cons (de_prop (de_var (pv 1)) (by exact F.c_Profile) (by exact F.p_Profile_height) (by exact fn_Profile_height F) (by exact hr.mono (by decide))) da_nil))))) da_nil)) (de_callB (cr_reprD (by exact hg rfl) (by exact hr.units)) cd_repr (by rfl) (by exact F.f_repr) b_repr (da_cons (de_var (pv 0)) da_nil)) (by rfl)) (dss_one (ds_ret de_bl)) dss_nil) (dss_cons (ds_asg (de_ix (de_op op_addD od_add (de_lst (da_cons de_int da_nil)) (de_stay (df_lc (own := [("_law_row", 10)]) (by rfl) (by exact sc__law_right.nd) (di_seq (de_var (pv 5))) (by exact blkOk_by (own := [("_law_row", 10)]) (N := N__law_right) (sc := defScope st__law_right) (by decide +kernel)) (fun _ _ _ _ _ => (dg_name (pg_name (i := 10) (by exact sc__law_right.nd) (by rfl) (by first | exact Or.inl rfl | exact Or.inr rfl)))) (fun _ _ _ _ _ => dts_nil) (fun _ _ _ _ _ => de_ix (de_var (pv 10)) de_int) (by decide)))) (de_neg de_int)) (dg_name (pg_name (i := 4) (by exact sc__law_right.nd) (by rfl) (by first | exact Or.inl rfl | exact Or.inr rfl)))) (dss_one (ds_ret (de_cmp (op_eqDD (by exact hr.units)) od_eq (de_callB (cr_reprD (by exact hg rfl) (by exact hr.units)) cd_repr (by rfl) (by exact F.f_repr) b_repr (da_cons (de_lst (da_cons (de_prop (de_var (pv 1)) (by exact F.c_Profile) (by exact F.p_Profile_lowest) (by exact fn_Profile_lowest F) (by exact hr.mono (by decide))) (da_cons (de_callO (de_var (pv 1)) (by exact F.co_Profile) (by exact fn_Profile___call__ F) (by exact hr.mono (by decide)) (da_cons (de_op op_pow od_pow de_int de_int) da_nil)) (da_cons (de_methK0 (de_var (pv 1)) (by exact F.c_Profile) (by exact F.m_Profile_back) (by exact fnK_Profile_back F) (by nofun) (by exact hr.mono (by decide)) (by exact hw) (dk_cons (de_op op_pow od_pow de_int de_int) dk_nil)) da_nil)))) da_nil)) (de_callB (cr_reprD (by exact hg rfl) (by exact hr.units)) cd_repr (by rfl) (by exact F.f_repr) b_repr (da_cons (de_op op_mulD od_mul (de_lst (da_cons (de_var (pv 4)) da_nil)) de_int) da_nil)) (by rfl)))))))))))))
theorem fn__law_right (F : Fx K mg) : Fn true P w K mg base 7 (ga K "_law_right") (T__law_right K) := by
  obtain ⟨fd, D⟩ := F.d__law_right
  exact dfn (t := t__law_right K) (dfl := []) D sc__law_right (D.bindsN fun _ _ _ _ _ _ us hl => match us, hl with | [_], _ => rfl) .nil (fun _ _ => .nil) (fun ds Q E h => by rw [List.append_nil]; exact len__law_right h) (fun cdv A outer s H E B Ed hg hr hM hw => bd__law_right F cdv A outer s H E B Ed hg hr hw) (fun ds Q Ed h => by rw [List.append_nil]; exact rd__law_right h)
theorem bd_law (F : Fx K mg) (cdv : Value) (A : Around) (outer : List Env) (s : Shared) (H : Hp) (E : XK) (B : Base) (Ed : Exn → Prop) (hg : true = true → A.guards = some []) (hr : Room 7 (A.deeper (envOfC "law" (defScope st_law) s.heap.objs.size (ga K "law") cdv)))
    (hw : Wish (cxOf (L2.CX P w) P w K mg base N_law "law" (defScope st_law) (ga K "law") cdv A outer s H E) B (fun e _ => Ed e)) : DSs (cxOf (L2.CX P w) P w K mg base N_law "law" (defScope st_law) (ga K "law") cdv A outer s H E) B (defBody st_law) (t_law K Ed) :=
  dss_cons (ds_for (passes_of (by rfl)) (by rfl) (di_range1 (by rfl) (by exact F.f_range) (da_cons (de_callB (call_max2 (by rfl)) cd_max2 (by rfl) (by exact F.f_max) b_max (da_cons de_int (da_cons (de_callB (call_min2 (by rfl)) cd_min2 (by rfl) (by exact F.f_min) b_min (da_cons de_int (da_cons (de_callB call_len cd_len (by rfl) (by exact F.f_len) b_len (da_cons (de_var (pv 0)) da_nil)) da_nil))) da_nil))) da_nil)) (dg_name (pg_name (i := 1) (by exact sc_law.nd) (by rfl) (by first | exact Or.inl rfl | exact Or.inr rfl))) (dss_cons (ds_asg (de_call (by exact fn__law_pot F) (by nofun) (by exact hr.mono (by decide)) (by rfl) (by exact F.g__law_pot) (by exact F.d__law_pot.elim fun _ D => D.kp) (by exact hw) (da_cons (de_var (pv 0)) (da_cons (de_var (pv 1)) da_nil))) (dg_name (pg_name (i := 2) (by exact sc_law.nd) (by rfl) (by first | exact Or.inl rfl | exact Or.inr rfl)))) (dss_one (ds_if (dt_not (dt_val (de_callB (cr_all (by rfl)) cd_all (by rfl) (by exact F.f_all) b_all (da_cons (de_stay (df_lc (own := [("_law_turn", 3)]) (by rfl) (by exact sc_law.nd) (di_range1 (by rfl) (by exact F.f_range) (da_cons de_int da_nil)) (by exact blkOk_by (own := [("_law_turn", 3)]) (N := N_law) (sc := defScope st_law) (by decide +kernel)) (fun _ _ _ _ _ => (dg_name (pg_name (i := 3) (by exact sc_law.nd) (by rfl) (by first | exact Or.inl rfl | exact Or.inr rfl)))) (fun _ _ _ _ _ => dts_nil) (fun _ _ _ _ _ => de_call (by exact fn__law_right F) (by exact hg) (by exact hr.mono (by decide)) (by rfl) (by exact F.g__law_right) (by exact F.d__law_right.elim fun _ D => D.kp) wish_no (da_cons (de_call (by exact fn__law_values F) (by nofun) (by exact hr.mono (by decide)) (by rfl) (by exact F.g__law_values) (by exact F.d__law_values.elim fun _ D => D.kp) wish_no (da_cons (de_var (pv 2)) (da_cons de_int (da_cons (de_ix (de_lst (da_cons de_int (da_cons de_int (da_cons (de_op op_pow od_pow de_int de_int) da_nil)))) (de_op op_mod od_mod (de_var (pv 3)) de_int)) da_nil)))) da_nil)) (by decide))) da_nil)))) (dss_one (ds_ret de_bl)) dss_nil)))) (dss_one (ds_ret de_bl))
theorem fn_law (F : Fx K mg) : Fn true P w K mg base 8 (ga K "law") (T_law K) := by
  obtain ⟨fd, D⟩ := F.d_law
  exact dfn (t := t_law K) (dfl := []) D sc_law (D.bindsN fun _ _ _ _ _ _ us hl => match us, hl with | [_], _ => rfl) .nil (fun _ _ => .nil) (fun ds Q E h => by rw [List.append_nil]; exact len_law h) (fun cdv A outer s H E B Ed hg hr hM hw => bd_law F cdv A outer s H E B Ed hg hr hw) (fun ds Q Ed h => by rw [List.append_nil]; exact rd_law h)
end
end K36

namespace K36
open PySem.Spec PySem L2 PyProof.Rows FG
open He (ga ma Fa Dv)
def loose0 : List Str := ["_wall", "GateError", "InvalidParts", "InvalidLevel", "InvalidCount", "InvalidProfile", "InvalidText", "LimitError", "TooMany", "is_integer", "is_integer_from", "MAX_ROUNDS", "MAX_DEPTH", "EMPTY_scripts", "DIGITS", "MAX_WORD_LENGTH", "is_part", "are_parts", "size_of", "depth_of", "all_parts", "part_text", "parts_text", "number_in", "parsed_parts", "parts_in", "Script", "EMPTY_profiles", "is_count", "is_row"]
def loose1 : List Str := ["are_rows", "last_valley", "greatest_peak", "problem_of", "fallen", "moved", "followed", "sum_of", "times", "shortest_levels", "steps_between", "Profile", "_law_pot", "_law_draw", "_law_rows_down", "_law_values", "_law_at", "_law_right"]
def loose : List Str := loose0 ++ loose1
abbrev Rw : PySem.W.OpenRow := PySem.W.OpenLaw.row PySem.Challenge.rw_finishgate_k36_profiles_called
abbrev hk : PySem.W.Hook := hookF 5 ex defs
def ob (s : PySem.W.SharedT) : AlF := obsFG 5 ex defs (HandSHeadRun.getT s)
theorem ob_eq (s : PySem.W.SharedT) : ob s = hk.obs s.abs := obsFG_eq (HandSHeadRun.getT_eq s)
theorem run (w : World) : HandSHeadRun.RunEq Rw (PySem.W.view Rw.prog [53]) hk ob 8000 loose w := by
  intro os
  kernel_rfl
end K36
open PySem.W PySem PySem.Calls PyProof.Rows
theorem PySem.Challenge.cw_finishgate_k36_profiles_called_holds : PySem.Challenge.rw_finishgate_k36_profiles_called.Holds := by
  w_on; o_law
  refine HandSHeadRun.head_any (r := OpenLaw.row PySem.Challenge.rw_finishgate_k36_profiles_called) (q := view (OpenLaw.row PySem.Challenge.rw_finishgate_k36_profiles_called).prog [53]) (H := K36.hk) (ob := K36.ob) (M := 8000) (loose := K36.loose) (d := HandSHeadRun.topDef (OpenLaw.row PySem.Challenge.rw_finishgate_k36_profiles_called).prog 53) (kwd := []) K36.ob_eq
    (by kernel_rfl) (fun s => by kernel_rfl) K36.run (by kernel_rfl) (by kernel_rfl) (by kernel_rfl) (by rfl) (by first | assumption | decide +kernel) (by decide +kernel) ⟨rfl, rfl, rfl, rfl, rfl, by decide +kernel⟩ ?hw ?hc
  case hw => w_witness2
  case hc =>
    refine FG.walk_fg (l := PySem.Challenge.rw_finishgate_k36_profiles_called) (n := 63) (k := 8) rfl (by decide) (by kernel_rfl) ⟨rfl, by decide, by decide⟩ ?F
    intro w mg fa h Y G hmg0
    obtain ⟨K, KX, c⟩ := Y
    have hlaw : mg ("law" : PySem.Str) = some (.ref fa) := by
      have e : (HandSHeadRun.topDef (OpenLaw.row PySem.Challenge.rw_finishgate_k36_profiles_called).prog 53).name = ("law" : PySem.Str) := by kernel_rfl
      rw [← e]
      exact hmg0
    have F := K36.fx_of KX G c
    cases hlaw.symm.trans F.g_law
    exact ⟨K, K36.T_law K, KX, fun ns E Q _ hq => ⟨ns, rfl, hq⟩, fun base _ _ => K36.fn_law F⟩

