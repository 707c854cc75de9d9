import PyProof.Rows.All
import Wide.All
import OpenK.AllK
import Wide.FinOn
import HandS.ForMost
import HandS.ForExc
import HandS.Defaults
import HandS.CallSlots
import HandS.Property
import HandS.TryOnly
import HandS.TryMany
import HandS.IsInst
import HandS.SortInts
import HandS.Style
import HandS.Flow
import HandS.WideBits
import HandS.FStr
import HandS.Walk
import HandS.Star
import HandS.TupAny
import HandS.Head0
import HandS.Head1
import HandS.Head2
import HandS.HeadEnd
import HandS.HeadHook1
import HandS.HeadHook2
import HandS.EndBits
import HandS.Zip
import HandS.Strs
import HandS.SetFor
import HandS.Conv
import HandS.OwnEq
import HandS.More
import HandS.GenList
import HandS.SlotsOwn
import KE.KRevSl
import KE.KOpsOwn
import HandS.ClsMeth
import HandS.SortKw
import KE.GoesEnumKw
import PyProof.ZipIter
import PySem.Challenge.RW_finishgate_k41_whole_no_worse_at_all_lev
set_option Elab.async false
set_option linter.all false
set_option maxRecDepth 100000
set_option maxHeartbeats 0
/-! FA: trees of data (D) in the place of addresses: values, worlds, steps, lifted readings. -/
namespace FG
open PySem.Spec PySem L2 PyProof.Rows

/-- a value as a tree -/
inductive D where
  | non | bl (b : Bool) | int (i : Int) | str (s : Str) | tup (xs : List D) | lst (xs : List D) | dct (kvs : List (Key × D)) | ins (C : Addr) (fs : List (Str × D)) | pot | scr (ns : List Int) | cls (a : Addr) | ty (n : String)

/-! ### a tree stands in a heap G of things that stay -/
mutual
inductive Rep (K : PySem.W.Frag) (G : Hp) (P : Addr → Prop) : V → D → Prop
  | non : Rep K G P .non .non
  | bl (b : Bool) : Rep K G P (.bl b) (.bl b)
  | int (i : Int) : Rep K G P (.int i) (.int i)
  | str (s : Str) : Rep K G P (.str s) (.str s)
  | tup {a : Addr} {xs : List V} {ds : List D} : SqT K G a xs → RepL K G P xs ds → ds.length ≤ sizeLine → Rep K G P (.ref a) (.tup ds)
  | lst {a : Addr} {xs : List V} {ds : List D} : G a = some (.lst xs) → RepL K G P xs ds → ds.length ≤ sizeLine → Rep K G P (.ref a) (.lst ds)
  | dct {a : Addr} {xs : List (Key × V)} {ds : List (Key × D)} : G a = some (.dK xs) → RepF K G P xs ds → Rep K G P (.ref a) (.dct ds)
  | ins {a C dx : Addr} {xs : List (Str × V)} {ds : List (Str × D)} : G a = some (.ins C dx xs) → RepI K G P xs ds → Rep K G P (.ref a) (.ins C ds)
  | pot {a : Addr} : P a → Rep K G P (.ref a) .pot
  | scr {a : Addr} {ns : List Int} : SqL K G a (ns.map V.int) → Rep K G P (.ref a) (.scr ns)
  | cls (a : Addr) : Rep K G P (.ref a) (.cls a)
  | ty (n : String) : Rep K G P (.ty n) (.ty n)
inductive RepL (K : PySem.W.Frag) (G : Hp) (P : Addr → Prop) : List V → List D → Prop
  | nil : RepL K G P [] []
  | cons {v : V} {vs : List V} {d : D} {ds : List D} : Rep K G P v d → RepL K G P vs ds → RepL K G P (v :: vs) (d :: ds)
inductive RepF (K : PySem.W.Frag) (G : Hp) (P : Addr → Prop) : List (Key × V) → List (Key × D) → Prop
  | nil : RepF K G P [] []
  | cons {k : Key} {v : V} {vs : List (Key × V)} {d : D} {ds : List (Key × D)} : Rep K G P v d → RepF K G P vs ds → RepF K G P ((k, v) :: vs) ((k, d) :: ds)
inductive RepI (K : PySem.W.Frag) (G : Hp) (P : Addr → Prop) : List (Str × V) → List (Str × D) → Prop
  | nil : RepI K G P [] []
  | cons {k : Str} {v : V} {vs : List (Str × V)} {d : D} {ds : List (Str × D)} : Rep K G P v d → RepI K G P vs ds → RepI K G P ((k, v) :: vs) ((k, d) :: ds)
end

section
variable {K : PySem.W.Frag} {G G' H H' : Hp} {P P' : Addr → Prop}
theorem rd_mono (h : ∀ a o, G a = some o → G' a = some o) {a : Addr} {u : HO} (r : Rd G a u) : Rd G' a u := by
  rcases r with r | ⟨o, r⟩
  · exact .inl (h _ _ r)
  · exact .inr ⟨o, h _ _ r⟩
theorem sqt_mono (h : ∀ a o, G a = some o → G' a = some o) {a : Addr} {xs : List V} (r : SqT K G a xs) : SqT K G' a xs := by
  rcases r with r | r
  · exact .inl (rd_mono h r)
  · exact .inr r
theorem sql_mono (h : ∀ a o, G a = some o → G' a = some o) {a : Addr} {xs : List V} (r : SqL K G a xs) : SqL K G' a xs := by
  rcases r with r | r
  · exact .inl (rd_mono h r)
  · exact .inr r
mutual
theorem Rep.mono (h : ∀ a o, G a = some o → G' a = some o) (hp : ∀ a, P a → P' a) : ∀ {v : V} {d : D}, Rep K G P v d → Rep K G' P' v d
  | _, _, .non => .non
  | _, _, .bl b => .bl b
  | _, _, .int i => .int i
  | _, _, .str s => .str s
  | _, _, .tup a b c => .tup (sqt_mono h a) (RepL.mono h hp b) c
  | _, _, .lst a b c => .lst (h _ _ a) (RepL.mono h hp b) c
  | _, _, .dct a b => .dct (h _ _ a) (RepF.mono h hp b)
  | _, _, .ins a b => .ins (h _ _ a) (RepI.mono h hp b)
  | _, _, .pot a => .pot (hp _ a)
  | _, _, .scr a => .scr (sql_mono h a)
  | _, _, .cls a => .cls a
  | _, _, .ty n => .ty n
theorem RepL.mono (h : ∀ a o, G a = some o → G' a = some o) (hp : ∀ a, P a → P' a) : ∀ {v : List V} {d : List D}, RepL K G P v d → RepL K G' P' v d
  | _, _, .nil => .nil
  | _, _, .cons a b => .cons (Rep.mono h hp a) (RepL.mono h hp b)
theorem RepF.mono (h : ∀ a o, G a = some o → G' a = some o) (hp : ∀ a, P a → P' a) : ∀ {v : List (Key × V)} {d : List (Key × D)}, RepF K G P v d → RepF K G' P' v d
  | _, _, .nil => .nil
  | _, _, .cons a b => .cons (Rep.mono h hp a) (RepF.mono h hp b)
theorem RepI.mono (h : ∀ a o, G a = some o → G' a = some o) (hp : ∀ a, P a → P' a) : ∀ {v : List (Str × V)} {d : List (Str × D)}, RepI K G P v d → RepI K G' P' v d
  | _, _, .nil => .nil
  | _, _, .cons a b => .cons (Rep.mono h hp a) (RepI.mono h hp b)
end
theorem RepL.length {vs : List V} {ds : List D} (h : RepL K G P vs ds) : vs.length = ds.length := by
  induction ds generalizing vs with
  | nil => cases h; rfl
  | cons d ds ih => cases h with | cons a b => simp [ih b]
theorem RepL.append : ∀ {vs ws : List V} {ds es : List D}, RepL K G P vs ds → RepL K G P ws es → RepL K G P (vs ++ ws) (ds ++ es)
  | _, _, _, _, .nil, b => b
  | _, _, _, _, .cons a r, b => .cons a (RepL.append r b)
theorem RepL.get : ∀ {vs : List V} {ds : List D} {i : Nat} {d : D}, RepL K G P vs ds → ds[i]? = some d → ∃ v, vs[i]? = some v ∧ Rep K G P v d
  | _, _, _, _, .nil, e => (by simp at e)
  | _, _, 0, _, .cons a _, e => by simp at e; subst e; exact ⟨_, rfl, a⟩
  | _, _, i + 1, _, .cons _ r, e => by
    obtain ⟨v, h1, h2⟩ := RepL.get (i := i) r (by simpa using e)
    exact ⟨v, by simpa using h1, h2⟩
theorem RepL.get' : ∀ {vs : List V} {ds : List D} {i : Nat} {v : V}, RepL K G P vs ds → vs[i]? = some v → ∃ d, ds[i]? = some d ∧ Rep K G P v d
  | _, _, _, _, .nil, e => (by simp at e)
  | _, _, 0, _, .cons a _, e => by simp at e; subst e; exact ⟨_, rfl, a⟩
  | _, _, i + 1, _, .cons _ r, e => by
    obtain ⟨d, h1, h2⟩ := RepL.get' (i := i) r (by simpa using e)
    exact ⟨d, by simpa using h1, h2⟩
theorem RepL.drop : ∀ {vs : List V} {ds : List D} (n : Nat), RepL K G P vs ds → RepL K G P (vs.drop n) (ds.drop n)
  | _, _, 0, r => r
  | _, _, _ + 1, .nil => .nil
  | _, _, n + 1, .cons _ r => RepL.drop n r
theorem RepL.take : ∀ {vs : List V} {ds : List D} (n : Nat), RepL K G P vs ds → RepL K G P (vs.take n) (ds.take n)
  | _, _, 0, _ => .nil
  | _, _, _ + 1, .nil => .nil
  | _, _, n + 1, .cons a r => .cons a (RepL.take n r)
theorem RepL.reverse {vs : List V} {ds : List D} (h : RepL K G P vs ds) : RepL K G P vs.reverse ds.reverse := by
  induction ds generalizing vs with
  | nil => cases h; exact .nil
  | cons d ds ih =>
    cases h with
    | cons a b =>
      simp only [List.reverse_cons]
      exact (ih b).append (.cons a .nil)
theorem RepL.set {v : V} {d : D} (r : Rep K G P v d) : ∀ {vs : List V} {ds : List D} (i : Nat), RepL K G P vs ds → RepL K G P (vs.set i v) (ds.set i d)
  | _, _, _, .nil => .nil
  | _, _, 0, .cons _ u => .cons r u
  | _, _, i + 1, .cons q t => .cons q (RepL.set r i t)
theorem RepL.dropLast {vs : List V} {ds : List D} (h : RepL K G P vs ds) : RepL K G P vs.dropLast ds.dropLast := by
  rw [List.dropLast_eq_take, List.dropLast_eq_take, h.length]
  exact h.take _
theorem RepL.ints : ∀ {ns : List Int}, RepL K G P (ns.map V.int) (ns.map D.int)
  | [] => .nil
  | n :: ns => .cons (.int n) RepL.ints
theorem RepL.of_ints : ∀ {ns : List Int} {vs : List V}, RepL K G P vs (ns.map D.int) → vs = ns.map V.int
  | [], _, .nil => rfl
  | n :: ns, _, .cons a b => by
    cases a
    rw [RepL.of_ints b]; rfl
theorem RepI.lookup : ∀ {vs : List (Str × V)} {ds : List (Str × D)} {f : Str} {d : D}, RepI K G P vs ds → ds.lookup f = some d → ∃ v, vs.lookup f = some v ∧ Rep K G P v d
  | _, _, _, _, .nil, e => (by simp at e)
  | _, _, f, d, .cons (k := k) a r, e => by
    simp only [List.lookup] at e ⊢
    cases h : (f == k) with
    | true => rw [h] at e; cases e; exact ⟨_, rfl, a⟩
    | false => rw [h] at e; exact RepI.lookup r e
theorem RepI.lookup_none : ∀ {vs : List (Str × V)} {ds : List (Str × D)} {f : Str}, RepI K G P vs ds → ds.lookup f = none → vs.lookup f = none
  | _, _, _, .nil, _ => rfl
  | _, _, f, .cons (k := k) a r, e => by
    simp only [List.lookup] at e ⊢
    cases h : (f == k) with
    | true => rw [h] at e; cases e
    | false => rw [h] at e; exact RepI.lookup_none r e
theorem RepI.length : ∀ {vs : List (Str × V)} {ds : List (Str × D)}, RepI K G P vs ds → vs.length = ds.length
  | _, _, .nil => rfl
  | _, _, .cons a r => by simp [r.length]
/-- set or add a field -/
def putD (f : Str) (d : D) : List (Str × D) → List (Str × D)
  | [] => [(f, d)]
  | (g, x) :: r => if g = f then (g, d) :: r else (g, x) :: putD f d r
theorem RepI.put {f : Str} {v : V} {d : D} (q : Rep K G P v d) : ∀ {vs : List (Str × V)} {ds : List (Str × D)}, RepI K G P vs ds → RepI K G P (putF f v vs) (putD f d ds)
  | _, _, .nil => .cons q .nil
  | _, _, .cons (k := k) (vs := vs) (ds := ds) a r => by
    show RepI K G P (if k = f then _ else _) (if k = f then _ else _)
    by_cases h : k = f
    · rw [if_pos h, if_pos h]; exact .cons q r
    · rw [if_neg h, if_neg h]; exact .cons a (RepI.put q r)
end

/-! ### worlds -/
/-- a pot's two numbers -/
def PotN (i j : Int) : Prop := 0 ≤ i ∧ 0 ≤ j ∧ j < 2147483648
structure WOk (G H : Hp) (P : Addr → Prop) : Prop where
  gh : ∀ a o, G a = some o → H a = some o
  pg : ∀ a, P a → G a = none
  pt : ∀ a, P a → ∃ i j, H a = some (.lst [.int i, .int j]) ∧ PotN i j
/-- from one world to the next: G grows by new things, all else but the pots stays -/
structure Stp (G H : Hp) (P : Addr → Prop) (G' H' : Hp) (P' : Addr → Prop) : Prop where
  gg : ∀ a o, G a = some o → G' a = some o
  hh : ∀ a o, H a = some o → ¬ P a → H' a = some o
  dm : ∀ a, H a ≠ none → H' a ≠ none
  pp : ∀ a, P a → P' a
  pn : ∀ a, P' a → P a ∨ H a = none
  gn : ∀ a o, G' a = some o → G a = some o ∨ H a = none
section
variable {K : PySem.W.Frag} {G H G' H' G'' H'' : Hp} {P P' P'' : Addr → Prop}
theorem Stp.refl : Stp G H P G H P := ⟨fun _ _ h => h, fun _ _ h _ => h, fun _ h => h, fun _ h => h, fun _ h => .inl h, fun _ _ h => .inl h⟩
theorem Stp.trans (a : Stp G H P G' H' P') (b : Stp G' H' P' G'' H'' P'') : Stp G H P G'' H'' P'' where
  gg := fun x o h => b.gg x o (a.gg x o h)
  hh := fun x o h n => b.hh x o (a.hh x o h n) fun q => (a.pn x q).elim n fun z => by rw [h] at z; cases z
  dm := fun x h => b.dm x (a.dm x h)
  pp := fun x h => b.pp x (a.pp x h)
  pn := fun x h => (b.pn x h).elim (a.pn x) fun z => .inr (by
    cases q : H x with
    | none => rfl
    | some o => exact absurd z (a.dm x (by rw [q]; simp)))
  gn := fun x o h => (b.gn x o h).elim (a.gn x o) fun z => .inr (by
    cases q : H x with
    | none => rfl
    | some o => exact absurd z (a.dm x (by rw [q]; simp)))
theorem Stp.rep (s : Stp G H P G' H' P') {v : V} {d : D} (r : Rep K G P v d) : Rep K G' P' v d := r.mono s.gg s.pp
theorem Stp.repL (s : Stp G H P G' H' P') {v : List V} {d : List D} (r : RepL K G P v d) : RepL K G' P' v d := r.mono s.gg s.pp
theorem Stp.repI (s : Stp G H P G' H' P') {v : List (Str × V)} {d : List (Str × D)} (r : RepI K G P v d) : RepI K G' P' v d := r.mono s.gg s.pp
/-- a new thing that stays -/
theorem Stp.new {p : Addr} {o : HO} (w : WOk G H P) (h : H p = none) : Stp G H P (upd G p o) (upd H p o) P ∧ WOk (upd G p o) (upd H p o) P := by
  have gp : G p = none := by
    cases q : G p with
    | none => rfl
    | some u => rw [w.gh p u q] at h; cases h
  have np : ¬ P p := fun q => by
    obtain ⟨i, j, e, _⟩ := w.pt p q
    rw [e] at h; cases h
  refine ⟨⟨fun a u e => ?_, fun a u e _ => ?_, fun a e => ?_, fun _ q => q, fun _ q => .inl q, fun a u e => ?_⟩, ⟨fun a u e => ?_, fun a q => ?_, fun a q => ?_⟩⟩
  · rw [upd_ne (ne_of_none e gp)]; exact e
  · rw [upd_ne (ne_of_none e h)]; exact e
  · by_cases q : a = p
    · subst q; exact absurd h e
    · rw [upd_ne q]; exact e
  · by_cases q : a = p
    · subst q; exact .inr h
    · rw [upd_ne q] at e; exact .inl e
  · by_cases q : a = p
    · subst q; rw [upd_same] at e ⊢; exact e
    · rw [upd_ne q] at e ⊢; exact w.gh a u e
  · rw [upd_ne (fun z : a = p => np (z ▸ q))]; exact w.pg a q
  · rw [upd_ne (fun z : a = p => np (z ▸ q))]; exact w.pt a q
/-- a new thing that may change (it is not told) -/
theorem Stp.laid {p : Addr} {o : HO} (w : WOk G H P) (h : H p = none) : Stp G H P G (upd H p o) P ∧ WOk G (upd H p o) P := by
  have np : ¬ P p := fun q => by
    obtain ⟨i, j, e, _⟩ := w.pt p q
    rw [e] at h; cases h
  have gp : ∀ a o, G a = some o → a ≠ p := fun a o e z => by rw [z] at e; rw [w.gh p _ e] at h; cases h
  refine ⟨⟨fun a u e => e, fun a u e _ => ?_, fun a e => ?_, fun _ q => q, fun _ q => .inl q, fun a u e => .inl e⟩, ⟨fun a u e => ?_, w.pg, fun a q => ?_⟩⟩
  · rw [upd_ne (ne_of_none e h)]; exact e
  · by_cases q : a = p
    · subst q; exact absurd h e
    · rw [upd_ne q]; exact e
  · rw [upd_ne (gp a u e)]; exact w.gh a u e
  · rw [upd_ne (fun z : a = p => np (z ▸ q))]; exact w.pt a q
end

/-! ### the slots -/
/-- a slot: a value that stays, a list or an object that this def has made and may change -/
inductive SV where
  | val (d : D) | own (ds : List D) | inst (C : Addr) (fs : List (Str × D))
abbrev DSt := List (Option SV)
/-- the entry: what stood, the objects that may be changed (a maker's self) -/
structure Base where
  G : Hp
  H : Hp
  P : Addr → Prop
  M : Addr → Prop
structure Since (B : Base) (G H : Hp) (P : Addr → Prop) : Prop where
  gg : ∀ a o, B.G a = some o → G a = some o
  hh : ∀ a o, B.H a = some o → ¬ B.P a → ¬ B.M a → H a = some o
  dm : ∀ a, B.H a ≠ none → H a ≠ none
  pp : ∀ a, B.P a → P a
  pn : ∀ a, P a → B.P a ∨ B.H a = none
  gn : ∀ a o, G a = some o → B.G a = some o ∨ B.H a = none ∨ B.M a
def SV.mut : SV → Bool
  | .val _ => false
  | _ => true
/-- what a slot's value is -/
def SRep (K : PySem.W.Frag) (B : Base) (G H : Hp) (P : Addr → Prop) (v : V) : SV → Prop
  | .val d => Rep K G P v d
  | .own ds => ∃ l xs, v = .ref l ∧ H l = some (.lst xs) ∧ RepL K G P xs ds ∧ G l = none ∧ ¬ P l ∧ B.H l = none ∧ ds.length ≤ sizeLine
  | .inst C fs => ∃ x dx vs, v = .ref x ∧ H x = some (.ins C dx vs) ∧ RepI K G P vs fs ∧ G x = none ∧ ¬ P x ∧ B.M x
structure WS (K : PySem.W.Frag) (B : Base) (G H : Hp) (P : Addr → Prop) (σ : L2.St) (δ : DSt) : Prop where
  ok : WOk G H P
  since : Since B G H P
  len : δ.length = σ.length
  sl : ∀ (i : Nat) (s : SV), δ[i]? = some (some s) → ∃ v, σ[i]? = some (some v) ∧ SRep K B G H P v s
  inj : ∀ (i j : Nat) (s s' : SV), i ≠ j → δ[i]? = some (some s) → δ[j]? = some (some s') → s.mut = true → s'.mut = true → σ[i]? ≠ σ[j]?
section
variable {K : PySem.W.Frag} {B : Base} {G H G' H' : Hp} {P P' : Addr → Prop} {σ : L2.St} {δ : DSt}
theorem Since.step (s : Since B G H P) (t : Stp G H P G' H' P') : Since B G' H' P' where
  gg := fun a o h => t.gg a o (s.gg a o h)
  hh := fun a o h n m => t.hh a o (s.hh a o h n m) fun q => (s.pn a q).elim n fun z => by rw [h] at z; cases z
  dm := fun a h => t.dm a (s.dm a h)
  pp := fun a h => t.pp a (s.pp a h)
  pn := fun a h => (t.pn a h).elim (s.pn a) fun z => .inr (by
    cases q : B.H a with
    | none => rfl
    | some o => exact absurd z (s.dm a (by rw [q]; simp)))
  gn := fun a o h => (t.gn a o h).elim (s.gn a o) fun z => .inr (.inl (by
    cases q : B.H a with
    | none => rfl
    | some o => exact absurd z (s.dm a (by rw [q]; simp))))
theorem Since.stp (s : Since B G H P) (m : ∀ a, ¬ B.M a) : Stp B.G B.H B.P G H P :=
  ⟨s.gg, fun a o h n => s.hh a o h n (m a), s.dm, s.pp, s.pn, fun a o h => (s.gn a o h).elim .inl fun z => z.elim .inr fun z => absurd z (m a)⟩
theorem SRep.step {v : V} {s : SV} (r : SRep K B G H P v s) (t : Stp G H P G' H' P') : SRep K B G' H' P' v s := by
  cases s with
  | val d => exact t.rep r
  | own ds =>
    obtain ⟨l, xs, e, h, rl, g, p, b⟩ := r
    refine ⟨l, xs, e, t.hh _ _ h p, t.repL rl, ?_, fun q => (t.pn l q).elim p (fun z => by rw [h] at z; cases z), b⟩
    cases q : G' l with
    | none => rfl
    | some o =>
      rcases t.gn l o q with z | z
      · rw [g] at z; cases z
      · rw [h] at z; cases z
  | inst C fs =>
    obtain ⟨l, dx, xs, e, h, rl, g, p, b⟩ := r
    refine ⟨l, dx, xs, e, t.hh _ _ h p, t.repI rl, ?_, fun q => (t.pn l q).elim p (fun z => by rw [h] at z; cases z), b⟩
    cases q : G' l with
    | none => rfl
    | some o =>
      rcases t.gn l o q with z | z
      · rw [g] at z; cases z
      · rw [h] at z; cases z
theorem WS.step (w : WS K B G H P σ δ) (t : Stp G H P G' H' P') (ok : WOk G' H' P') : WS K B G' H' P' σ δ :=
  ⟨ok, w.since.step t, w.len, fun i s e => let ⟨v, h1, h2⟩ := w.sl i s e; ⟨v, h1, h2.step t⟩, w.inj⟩
/-- a value that stays comes into a slot -/
theorem WS.set (w : WS K B G H P σ δ) {v : V} {d : D} (r : Rep K G P v d) (i : Nat) : WS K B G H P (σ.set i (some v)) (δ.set i (some (.val d))) := by
  refine ⟨w.ok, w.since, by simp [w.len], fun j s e => ?_, fun j k s s' hjk e1 e2 m1 m2 => ?_⟩
  · by_cases h : i = j
    · subst h
      by_cases hl : i < δ.length
      · rw [List.getElem?_set_self hl] at e
        cases e
        exact ⟨v, by rw [List.getElem?_set_self (w.len ▸ hl)], r⟩
      · rw [List.getElem?_eq_none (by simpa using hl)] at e; cases e
    · rw [List.getElem?_set_ne h] at e ⊢
      exact w.sl j s e
  · have aux : ∀ (j : Nat) (s : SV), (δ.set i (some (.val d)))[j]? = some (some s) → s.mut = true → i ≠ j ∧ δ[j]? = some (some s) := fun j s e m => by
      by_cases h : i = j
      · subst h
        by_cases hl : i < δ.length
        · rw [List.getElem?_set_self hl] at e; cases e; cases m
        · rw [List.getElem?_eq_none (by simpa using hl)] at e; cases e
      · rw [List.getElem?_set_ne h] at e; exact ⟨h, e⟩
    obtain ⟨h1, e1⟩ := aux j s e1 m1
    obtain ⟨h2, e2⟩ := aux k s' e2 m2
    rw [List.getElem?_set_ne h1, List.getElem?_set_ne h2]
    exact w.inj j k s s' hjk e1 e2 m1 m2
/-- a slot forgotten -/
theorem WS.unset (w : WS K B G H P σ δ) (i : Nat) : WS K B G H P (σ.set i none) (δ.set i none) := by
  have aux : ∀ (j : Nat) (s : SV), (δ.set i none)[j]? = some (some s) → i ≠ j ∧ δ[j]? = some (some s) := fun j s e => by
    by_cases h : i = j
    · subst h
      by_cases hl : i < δ.length
      · rw [List.getElem?_set_self hl] at e; cases e
      · rw [List.getElem?_eq_none (by simpa using hl)] at e; cases e
    · rw [List.getElem?_set_ne h] at e; exact ⟨h, e⟩
  refine ⟨w.ok, w.since, by simp [w.len], fun j s e => ?_, fun j k s s' hjk e1 e2 m1 m2 => ?_⟩
  · obtain ⟨h1, e1⟩ := aux j s e
    rw [List.getElem?_set_ne h1]
    exact w.sl j s e1
  · obtain ⟨h1, e1⟩ := aux j s e1
    obtain ⟨h2, e2⟩ := aux k s' e2
    rw [List.getElem?_set_ne h1, List.getElem?_set_ne h2]
    exact w.inj j k s s' hjk e1 e2 m1 m2
/-- a new list that may change comes into a slot -/
theorem WS.setOwn (w : WS K B G H P σ δ) {l : Addr} {xs : List V} {ds : List D} (h : H l = some (.lst xs)) (r : RepL K G P xs ds) (g : G l = none) (p : ¬ P l) (b : B.H l = none) (z : ds.length ≤ sizeLine)
    (fresh : ∀ (j : Nat) (s : SV), δ[j]? = some (some s) → s.mut = true → σ[j]? ≠ some (some (.ref l))) (i : Nat) : WS K B G H P (σ.set i (some (.ref l))) (δ.set i (some (.own ds))) := by
  refine ⟨w.ok, w.since, by simp [w.len], fun j s e => ?_, fun j k s s' hjk e1 e2 m1 m2 => ?_⟩
  · by_cases h' : i = j
    · subst h'
      by_cases hl : i < δ.length
      · rw [List.getElem?_set_self hl] at e
        cases e
        exact ⟨_, by rw [List.getElem?_set_self (w.len ▸ hl)], l, xs, rfl, h, r, g, p, b, z⟩
      · rw [List.getElem?_eq_none (by simpa using hl)] at e; cases e
    · rw [List.getElem?_set_ne h'] at e ⊢
      exact w.sl j s e
  · have aux : ∀ (j : Nat) (s : SV), (δ.set i (some (.own ds)))[j]? = some (some s) → (i = j ∧ i < δ.length) ∨ (i ≠ j ∧ δ[j]? = some (some s)) := fun j s e => by
      by_cases h : i = j
      · subst h
        by_cases hl : i < δ.length
        · exact .inl ⟨rfl, hl⟩
        · rw [List.getElem?_eq_none (by simpa using hl)] at e; cases e
      · rw [List.getElem?_set_ne h] at e; exact .inr ⟨h, e⟩
    rcases aux j s e1 with ⟨rfl, hl⟩ | ⟨h1, e1⟩
    · rcases aux k s' e2 with ⟨rfl, _⟩ | ⟨h2, e2⟩
      · exact absurd rfl hjk
      · rw [List.getElem?_set_self (w.len ▸ hl), List.getElem?_set_ne h2]
        exact fun z => fresh k s' e2 m2 z.symm
    · rcases aux k s' e2 with ⟨rfl, hl⟩ | ⟨h2, e2⟩
      · rw [List.getElem?_set_self (w.len ▸ hl), List.getElem?_set_ne h1]
        exact fresh j s e1 m1
      · rw [List.getElem?_set_ne h1, List.getElem?_set_ne h2]
        exact w.inj j k s s' hjk e1 e2 m1 m2
/-- an own thing changes: its new content -/
theorem WS.change (w : WS K B G H P σ δ) {i : Nat} {s s' : SV} {l : Addr} {o : HO} (e : δ[i]? = some (some s)) (m : s.mut = true) (ev : σ[i]? = some (some (.ref l)))
    (r : SRep K B G (upd H l o) P (.ref l) s') (g : G l = none) (p : ¬ P l) (b : B.H l = none ∨ B.M l) (hl : H l ≠ none) (nt : s'.mut = true) : WS K B G (upd H l o) P σ (δ.set i (some s')) := by
  have li : i < δ.length := (List.getElem?_eq_some_iff.mp e).1
  refine ⟨⟨fun a u q => ?_, w.ok.pg, fun a q => ?_⟩, ⟨w.since.gg, fun a u q n1 n2 => ?_, fun a q => ?_, w.since.pp, w.since.pn, w.since.gn⟩, by simp [w.len], fun j t q => ?_, fun j k t t' hjk e1 e2 m1 m2 => ?_⟩
  · rw [upd_ne (ne_of_none q g)]; exact w.ok.gh a u q
  · rw [upd_ne (fun z : a = l => p (z ▸ q))]; exact w.ok.pt a q
  · have ne : a ≠ l := fun z => by
      subst z
      rcases b with b | b
      · rw [b] at q; cases q
      · exact n2 b
    rw [upd_ne ne]; exact w.since.hh a u q n1 n2
  · by_cases z : a = l
    · subst z; rw [upd_same]; simp
    · rw [upd_ne z]; exact w.since.dm a q
  · by_cases h : i = j
    · subst h
      rw [List.getElem?_set_self li] at q
      cases q
      exact ⟨_, ev, r⟩
    · rw [List.getElem?_set_ne h] at q
      obtain ⟨v, h1, h2⟩ := w.sl j t q
      refine ⟨v, h1, ?_⟩
      cases t with
      | val d => exact h2
      | own ds =>
        obtain ⟨l2, xs, e2, h3, r3⟩ := h2
        have ne : l2 ≠ l := fun z => w.inj i j s _ h e q m rfl (by rw [ev, h1, e2, z])
        exact ⟨l2, xs, e2, by rw [upd_ne ne]; exact h3, r3⟩
      | inst C fs =>
        obtain ⟨l2, dx, xs, e2, h3, r3⟩ := h2
        have ne : l2 ≠ l := fun z => w.inj i j s _ h e q m rfl (by rw [ev, h1, e2, z])
        exact ⟨l2, dx, xs, e2, by rw [upd_ne ne]; exact h3, r3⟩
  · have aux : ∀ (j : Nat) (t : SV), (δ.set i (some s'))[j]? = some (some t) → ∃ t0, δ[j]? = some (some t0) ∧ (t.mut = true → t0.mut = true) := fun j t q => by
      by_cases h : i = j
      · subst h; exact ⟨s, e, fun _ => m⟩
      · rw [List.getElem?_set_ne h] at q; exact ⟨t, q, fun z => z⟩
    obtain ⟨t1, a1, b1⟩ := aux j t e1
    obtain ⟨t2, a2, b2⟩ := aux k t' e2
    exact w.inj j k t1 t2 hjk a1 a2 (b1 m1) (b2 m2)
end
end FG

/-! FB: the lifted judgements; expressions. -/
namespace FG
open PySem.Spec PySem L2 PyProof.Rows

abbrev DT := DSt → (D → Prop) → Prop
abbrev DTT := DSt → (Bool → Prop) → Prop
abbrev DTA := DSt → (List D → Prop) → Prop
structure DEnds where
  nx : DSt → Prop
  rt : D → Prop
  bk : DSt → Prop := fun _ => False
  ct : DSt → Prop := fun _ => False
abbrev DTS := DEnds → DSt → Prop
/-- what follows, told by trees -/
def K1 (K : PySem.W.Frag) (G H : Hp) (P : Addr → Prop) (Qd : D → Prop) (Q : VK) : Prop :=
  ∀ v G' H' P' d, Stp G H P G' H' P' → WOk G' H' P' → Rep K G' P' v d → Qd d → Q v H'
def KL (K : PySem.W.Frag) (n : Nat) (G H : Hp) (P : Addr → Prop) (Qd : List D → Prop) (Q : List V → Hp → Prop) : Prop :=
  ∀ v G' H' P' d, Stp G H P G' H' P' → WOk G' H' P' → RepL K G' P' v d → d.length = n → Qd d → Q v H'
def KB (G H : Hp) (P : Addr → Prop) (Qd : Bool → Prop) (Q : Bool → Hp → Prop) : Prop :=
  ∀ b G' H' P', Stp G H P G' H' P' → WOk G' H' P' → Qd b → Q b H'
/-- own things as they would be if they stayed -/
def SV.view : SV → SV
  | .val d => .val d
  | .own ds => .val (.lst ds)
  | .inst C fs => .val (.ins C fs)
def view (δ : DSt) : DSt := δ.map fun o => o.map SV.view
theorem view_view (δ : DSt) : view (view δ) = view δ := by
  unfold view
  rw [List.map_map]
  congr 1
  funext o
  cases o with
  | none => rfl
  | some s => cases s <;> rfl
theorem view_get (δ : DSt) (i : Nat) : (view δ)[i]? = (δ[i]?).map fun o => o.map SV.view := by
  unfold view
  rw [List.getElem?_map]

def lift (K : PySem.W.Frag) (B : Base) (t : DT) : TE := fun σ H Q => ∃ G P δ Qd, WS K B G H P σ δ ∧ t δ Qd ∧ K1 K G H P Qd Q
def liftA (K : PySem.W.Frag) (B : Base) (n : Nat) (t : DTA) : TA := fun σ H Q => ∃ G P δ Qd, WS K B G H P σ δ ∧ t δ Qd ∧ KL K n G H P Qd Q
def liftT (K : PySem.W.Frag) (B : Base) (t : DTT) : TT := fun σ H Q => ∃ G P δ Qd, WS K B G H P σ δ ∧ t (view δ) Qd ∧ KB G H P Qd Q
abbrev DE (X : Cx) (B : Base) (e : Expr) (t : DT) : Prop := PE X e (lift X.K B t)
abbrev DA (X : Cx) (B : Base) (es : List Expr) (n : Nat) (t : DTA) : Prop := PA X es (liftA X.K B n t)
abbrev DTe (X : Cx) (B : Base) (e : Expr) (t : DTT) : Prop := PT X e (liftT X.K B t)
abbrev DW (X : Cx) (B : Base) (e : Expr) (t : DTT) : Prop := PW X e (liftT X.K B t)

section
variable {K : PySem.W.Frag} {B : Base} {G H G' H' : Hp} {P P' : Addr → Prop} {σ : L2.St} {δ : DSt} {X : Cx}
theorem K1.step {Qd : D → Prop} {Q : VK} (k : K1 K G H P Qd Q) (s : Stp G H P G' H' P') : K1 K G' H' P' Qd Q := fun v _ _ _ d t => k v _ _ _ d (s.trans t)
theorem KL.step {n : Nat} {Qd : List D → Prop} {Q : List V → Hp → Prop} (k : KL K n G H P Qd Q) (s : Stp G H P G' H' P') : KL K n G' H' P' Qd Q := fun v _ _ _ d t => k v _ _ _ d (s.trans t)
theorem KB.step {Qd : Bool → Prop} {Q : Bool → Hp → Prop} (k : KB G H P Qd Q) (s : Stp G H P G' H' P') : KB G' H' P' Qd Q := fun b _ _ _ t => k b _ _ _ (s.trans t)
theorem K1.here {Qd : D → Prop} {Q : VK} (k : K1 K G H P Qd Q) (w : WOk G H P) {v : V} {d : D} (r : Rep K G P v d) (q : Qd d) : Q v H := k v G H P d .refl w r q
theorem K1.new {Qd : D → Prop} {Q : VK} (k : K1 K G H P Qd Q) (w : WOk G H P) {p : Addr} {o : HO} {d : D} (h : H p = none) (r : Rep K (upd G p o) P (.ref p) d) (q : Qd d) : Q (.ref p) (upd H p o) :=
  let ⟨s, ok⟩ := Stp.new (o := o) w h
  k _ _ _ _ d s ok r q
theorem Rep.newTup {xs : List V} {ds : List D} {p : Addr} (w : WOk G H P) (h : H p = none) (r : RepL K G P xs ds) (z : ds.length ≤ sizeLine) : Rep K (upd G p (.tup xs)) P (.ref p) (.tup ds) :=
  let ⟨s, _⟩ := Stp.new (o := .tup xs) w h
  .tup (.inl (.inl upd_same)) (s.repL r) z
theorem Rep.newLst {xs : List V} {ds : List D} {p : Addr} (w : WOk G H P) (h : H p = none) (r : RepL K G P xs ds) (z : ds.length ≤ sizeLine) : Rep K (upd G p (.lst xs)) P (.ref p) (.lst ds) :=
  let ⟨s, _⟩ := Stp.new (o := .lst xs) w h
  .lst upd_same (s.repL r) z
/-- all own things stay from now on -/
theorem WS.view (w : WS K B G H P σ δ) : ∃ G', WS K B G' H P σ (view δ) ∧ (∀ a o, G a = some o → G' a = some o) := by
  classical
  let own : Addr → Prop := fun a => ∃ (i : Nat) (s : SV), δ[i]? = some (some s) ∧ s.mut = true ∧ σ[i]? = some (some (V.ref a))
  have ownP : ∀ a, own a → G a = none ∧ ¬ P a ∧ (B.H a = none ∨ B.M a) ∧ H a ≠ none := by
    rintro a ⟨i, s, e, m, ev⟩
    obtain ⟨v, e2, r⟩ := w.sl i s e
    rw [ev] at e2
    cases e2
    cases s with
    | val d => cases m
    | own ds =>
      obtain ⟨l, xs, e3, h, rl, g, p, b, z⟩ := r
      cases e3
      exact ⟨g, p, .inl b, by rw [h]; simp⟩
    | inst C fs =>
      obtain ⟨l, dx, xs, e3, h, rl, g, p, b⟩ := r
      cases e3
      exact ⟨g, p, .inr b, by rw [h]; simp⟩
  let G' : Hp := fun a => if own a then H a else G a
  have gg : ∀ a o, G a = some o → G' a = some o := fun a o e => by
    show (if own a then H a else G a) = some o
    by_cases h : own a
    · rw [(ownP a h).1] at e; cases e
    · rw [if_neg h]; exact e
  have go : ∀ a, own a → G' a = H a := fun a h => if_pos h
  have gn : ∀ a, ¬ own a → G' a = G a := fun a h => if_neg h
  have ok : WOk G' H P := ⟨fun a o e => by
    by_cases h : own a
    · rw [go a h] at e; exact e
    · rw [gn a h] at e; exact w.ok.gh a o e, fun a p => by
    by_cases h : own a
    · exact absurd p (ownP a h).2.1
    · rw [gn a h]; exact w.ok.pg a p, w.ok.pt⟩
  refine ⟨G', ⟨ok, ⟨fun a o e => gg a o (w.since.gg a o e), w.since.hh, w.since.dm, w.since.pp, w.since.pn, fun a o e => ?_⟩, by unfold FG.view; rw [List.length_map]; exact w.len, fun i s e => ?_, fun i j s s' _ e1 _ m1 _ => ?_⟩, gg⟩
  · by_cases h : own a
    · exact .inr (ownP a h).2.2.1
    · rw [gn a h] at e; exact w.since.gn a o e
  · rw [view_get] at e
    cases q : δ[i]? with
    | none => (rw [q] at e; cases e)
    | some u =>
      rw [q] at e
      cases u with
      | none => cases e
      | some s0 =>
        cases e
        obtain ⟨v, e2, r⟩ := w.sl i s0 q
        refine ⟨v, e2, ?_⟩
        cases s0 with
        | val d => exact r.mono gg fun _ h => h
        | own ds =>
          obtain ⟨l, xs, e3, h, rl, g, p, b, z⟩ := r
          subst e3
          exact .lst (by rw [go l ⟨i, _, q, rfl, e2⟩]; exact h) (rl.mono gg fun _ h => h) z
        | inst C fs =>
          obtain ⟨l, dx, xs, e3, h, rl, g, p, b⟩ := r
          subst e3
          exact .ins (by rw [go l ⟨i, _, q, rfl, e2⟩]; exact h) (rl.mono gg fun _ h => h)
  · rw [view_get] at e1
    cases q : δ[i]? with
    | none => rw [q] at e1; cases e1
    | some u =>
      rw [q] at e1
      cases u with
      | none => cases e1
      | some s0 =>
        cases e1
        cases s0 <;> cases m1
theorem unview {G2 H2 : Hp} {P2 : Addr → Prop} (w : WOk G H P) (gg : ∀ a o, G a = some o → G' a = some o) (s : Stp G' H P G2 H2 P2) (ok : WOk G2 H2 P2) : Stp G H P G H2 P2 ∧ WOk G H2 P2 :=
  ⟨⟨fun _ _ h => h, s.hh, s.dm, s.pp, s.pn, fun _ _ h => .inl h⟩, ⟨fun a o e => ok.gh a o (s.gg a o (gg a o e)), fun a p => (by
    cases q : G a with
    | none => rfl
    | some o =>
      have z := s.gg a o (gg a o q)
      rw [ok.pg a p] at z
      cases z), fun a p => ok.pt a p⟩⟩
/-- a test's reading: own things are seen as values -/
theorem liftT_view {t : DTT} {Q : Bool → Hp → Prop} (h : liftT K B t σ H Q) : ∃ G P δ Qd, WS K B G H P σ δ ∧ view δ = δ ∧ t δ Qd ∧ KB G H P Qd Q := by
  obtain ⟨G, P, δ, Qd, w, q, k⟩ := h
  obtain ⟨G', w', gg⟩ := w.view
  exact ⟨G', P, FG.view δ, Qd, w', view_view δ, q, fun b G2 H2 P2 s ok qb => let ⟨s', ok'⟩ := unview w.ok gg s ok; k b G H2 P2 s' ok' qb⟩
theorem _root_.L2.PE.mono {e : Expr} {t u : TE} (h : PE X e t) (i : ∀ σ H Q, u σ H Q → t σ H Q) : PE X e u := ⟨fun pins s σ H Q I q => h.run pins s σ H Q I (i σ H Q q)⟩
theorem _root_.L2.PA.mono {e : List Expr} {t u : TA} (h : PA X e t) (i : ∀ σ H Q, u σ H Q → t σ H Q) : PA X e u := ⟨fun pos pins s σ H Q I q => h.run pos pins s σ H Q I (i σ H Q q)⟩
theorem _root_.L2.PT.mono {e : Expr} {t u : TT} (h : PT X e t) (i : ∀ σ H Q, u σ H Q → t σ H Q) : PT X e u := ⟨fun pins s σ H Q I q => h.run pins s σ H Q I (i σ H Q q)⟩
theorem _root_.L2.PW.mono {e : Expr} {t u : TT} (h : PW X e t) (i : ∀ σ H Q, u σ H Q → t σ H Q) : PW X e u := ⟨fun wh pins s σ H Q I q => h.run wh pins s σ H Q I (i σ H Q q)⟩
theorem _root_.L2.PS.mono {e : Stmt} {t u : TS} (h : PS X e t) (i : ∀ D σ H, u D σ H → t D σ H) : PS X e u := ⟨fun pins s σ H D I q => h.run pins s σ H D I (i D σ H q)⟩
theorem _root_.L2.PSs.mono {e : List Stmt} {t u : TS} (h : PSs X e t) (i : ∀ D σ H, u D σ H → t D σ H) : PSs X e u := ⟨fun pins s σ H D I q => h.run pins s σ H D I (i D σ H q)⟩
end

/-! ### names, constants -/
def dVar (i : Nat) : DT := fun δ Q => match δ[i]? with
  | some (some (.val d)) => Q d
  | _ => False
def dC (d : D) : DT := fun _ Q => Q d
section
variable {X : Cx} {B : Base} {e a b c : Expr} {es rest : List Expr} {ta tb tc : DT} {te : DTA} {t u : DTT} {pos : Pos} {n : Nat}
theorem de_var {i : Nat} (h : PE X e (tVar i)) : DE X B e (dVar i) := h.mono fun σ H Q q => by
  obtain ⟨G, P, δ, Qd, w, q, k⟩ := q
  unfold dVar at q
  split at q
  · rename_i d hd
    obtain ⟨v, e1, r⟩ := w.sl i _ hd
    exact ⟨v, e1, k.here w.ok r q⟩
  · exact q.elim
/-- a constant: it stands in every world -/
theorem de_c {v : V} {d : D} (h : PE X e (tC v)) (r : ∀ G P, Rep X.K G P v d) : DE X B e (dC d) := h.mono fun σ H Q q => by
  obtain ⟨G, P, δ, Qd, w, q, k⟩ := q
  exact k.here w.ok (r G P) q
theorem de_int {i : Int} {j} : DE X B (.Constant (.int i) j pos) (dC (.int i)) := de_c pe_int fun _ _ => .int i
theorem de_bl {b : Bool} {j} : DE X B (.Constant (.bool b) j pos) (dC (.bl b)) := de_c pe_bl fun _ _ => .bl b
theorem de_non {j} : DE X B (.Constant .none j pos) (dC .non) := de_c pe_non fun _ _ => .non
theorem de_str {x : Str} {j} : DE X B (.Constant (.str x) j pos) (dC (.str x)) := de_c pe_str fun _ _ => .str x
/-- a constant of the module -/
def Con1 (K : PySem.W.Frag) (mg : Str → Option Value) (x : Str) (d : D) : Prop := ∃ u v, mg x = some u ∧ RelV v u ∧ ∀ G P, Rep K G P v d
theorem de_glob {x : Str} {d : D} (h : Con1 X.K X.mg x d) (hg : Gl X x) (hd : (x == ("__debug__" : Str)) = false := by decide) : DE X B (.Name x pos) (dC d) := by
  obtain ⟨u, v, hm, r, rp⟩ := h
  exact de_c (pe_glob hg hm r hd) rp
/-- a built-in class as a value -/
theorem de_ty {x : Str} {nm : String} (hm : X.mg x = none) (hg : Gl X x) (hv : bootBuiltins x = some (.type nm)) (hn : x ≠ "__name__" := by decide) (hd : (x == ("__debug__" : Str)) = false := by decide) : DE X B (.Name x pos) (dC (.ty nm)) :=
  de_c (pe_bltn hg hm hv (show RelV (.ty nm) (.type nm) from rfl) hn hd) fun _ _ => .ty nm

/-! ### operators -/
abbrev F2 := D → D → (D → Prop) → Prop
def dOp (f : F2) (ta tb : DT) : DT := fun δ Q => ta δ fun x => tb δ fun y => f x y Q
def OpD (K : PySem.W.Frag) (r : R2) (f : F2) : Prop := ∀ (G H : Hp) (P : Addr → Prop) (x y : V) (dx dy : D) (Qd : D → Prop) (Q : VK), WOk G H P → Rep K G P x dx → Rep K G P y dy → f dx dy Qd → K1 K G H P Qd Q → r x y H Q
theorem lift_op {K : PySem.W.Frag} {r : R2} {f : F2} (h : OpD K r f) (σ : L2.St) (H : Hp) (Q : VK) (q : lift K B (dOp f ta tb) σ H Q) : tOp r (lift K B ta) (lift K B tb) σ H Q := by
  obtain ⟨G, P, δ, Qd, w, q, k⟩ := q
  refine ⟨G, P, δ, _, w, q, fun x G1 H1 P1 dx s1 ok1 rx q1 => ?_⟩
  refine ⟨G1, P1, δ, _, w.step s1 ok1, q1, fun y G2 H2 P2 dy s2 ok2 ry q2 => ?_⟩
  exact h _ _ _ _ _ _ _ _ _ ok2 (s2.rep rx) ry q2 (k.step (s1.trans s2))
theorem de_op {op : Operator} {r : R2} {f : F2} (ho : OpR X (binaryOp op) r) (hf : OpD X.K r f) (ha : DE X B a ta) (hb : DE X B b tb) : DE X B (.BinOp a op b pos) (dOp f ta tb) :=
  (pe_op ho ha hb).mono fun σ H Q q => lift_op hf σ H Q q
theorem de_cmp {op : CmpOp} {r : R2} {f : F2} (ho : OpR X (compareOp op) r) (hf : OpD X.K r f) (ha : DE X B a ta) (hb : DE X B b tb) (hm : behindInMarks op b = false) : DE X B (.Compare a [op] [b] pos) (dOp f ta tb) :=
  (pe_cmpR ho ha hb hm).mono fun σ H Q q => lift_op hf σ H Q q
/-- the same as a test -/
def dTest (t : DT) : DTT := fun δ Q => t δ fun d => match d with
  | .bl b => Q b
  | _ => False
theorem lift_test {K : PySem.W.Frag} {tE : TE} {t : DT} (h : ∀ σ H Q, lift K B t σ H Q → tE σ H Q) (σ : L2.St) (H : Hp) (Q : Bool → Hp → Prop) (q : liftT K B (dTest t) σ H Q) : tE σ H fun x H' => ∃ k, x = .bl k ∧ Q k H' := by
  obtain ⟨G, P, δ, Qd, w, _, q, k⟩ := liftT_view q
  refine h σ H _ ⟨G, P, δ, _, w, q, fun v G1 H1 P1 d s1 ok1 r1 q1 => ?_⟩
  cases d with
  | bl b => cases r1; exact ⟨b, rfl, k b _ _ _ s1 ok1 q1⟩
  | _ => exact q1.elim
theorem dt_cmp {op : CmpOp} {r : R2} {f : F2} (ho : OpR X (compareOp op) r) (hf : OpD X.K r f) (ha : DE X B a ta) (hb : DE X B b tb) (hm : behindInMarks op b = false) : DTe X B (.Compare a [op] [b] pos) (dTest (dOp f ta tb)) :=
  (pt_cmpR ho ha hb hm).mono fun σ H Q q => lift_test (fun σ H Q q => lift_op hf σ H Q q) σ H Q q
theorem dt_val (ha : DE X B a ta) (he : ∀ whole, isTrue a X.env whole = (do let v ← whole; standAt a.pos; holding [v] (truthy v)) := by intro _; rfl) : DTe X B a (dTest ta) :=
  (pt_val ha he).mono fun σ H Q q => lift_test (fun σ H Q q => q) σ H Q q
/-- two comparisons in a chain -/
def dChain (f g : F2) (ta tb tc : DT) : DT := fun δ Q => ta δ fun x => tb δ fun y => f x y fun z => match z with
  | .bl k => if k = true then tc δ fun w => g y w Q else Q (.bl false)
  | _ => False
theorem lift_chain {K : PySem.W.Frag} {r r' : R2} {f g : F2} (h : OpD K r f) (h' : OpD K r' g) (σ : L2.St) (H : Hp) (Q : VK) (q : lift K B (dChain f g ta tb tc) σ H Q) : tChain r r' (lift K B ta) (lift K B tb) (lift K B tc) σ H Q := by
  obtain ⟨G, P, δ, Qd, w, q, k⟩ := q
  refine ⟨G, P, δ, _, w, q, fun x G1 H1 P1 dx s1 ok1 rx q1 => ?_⟩
  refine ⟨G1, P1, δ, _, w.step s1 ok1, q1, fun y G2 H2 P2 dy s2 ok2 ry q2 => ?_⟩
  refine h _ _ _ _ _ _ _ _ _ ok2 (s2.rep rx) ry q2 fun z G3 H3 P3 dz s3 ok3 rz q3 => ?_
  cases dz with
  | bl kk =>
    cases rz
    refine ⟨kk, rfl, ?_⟩
    cases kk with
    | true =>
      have q3' : tc δ fun w => g dy w Qd := q3
      rw [if_pos rfl]
      refine ⟨G3, P3, δ, _, ((w.step s1 ok1).step s2 ok2).step s3 ok3, q3', fun v G4 H4 P4 dv s4 ok4 rv q4 => ?_⟩
      exact h' _ _ _ _ _ _ _ _ _ ok4 ((s3.trans s4).rep ry) rv q4 (k.step (s1.trans (s2.trans (s3.trans s4))))
    | false =>
      have q3' : Qd (.bl false) := q3
      rw [if_neg (Bool.false_ne_true)]
      exact k _ _ _ _ _ (s1.trans (s2.trans s3)) ok3 (.bl false) q3'
  | _ => exact q3.elim
end
end FG

/-! FC: operators and comparisons on trees. -/
namespace FG
open PySem.Spec PySem L2 PyProof.Rows

/-! ### trees as plain data -/
mutual
def D.py : D → PyData
  | .bl b => .bool b
  | .int i => .int i
  | .str s => .str s
  | .tup xs => .tuple (D.pyL xs)
  | .lst xs => .list (D.pyL xs)
  | _ => .none
def D.pyL : List D → List PyData
  | [] => []
  | x :: xs => D.py x :: D.pyL xs
end
mutual
/-- no instances, dicts or the like within -/
def D.plain : D → Bool
  | .non | .bl _ | .int _ | .str _ => true
  | .tup xs => D.plainL xs
  | .lst xs => D.plainL xs
  | _ => false
def D.plainL : List D → Bool
  | [] => true
  | x :: xs => D.plain x && D.plainL xs
end
mutual
theorem Rep.dp {K : PySem.W.Frag} {G H : Hp} {P : Addr → Prop} (gh : ∀ a o, G a = some o → H a = some o) : ∀ {v : V} {d : D}, Rep K G P v d → d.plain = true → Dp K H v d.py
  | _, _, .non, _ => .non
  | _, _, .bl b, _ => .bl b
  | _, _, .int i, _ => .int i
  | _, _, .str s, _ => .str s
  | _, _, .tup a b c, h => .tup (sqt_mono gh a) (RepL.dp gh b h)
  | _, _, .lst a b c, h => .lst (.inl (.inl (gh _ _ a))) (RepL.dp gh b h)
  | _, _, .dct a b, h => nomatch h
  | _, _, .ins a b, h => nomatch h
  | _, _, .pot a, h => nomatch h
  | _, _, .scr a, h => nomatch h
  | _, _, .cls a, h => nomatch h
  | _, _, .ty n, h => nomatch h
theorem RepL.dp {K : PySem.W.Frag} {G H : Hp} {P : Addr → Prop} (gh : ∀ a o, G a = some o → H a = some o) : ∀ {v : List V} {d : List D}, RepL K G P v d → D.plainL d = true → DpAll K H v (D.pyL d)
  | _, _, .nil, _ => .nil
  | _, _, .cons a b, h => .cons (Rep.dp gh a (Bool.and_eq_true_iff.mp h).1) (RepL.dp gh b (Bool.and_eq_true_iff.mp h).2)
end
/-- == of trees, where it is plain data -/
def D.eqq (a b : D) : Bool := PyData.eqv a.py b.py
def D.okEq (a : D) : Bool := a.plain && SeqAt.shaped a.py

/-! ### operators -/
def fAdd : D → D → (D → Prop) → Prop
  | .int i, .int j, Q => Q (.int (i + j))
  | .str s, .str t, Q => s.length + t.length ≤ sizeLine ∧ Q (.str (s ++ t))
  | .lst a, .lst b, Q => a.length + b.length ≤ sizeLine ∧ Q (.lst (a ++ b))
  | .tup a, .tup b, Q => a.length + b.length ≤ sizeLine ∧ Q (.tup (a ++ b))
  | _, _, _ => False
def fSub : D → D → (D → Prop) → Prop
  | .int i, .int j, Q => Q (.int (i - j))
  | _, _, _ => False
/-- a product: numbers of a bounded size; a list repeated -/
def fMul : D → D → (D → Prop) → Prop
  | .int i, .int j, Q => CMulX i j ∧ Q (.int (i * j))
  | .lst a, .int k, Q => -(2 ^ 63) ≤ k ∧ k < 2 ^ 63 ∧ a.length * k.toNat ≤ sizeLine ∧ Q (.lst (List.replicate k.toNat a).flatten)
  | _, _, _ => False
def fFdiv : D → D → (D → Prop) → Prop
  | .int i, .int j, Q => CDivW i j ∧ Q (.int (i / j))
  | _, _, _ => False
def fMod : D → D → (D → Prop) → Prop
  | .int i, .int j, Q => 0 < j ∧ Q (.int (i % j))
  | _, _, _ => False
def fPow : D → D → (D → Prop) → Prop
  | .int i, .int j, Q => CPow i j ∧ Q (.int (i ^ j.toNat))
  | _, _, _ => False
def fInt (p : Int → Int → Bool) : D → D → (D → Prop) → Prop
  | .int i, .int j, Q => Q (.bl (p i j))
  | _, _, _ => False
abbrev fLt : F2 := fInt fun i j => decide (i < j)
abbrev fLe : F2 := fInt fun i j => decide (i ≤ j)
abbrev fGt : F2 := fInt fun i j => decide (j < i)
abbrev fGe : F2 := fInt fun i j => decide (j ≤ i)
def fEq : D → D → (D → Prop) → Prop
  | .int i, .int j, Q => Q (.bl (decide (i = j)))
  | .str i, .str j, Q => Q (.bl (decide (i = j)))
  | .bl i, .bl j, Q => Q (.bl (decide (i = j)))
  | .non, .non, Q => Q (.bl true)
  | a, b, Q => a.okEq = true ∧ b.okEq = true ∧ Q (.bl (a.eqq b))
def fNe : D → D → (D → Prop) → Prop
  | .int i, .int j, Q => Q (.bl (!decide (i = j)))
  | .str i, .str j, Q => Q (.bl (!decide (i = j)))
  | .bl i, .bl j, Q => Q (.bl (!decide (i = j)))
  | .non, .non, Q => Q (.bl false)
  | a, b, Q => a.okEq = true ∧ b.okEq = true ∧ Q (.bl (!a.eqq b))
def D.isN : D → Bool
  | .non => true
  | _ => false
def fIsN : D → D → (D → Prop) → Prop
  | x, .non, Q => Q (.bl x.isN)
  | _, _, _ => False
def fNotN : D → D → (D → Prop) → Prop
  | x, .non, Q => Q (.bl (!x.isN))
  | _, _, _ => False
def D.flat : D → Bool
  | .non | .bl _ | .int _ | .str _ => true
  | _ => false
def D.eqF : D → D → Bool
  | .non, .non => true
  | .bl a, .bl b => a == b
  | .bl u, .int v => (if u then 1 else 0) == v
  | .int u, .bl v => u == (if v then 1 else 0)
  | .int a, .int b => a == b
  | .str a, .str b => a == b
  | _, _ => false
def D.inF (x : D) (xs : List D) : Bool := xs.any fun y => y.eqF x
/-- one sign -/
def sign (c : Nat) : Str := ⟨#[c]⟩
def fIn : D → D → (D → Prop) → Prop
  | .str s, .str z, Q => (∃ c, s = sign c ∧ Q (.bl (decide (c ∈ z.cps.toList))))
  | x, .tup xs, Q => x.flat = true ∧ xs.all D.flat = true ∧ Q (.bl (x.inF xs))
  | x, .lst xs, Q => x.flat = true ∧ xs.all D.flat = true ∧ Q (.bl (x.inF xs))
  | _, _, _ => False
def fNotIn : D → D → (D → Prop) → Prop
  | .str s, .str z, Q => (∃ c, s = sign c ∧ Q (.bl (!decide (c ∈ z.cps.toList))))
  | x, .tup xs, Q => x.flat = true ∧ xs.all D.flat = true ∧ Q (.bl (!x.inF xs))
  | x, .lst xs, Q => x.flat = true ∧ xs.all D.flat = true ∧ Q (.bl (!x.inF xs))
  | _, _, _ => False

section
variable {K : PySem.W.Frag} {G H : Hp} {P : Addr → Prop}
theorem Rep.flatV {v : V} {d : D} (r : Rep K G P v d) (h : d.flat = true) : L2.flatV v = true := by
  cases r <;> first | rfl | cases h
theorem RepL.flatV : ∀ {vs : List V} {ds : List D}, RepL K G P vs ds → ds.all D.flat = true → vs.all L2.flatV = true
  | _, _, .nil, _ => rfl
  | _, _, .cons a r, h => by
    simp only [List.all_cons, Bool.and_eq_true] at h ⊢
    exact ⟨a.flatV h.1, RepL.flatV r h.2⟩
theorem Rep.eqV {v w : V} {d e : D} (r : Rep K G P v d) (s : Rep K G P w e) (h : d.flat = true) (h2 : e.flat = true) : L2.eqV v w = d.eqF e := by
  cases r <;> first | (cases s <;> first | rfl | cases h2) | cases h
theorem RepL.inV {x : V} {dx : D} (r : Rep K G P x dx) (h : dx.flat = true) : ∀ {vs : List V} {ds : List D}, RepL K G P vs ds → ds.all D.flat = true → L2.inV x vs = dx.inF ds
  | _, _, .nil, _ => rfl
  | _, _, .cons (v := v) (d := d) a q, h2 => by
    simp only [List.all_cons, Bool.and_eq_true] at h2
    have ih := RepL.inV r h q h2.2
    unfold L2.inV D.inF at ih ⊢
    rw [List.any_cons, List.any_cons, a.eqV r h2.1 h, ih]
theorem Rep.isN {v : V} {d : D} (r : Rep K G P v d) : decide (v = .non) = d.isN := by
  cases r <;> first | rfl | simp [D.isN]
end

/-! ### they are Python's -/
section
variable {X : Cx} {K : PySem.W.Frag}
def rAddD (K : PySem.W.Frag) : R2 := fun x y H Q => (((rI0 fun i j => .int (i + j)) x y H Q ∨ (fun x y H Q => ∃ i j, x = V.str i ∧ y = V.str j ∧ i.length + j.length ≤ sizeLine ∧ Q (.str (i ++ j)) H) x y H Q) ∨ rCat x y H Q) ∨ rCatA K x y H Q
theorem op_addD : OpR X (binaryOp .Add) (rAddD X.K) := ((op_add.or op_add_str).or op_cat).or op_catA
theorem od_add : OpD K (rAddD K) fAdd := by
  intro G H P x y dx dy Qd Q w rx ry q k
  cases rx with
  | int i =>
    cases ry with
    | int j => exact .inl (.inl (.inl ⟨i, j, rfl, rfl, k.here w (.int _) q⟩))
    | _ => exact q.elim
  | str i =>
    cases ry with
    | str j => exact .inl (.inl (.inr ⟨i, j, rfl, rfl, q.1, k.here w (.str _) q.2⟩))
    | _ => exact q.elim
  | lst a b c =>
    cases ry with
    | lst a2 b2 c2 =>
      refine .inl (.inr ⟨_, _, _, _, rfl, rfl, w.gh _ _ a, w.gh _ _ a2, by rw [b.length, b2.length]; exact q.1, fun p hp => ?_⟩)
      exact k.new w hp (.newLst w hp (b.append b2) (by rw [List.length_append]; exact q.1)) q.2
    | _ => exact q.elim
  | tup a b c =>
    cases ry with
    | tup a2 b2 c2 =>
      refine .inr ⟨_, _, _, _, rfl, rfl, sqt_mono w.gh a, sqt_mono w.gh a2, by rw [b.length, b2.length]; exact q.1, fun e => ?_, fun _ e => ?_, fun _ _ p hp => ?_⟩
      · subst e
        cases b
        exact k.here w (.tup a2 b2 c2) q.2
      · subst e
        cases b2
        exact k.here w (.tup a b c) (by have := q.2; rw [List.append_nil] at this; exact this)
      · exact k.new w hp (.newTup w hp (b.append b2) (by rw [List.length_append]; exact q.1)) q.2
    | _ => exact q.elim
  | _ => exact q.elim
theorem od_int2 {C : Int → Int → Prop} {g : Int → Int → Int} {f : F2} (hf : ∀ dx dy Q, f dx dy Q → ∃ i j, dx = .int i ∧ dy = .int j ∧ C i j ∧ Q (.int (g i j))) : OpD K (rI C fun i j => .int (g i j)) f := by
  intro G H P x y dx dy Qd Q w rx ry q k
  obtain ⟨i, j, rfl, rfl, c, q⟩ := hf _ _ _ q
  cases rx
  cases ry
  exact ⟨i, j, rfl, rfl, c, k.here w (.int _) q⟩
theorem od_sub : OpD K (rI0 fun i j => .int (i - j)) fSub := by
  intro G H P x y dx dy Qd Q w rx ry q k
  cases rx with
  | int i =>
    cases ry with
    | int j => exact ⟨i, j, rfl, rfl, k.here w (.int _) q⟩
    | _ => exact q.elim
  | _ => exact q.elim
def rMulD : R2 := fun x y H Q => (rI CMulX fun i j => .int (i * j)) x y H Q ∨ rRep x y H Q
theorem op_mulD : OpR X (binaryOp .Mult) rMulD := op_mulX.or op_rep
theorem RepL.rep {G : Hp} {P : Addr → Prop} {vs : List V} {ds : List D} (h : RepL K G P vs ds) : ∀ n : Nat, RepL K G P (List.replicate n vs).flatten (List.replicate n ds).flatten
  | 0 => .nil
  | n + 1 => by
    simp only [List.replicate_succ, List.flatten_cons]
    exact h.append (RepL.rep h n)
theorem len_rep {α : Type} (l : List α) : ∀ n : Nat, ((List.replicate n l).flatten).length = l.length * n
  | 0 => by simp
  | n + 1 => by rw [List.replicate_succ, List.flatten_cons, List.length_append, len_rep l n, Nat.mul_succ, Nat.add_comm]
theorem od_mul : OpD K rMulD fMul := by
  intro G H P x y dx dy Qd Q w rx ry q k
  cases rx with
  | int i =>
    cases ry with
    | int j => exact .inl ⟨i, j, rfl, rfl, q.1, k.here w (.int _) q.2⟩
    | _ => exact q.elim
  | lst a b c =>
    cases ry with
    | int j =>
      obtain ⟨q1, q2, q3, q4⟩ := q
      refine .inr ⟨_, j, _, rfl, rfl, w.gh _ _ a, q1, q2, by rw [b.length]; exact q3, fun p hp => ?_⟩
      exact k.new w hp (.newLst w hp (b.rep _) (by rw [len_rep]; exact q3)) q4
    | _ => exact q.elim
  | _ => exact q.elim
theorem od_fdiv : OpD K (rI CDivW fun i j => .int (i / j)) fFdiv := od_int2 fun dx dy Q q => by
  cases dx <;> cases dy <;> first | exact q.elim | exact ⟨_, _, rfl, rfl, q.1, q.2⟩
theorem od_mod : OpD K (rI (fun _ j => 0 < j) fun i j => .int (i % j)) fMod := od_int2 fun dx dy Q q => by
  cases dx <;> cases dy <;> first | exact q.elim | exact ⟨_, _, rfl, rfl, q.1, q.2⟩
theorem od_pow : OpD K (rI CPow fun i j => .int (i ^ j.toNat)) fPow := od_int2 fun dx dy Q q => by
  cases dx <;> cases dy <;> first | exact q.elim | exact ⟨_, _, rfl, rfl, q.1, q.2⟩
theorem od_int {p : Int → Int → Bool} : OpD K (rI0 fun i j => .bl (p i j)) (fInt p) := by
  intro G H P x y dx dy Qd Q w rx ry q k
  cases rx with
  | int i =>
    cases ry with
    | int j => exact ⟨i, j, rfl, rfl, k.here w (.bl _) q⟩
    | _ => exact q.elim
  | _ => exact q.elim
def rEqDD (K : PySem.W.Frag) : R2 := fun x y H Q => rEq x y H Q ∨ rEqD K x y H Q
def rNeDD (K : PySem.W.Frag) : R2 := fun x y H Q => rNe x y H Q ∨ rNeD K x y H Q
theorem op_eqDD (hu : X.A.units + 64 < cLine) : OpR X (compareOp .Eq) (rEqDD X.K) := op_eq.or (op_eqD hu)
theorem op_neDD (hu : X.A.units + 64 < cLine) : OpR X (compareOp .NotEq) (rNeDD X.K) := op_ne.or (op_neD hu)
theorem okEq_of {d : D} (h : d.okEq = true) : d.plain = true ∧ SeqAt.shaped d.py = true := Bool.and_eq_true_iff.mp h
theorem od_eq : OpD K (rEqDD K) fEq := by
  intro G H P x y dx dy Qd Q w rx ry q k
  have gen : dx.okEq = true ∧ dy.okEq = true ∧ Qd (.bl (dx.eqq dy)) → rEqDD K x y H Q := fun ⟨h1, h2, q⟩ =>
    .inr ⟨_, _, rx.dp w.gh (okEq_of h1).1, ry.dp w.gh (okEq_of h2).1, (okEq_of h1).2, (okEq_of h2).2, k.here w (.bl _) q⟩
  unfold fEq at q
  split at q
  · cases rx; cases ry; exact .inl ⟨rfl, by rw [dec_int, Bool.beq_eq_decide_eq]; exact k.here w (.bl _) q⟩
  · cases rx; cases ry; exact .inl ⟨rfl, by rw [dec_str, Bool.beq_eq_decide_eq]; exact k.here w (.bl _) q⟩
  · cases rx; cases ry; exact .inl ⟨rfl, by rw [dec_bl, Bool.beq_eq_decide_eq]; exact k.here w (.bl _) q⟩
  · cases rx; cases ry; exact .inl ⟨rfl, k.here w (.bl _) q⟩
  · exact gen q
theorem od_ne : OpD K (rNeDD K) fNe := by
  intro G H P x y dx dy Qd Q w rx ry q k
  have gen : dx.okEq = true ∧ dy.okEq = true ∧ Qd (.bl (!dx.eqq dy)) → rNeDD K x y H Q := fun ⟨h1, h2, q⟩ =>
    .inr ⟨_, _, rx.dp w.gh (okEq_of h1).1, ry.dp w.gh (okEq_of h2).1, (okEq_of h1).2, (okEq_of h2).2, k.here w (.bl _) q⟩
  unfold fNe at q
  split at q
  · cases rx; cases ry; exact .inl ⟨rfl, by rw [dec_int, Bool.beq_eq_decide_eq]; exact k.here w (.bl _) q⟩
  · cases rx; cases ry; exact .inl ⟨rfl, by rw [dec_str, Bool.beq_eq_decide_eq]; exact k.here w (.bl _) q⟩
  · cases rx; cases ry; exact .inl ⟨rfl, by rw [dec_bl, Bool.beq_eq_decide_eq]; exact k.here w (.bl _) q⟩
  · cases rx; cases ry; exact .inl ⟨rfl, k.here w (.bl _) q⟩
  · exact gen q
theorem od_isN : OpD K (fun x y H Q => y = .non ∧ Q (.bl (decide (x = .non))) H) fIsN := by
  intro G H P x y dx dy Qd Q w rx ry q k
  cases ry with
  | non => exact ⟨rfl, by rw [rx.isN]; exact k.here w (.bl _) q⟩
  | _ => exact q.elim
theorem od_notN : OpD K (fun x y H Q => y = .non ∧ Q (.bl (!decide (x = .non))) H) fNotN := by
  intro G H P x y dx dy Qd Q w rx ry q k
  cases ry with
  | non => exact ⟨rfl, by rw [rx.isN]; exact k.here w (.bl _) q⟩
  | _ => exact q.elim
def rInD (K : PySem.W.Frag) : R2 := fun x y H Q => (fun x y H Q => ∃ (c : Nat) (z : Str), x = V.str ⟨#[c]⟩ ∧ y = .str z ∧ Q (.bl (decide (c ∈ z.cps.toList))) H) x y H Q ∨ rIn K false x y H Q
def rNotInD (K : PySem.W.Frag) : R2 := fun x y H Q => (fun x y H Q => ∃ (c : Nat) (z : Str), x = V.str ⟨#[c]⟩ ∧ y = .str z ∧ Q (.bl (!decide (c ∈ z.cps.toList))) H) x y H Q ∨ rIn K true x y H Q
theorem op_inD : OpR X (compareOp .In) (rInD X.K) := op_in_sign.or op_in_seq
theorem op_notInD : OpR X (compareOp .NotIn) (rNotInD X.K) := op_notIn_sign.or op_notIn_seq
theorem od_in : OpD K (rInD K) fIn := by
  intro G H P x y dx dy Qd Q w rx ry q k
  cases ry with
  | str z =>
    cases rx with
    | str s =>
      obtain ⟨c, rfl, q⟩ := q
      exact .inl ⟨c, z, rfl, rfl, k.here w (.bl _) q⟩
    | _ => exact q.elim
  | @tup a xs ds h1 h2 h3 =>
    have q' : dx.flat = true ∧ ds.all D.flat = true ∧ Qd (.bl (dx.inF ds)) := by cases rx <;> exact q
    obtain ⟨f1, f2, q⟩ := q'
    exact .inr ⟨_, _, rfl, .inr (sqt_mono w.gh h1), rx.flatV f1, h2.flatV f2, by rw [if_neg Bool.false_ne_true, RepL.inV rx f1 h2 f2]; exact k.here w (.bl _) q⟩
  | @lst a xs ds h1 h2 h3 =>
    have q' : dx.flat = true ∧ ds.all D.flat = true ∧ Qd (.bl (dx.inF ds)) := by cases rx <;> exact q
    obtain ⟨f1, f2, q⟩ := q'
    exact .inr ⟨_, _, rfl, .inl (.inl (.inl (w.gh _ _ h1))), rx.flatV f1, h2.flatV f2, by rw [if_neg Bool.false_ne_true, RepL.inV rx f1 h2 f2]; exact k.here w (.bl _) q⟩
  | _ => exact (show False by cases rx <;> exact q).elim
theorem od_notIn : OpD K (rNotInD K) fNotIn := by
  intro G H P x y dx dy Qd Q w rx ry q k
  cases ry with
  | str z =>
    cases rx with
    | str s =>
      obtain ⟨c, rfl, q⟩ := q
      exact .inl ⟨c, z, rfl, rfl, k.here w (.bl _) q⟩
    | _ => exact q.elim
  | @tup a xs ds h1 h2 h3 =>
    have q' : dx.flat = true ∧ ds.all D.flat = true ∧ Qd (.bl (!dx.inF ds)) := by cases rx <;> exact q
    obtain ⟨f1, f2, q⟩ := q'
    exact .inr ⟨_, _, rfl, .inr (sqt_mono w.gh h1), rx.flatV f1, h2.flatV f2, by rw [if_pos rfl, RepL.inV rx f1 h2 f2]; exact k.here w (.bl _) q⟩
  | @lst a xs ds h1 h2 h3 =>
    have q' : dx.flat = true ∧ ds.all D.flat = true ∧ Qd (.bl (!dx.inF ds)) := by cases rx <;> exact q
    obtain ⟨f1, f2, q⟩ := q'
    exact .inr ⟨_, _, rfl, .inl (.inl (.inl (w.gh _ _ h1))), rx.flatV f1, h2.flatV f2, by rw [if_pos rfl, RepL.inV rx f1 h2 f2]; exact k.here w (.bl _) q⟩
  | _ => exact (show False by cases rx <;> exact q).elim
end
/-! ### minus, as a value -/
def dNeg (ta : DT) : DT := fun δ Q => ta δ fun x => match x with
  | .int i => Q (.int (-i))
  | _ => False
section
variable {X : Cx} {B : Base} {e a b c : Expr} {es rest : List Expr} {ta tb tc : DT} {te : DTA} {t u : DTT} {pos : Pos} {n : Nat}
theorem de_neg (ha : DE X B a ta) : DE X B (.UnaryOp .USub a pos) (dNeg ta) := (pe_un un_neg ha).mono fun σ H Q q => by
  obtain ⟨G, P, δ, Qd, w, q, k⟩ := q
  refine ⟨G, P, δ, _, w, q, fun v G1 H1 P1 d s1 ok1 r1 q1 => ?_⟩
  cases r1 with
  | int i => exact ⟨i, rfl, k _ _ _ _ _ s1 ok1 (.int _) q1⟩
  | _ => exact q1.elim

/-! ### tests -/
def dAnd (t u : DTT) : DTT := fun δ Q => t δ fun c => if c = true then u δ Q else Q false
def dOr (t u : DTT) : DTT := fun δ Q => t δ fun c => if c = true then Q true else u δ Q
def dNot (t : DTT) : DTT := fun δ Q => t δ fun c => Q (!c)
theorem dw_and1 (ha : DTe X B a t) : DW X B (.BoolOp .And [a] pos) t := pw_and1 ha
theorem dw_or1 (ha : DTe X B a t) : DW X B (.BoolOp .Or [a] pos) t := pw_or1 ha
theorem dw_and (ha : DTe X B a t) (hb : DW X B (.BoolOp .And (b :: rest) pos) u) : DW X B (.BoolOp .And (a :: b :: rest) pos) (dAnd t u) := (pw_and ha hb).mono fun σ H Q q => by
  obtain ⟨G, P, δ, Qd, w, hv, q, k⟩ := liftT_view q
  refine ⟨G, P, δ, _, w, by rw [hv]; exact q, fun b G1 H1 P1 s1 ok1 q1 => ?_⟩
  cases b with
  | true =>
    rw [if_pos rfl]
    exact ⟨G1, P1, δ, Qd, w.step s1 ok1, by rw [hv]; exact q1, k.step s1⟩
  | false =>
    rw [if_neg (Bool.false_ne_true)]
    exact k _ _ _ _ s1 ok1 q1
theorem dw_or (ha : DTe X B a t) (hb : DW X B (.BoolOp .Or (b :: rest) pos) u) : DW X B (.BoolOp .Or (a :: b :: rest) pos) (dOr t u) := (pw_or ha hb).mono fun σ H Q q => by
  obtain ⟨G, P, δ, Qd, w, hv, q, k⟩ := liftT_view q
  refine ⟨G, P, δ, _, w, by rw [hv]; exact q, fun b G1 H1 P1 s1 ok1 q1 => ?_⟩
  cases b with
  | true =>
    rw [if_pos rfl]
    exact k _ _ _ _ s1 ok1 q1
  | false =>
    rw [if_neg (Bool.false_ne_true)]
    exact ⟨G1, P1, δ, Qd, w.step s1 ok1, by rw [hv]; exact q1, k.step s1⟩
theorem dt_not (ha : DTe X B a t) : DTe X B (.UnaryOp .Not a pos) (dNot t) := (pt_not ha).mono fun σ H Q q => by
  obtain ⟨G, P, δ, Qd, w, q, k⟩ := q
  exact ⟨G, P, δ, _, w, q, fun b G1 H1 P1 s1 ok1 q1 => k _ _ _ _ s1 ok1 q1⟩
theorem dt_w (h : DW X B e t) : DTe X B e t := h.pt

/-! ### and, or, not as values (True, False); if-expressions -/
def dAndV (ta tb : DT) : DT := fun δ Q => ta δ fun x => match x with
  | .bl c => if c = true then tb δ Q else Q (.bl false)
  | _ => False
def dOrV (ta tb : DT) : DT := fun δ Q => ta δ fun x => match x with
  | .bl c => if c = true then Q (.bl true) else tb δ Q
  | _ => False
def dNotV (ta : DT) : DT := fun δ Q => ta δ fun x => match x with
  | .bl c => Q (.bl (!c))
  | _ => False
def dIfE (t : DTT) (ta tb : DT) : DT := fun δ Q => t (view δ) fun c => if c = true then ta δ Q else tb δ Q
theorem de_one {op} (h : DE X B a ta) : DE X B (.BoolOp op [a] pos) ta := pe_one h
theorem de_and (ha : DE X B a ta) (hb : DE X B (.BoolOp .And (b :: rest) pos) tb) : DE X B (.BoolOp .And (a :: b :: rest) pos) (dAndV ta tb) := (pe_and ha hb).mono fun σ H Q q => by
  obtain ⟨G, P, δ, Qd, w, q, k⟩ := q
  refine ⟨G, P, δ, _, w, q, fun v G1 H1 P1 d s1 ok1 r1 q1 => ?_⟩
  cases r1 with
  | bl c =>
    refine ⟨c, rfl, ?_⟩
    cases c with
    | true =>
      rw [if_pos rfl]
      exact ⟨G1, P1, δ, Qd, w.step s1 ok1, q1, k.step s1⟩
    | false =>
      rw [if_neg (Bool.false_ne_true)]
      exact k _ _ _ _ _ s1 ok1 (.bl false) q1
  | _ => exact q1.elim
theorem de_or (ha : DE X B a ta) (hb : DE X B (.BoolOp .Or (b :: rest) pos) tb) : DE X B (.BoolOp .Or (a :: b :: rest) pos) (dOrV ta tb) := (pe_or ha hb).mono fun σ H Q q => by
  obtain ⟨G, P, δ, Qd, w, q, k⟩ := q
  refine ⟨G, P, δ, _, w, q, fun v G1 H1 P1 d s1 ok1 r1 q1 => ?_⟩
  cases r1 with
  | bl c =>
    refine ⟨c, rfl, ?_⟩
    cases c with
    | true =>
      rw [if_pos rfl]
      exact k _ _ _ _ _ s1 ok1 (.bl true) q1
    | false =>
      rw [if_neg (Bool.false_ne_true)]
      exact ⟨G1, P1, δ, Qd, w.step s1 ok1, q1, k.step s1⟩
  | _ => exact q1.elim
theorem de_not (ha : DE X B a ta) : DE X B (.UnaryOp .Not a pos) (dNotV ta) := (pe_not ha).mono fun σ H Q q => by
  obtain ⟨G, P, δ, Qd, w, q, k⟩ := q
  refine ⟨G, P, δ, _, w, q, fun v G1 H1 P1 d s1 ok1 r1 q1 => ?_⟩
  cases r1 with
  | bl c => exact ⟨c, rfl, k _ _ _ _ _ s1 ok1 (.bl _) q1⟩
  | _ => exact q1.elim
theorem de_if (hc : DTe X B c t) (ha : DE X B a ta) (hb : DE X B b tb) : DE X B (.IfExp c a b pos) (dIfE t ta tb) := (pe_ifExp hc ha hb).mono fun σ H Q q => by
  obtain ⟨G, P, δ, Qd, w, q, k⟩ := q
  refine ⟨G, P, δ, _, w, q, fun b G1 H1 P1 s1 ok1 q1 => ?_⟩
  cases b with
  | true =>
    rw [if_pos rfl]
    exact ⟨G1, P1, δ, Qd, w.step s1 ok1, q1, k.step s1⟩
  | false =>
    rw [if_neg (Bool.false_ne_true)]
    exact ⟨G1, P1, δ, Qd, w.step s1 ok1, q1, k.step s1⟩

/-! ### arguments, displays -/
def dNil : DTA := fun _ Q => Q []
def dCons (ta : DT) (tr : DTA) : DTA := fun δ Q => ta δ fun x => tr δ fun xs => Q (x :: xs)
def dTup (ta : DTA) : DT := fun δ Q => ta δ fun ds => Q (.tup ds)
def dLst (ta : DTA) : DT := fun δ Q => ta δ fun ds => Q (.lst ds)
theorem da_nil : DA X B [] 0 dNil := pa_nil.mono fun σ H Q q => by
  obtain ⟨G, P, δ, Qd, w, q, k⟩ := q
  exact k _ _ _ _ _ .refl w.ok .nil rfl q
theorem da_cons (ha : DE X B e ta) (hr : DA X B es n te) (hs : starEach (e :: es) X.env = (false, eval e X.env) :: starEach es X.env := by rfl) : DA X B (e :: es) (n + 1) (dCons ta te) := (pa_cons ha hr hs).mono fun σ H Q q => by
  obtain ⟨G, P, δ, Qd, w, q, k⟩ := q
  refine ⟨G, P, δ, _, w, q, fun v G1 H1 P1 d s1 ok1 r1 q1 => ?_⟩
  refine ⟨G1, P1, δ, _, w.step s1 ok1, q1, fun vs G2 H2 P2 ds s2 ok2 r2 hl q2 => ?_⟩
  exact k _ _ _ _ _ (s1.trans s2) ok2 (.cons (s2.rep r1) r2) (by simp [hl]) q2
theorem de_tup {x1} (ha : DA X B es n te) (hn : n ≤ sizeLine := by decide) : DE X B (.Tuple es x1 pos) (dTup te) := (pe_tup ha).mono fun σ H Q q => by
  obtain ⟨G, P, δ, Qd, w, q, k⟩ := q
  refine ⟨G, P, δ, _, w, q, fun vs G2 H2 P2 ds s2 ok2 r2 hl q2 => ⟨by rw [r2.length, hl]; exact hn, fun p hp => ?_⟩⟩
  exact (k.step s2).new ok2 hp (.newTup ok2 hp r2 (by rw [hl]; exact hn)) q2
theorem de_lst (ha : DA X B es n te) (hn : n ≤ sizeLine := by decide) : DE X B (.List es pos) (dLst te) := (pe_lst ha).mono fun σ H Q q => by
  obtain ⟨G, P, δ, Qd, w, q, k⟩ := q
  refine ⟨G, P, δ, _, w, q, fun vs G2 H2 P2 ds s2 ok2 r2 hl q2 => ⟨by rw [r2.length, hl]; exact hn, fun p hp => ?_⟩⟩
  exact (k.step s2).new ok2 hp (.newLst ok2 hp r2 (by rw [hl]; exact hn)) q2
end
end FG

/-! FD: statements, targets, loops, comprehensions. -/
namespace FG
open PySem.Spec PySem L2 PyProof.Rows

/-- what follows a statement, told by trees; G0 P0: the world at its start -/
structure KS (K : PySem.W.Frag) (B : Base) (G0 : Hp) (P0 : Addr → Prop) (Dd : DEnds) (D : Ends) : Prop where
  nx : ∀ σ H G P δ, WS K B G H P σ δ → (∀ a o, G0 a = some o → G a = some o) → (∀ a, P0 a → P a) → Dd.nx δ → D.nx σ H
  bk : ∀ σ H G P δ, WS K B G H P σ δ → (∀ a o, G0 a = some o → G a = some o) → (∀ a, P0 a → P a) → Dd.bk δ → D.bk σ H
  ct : ∀ σ H G P δ, WS K B G H P σ δ → (∀ a o, G0 a = some o → G a = some o) → (∀ a, P0 a → P a) → Dd.ct δ → D.ct σ H
  rt : ∀ v H G P d, WOk G H P → Since B G H P → Rep K G P v d → Dd.rt d → D.rt v H
def liftS (K : PySem.W.Frag) (B : Base) (t : DTS) : TS := fun D σ H => ∃ G P δ Dd, WS K B G H P σ δ ∧ t Dd δ ∧ KS K B G P Dd D
abbrev DS (X : Cx) (B : Base) (s : Stmt) (t : DTS) : Prop := PS X s (liftS X.K B t)
abbrev DSs (X : Cx) (B : Base) (s : List Stmt) (t : DTS) : Prop := PSs X s (liftS X.K B t)

def dNext : DTS := fun D δ => D.nx δ
def dSeq (t u : DTS) : DTS := fun D δ => t { D with nx := u D } δ
def dNever : DTS := fun _ _ => False
def dBreak : DTS := fun D δ => D.bk δ
def dCont : DTS := fun D δ => D.ct δ
def dIf (c : DTT) (t u : DTS) : DTS := fun D δ => c (view δ) fun b => if b = true then t D δ else u D δ
def dRet (t : DT) : DTS := fun D δ => t (view δ) D.rt
def dRetN : DTS := fun D _ => D.rt .non
def dDrop (t : DT) : DTS := fun D δ => t δ fun _ => D.nx δ
/-- own things stay from now on -/
def dView (t : DTS) : DTS := fun D δ => t D (view δ)

section
variable {K : PySem.W.Frag} {B : Base} {G H G' H' : Hp} {P P' : Addr → Prop} {Dd : DEnds} {D : Ends}
theorem KS.step (k : KS K B G P Dd D) (gg : ∀ a o, G a = some o → G' a = some o) (pp : ∀ a, P a → P' a) : KS K B G' P' Dd D :=
  ⟨fun σ H G2 P2 δ w g p => k.nx σ H G2 P2 δ w (fun a o h => g a o (gg a o h)) (fun a h => p a (pp a h)), fun σ H G2 P2 δ w g p => k.bk σ H G2 P2 δ w (fun a o h => g a o (gg a o h)) (fun a h => p a (pp a h)),
    fun σ H G2 P2 δ w g p => k.ct σ H G2 P2 δ w (fun a o h => g a o (gg a o h)) (fun a h => p a (pp a h)), k.rt⟩
end

section
variable {X : Cx} {B : Base} {s : Stmt} {rest sa sb : List Stmt} {e a b c : Expr} {ta tb : DT} {tc : DTT} {t u : DTS} {pos : Pos}
theorem dss_nil : DSs X B [] dNext := pss_nil.mono fun D σ H q => by
  obtain ⟨G, P, δ, Dd, w, q, k⟩ := q
  exact k.nx σ H G P δ w (fun _ _ h => h) (fun _ h => h) q
theorem lift_seq {K : PySem.W.Frag} (D : Ends) (σ : L2.St) (H : Hp) (q : liftS K B (dSeq t u) D σ H) : tSeq (liftS K B t) (liftS K B u) D σ H := by
  obtain ⟨G, P, δ, Dd, w, q, k⟩ := q
  exact ⟨G, P, δ, { Dd with nx := u Dd }, w, q, ⟨fun σ' H' G' P' δ' w' g p q' => ⟨G', P', δ', Dd, w', q', k.step g p⟩, k.bk, k.ct, k.rt⟩⟩
theorem dss_cons (h1 : DS X B s t) (h2 : DSs X B rest u) : DSs X B (s :: rest) (dSeq t u) := (pss_cons h1 h2).mono fun D σ H q => lift_seq D σ H q
theorem dss_one (h1 : DS X B s t) : DSs X B [s] t := pss_one h1
theorem ds_never : DS X B s dNever := ps_never.mono fun D σ H q => by
  obtain ⟨G, P, δ, Dd, w, q, k⟩ := q
  exact q.elim
theorem dss_never : DSs X B rest dNever := pss_never.mono fun D σ H q => by
  obtain ⟨G, P, δ, Dd, w, q, k⟩ := q
  exact q.elim
theorem ds_pass : DS X B (.Pass pos) dNext := ps_pass.mono fun D σ H q => by
  obtain ⟨G, P, δ, Dd, w, q, k⟩ := q
  exact k.nx σ H G P δ w (fun _ _ h => h) (fun _ h => h) q
theorem ds_break : DS X B (.Break pos) dBreak := ps_break.mono fun D σ H q => by
  obtain ⟨G, P, δ, Dd, w, q, k⟩ := q
  exact k.bk σ H G P δ w (fun _ _ h => h) (fun _ h => h) q
theorem ds_cont : DS X B (.Continue pos) dCont := ps_continue.mono fun D σ H q => by
  obtain ⟨G, P, δ, Dd, w, q, k⟩ := q
  exact k.ct σ H G P δ w (fun _ _ h => h) (fun _ h => h) q
theorem ds_if (hc : DTe X B c tc) (ha : DSs X B sa t) (hb : DSs X B sb u) : DS X B (.If c sa sb pos) (dIf tc t u) := (ps_if hc ha hb).mono fun D σ H q => by
  obtain ⟨G, P, δ, Dd, w, q, k⟩ := q
  refine ⟨G, P, δ, _, w, q, fun b G1 H1 P1 s1 ok1 q1 => ?_⟩
  cases b with
  | true =>
    rw [if_pos rfl]
    exact ⟨G1, P1, δ, Dd, w.step s1 ok1, q1, k.step s1.gg s1.pp⟩
  | false =>
    rw [if_neg (Bool.false_ne_true)]
    exact ⟨G1, P1, δ, Dd, w.step s1 ok1, q1, k.step s1.gg s1.pp⟩
theorem ds_ret (he : DE X B e ta) : DS X B (.Return (some e) pos) (dRet ta) := (ps_ret he).mono fun D σ H q => by
  obtain ⟨G, P, δ, Dd, w, q, k⟩ := q
  obtain ⟨G0, w0, gg⟩ := w.view
  exact ⟨G0, P, _, _, w0, q, fun v G1 H1 P1 d s1 ok1 r1 q1 => k.rt v H1 G1 P1 d ok1 (w0.since.step s1) r1 q1⟩
theorem ds_retN : DS X B (.Return none pos) dRetN := ps_retN.mono fun D σ H q => by
  obtain ⟨G, P, δ, Dd, w, q, k⟩ := q
  exact k.rt _ H G P _ w.ok w.since .non q
theorem ds_expr (he : DE X B e ta) (hs : swapsWith e none pos.line X.env = pure false := by rfl) : DS X B (.Expr e pos) (dDrop ta) := (ps_expr he hs).mono fun D σ H q => by
  obtain ⟨G, P, δ, Dd, w, q, k⟩ := q
  exact ⟨G, P, δ, _, w, q, fun v G1 H1 P1 d s1 ok1 r1 q1 => k.nx σ H1 G1 P1 δ (w.step s1 ok1) s1.gg s1.pp q1⟩
theorem ds_view (h : DS X B s t) : DS X B s (dView t) := h.mono fun D σ H q => by
  obtain ⟨G, P, δ, Dd, w, q, k⟩ := q
  obtain ⟨G0, w0, gg⟩ := w.view
  exact ⟨G0, P, _, Dd, w0, q, k.step gg fun _ h => h⟩
end

/-! ### targets: names, tuples of names -/
inductive Tgt where
  | nm (i : Nat) | tp (ts : List Tgt)
mutual
def gT : Tgt → D → DSt → (DSt → Prop) → Prop
  | .nm i, d, δ, Q => Q (δ.set i (some (.val d)))
  | .tp ts, .tup ds, δ, Q => gTs ts ds δ Q
  | .tp ts, .lst ds, δ, Q => gTs ts ds δ Q
  | .tp _, _, _, _ => False
def gTs : List Tgt → List D → DSt → (DSt → Prop) → Prop
  | [], [], δ, Q => Q δ
  | t :: ts, d :: ds, δ, Q => gT t d δ fun δ' => gTs ts ds δ' Q
  | [], _ :: _, _, _ => False
  | _ :: _, [], _, _ => False
end
mutual
def Tgt.slots : Tgt → List Nat
  | .nm i => [i]
  | .tp ts => slotsL ts
def slotsL : List Tgt → List Nat
  | [] => []
  | t :: ts => t.slots ++ slotsL ts
end
/-- but for these slots nothing has changed -/
def But (is : List Nat) (σ σ' : L2.St) : Prop := σ'.length = σ.length ∧ ∀ i, i ∉ is → σ'[i]? = σ[i]?
def liftG (K : PySem.W.Frag) (B : Base) (t : Tgt) : TG := fun v σ H Q => ∃ G P δ d Qd, WS K B G H P σ δ ∧ Rep K G P v d ∧ gT t d δ Qd ∧ ∀ σ' δ', WS K B G H P σ' δ' → But t.slots σ σ' → Qd δ' → Q σ' H
def liftGs (K : PySem.W.Frag) (B : Base) (ts : List Tgt) : TGs := fun vs σ H Q => ∃ G P δ ds Qd, WS K B G H P σ δ ∧ RepL K G P vs ds ∧ gTs ts ds δ Qd ∧ ∀ σ' δ', WS K B G H P σ' δ' → But (slotsL ts) σ σ' → Qd δ' → Q σ' H
abbrev DG (X : Cx) (B : Base) (tg : Expr) (t : Tgt) : Prop := PG X tg (liftG X.K B t)
abbrev DGs (X : Cx) (B : Base) (tg : List Expr) (t : List Tgt) : Prop := PGs X tg (liftGs X.K B t)
theorem gTs_len : ∀ {ts : List Tgt} {ds : List D} {δ : DSt} {Q : DSt → Prop}, gTs ts ds δ Q → (∃ δ', Q δ') → True := fun _ _ => trivial
section
variable {X : Cx} {B : Base} {e : Expr} {es : List Expr} {t : Tgt} {ts : List Tgt} {pos : Pos} {tgv : TG} {tgs : TGs}
theorem _root_.L2.PG.mono {t u : TG} (h : PG X e t) (i : ∀ v σ H Q, u v σ H Q → t v σ H Q) : PG X e u := ⟨fun pins s σ H v w Q I r q => h.run pins s σ H v w Q I r (i v σ H Q q)⟩
theorem _root_.L2.PGs.mono {t u : TGs} (h : PGs X es t) (i : ∀ v σ H Q, u v σ H Q → t v σ H Q) : PGs X es u := ⟨fun pins s σ H v w Q I r q => h.run pins s σ H v w Q I r (i v σ H Q q)⟩
theorem But.set {i : Nat} {σ : L2.St} {v : Option V} : But [i] σ (σ.set i v) := ⟨by simp, fun j hj => List.getElem?_set_ne (fun z => hj (by simp [z]))⟩
theorem dg_name {i : Nat} (h : PG X e (gName i)) : DG X B e (.nm i) := h.mono fun v σ H Q q => by
  obtain ⟨G, P, δ, d, Qd, w, r, q, k⟩ := q
  exact k _ _ (w.set r i) But.set (by unfold gT at q; exact q)
theorem dgs_nil : DGs X B [] [] := pgs_nil.mono fun vs σ H Q q => by
  obtain ⟨G, P, δ, ds, Qd, w, r, q, k⟩ := q
  cases r with
  | nil => exact ⟨rfl, k _ _ w ⟨rfl, fun _ _ => rfl⟩ (by unfold gTs at q; exact q)⟩
  | cons a b => unfold gTs at q; exact q.elim
theorem dgs_cons (h1 : DG X B e t) (h2 : DGs X B es ts) (hs : (assignEach (e :: es) X.env).map (·.2) = assign e X.env :: (assignEach es X.env).map (·.2) := by rfl) : DGs X B (e :: es) (t :: ts) := (pgs_cons h1 h2 hs).mono fun vs σ H Q q => by
  obtain ⟨G, P, δ, ds, Qd, w, r, q, k⟩ := q
  cases r with
  | nil => unfold gTs at q; exact q.elim
  | cons a b =>
    unfold gTs at q
    refine ⟨_, _, rfl, G, P, δ, _, _, w, a, q, fun σ' δ' w' bt q' => ?_⟩
    refine ⟨G, P, δ', _, Qd, w', b, q', fun σ2 δ2 w2 bt2 q2 => k σ2 δ2 w2 ⟨bt2.1.trans bt.1, fun i hi => ?_⟩ q2⟩
    have hi' : i ∉ t.slots ∧ i ∉ slotsL ts := by
      simp only [slotsL, List.mem_append, not_or] at hi
      exact hi
    rw [bt2.2 i hi'.2, bt.2 i hi'.1]
theorem _root_.L2.PG.or {t u : TG} (h : PG X e t) (h' : PG X e u) : PG X e (fun v σ H Q => t v σ H Q ∨ u v σ H Q) := ⟨fun pins s σ H v w Q I r q => by
  rcases q with q | q
  · exact h.run pins s σ H v w Q I r q
  · exact h'.run pins s σ H v w Q I r q⟩
theorem dg_tup {k : Nat} (hc : X.calm = true) (h : DGs X B es ts) (hn : (assignEach es X.env).length = ts.length := by rfl) (hst : (assignEach es X.env).findIdx? (·.1) = none := by rfl) : DG X B (.Tuple es k pos) (.tp ts) :=
  ((pg_tup hc h hn hst).or (pg_lst hc h hn hst)).mono fun v σ H Q q => by
    obtain ⟨G, P, δ, d, Qd, w, r, q, k⟩ := q
    have hl : ∀ {ts : List Tgt} {ds : List D} {δ : DSt} {Q : DSt → Prop}, gTs ts ds δ Q → ts.length = ds.length := by
      intro ts
      induction ts with
      | nil => intro ds δ Q h; cases ds with
        | nil => rfl
        | cons _ _ => unfold gTs at h; exact h.elim
      | cons t ts ih => intro ds δ Q h; cases ds with
        | nil => unfold gTs at h; exact h.elim
        | cons d ds =>
          unfold gTs at h
          have aux : ∀ (t : Tgt) (d : D) (δ : DSt) (Q : DSt → Prop), gT t d δ Q → ∃ δ', Q δ' := by
            intro t
            refine Tgt.rec (motive_1 := fun t => ∀ (d : D) (δ : DSt) (Q : DSt → Prop), gT t d δ Q → ∃ δ', Q δ') (motive_2 := fun ts => ∀ (ds : List D) (δ : DSt) (Q : DSt → Prop), gTs ts ds δ Q → ∃ δ', Q δ') ?_ ?_ ?_ ?_ t
            · intro i d δ Q h; unfold gT at h; exact ⟨_, h⟩
            · intro ts ih d δ Q h
              cases d <;> first | (unfold gT at h; exact ih _ _ _ h) | (unfold gT at h; exact h.elim)
            · intro ds δ Q h; cases ds with
              | nil => unfold gTs at h; exact ⟨_, h⟩
              | cons _ _ => unfold gTs at h; exact h.elim
            · intro t ts ih1 ih2 ds δ Q h; cases ds with
              | nil => unfold gTs at h; exact h.elim
              | cons d ds =>
                unfold gTs at h
                obtain ⟨δ', h⟩ := ih1 _ _ _ h
                exact ih2 _ _ _ h
          obtain ⟨δ', h⟩ := aux _ _ _ _ h
          simp [ih h]
    have bs : (Tgt.tp ts).slots = slotsL ts := by unfold Tgt.slots; rfl
    rw [bs] at k
    cases r with
    | tup a b c =>
      unfold gT at q
      exact .inl ⟨_, _, rfl, sqt_mono w.ok.gh a, by rw [b.length, ← hl q], G, P, δ, _, Qd, w, b, q, k⟩
    | lst a b c =>
      unfold gT at q
      exact .inr ⟨_, _, rfl, .inl (.inl (w.ok.gh _ _ a)), by rw [b.length, ← hl q], G, P, δ, _, Qd, w, b, q, k⟩
    | _ => unfold gT at q; exact q.elim
end

/-! ### assignments -/
def dAsg (t : DT) (g : Tgt) : DTS := fun D δ => t δ fun d => gT g d δ D.nx
/-- a value that needs no place: own things may be looked at on the way -/
def D.scal : D → Bool
  | .non | .bl _ | .int _ | .str _ => true
  | _ => false
def dAsgV (t : DT) (i : Nat) : DTS := fun D δ => t (view δ) fun d => d.scal = true ∧ D.nx (δ.set i (some (.val d)))
section
variable {X : Cx} {B : Base} {tg e : Expr} {g : Tgt} {ta : DT} {pos : Pos}
theorem ds_asg (he : DE X B e ta) (hg : DG X B tg g) (hs : swapsWithSole [tg] e pos.line X.env = pure false := by rfl) (hw : swappedStores [tg] e X.env = pure none := by rfl)
    (h1 : (assignEach [tg] X.env).map (·.2) = [assign tg X.env] := by rfl) : DS X B (.Assign [tg] e pos) (dAsg ta g) := (ps_asg he hg hs hw h1).mono fun D σ H q => by
  obtain ⟨G, P, δ, Dd, w, q, k⟩ := q
  refine ⟨G, P, δ, _, w, q, fun v G1 H1 P1 d s1 ok1 r1 q1 => ?_⟩
  exact ⟨G1, P1, δ, d, Dd.nx, w.step s1 ok1, r1, q1, fun σ' δ' w' _ q' => k.nx σ' H1 G1 P1 δ' w' s1.gg s1.pp q'⟩
theorem Rep.scal {K : PySem.W.Frag} {G G' : Hp} {P P' : Addr → Prop} {v : V} {d : D} (r : Rep K G P v d) (h : d.scal = true) : Rep K G' P' v d := by
  cases r <;> first | exact .non | exact .bl _ | exact .int _ | exact .str _ | cases h
theorem ds_asgV {i : Nat} (he : DE X B e ta) (hg : PG X tg (gName i)) (hs : swapsWithSole [tg] e pos.line X.env = pure false := by rfl) (hw : swappedStores [tg] e X.env = pure none := by rfl)
    (h1 : (assignEach [tg] X.env).map (·.2) = [assign tg X.env] := by rfl) : DS X B (.Assign [tg] e pos) (dAsgV ta i) := (ps_asg he hg hs hw h1).mono fun D σ H q => by
  obtain ⟨G, P, δ, Dd, w, q, k⟩ := q
  obtain ⟨G0, w0, gg⟩ := w.view
  refine ⟨G0, P, _, _, w0, q, fun v G1 H1 P1 d s1 ok1 r1 q1 => ?_⟩
  obtain ⟨s2, ok2⟩ := unview w.ok gg s1 ok1
  exact k.nx _ H1 G P1 _ ((w.step s2 ok2).set (r1.scal q1.1) i) (fun _ _ h => h) s2.pp q1.2
end

/-! ### what a for, a comprehension walks -/
abbrev DTI := DSt → (List D → Prop) → Prop
structure DWalk (K : PySem.W.Frag) (J : It) (items : List D) (G1 : Hp) (P1 : Addr → Prop) : Prop where
  ex : ∃ Gp Y, Walk J items.length Gp Y ∧ (∀ G H P, WOk G H P → (∀ a o, G1 a = some o → G a = some o) → Gp H) ∧
    ∀ i v H H' G P, i < items.length → WOk G H P → (∀ a o, G1 a = some o → G a = some o) → (∀ a, P1 a → P a) → Y i H v H' → ∃ G' d, Stp G H P G' H' P ∧ WOk G' H' P ∧ items[i]? = some d ∧ Rep K G' P v d
  line : items.length ≤ sizeLine
def liftI (K : PySem.W.Frag) (B : Base) (ti : DTI) : TI := fun σ H R => ∃ G P δ Qi, WS K B G H P σ δ ∧ ti δ Qi ∧ ∀ J G1 H1 P1 items, Stp G H P G1 H1 P1 → WOk G1 H1 P1 → DWalk K J items G1 P1 → Qi items → R J H1
abbrev DI (X : Cx) (B : Base) (tg iter : Expr) (ti : DTI) : Prop := PI X tg iter (liftI X.K B ti)
theorem _root_.L2.PI.mono {X : Cx} {tg iter : Expr} {t u : TI} (h : PI X tg iter t) (i : ∀ σ H Q, u σ H Q → t σ H Q) : PI X tg iter u := ⟨fun pins s σ H R I q => h.run pins s σ H R I (i σ H R q)⟩
/-- a list or a tuple -/
def iSeq (t : DT) : DTI := fun δ Q => t δ fun d => match d with
  | .lst ds => Q ds
  | .tup ds => Q ds
  | _ => False
theorem DWalk.list {K : PySem.W.Frag} {G : Hp} {P : Addr → Prop} {a : Addr} {xs : List V} {ds : List D} (h : G a = some (.lst xs)) (r : RepL K G P xs ds) (z : ds.length ≤ sizeLine) : DWalk K (Itl K a) ds G P := by
  refine ⟨⟨_, _, (by rw [← r.length]; exact walk_list (xs := xs)), fun G2 H P2 ok gg => Or.inl (Or.inl (ok.gh _ _ (gg _ _ h))), fun i v H H' G2 P2 hi ok gg pp y => ?_⟩, z⟩
  obtain ⟨rfl, e⟩ := y
  obtain ⟨d, e2, r2⟩ := r.get' e
  exact ⟨G2, d, .refl, ok, e2, r2.mono gg pp⟩
theorem DWalk.tup {K : PySem.W.Frag} {G : Hp} {P : Addr → Prop} {a : Addr} {xs : List V} {ds : List D} (h : SqT K G a xs) (r : RepL K G P xs ds) (z : ds.length ≤ sizeLine) : DWalk K (Itt K a) ds G P := by
  refine ⟨⟨_, _, (by rw [← r.length]; exact walk_tup (xs := xs)), fun G2 H P2 ok gg => sqt_mono ok.gh (sqt_mono gg h), fun i v H H' G2 P2 hi ok gg pp y => ?_⟩, z⟩
  obtain ⟨rfl, e⟩ := y
  obtain ⟨d, e2, r2⟩ := r.get' e
  exact ⟨G2, d, .refl, ok, e2, r2.mono gg pp⟩
section
variable {X : Cx} {B : Base} {tg iter e : Expr} {es : List Expr} {ta tb : DT} {te : DTA} {pos : Pos}
theorem _root_.L2.PI.or {t u : TI} (h : PI X tg iter t) (h' : PI X tg iter u) : PI X tg iter (fun σ H Q => t σ H Q ∨ u σ H Q) := ⟨fun pins s σ H R I q => by
  rcases q with q | q
  · exact h.run pins s σ H R I q
  · exact h'.run pins s σ H R I q⟩
/-- a list, a tuple: which of them is known when the value is there -/
def iSq (K : PySem.W.Frag) (tl : TE) : TI := fun σ H R => tl σ H fun x H1 => ∃ a, x = .ref a ∧ (((∃ xs, SqL K H1 a xs) ∧ R (Itl K a) H1) ∨ ((∃ xs, SqT K H1 a xs) ∧ R (Itt K a) H1))
/-- iter(..) of a list, of a tuple that are in hand -/
theorem seq_iter {pins : List (Addr × Obj)} {σ : L2.St} {H : Hp} {s : Shared} {R : It → Hp → Prop} {a : Addr} (I : Inv X pins σ H s)
    (h : ((∃ xs, SqL X.K H a xs) ∧ R (Itl X.K a) H) ∨ ((∃ xs, SqT X.K H a xs) ∧ R (Itt X.K a) H)) : wpAny (model X.prog X.w) X.A (pyIter (.ref a)) (PIE X pins σ tg R) X.xe s := by
  have sz : ∀ b ∈ [s.heap.objs.size], FpOk X pins H b := by
    intro b hb
    cases List.mem_singleton.mp hb
    exact (I.fpOk (Nat.le_refl _) (I.hok.fresh (Nat.le_refl _)))
  have kp : ∀ {o : Obj}, Inv X pins σ H { s with heap := s.heap.push o, toks := s.toks } := fun {o} => Inv.kept I (fun c u e => Heap.get?_push_of_some o e)
  rcases h with ⟨⟨xs, m⟩, q⟩ | ⟨⟨xs, m⟩, q⟩
  · obtain ⟨us, _, pl, _⟩ := I.list m
    apply wpAny_pyIter_list pl.isList
    exact ⟨_, [s.heap.objs.size], _, _, H, rfl, kp, turn_list a _, ⟨_, Heap.get?_push_size _ rfl, rfl, rfl⟩, sz, q⟩
  · obtain ⟨us, _, pl, _⟩ := I.tuple m
    apply wpAny_pyIter_tuple (t := a) pl
    exact ⟨_, [s.heap.objs.size], _, _, H, rfl, kp, turn_tuple a _, ⟨_, Heap.get?_push_size _ rfl, rfl, rfl⟩, sz, q⟩
theorem pi_sq {tl : TE} (hl : PE X iter tl) : PI X tg iter (iSq X.K tl) := by
  constructor
  intro pins s σ H R I h
  refine thn (hl.run _ _ _ _ _ I h) ?_
  rintro v s1 ⟨x, H1, I1, r1, a, rfl, q⟩
  cases r1
  exact seq_iter I1 q
theorem di_seq (hl : DE X B iter ta) : DI X B tg iter (iSeq ta) := (pi_sq hl).mono fun σ H R q => by
  obtain ⟨G, P, δ, Qi, w, q, k⟩ := q
  refine ⟨G, P, δ, _, w, q, fun v G1 H1 P1 d s1 ok1 r1 q1 => ?_⟩
  cases r1 with
  | lst a b c => exact ⟨_, rfl, .inl ⟨⟨_, .inl (.inl (ok1.gh _ _ a))⟩, k _ _ _ _ _ s1 ok1 (DWalk.list a b c) q1⟩⟩
  | tup a b c => exact ⟨_, rfl, .inr ⟨⟨_, sqt_mono ok1.gh a⟩, k _ _ _ _ _ s1 ok1 (DWalk.tup a b c) q1⟩⟩
  | _ => exact q1.elim

/-! ### for, while -/
def dLoop (tg : Tgt) (tb : DTS) (D : DEnds) : List FG.D → DSt → Prop
  | [], δ => D.nx δ
  | x :: xs, δ => gT tg x δ fun δ' => tb { D with nx := dLoop tg tb D xs, ct := dLoop tg tb D xs, bk := D.nx } δ'
def dFor (ti : DTI) (tg : Tgt) (tb : DTS) : DTS := fun D δ => ti δ fun items => dLoop tg tb D items δ
theorem ds_for {body : List Stmt} {ti : DTI} {g : Tgt} {tb : DTS} (hp : PassesOwn (model X.prog X.w) X.A X.env X.xe) (hc : X.calm = true) (hi : DI X B tg iter ti) (hg : DG X B tg g) (hb : DSs X B body tb)
    (hs : ∀ x, foldedSetIterable iter X.env x = pure x := by intro _; rfl) : DS X B (.For tg iter body [] pos) (dFor ti g tb) := (ps_for hp hc hi hg hb hs).mono fun D σ H q => by
  obtain ⟨G, P, δ, Dd, w, q, k⟩ := q
  refine ⟨G, P, δ, _, w, q, fun J G1 H1 P1 items s1 ok1 wk q1 => ?_⟩
  obtain ⟨Gp, Y, wk1, gp, yl⟩ := wk.ex
  refine for_it wk1 (fun i σ H => ∃ G P δ, WS X.K B G H P σ δ ∧ (∀ a o, G1 a = some o → G a = some o) ∧ (∀ a, P1 a → P a) ∧ dLoop g tb Dd (items.drop i) δ) ⟨G1, P1, δ, w.step s1 ok1, fun _ _ h => h, fun _ h => h, by simpa using q1⟩
    (fun i σ H _ ⟨G, P, δ, w, gg, pp, _⟩ => gp G H P w.ok gg) ?_ ?_
  · rintro i x σ H H' hi ⟨G2, P2, δ2, w2, gg, pp, q2⟩ y
    obtain ⟨G3, d, s3, ok3, e3, r3⟩ := yl i x H H' G2 P2 hi w2.ok gg pp y
    have hd : items.drop i = d :: items.drop (i + 1) := by
      rw [List.drop_eq_getElem_cons hi]
      rw [List.getElem?_eq_getElem hi] at e3
      rw [Option.some.inj e3]
    rw [hd] at q2
    unfold dLoop at q2
    refine ⟨G3, P2, δ2, d, _, w2.step s3 ok3, r3, q2, fun σ' δ' w' _ q' => ?_⟩
    have nxt : ∀ σ H G P δ, WS X.K B G H P σ δ → (∀ a o, G3 a = some o → G a = some o) → (∀ a, P2 a → P a) → dLoop g tb Dd (items.drop (i + 1)) δ → ∃ G P δ, WS X.K B G H P σ δ ∧ (∀ a o, G1 a = some o → G a = some o) ∧ (∀ a, P1 a → P a) ∧ dLoop g tb Dd (items.drop (i + 1)) δ :=
      fun σ H G P δ w g p q => ⟨G, P, δ, w, fun a o h => g a o (s3.gg a o (gg a o h)), fun a h => p a (pp a h), q⟩
    refine ⟨G3, P2, δ', _, w', q', ⟨nxt, ?_, nxt, k.rt⟩⟩
    exact fun σ H G P δ w g p q => k.nx σ H G P δ w (fun a o h => g a o (s3.gg a o (gg a o (s1.gg a o h)))) (fun a h => p a (pp a (s1.pp a h))) q
  · rintro σ H ⟨G2, P2, δ2, w2, gg, pp, q2⟩
    rw [List.drop_length] at q2
    unfold dLoop at q2
    exact k.nx σ H G2 P2 δ2 w2 (fun a o h => gg a o (s1.gg a o h)) (fun a h => pp a (s1.pp a h)) q2
def dWh (tc : DTT) (tb : DTS) (D : DEnds) : Nat → DSt → Prop
  | 0, _ => False
  | n + 1, δ => tc (view δ) fun b => if b = true then tb { D with nx := dWh tc tb D n, ct := dWh tc tb D n, bk := D.nx } δ else D.nx δ
def dWhile (tc : DTT) (tb : DTS) : DTS := fun D δ => ∃ n, dWh tc tb D n δ
theorem ds_while {c : Expr} {body : List Stmt} {tc : DTT} {tb : DTS} (hp : PassesOwn (model X.prog X.w) X.A X.env X.xe) (hc : DTe X B c tc) (hb : DSs X B body tb) : DS X B (.While c body [] pos) (dWhile tc tb) := (ps_while hp hc hb).mono fun D σ H q => by
  obtain ⟨G, P, δ, Dd, w, ⟨n, q⟩, k⟩ := q
  refine ⟨fun m σ H => ∃ G' P' δ, WS X.K B G' H P' σ δ ∧ (∀ a o, G a = some o → G' a = some o) ∧ (∀ a, P a → P' a) ∧ dWh tc tb Dd m δ, ⟨n, G, P, δ, w, fun _ _ h => h, fun _ h => h, q⟩, ?_⟩
  rintro m σ H ⟨G2, P2, δ2, w2, gg, pp, q2⟩
  cases m with
  | zero => unfold dWh at q2; exact q2.elim
  | succ m =>
    unfold dWh at q2
    refine ⟨G2, P2, δ2, _, w2, q2, fun b G3 H3 P3 s3 ok3 q3 => ?_⟩
    cases b with
    | false =>
      rw [if_neg (Bool.false_ne_true)]
      exact k.nx σ H3 G3 P3 δ2 (w2.step s3 ok3) (fun a o h => s3.gg a o (gg a o h)) (fun a h => s3.pp a (pp a h)) q3
    | true =>
      rw [if_pos rfl]
      refine ⟨fun σ H => ∃ G' P' δ, WS X.K B G' H P' σ δ ∧ (∀ a o, G a = some o → G' a = some o) ∧ (∀ a, P a → P' a) ∧ dWh tc tb Dd m δ, fun σ' H' h => ⟨m, Nat.lt_succ_self m, h⟩, ?_⟩
      have nxt : ∀ σ H G4 P4 δ, WS X.K B G4 H P4 σ δ → (∀ a o, G3 a = some o → G4 a = some o) → (∀ a, P3 a → P4 a) → dWh tc tb Dd m δ → ∃ G' P' δ, WS X.K B G' H P' σ δ ∧ (∀ a o, G a = some o → G' a = some o) ∧ (∀ a, P a → P' a) ∧ dWh tc tb Dd m δ :=
        fun σ H G4 P4 δ w g p q => ⟨G4, P4, δ, w, fun a o h => g a o (s3.gg a o (gg a o h)), fun a h => p a (s3.pp a (pp a h)), q⟩
      refine ⟨G3, P3, δ2, _, w2.step s3 ok3, q3, ⟨nxt, ?_, nxt, k.rt⟩⟩
      exact fun σ H G4 P4 δ w g p q => k.nx σ H G4 P4 δ w (fun a o h => g a o (s3.gg a o (gg a o h))) (fun a h => p a (s3.pp a (pp a h))) q
end

/-! ### lists that are new: they may change -/
abbrev DTF := DSt → (List D → Prop) → Prop
def liftF (K : PySem.W.Frag) (B : Base) (t : DTF) : TE := fun σ H Q => ∃ G P δ Qd, WS K B G H P σ δ ∧ t δ Qd ∧ ∀ l xs G' H' P' ds, Stp G H P G' H' P' → WOk G' H' P' → H l = none → H' l = some (.lst xs) → RepL K G' P' xs ds → G' l = none → ¬ P' l → ds.length ≤ sizeLine → Qd ds → Q (.ref l) H'
abbrev DF (X : Cx) (B : Base) (e : Expr) (t : DTF) : Prop := PE X e (liftF X.K B t)
/-- the new list stays as it is -/
def dStay (t : DTF) : DT := fun δ Q => t δ fun ds => Q (.lst ds)
section
variable {K : PySem.W.Frag} {B : Base} {G H G1 H1 G' H' : Hp} {P P1 P' : Addr → Prop} {σ : L2.St} {δ : DSt}
theorem Stp.tell (s : Stp G1 H1 P1 G H P) (ok : WOk G H P) {l : Addr} {o : HO} (h1 : H1 l = none) (h : H l = some o) (g : G l = none) (p : ¬ P l) : Stp G1 H1 P1 (upd G l o) H P ∧ WOk (upd G l o) H P := by
  refine ⟨⟨fun a u e => ?_, s.hh, s.dm, s.pp, s.pn, fun a u e => ?_⟩, ⟨fun a u e => ?_, fun a q => ?_, ok.pt⟩⟩
  · have z := s.gg a u e
    rw [upd_ne (ne_of_none z g)]; exact z
  · by_cases q : a = l
    · subst q; exact .inr h1
    · rw [upd_ne q] at e; exact s.gn a u e
  · by_cases q : a = l
    · subst q; rw [upd_same] at e; rw [h]; exact e
    · rw [upd_ne q] at e; exact ok.gh a u e
  · rw [upd_ne (fun z : a = l => p (z ▸ q))]; exact ok.pg a q
theorem Stp.poke (s : Stp G1 H1 P1 G H P) (ok : WOk G H P) {l : Addr} {o : HO} (h1 : H1 l = none) (g : G l = none) (p : ¬ P l) : Stp G1 H1 P1 G (upd H l o) P ∧ WOk G (upd H l o) P := by
  refine ⟨⟨s.gg, fun a u e n => ?_, fun a e => ?_, s.pp, s.pn, s.gn⟩, ⟨fun a u e => ?_, ok.pg, fun a q => ?_⟩⟩
  · rw [upd_ne (ne_of_none e h1)]; exact s.hh a u e n
  · by_cases q : a = l
    · subst q; rw [upd_same]; simp
    · rw [upd_ne q]; exact s.dm a e
  · rw [upd_ne (ne_of_none e g)]; exact ok.gh a u e
  · rw [upd_ne (fun z : a = l => p (z ▸ q))]; exact ok.pt a q
theorem lift_stay {t : DTF} (σ : L2.St) (H : Hp) (Q : VK) (q : lift K B (dStay t) σ H Q) : liftF K B t σ H Q := by
  obtain ⟨G, P, δ, Qd, w, q, k⟩ := q
  refine ⟨G, P, δ, _, w, q, fun l xs G' H' P' ds s ok hl h r g p z q' => ?_⟩
  obtain ⟨s2, ok2⟩ := s.tell ok hl h g p
  exact k _ _ _ _ _ s2 ok2 (.lst upd_same (r.mono (fun a o e => by rw [upd_ne (ne_of_none e g)]; exact e) fun _ h => h) z) q'
end
section
variable {X : Cx} {B : Base} {tg iter e elt : Expr} {es ifs : List Expr} {ta tb : DT} {te : DTA} {tf : DTF} {pos : Pos} {n : Nat}
theorem de_stay (h : DF X B e tf) : DE X B e (dStay tf) := h.mono fun σ H Q q => lift_stay σ H Q q
/-- [a, b, ..] -/
def fLst (te : DTA) : DTF := fun δ Q => te δ Q
theorem df_lst (ha : DA X B es n te) (hn : n ≤ sizeLine := by decide) : DF X B (.List es pos) (fLst te) := (pe_lst ha).mono fun σ H Q q => by
  obtain ⟨G, P, δ, Qd, w, q, k⟩ := q
  refine ⟨G, P, δ, _, w, q, fun vs G2 H2 P2 ds s2 ok2 r2 hl q2 => ⟨by rw [r2.length, hl]; exact hn, fun p hp => ?_⟩⟩
  have hp0 : H p = none := by
    cases z : H p with
    | none => rfl
    | some o => exact absurd hp (s2.dm p (by rw [z]; simp))
  have gp : G2 p = none := by
    cases z : G2 p with
    | none => rfl
    | some o => rw [ok2.gh p o z] at hp; cases hp
  have np : ¬ P2 p := fun z => by
    obtain ⟨i, j, e, _⟩ := ok2.pt p z
    rw [e] at hp; cases hp
  obtain ⟨s3, ok3⟩ := s2.poke ok2 (o := .lst vs) hp0 gp np
  exact k p vs _ _ _ ds s3 ok3 hp0 upd_same r2 gp np (by rw [hl]; exact hn) q2

/-! ### comprehensions -/
def wipeD (δ : DSt) : List Nat → DSt
  | [] => δ
  | v :: vs => (wipeD δ vs).set v none
theorem WS.wipe {K : PySem.W.Frag} {G H : Hp} {P : Addr → Prop} {σ : L2.St} {δ : DSt} (w : WS K B G H P σ δ) : ∀ vs : List Nat, WS K B G H P (L2.wipe σ vs) (wipeD δ vs)
  | [] => w
  | v :: vs => (WS.wipe w vs).unset v
theorem wipe_get {σ : L2.St} {i : Nat} : ∀ {vs : List Nat}, (L2.wipe σ vs)[i]? = if i ∈ vs ∧ i < σ.length then some none else σ[i]?
  | [] => by simp [L2.wipe]
  | v :: vs => by
    unfold L2.wipe
    by_cases h : v = i
    · subst h
      by_cases hl : v < σ.length
      · rw [List.getElem?_set_self (by rw [wipe_length]; exact hl), if_pos ⟨by simp, hl⟩]
      · rw [List.getElem?_eq_none (by rw [List.length_set, wipe_length]; omega), if_neg (fun z => hl z.2), List.getElem?_eq_none (by omega)]
    · rw [List.getElem?_set_ne h, wipe_get (vs := vs)]
      have e : (i ∈ v :: vs) ↔ i ∈ vs := by simp [Ne.symm h]
      simp only [e]
theorem wipe_but {σ σ' : L2.St} {vs is : List Nat} (h : But is σ σ') (hs : ∀ i ∈ is, i ∈ vs) : L2.wipe σ' vs = L2.wipe σ vs := by
  apply List.ext_getElem?
  intro i
  rw [wipe_get, wipe_get, h.1]
  by_cases hi : i ∈ vs
  · by_cases hl : i < σ.length
    · rw [if_pos ⟨hi, hl⟩, if_pos ⟨hi, hl⟩]
    · rw [if_neg (fun z => hl z.2), if_neg (fun z => hl z.2), List.getElem?_eq_none (by rw [h.1]; omega), List.getElem?_eq_none (by omega)]
  · rw [if_neg (fun z => hi z.1), if_neg (fun z => hi z.1)]
    exact h.2 i fun z => hi (hs i z)
theorem wipe_wipe {σ : L2.St} {vs : List Nat} : L2.wipe (L2.wipe σ vs) vs = L2.wipe σ vs := by
  apply List.ext_getElem?
  intro i
  rw [wipe_get, wipe_get, wipe_length]
  split <;> rfl
def dLcL (tg : Tgt) (tt : DTT) (te : DT) (δ : DSt) : List D → List D → (List D → Prop) → Prop
  | [], acc, Q => Q acc
  | x :: xs, acc, Q => gT tg x δ fun δ' => tt (view δ') fun b => if b = true then te δ' fun y => dLcL tg tt te δ xs (acc ++ [y]) Q else dLcL tg tt te δ xs acc Q
/-- [elt for tg in iter if ..] -/
def fLc (ti : DTI) (tg : Tgt) (tt : DTT) (te : DT) (vs : List Nat) : DTF := fun δ Q => ti δ fun items => dLcL tg tt te (wipeD δ vs) items [] Q
def dYes : DTT := fun _ Q => Q true
theorem lift_lc {K : PySem.W.Frag} {ti : DTI} {g : Tgt} {tt : DTT} {te : DT} {vs : List Nat} (hv : ∀ i ∈ g.slots, i ∈ vs) (σ : L2.St) (H : Hp) (Q : VK) (q : liftF K B (fLc ti g tt te vs) σ H Q) :
    tLc (liftI K B ti) (liftG K B g) (liftT K B tt) (lift K B te) vs σ H Q := by
  obtain ⟨G, P, δ, Qd, w, q, k⟩ := q
  refine ⟨G, P, δ, _, w, q, fun J G1 H1 P1 items s1 ok1 wk q1 => ?_⟩
  intro L hL
  obtain ⟨Gp, Y, wk1, gp, yl⟩ := wk.ex
  have gL : G1 L = none := by
    cases z : G1 L with
    | none => rfl
    | some o => rw [ok1.gh L o z] at hL; cases hL
  have pL : ¬ P1 L := fun z => by
    obtain ⟨i, j, e, _⟩ := ok1.pt L z
    rw [e] at hL; cases hL
  have hL0 : H L = none := by
    cases z : H L with
    | none => rfl
    | some o => exact absurd hL (s1.dm L (by rw [z]; simp))
  have w1 := w.step s1 ok1
  obtain ⟨sp, okp⟩ := (Stp.refl (G := G1) (H := H1) (P := P1)).poke ok1 (o := .lst []) hL gL pL
  refine lc_it wk1 (fun i H2 => ∃ (G2 : Hp) (P2 : Addr → Prop) (xs : List V) (acc : List D), Stp G1 H1 P1 G2 H2 P2 ∧ WOk G2 H2 P2 ∧ H2 L = some (.lst xs) ∧ RepL K G2 P2 xs acc ∧ G2 L = none ∧ ¬ P2 L ∧ acc.length ≤ i ∧ dLcL g tt te (wipeD δ vs) (items.drop i) acc Qd)
    ⟨G1, P1, [], [], sp, okp, upd_same, .nil, gL, pL, Nat.le_refl _, by simpa using q1⟩ (fun i H2 _ ⟨G2, P2, xs, acc, s2, ok2, _⟩ => gp G2 H2 P2 ok2 s2.gg) ?_ ?_
  · rintro i x H2 H2' hi ⟨G2, P2, xs, acc, s2, ok2, h2, r2, g2, p2, l2, q2⟩ y
    obtain ⟨G3, d, s3, ok3, e3, r3⟩ := yl i x H2 H2' G2 P2 hi ok2 s2.gg s2.pp y
    have hd : items.drop i = d :: items.drop (i + 1) := by
      rw [List.drop_eq_getElem_cons hi]
      rw [List.getElem?_eq_getElem hi] at e3
      rw [Option.some.inj e3]
    rw [hd] at q2
    unfold dLcL at q2
    have wA := (w1.step s2 ok2).step s3 ok3
    have keepL : ∀ {G4 H4 : Hp} {P4 : Addr → Prop}, Stp G2 H2 P2 G4 H4 P4 → H4 L = some (.lst xs) ∧ RepL K G4 P4 xs acc ∧ G4 L = none ∧ ¬ P4 L := fun {G4 H4 P4} s => by
      refine ⟨s.hh _ _ h2 p2, s.repL r2, ?_, fun z => (s.pn L z).elim p2 (fun z => by rw [h2] at z; cases z)⟩
      cases z : G4 L with
      | none => rfl
      | some o =>
        rcases s.gn L o z with z | z
        · rw [g2] at z; cases z
        · rw [h2] at z; cases z
    refine ⟨G3, P2, wipeD δ vs, d, _, wA.wipe vs, r3, q2, fun σ' δ' w' bt q' => ⟨?_, ?_⟩⟩
    · rw [wipe_but bt hv, wipe_wipe]
    · refine ⟨G3, P2, δ', _, w', q', fun b G4 H4 P4 s4 ok4 q4 => ?_⟩
      cases b with
      | false =>
        rw [if_neg (Bool.false_ne_true)]
        obtain ⟨a1, a2, a3, a4⟩ := keepL (s3.trans s4)
        exact ⟨G4, P4, xs, acc, s2.trans (s3.trans s4), ok4, a1, a2, a3, a4, by omega, q4⟩
      | true =>
        rw [if_pos rfl]
        refine ⟨G4, P4, δ', _, w'.step s4 ok4, q4, fun v G5 H5 P5 dy s5 ok5 r5 q5 => ?_⟩
        obtain ⟨a1, a2, a3, a4⟩ := keepL (s3.trans (s4.trans s5))
        obtain ⟨s6, ok6⟩ := (s2.trans (s3.trans (s4.trans s5))).poke ok5 (o := .lst (xs ++ [v])) hL a3 a4
        have hz := wk.line
        refine ⟨xs, a1, ?_, G5, P5, xs ++ [v], acc ++ [dy], s6, ok6, upd_same, a2.append (.cons r5 .nil), a3, a4, ?_, q5⟩
        · rw [a2.length]; omega
        · (rw [List.length_append]; simp; omega)
  · rintro H2 ⟨G2, P2, xs, acc, s2, ok2, h2, r2, g2, p2, l2, q2⟩
    rw [List.drop_length] at q2
    unfold dLcL at q2
    have hz := wk.line
    exact k L xs G2 H2 P2 acc (s1.trans s2) ok2 hL0 h2 r2 g2 p2 (by omega) q2
theorem df_lc {scope : Scope} {own : List (Str × Nat)} {ti : DTI} {g : Tgt} {tt : DTT} {te : DT} (hc : X.calm = true) (hN : X.N.Nodup) (hi : DI X B tg iter ti) (ok : BlkOk X.N X.env.scope scope own)
    (hg : ∀ (s : Shared) (H : Hp) (C : Addr) (cl : List (Str × Addr)) (fp : List Addr), DG (X.blk s H scope (compEnvC scope cl C X.env) fp) B tg g) (ht : ∀ (s : Shared) (H : Hp) (C : Addr) (cl : List (Str × Addr)) (fp : List Addr), PTs (X.blk s H scope (compEnvC scope cl C X.env) fp) ifs (liftT X.K B tt))
    (hel : ∀ (s : Shared) (H : Hp) (C : Addr) (cl : List (Str × Addr)) (fp : List Addr), DE (X.blk s H scope (compEnvC scope cl C X.env) fp) B elt te) (hv : ∀ i ∈ g.slots, i ∈ own.map (·.2)) (hs : ∀ x, foldedSetIterable iter X.env x = pure x := by intro _; rfl) :
    DF X B (.ListComp elt [⟨tg, iter, ifs, 0⟩] scope pos) (fLc ti g tt te (own.map (·.2))) := (pe_lc hc hN hi ok hg ht hel hs).mono fun σ H Q q => lift_lc hv σ H Q q
/-- no tests; one test -/
theorem dts_nil : PTs X [] (liftT X.K B dYes) := ⟨fun pins s σ H Q I q => pts_nil.run pins s σ H Q I (by
  obtain ⟨G, P, δ, Qd, w, q, k⟩ := q
  exact k true _ _ _ .refl w.ok q)⟩
theorem dts_one {c : Expr} {t : DTT} (h : DTe X B c t) : PTs X [c] (liftT X.K B t) := pts_one h
end
end FG

/-! FE: own lists, calls, methods, fields, objects made, built-ins. -/
namespace FG
open PySem.Spec PySem L2 PyProof.Rows

/-! ### a def's promise -/
/-- an exception: its class, its attributes -/
structure Exn where
  C : Addr
  fs : List (Str × D)
def RepX (K : PySem.W.Frag) (G : Hp) (P : Addr → Prop) (cls : Value) (d : Option Addr) (e : Exn) : Prop :=
  cls = .ref e.C ∧ ((e.fs = [] ∧ d = none) ∨ ∃ a vs, d = some a ∧ G a = some (.xd vs) ∧ RepI K G P vs e.fs)
def KX (K : PySem.W.Frag) (G H : Hp) (P : Addr → Prop) (Ed : Exn → Prop) (E : XK) : Prop :=
  ∀ cls d G' H' P' e, Stp G H P G' H' P' → WOk G' H' P' → RepX K G' P' cls d e → Ed e → E cls d H'
abbrev DSp := List D → (D → Prop) → (Exn → Prop) → Prop
def spD (K : PySem.W.Frag) (T : DSp) : Sp := fun vs H Q E => ∃ G P ds Qd Ed, WOk G H P ∧ RepL K G P vs ds ∧ T ds Qd Ed ∧ K1 K G H P Qd Q ∧ KX K G H P Ed E
/-- a promise by positional values; gp: only where no repr is under way -/
def FnP (gp : Bool) (P : Program) (w : World) (K : PySem.W.Frag) (mg : Str → Option Value) (base : Heap) (k : Nat) (f : Addr) (sp : Sp) : Prop :=
  ∀ (A : Around) (outer : List Env) (s : Shared) (H : Hp) (us : List Value) (vs : List V) (Q : VK) (E : XK), (gp = true → A.guards = some []) → Room k A → Env0 P w K mg base A outer s H → Vals vs us → sp vs H Q E →
    codeAny (model P w) A (.call (.ref f) ⟨us, []⟩) (CR (L2.CX P w) outer P w H s Q E) s
theorem FnP.raw {P : Program} {w : World} {K : PySem.W.Frag} {mg : Str → Option Value} {base : Heap} {k : Nat} {f : Addr} {sp : Sp} (F : FnP false P w K mg base k f sp) : FnR P w K mg base (L2.CX P w) k f sp :=
  fun A outer s H us vs Q E hr e0 r h => F A outer s H us vs Q E (fun z => nomatch z) hr e0 r h
/-- the def at f, called with positional values, does what T says, within k calls -/
abbrev Fn (gp : Bool) (P : Program) (w : World) (K : PySem.W.Frag) (mg : Str → Option Value) (base : Heap) (k : Nat) (f : Addr) (T : DSp) : Prop := FnP gp P w K mg base k f (spD K T)
/-- what is wished of exceptions, by the slots -/
abbrev XW := Exn → DSt → Prop
structure Wish (X : Cx) (B : Base) (W : XW) : Prop where
  ex : ∃ Wx : WX, Takes X Wx ∧ ∀ cls d e σ G H P δ, WS X.K B G H P σ δ → RepX X.K G P cls d e → W e δ → Wx cls d σ H
abbrev wNo : XW := fun _ _ => False
theorem wish_no {X : Cx} {B : Base} : Wish X B wNo := ⟨⟨fun _ _ _ _ => False, takes0, fun _ _ _ _ _ _ _ _ _ _ h => h⟩⟩
section
variable {gp : Bool} {P : Program} {w : World} {K : PySem.W.Frag} {mg : Str → Option Value} {base : Heap} {j k : Nat} {f : Addr} {T U : DSp} {sp sp' : Sp}
theorem FnP.mono (F : FnP gp P w K mg base j f sp) (h : j ≤ k) : FnP gp P w K mg base k f sp := fun A outer s H us vs Q E g hr => F A outer s H us vs Q E g (hr.mono h)
theorem FnP.imp (F : FnP gp P w K mg base k f sp) (h : ∀ vs H Q E, sp' vs H Q E → sp vs H Q E) : FnP gp P w K mg base k f sp' := fun A outer s H us vs Q E g hr e0 r hs => F A outer s H us vs Q E g hr e0 r (h _ _ _ _ hs)
theorem Fn.imp (F : Fn gp P w K mg base k f T) (h : ∀ ds Q E, U ds Q E → T ds Q E) : Fn gp P w K mg base k f U :=
  FnP.imp F fun _ _ _ _ ⟨G, Pt, ds, Qd, Ed, a, b, c, d, e⟩ => ⟨G, Pt, ds, Qd, Ed, a, b, h _ _ _ c, d, e⟩
end

section
variable {X : Cx} {B : Base} {gp : Bool}
/-- the callee runs; what it raises is wished for at the slots -/
theorem run_atσ {pins : List (Addr × Obj)} {σ : L2.St} {H : Hp} {s : Shared} {Q : VK} {k : Nat} {f : Addr} {sp : Sp} {E : XK} {us : List Value} {vs : List V} (F : FnP gp X.prog X.w X.K X.mg X.base k f sp) (hgd : gp = true → X.A.guards = some []) (hr : Room k X.A)
    (hx : PassesAt (L2.CX X.prog X.w) X σ E) (I : Inv X pins σ H s) (r : Vals vs us) (h : sp vs H Q E) : wpAny (model X.prog X.w) X.A (call (.ref f) us) (EP X pins σ Q) X.xe s := by
  apply wpAny_call
  refine codeAny_mono (F _ _ _ _ _ _ _ _ hgd hr I.env0 r h) ?_
  rintro (e | (u | _ | _ | _)) s' hq
  · exact hx _ _ _ _ _ I hq
  all_goals first | exact I.after hq | exact False.elim hq
/-- the call of a global def, of a def that stands at f by whatever node -/
theorem pe_fn {k : Nat} {f : Addr} {sp : Sp} {E : L2.St → XK} {x : Str} {p pos : Pos} {e : Expr} {es : List Expr} {t : TA} (F : FnP gp X.prog X.w X.K X.mg X.base k f sp) (hgd : gp = true → X.A.guards = some []) (hr : Room k X.A) (hg : Gl X x) (hm : X.mg x = some (.ref f))
    (hk : PySem.W.keepIn X.K (.ref f) = true) (hx : ∀ σ, PassesAt (L2.CX X.prog X.w) X σ (E σ)) (ha : PA X (e :: es) t) (hd : (x == ("__debug__" : Str)) = false)
    (h1 : starEach (e :: es) X.env = (false, eval e X.env) :: starEach es X.env) (h2 : (backTo pos (starEach es X.env)).any (·.1) = false) : PE X (.Call (.Name x p) (e :: es) [] pos) (fun σ H Q => t σ H fun vs H1 => sp vs H1 Q (E σ)) := by
  constructor
  intro pins s σ H Q I h
  apply wpAny_Call_Name_kw
  apply ld_glob I hg hm _ hd
  refine PySem.W.callWith_K I.ok.mod.kin hk (thn (ha.run pos _ _ _ _ _ I h) ?_) h1 h2
  rintro us s1 ⟨vs, H1, I1, r, q⟩
  exact ⟨I1.kIn, run_atσ F hgd hr (hx σ) I1 r q⟩
theorem pe_fn0 {k : Nat} {f : Addr} {sp : Sp} {E : L2.St → XK} {x : Str} {p pos : Pos} (F : FnP gp X.prog X.w X.K X.mg X.base k f sp) (hgd : gp = true → X.A.guards = some []) (hr : Room k X.A) (hg : Gl X x) (hm : X.mg x = some (.ref f))
    (hk : PySem.W.keepIn X.K (.ref f) = true) (hx : ∀ σ, PassesAt (L2.CX X.prog X.w) X σ (E σ)) (hd : (x == ("__debug__" : Str)) = false) : PE X (.Call (.Name x p) [] [] pos) (fun σ H Q => sp [] H Q (E σ)) := by
  constructor
  intro pins s σ H Q I h
  apply wpAny_Call_Name_kw
  apply ld_glob I hg hm _ hd
  exact PySem.W.callWith_K0 I.kIn hk (run_atσ (us := []) F hgd hr (hx σ) I .nil h)

/-- the lifted call: what the callee says of trees -/
theorem sp_lift {K : PySem.W.Frag} {B : Base} {W : XW} {Wx : WX} {T : DSp} {σ : L2.St} {G H : Hp} {P : Addr → Prop} {δ : DSt} {vs : List V} {ds : List D} {Qd : D → Prop} {Q : VK}
    (hW : ∀ cls d e σ G H P δ, WS K B G H P σ δ → RepX K G P cls d e → W e δ → Wx cls d σ H) (w : WS K B G H P σ δ) (r : RepL K G P vs ds) (h : T ds Qd fun e => W e δ) (k : K1 K G H P Qd Q) : spD K T vs H Q (WE Wx σ) :=
  ⟨G, P, ds, Qd, _, w.ok, r, h, k, fun cls d G' H' P' e s ok rx q => hW cls d e σ G' H' P' δ (w.step s ok) rx q⟩
def dCall (T : DSp) (W : XW) (te : DTA) : DT := fun δ Q => te δ fun ds => T ds Q fun e => W e δ
variable {k n : Nat} {f C : Addr} {T : DSp} {W : XW} {x m : Str} {p pos apos : Pos} {e o : Expr} {es : List Expr} {te : DTA} {ta : DT}
theorem de_call (F : Fn gp X.prog X.w X.K X.mg X.base k f T) (hgd : gp = true → X.A.guards = some []) (hr : Room k X.A) (hg : Gl X x) (hm : X.mg x = some (.ref f)) (hk : PySem.W.keepIn X.K (.ref f) = true) (hw : Wish X B W) (ha : DA X B (e :: es) n te) (hd : (x == ("__debug__" : Str)) = false := by decide)
    (h1 : starEach (e :: es) X.env = (false, eval e X.env) :: starEach es X.env := by rfl) (h2 : (backTo pos (starEach es X.env)).any (·.1) = false := by rfl) : DE X B (.Call (.Name x p) (e :: es) [] pos) (dCall T W te) := by
  obtain ⟨Wx, tk, hW⟩ := hw.ex
  refine (pe_fn (E := WE Wx) F hgd hr hg hm hk (fun σ => passAt tk σ) ha hd h1 h2).mono fun σ H Q q => ?_
  obtain ⟨G, P, δ, Qd, w, q, kk⟩ := q
  exact ⟨G, P, δ, _, w, q, fun vs G1 H1 P1 ds s1 ok1 r1 _ q1 => sp_lift hW (w.step s1 ok1) r1 q1 (kk.step s1)⟩
theorem de_call0 (F : Fn gp X.prog X.w X.K X.mg X.base k f T) (hgd : gp = true → X.A.guards = some []) (hr : Room k X.A) (hg : Gl X x) (hm : X.mg x = some (.ref f)) (hk : PySem.W.keepIn X.K (.ref f) = true) (hw : Wish X B W) (hd : (x == ("__debug__" : Str)) = false := by decide) :
    DE X B (.Call (.Name x p) [] [] pos) (dCall T W dNil) := by
  obtain ⟨Wx, tk, hW⟩ := hw.ex
  refine (pe_fn0 (E := WE Wx) F hgd hr hg hm hk (fun σ => passAt tk σ) hd).mono fun σ H Q q => ?_
  obtain ⟨G, P, δ, Qd, w, q, kk⟩ := q
  exact sp_lift hW w .nil q kk

/-! ### objects: fields, methods -/
def dFld (C : Addr) (f : Str) (ta : DT) : DT := fun δ Q => ta δ fun x => match x with
  | .ins C' fs => C' = C ∧ match fs.lookup f with
    | some d => Q d
    | none => False
  | _ => False
theorem de_fld (ha : DE X B o ta) (hc : Cls X.K C) (hn : NoAttr X.K C m) (hb : attributeBase o m X.env (eval o X.env) = eval o X.env := by rfl) : DE X B (.Attribute o m pos) (dFld C m ta) := (pe_fld ha hb).mono fun σ H Q q => by
  obtain ⟨G, P, δ, Qd, w, q, kk⟩ := q
  refine ⟨G, P, δ, _, w, q, fun v G1 H1 P1 d s1 ok1 r1 q1 => ?_⟩
  cases r1 with
  | ins a b =>
    obtain ⟨rfl, q1⟩ := q1
    split at q1
    · rename_i d hd
      obtain ⟨v, e1, r2⟩ := b.lookup hd
      exact ⟨_, _, _, _, v, rfl, ok1.gh _ _ a, hc, hn, e1, kk _ _ _ _ _ s1 ok1 r2 q1⟩
    · exact q1.elim
  | _ => exact q1.elim
/-- self.f while self is being made (slot i) -/
def dFldI (i : Nat) (C : Addr) (f : Str) : DT := fun δ Q => match δ[i]? with
  | some (some (.inst C' fs)) => C' = C ∧ match fs.lookup f with
    | some d => Q d
    | none => False
  | _ => False
theorem de_fldI {i : Nat} (ha : PE X o (tVar i)) (hc : Cls X.K C) (hn : NoAttr X.K C m) (hb : attributeBase o m X.env (eval o X.env) = eval o X.env := by rfl) : DE X B (.Attribute o m pos) (dFldI i C m) := (pe_fld ha hb).mono fun σ H Q q => by
  obtain ⟨G, P, δ, Qd, w, q, kk⟩ := q
  unfold dFldI at q
  split at q
  · rename_i C' fs hd
    obtain ⟨rfl, q⟩ := q
    obtain ⟨v, ev, x, dx, vs, rfl, hx, rf, _⟩ := w.sl i _ hd
    split at q
    · rename_i d hl
      obtain ⟨u, e1, r2⟩ := rf.lookup hl
      exact ⟨_, ev, _, _, _, _, u, rfl, hx, hc, hn, e1, kk.here w.ok r2 q⟩
    · exact q.elim
  · exact q.elim
/-- self.f = e while self is being made -/
def dSetF (i : Nat) (C : Addr) (f : Str) (ta : DT) : DTS := fun D δ => ta δ fun d => match δ[i]? with
  | some (some (.inst C' fs)) => C' = C ∧ fs.length < 1000 ∧ D.nx (δ.set i (some (.inst C (putD f d fs))))
  | _ => False
theorem ds_setF {i : Nat} {v : Expr} {pos' : Pos} (ho : PE X o (tVar i)) (hv : DE X B v ta) (hc : Cls X.K C) (hn : NoAttr X.K C m) (hs : swapsWith v (some (.Attribute o m pos')) pos.line X.env = pure false := by rfl) : DS X B (.Assign [.Attribute o m pos'] v pos) (dSetF i C m ta) :=
  (ps_fld ho hv hs).mono fun D σ H q => by
    obtain ⟨G, P, δ, Dd, w, q, kk⟩ := q
    refine ⟨G, P, δ, _, w, q, fun u G1 H1 P1 d s1 ok1 r1 q1 => ?_⟩
    have w1 := w.step s1 ok1
    split at q1
    · rename_i C' fs hd
      obtain ⟨rfl, hl, q1⟩ := q1
      obtain ⟨v2, ev, x, dx, vs, rfl, hx, rf, gx, px, bx⟩ := w1.sl i _ hd
      refine ⟨_, ev, x, _, dx, vs, rfl, hx, hc, hn, by rw [rf.length]; exact hl, ?_⟩
      have w2 := w1.change (o := .ins C' dx (putF m u vs)) (s' := .inst C' (putD m d fs)) hd rfl ev ⟨x, dx, _, rfl, upd_same, rf.put r1, gx, px, bx⟩ gx px (.inr bx) (by rw [hx]; simp) rfl
      exact kk.nx _ _ _ _ _ w2 s1.gg s1.pp q1
    · exact q1.elim
/-- o.m(..) -/
def dMeth (C : Addr) (m : Str) (T : DSp) (W : XW) (ta : DT) (te : DTA) : DT := fun δ Q => ta δ fun x => match x with
  | .ins C' fs => C' = C ∧ fs.lookup m = none ∧ te δ fun ds => T (x :: ds) Q fun e => W e δ
  | _ => False
theorem pe_methσ {sp : Sp} {E : L2.St → XK} {to : TE} {t : TA} {pl : Sem Bool} (ho : PE X o to) (c : Cls X.K C) (hm : Meth X.K C m f) (F : FnP gp X.prog X.w X.K X.mg X.base k f sp) (hgd : gp = true → X.A.guards = some []) (hr : Room k X.A)
    (hx : ∀ σ, PassesAt (L2.CX X.prog X.w) X σ (E σ)) (ha : PA X (e :: es) t) (h1 : starEach (e :: es) X.env = (false, eval e X.env) :: starEach es X.env) (h2 : (backTo pos (starEach es X.env)).any (·.1) = false)
    (ht : eval (Expr.Call (.Attribute o m apos) (e :: es) [] pos) X.env = (do
      let ov ← eval o X.env
      standAt apos.atName
      let (g, fst) ← holding [ov] (getMethod ov m pl)
      callWith pos g fst (backTo pos (starEach (e :: es) X.env)) (backToKw pos (keywordEach [] X.env)))) :
    PE X (.Call (.Attribute o m apos) (e :: es) [] pos) (fun σ H Q => to σ H fun x H1 => ∃ a dx fs, x = .ref a ∧ H1 a = some (.ins C dx fs) ∧ fs.lookup m = none ∧ t σ H1 fun vs H2 => sp (x :: vs) H2 Q (E σ)) := by
  constructor
  intro pins s σ H Q I h
  refine PySem.W.methodCall_KW (pl := pl) (thn (ho.run _ _ _ _ _ I h) ?_) ht
  rintro u s1 ⟨x, H1, I1, rx, a, dx, fs, rfl, ea, l, q⟩
  cases rx
  apply getmeth_ok I1 ea c hm l
  refine PySem.W.callWith_K (first := [.ref a]) I.ok.mod.kin hm.kp (thn (ha.run pos _ _ _ _ _ I1 q) ?_) h1 h2
  rintro us s2 ⟨vs, H2, I2, r, q2⟩
  exact ⟨I2.kIn, run_atσ (us := .ref a :: us) (vs := .ref a :: vs) F hgd hr (hx σ) I2 (.cons rfl r) q2⟩
theorem pe_methσ0 {sp : Sp} {E : L2.St → XK} {to : TE} {pl : Sem Bool} (ho : PE X o to) (c : Cls X.K C) (hm : Meth X.K C m f) (F : FnP gp X.prog X.w X.K X.mg X.base k f sp) (hgd : gp = true → X.A.guards = some []) (hr : Room k X.A)
    (hx : ∀ σ, PassesAt (L2.CX X.prog X.w) X σ (E σ))
    (ht : eval (Expr.Call (.Attribute o m apos) [] [] pos) X.env = (do
      let ov ← eval o X.env
      standAt apos.atName
      let (g, fst) ← holding [ov] (getMethod ov m pl)
      callWith pos g fst (backTo pos (starEach [] X.env)) (backToKw pos (keywordEach [] X.env)))) :
    PE X (.Call (.Attribute o m apos) [] [] pos) (fun σ H Q => to σ H fun x H1 => ∃ a dx fs, x = .ref a ∧ H1 a = some (.ins C dx fs) ∧ fs.lookup m = none ∧ sp [x] H1 Q (E σ)) := by
  constructor
  intro pins s σ H Q I h
  refine PySem.W.methodCall_KW (pl := pl) (thn (ho.run _ _ _ _ _ I h) ?_) ht
  rintro u s1 ⟨x, H1, I1, rx, a, dx, fs, rfl, ea, l, q⟩
  cases rx
  apply getmeth_ok I1 ea c hm l
  exact PySem.W.callWith_K0 (first := [.ref a]) I1.kIn hm.kp (run_atσ (us := [.ref a]) (vs := [.ref a]) F hgd hr (hx σ) I1 (.cons rfl .nil) q)
theorem de_meth {pl : Sem Bool} (ho : DE X B o ta) (c : Cls X.K C) (hm : Meth X.K C m f) (F : Fn gp X.prog X.w X.K X.mg X.base k f T) (hgd : gp = true → X.A.guards = some []) (hr : Room k X.A) (hw : Wish X B W) (ha : DA X B (e :: es) n te)
    (h1 : starEach (e :: es) X.env = (false, eval e X.env) :: starEach es X.env := by rfl) (h2 : (backTo pos (starEach es X.env)).any (·.1) = false := by rfl)
    (ht : eval (Expr.Call (.Attribute o m apos) (e :: es) [] pos) X.env = (do
      let ov ← eval o X.env
      standAt apos.atName
      let (g, fst) ← holding [ov] (getMethod ov m pl)
      callWith pos g fst (backTo pos (starEach (e :: es) X.env)) (backToKw pos (keywordEach [] X.env))) := by rfl) : DE X B (.Call (.Attribute o m apos) (e :: es) [] pos) (dMeth C m T W ta te) := by
  obtain ⟨Wx, tk, hW⟩ := hw.ex
  refine (pe_methσ (E := WE Wx) ho c hm F hgd hr (fun σ => passAt tk σ) ha h1 h2 ht).mono fun σ H Q q => ?_
  obtain ⟨G, P, δ, Qd, w, q, kk⟩ := q
  refine ⟨G, P, δ, _, w, q, fun v G1 H1 P1 d s1 ok1 r1 q1 => ?_⟩
  cases r1 with
  | ins a b =>
    obtain ⟨rfl, hl, q1⟩ := q1
    refine ⟨_, _, _, rfl, ok1.gh _ _ a, b.lookup_none hl, G1, P1, δ, _, w.step s1 ok1, q1, fun vs G2 H2 P2 ds s2 ok2 r2 _ q2 => ?_⟩
    exact sp_lift hW ((w.step s1 ok1).step s2 ok2) (.cons (s2.rep (.ins a b)) r2) q2 (kk.step (s1.trans s2))
  | _ => exact q1.elim
theorem de_meth0 {pl : Sem Bool} (ho : DE X B o ta) (c : Cls X.K C) (hm : Meth X.K C m f) (F : Fn gp X.prog X.w X.K X.mg X.base k f T) (hgd : gp = true → X.A.guards = some []) (hr : Room k X.A) (hw : Wish X B W)
    (ht : eval (Expr.Call (.Attribute o m apos) [] [] pos) X.env = (do
      let ov ← eval o X.env
      standAt apos.atName
      let (g, fst) ← holding [ov] (getMethod ov m pl)
      callWith pos g fst (backTo pos (starEach [] X.env)) (backToKw pos (keywordEach [] X.env))) := by rfl) : DE X B (.Call (.Attribute o m apos) [] [] pos) (dMeth C m T W ta dNil) := by
  obtain ⟨Wx, tk, hW⟩ := hw.ex
  refine (pe_methσ0 (E := WE Wx) ho c hm F hgd hr (fun σ => passAt tk σ) ht).mono fun σ H Q q => ?_
  obtain ⟨G, P, δ, Qd, w, q, kk⟩ := q
  refine ⟨G, P, δ, _, w, q, fun v G1 H1 P1 d s1 ok1 r1 q1 => ?_⟩
  cases r1 with
  | ins a b =>
    obtain ⟨rfl, hl, q1⟩ := q1
    exact ⟨_, _, _, rfl, ok1.gh _ _ a, b.lookup_none hl, sp_lift hW (w.step s1 ok1) (.cons (.ins a b) .nil) q1 (kk.step s1)⟩
  | _ => exact q1.elim
/-- e.f, a property: no exception leaves it -/
def dProp (C : Addr) (T : DSp) (ta : DT) : DT := fun δ Q => ta δ fun x => match x with
  | .ins C' _ => C' = C ∧ T [x] Q fun _ => False
  | _ => False
end
/-- a def as FnOk, without defaults -/
structure Fn1 (P : Program) (w : World) (K : PySem.W.Frag) (mg : Str → Option Value) (base : Heap) (k : Nat) (f : Addr) (ps : List Str) (T : DSp) : Prop where
  ex : ∃ fd, FnOk P w K mg base (L2.CX P w) k f fd ps (spD K T) ∧ Binds K fd ps []
theorem Fn1.fn {gp : Bool} {P : Program} {w : World} {K : PySem.W.Frag} {mg : Str → Option Value} {base : Heap} {k : Nat} {f : Addr} {ps : List Str} {T : DSp} (F : Fn1 P w K mg base k f ps T) : Fn gp P w K mg base k f T := by
  obtain ⟨fd, F, hb⟩ := F.ex
  have h := F.raw hb .nil
  intro A outer s H us vs Q E _ hr e0 r q
  refine h A outer s H us vs Q E hr e0 r ?_
  show spD K T (vs ++ []) H Q E
  rw [List.append_nil]
  exact q
section
variable {X : Cx} {B : Base} {gp : Bool} {k n : Nat} {f C g : Addr} {T : DSp} {W : XW} {x m : Str} {p pos apos : Pos} {e o fe : Expr} {es : List Expr} {te : DTA} {ta tf : DT} {ps : List Str}
theorem de_prop {pa : Addr} (ho : DE X B o ta) (c : Cls X.K C) (hp : PropOf X.K C m pa g) (F : Fn1 X.prog X.w X.K X.mg X.base k g ps T) (hr : Room (k + 1) X.A) (hb : attributeBase o m X.env (eval o X.env) = eval o X.env := by rfl) :
    DE X B (.Attribute o m pos) (dProp C T ta) := by
  obtain ⟨fd, F, hbd⟩ := F.ex
  refine (pe_prop (E := E0) ho c hp F hr hbd .nil passL hb).mono fun σ H Q q => ?_
  obtain ⟨G, P, δ, Qd, w, q, kk⟩ := q
  refine ⟨G, P, δ, _, w, q, fun v G1 H1 P1 d s1 ok1 r1 q1 => ?_⟩
  cases r1 with
  | ins a b =>
    obtain ⟨rfl, q1⟩ := q1
    exact ⟨_, _, _, rfl, ok1.gh _ _ a, G1, P1, _, Qd, fun _ => False, ok1, .cons (.ins a b) .nil, q1, kk.step s1, fun _ _ _ _ _ _ _ _ _ z => z⟩
  | _ => exact q1.elim
/-- an instance called -/
def dCallO (C : Addr) (T : DSp) (tf : DT) (te : DTA) : DT := fun δ Q => tf δ fun x => match x with
  | .ins C' _ => C' = C ∧ te δ fun ds => T (x :: ds) Q fun _ => False
  | _ => False
theorem de_callO (hf : DE X B fe tf) (c : StX.CallO X.K C g) (F : Fn false X.prog X.w X.K X.mg X.base k g T) (hr : Room k X.A) (ha : DA X B (e :: es) n te)
    (ht : eval (Expr.Call fe (e :: es) [] pos) X.env = (do callWith pos (← eval fe X.env) [] (backTo pos (starEach (e :: es) X.env)) (backToKw pos (keywordEach [] X.env))) := by rfl)
    (h1 : starEach (e :: es) X.env = (false, eval e X.env) :: starEach es X.env := by rfl) (h2 : (backTo pos (starEach es X.env)).any (·.1) = false := by rfl) : DE X B (.Call fe (e :: es) [] pos) (dCallO C T tf te) :=
  (StX.pe_callO (E := E0) hf c F.raw hr passL ha ht h1 h2).mono fun σ H Q q => by
    obtain ⟨G, P, δ, Qd, w, q, kk⟩ := q
    refine ⟨G, P, δ, _, w, q, fun v G1 H1 P1 d s1 ok1 r1 q1 => ?_⟩
    cases r1 with
    | ins a b =>
      obtain ⟨rfl, q1⟩ := q1
      refine ⟨_, rfl, G1, P1, δ, _, w.step s1 ok1, q1, fun vs G2 H2 P2 ds s2 ok2 r2 _ q2 => ⟨.inr ⟨_, _, ok2.gh _ _ (s2.gg _ _ a)⟩, ?_⟩⟩
      exact ⟨G2, P2, _, Qd, fun _ => False, ok2, .cons (s2.rep (.ins a b)) r2, q2, kk.step (s1.trans s2), fun _ _ _ _ _ _ _ _ _ z => z⟩
    | _ => exact q1.elim

/-! ### C(..): a new instance, its __init__ -/
/-- __init__'s promise: behind self the arguments; the instance as it is in the end -/
def spI (K : PySem.W.Frag) (C : Addr) (T : DSp) : Sp := fun vs H Q E => ∃ x dx vs' G P ds Qd Ed, vs = .ref x :: vs' ∧ H x = some (.ins C dx []) ∧ G x = none ∧ ¬ P x ∧ WOk G H P ∧ RepL K G P vs' ds ∧ T ds Qd Ed ∧
  (∀ G' H' P' dx' vfs fs, Since ⟨G, H, P, fun a => a = x⟩ G' H' P' → WOk G' H' P' → H' x = some (.ins C dx' vfs) → RepI K G' P' vfs fs → G' x = none → ¬ P' x → Qd (.ins C fs) → Q .non H') ∧
  ∀ cls d G' H' P' e, Since ⟨G, H, P, fun a => a = x⟩ G' H' P' → WOk G' H' P' → RepX K G' P' cls d e → Ed e → E cls d H'
abbrev FnI (gp : Bool) (P : Program) (w : World) (K : PySem.W.Frag) (mg : Str → Option Value) (base : Heap) (k : Nat) (f C : Addr) (T : DSp) : Prop := FnP gp P w K mg base k f (spI K C T)
theorem make_guards {A : Around} {C : Addr} {us : List Value} {kw : List (Str × Value)} : (A.under (.builtin "type.__call__" ⟨.ref C :: us, kw⟩)).guards = A.guards := by
  first | rfl | simp [Around.under, Code.guards, Code.isGuard, guardIds]
theorem un_two {H : Hp} {s : Shared} {o1 o2 : Obj} {u1 u2 : HO} {fs : List Addr} (h0 : H s.heap.objs.size = none) (h1 : H (s.heap.objs.size + 1) = none) :
    Un fs [] H (upd (upd H s.heap.objs.size u1) (s.heap.objs.size + 1) u2) s.heap ((s.heap.push o1).push o2) := by
  have a := Un.laid (fs := fs) (ex := []) (o := u1) (h' := s.heap.push o1) (fun b u e => Heap.get?_push_of_some o1 e) (Nat.le_refl _) h0
  refine a.trans (Un.laid (fun b u e => Heap.get?_push_of_some o2 e) ?_ ?_)
  · rw [Heap.size_push]
    exact Nat.le_refl _
  · rw [upd_ne (Nat.succ_ne_self _)]
    exact h1
theorem run_makeσ {pins : List (Addr × Obj)} {σ : L2.St} {H : Hp} {s : Shared} {Q : VK} {sp : Sp} {E : XK} {us : List Value} {vs : List V} (M : Mk X.K C f) (F : FnP gp X.prog X.w X.K X.mg X.base k f sp) (hgd : gp = true → X.A.guards = some []) (hr : Room (k + 1) X.A)
    (hx : PassesAt (L2.CX X.prog X.w) X σ E) (I : Inv X pins σ H s) (r : Vals vs us)
    (h : ∀ x dx, H x = none → H dx = none → dx ≠ x → sp (.ref x :: vs) (upd (upd H dx (.own x)) x (.ins C dx [])) (fun v H2 => v = .non ∧ Q (.ref x) H2) E) : wpAny (model X.prog X.w) X.A (call (.ref C) us) (EP X pins σ Q) X.xe s := by
  have n0 : H s.heap.objs.size = none := I.hok.fresh (Nat.le_refl _)
  have n1 : H (s.heap.objs.size + 1) = none := I.hok.fresh (Nat.le_succ _)
  have hq := h _ _ n1 n0 (Nat.ne_of_lt (Nat.lt_succ_self _))
  have I2 := I.made (C := C)
  have r2 : Vals (V.ref (s.heap.objs.size + 1) :: vs) (Value.ref (s.heap.objs.size + 1) :: us) := Paired.cons (by rfl) r
  apply wpAny_call
  apply make_map (f := f) I.kIn M.makes M.init (beq_iff_eq.mp M.fn)
  refine codeAny_mono (F _ _ _ _ _ _ _ _ (fun z => make_guards.trans (hgd z)) (hr.make C us []) (I2.env0.make C us []) r2 hq) ?_
  intro res s' z
  match res, z with
  | .error e, z =>
    have up := StX.cxUp (P := X.prog) (w := X.w) X.stack s H { s with heap := (s.heap.push PySem.W.emptyDict).push (PySem.W.instObj C s.heap.objs.size) } (upd (upd H s.heap.objs.size (.own (s.heap.objs.size + 1))) (s.heap.objs.size + 1) (.ins C s.heap.objs.size [])) E e s' (un_two n0 n1) (fun b o q => Heap.get?_push_of_some _ (Heap.get?_push_of_some _ q)) rfl
    exact hx _ _ _ e s' I (up z)
  | .ok (.ret u), z =>
    obtain ⟨v, H', I3, rv, rfl, q3⟩ := I2.after z
    exact ⟨rv, _, H', I3, (by rfl), q3⟩
  | .ok .next, z => exact False.elim z
  | .ok .brk, z => exact False.elim z
  | .ok .cont, z => exact False.elim z
theorem pe_makeσ {sp : Sp} {E : L2.St → XK} {t : TA} (M : Mk X.K C f) (F : FnP gp X.prog X.w X.K X.mg X.base k f sp) (hgd : gp = true → X.A.guards = some []) (hr : Room (k + 1) X.A) (hg : Gl X x) (hm : X.mg x = some (.ref C))
    (hx : ∀ σ, PassesAt (L2.CX X.prog X.w) X σ (E σ)) (ha : PA X (e :: es) t) (hd : (x == ("__debug__" : Str)) = false)
    (h1 : starEach (e :: es) X.env = (false, eval e X.env) :: starEach es X.env) (h2 : (backTo pos (starEach es X.env)).any (·.1) = false) :
    PE X (.Call (.Name x p) (e :: es) [] pos) (fun σ H Q => t σ H fun vs H1 => ∀ x dx, H1 x = none → H1 dx = none → dx ≠ x → sp (.ref x :: vs) (upd (upd H1 dx (.own x)) x (.ins C dx [])) (fun v H2 => v = .non ∧ Q (.ref x) H2) (E σ)) := by
  constructor
  intro pins s σ H Q I h
  apply wpAny_Call_Name_kw
  apply ld_glob I hg hm _ hd
  refine PySem.W.callWith_K I.ok.mod.kin M.kp (thn (ha.run pos _ _ _ _ _ I h) ?_) h1 h2
  rintro us s1 ⟨vs, H1, I1, r, q⟩
  exact ⟨I1.kIn, run_makeσ M F hgd hr (hx σ) I1 r q⟩
theorem pe_makeσ0 {sp : Sp} {E : L2.St → XK} (M : Mk X.K C f) (F : FnP gp X.prog X.w X.K X.mg X.base k f sp) (hgd : gp = true → X.A.guards = some []) (hr : Room (k + 1) X.A) (hg : Gl X x) (hm : X.mg x = some (.ref C))
    (hx : ∀ σ, PassesAt (L2.CX X.prog X.w) X σ (E σ)) (hd : (x == ("__debug__" : Str)) = false) :
    PE X (.Call (.Name x p) [] [] pos) (fun σ H1 Q => ∀ x dx, H1 x = none → H1 dx = none → dx ≠ x → sp [.ref x] (upd (upd H1 dx (.own x)) x (.ins C dx [])) (fun v H2 => v = .non ∧ Q (.ref x) H2) (E σ)) := by
  constructor
  intro pins s σ H Q I h
  apply wpAny_Call_Name_kw
  apply ld_glob I hg hm _ hd
  exact PySem.W.callWith_K0 I.kIn M.kp (run_makeσ (us := []) M F hgd hr (hx σ) I .nil h)
/-- from the maker's promise to the caller: the new object stays -/
theorem spI_lift {K : PySem.W.Frag} {Wx : WX} {σ : L2.St} {G H : Hp} {P : Addr → Prop} {δ : DSt} {vs : List V} {ds : List D} {Qd : D → Prop} {Q : VK} {x dx : Addr}
    (hW : ∀ cls d e σ G H P δ, WS K B G H P σ δ → RepX K G P cls d e → W e δ → Wx cls d σ H) (w : WS K B G H P σ δ) (r : RepL K G P vs ds) (h : T ds Qd fun e => W e δ) (k : K1 K G H P Qd Q)
    (nx : H x = none) (ndx : H dx = none) (ne : dx ≠ x) : spI K C T (.ref x :: vs) (upd (upd H dx (.own x)) x (.ins C dx [])) (fun v H2 => v = .non ∧ Q (.ref x) H2) (WE Wx σ) := by
  obtain ⟨s1, ok1⟩ := Stp.laid (o := .own x) w.ok ndx
  have nx1 : upd H dx (.own x) x = none := by rw [upd_ne (Ne.symm ne)]; exact nx
  obtain ⟨s2, ok2⟩ := Stp.laid (o := .ins C dx []) ok1 nx1
  have gx : G x = none := by
    cases z : G x with
    | none => rfl
    | some o => rw [w.ok.gh x o z] at nx; cases nx
  have px : ¬ P x := fun z => by
    obtain ⟨i, j, e, _⟩ := w.ok.pt x z
    rw [e] at nx; cases nx
  have s12 := s1.trans s2
  have toStp : ∀ {G' H' : Hp} {P' : Addr → Prop}, Since ⟨G, upd (upd H dx (.own x)) x (.ins C dx []), P, fun a => a = x⟩ G' H' P' → Stp G H P G' H' P' := fun {G' H' P'} s =>
    ⟨s.gg, fun a o e n => s.hh a o (s12.hh a o e n) n (fun z => by rw [z, nx] at e; cases e), fun a e => s.dm a (s12.dm a e), s.pp, fun a q => (s.pn a q).elim .inl fun z => .inr (by
      cases q2 : H a with
      | none => rfl
      | some o => exact absurd z (s12.dm a (by rw [q2]; simp))), fun a o e => (s.gn a o e).elim .inl fun z => .inr (z.elim (fun z => by
      cases q2 : H a with
      | none => rfl
      | some o => exact absurd z (s12.dm a (by rw [q2]; simp))) fun z => by rw [show a = x from z]; exact nx)⟩
  refine ⟨x, dx, vs, G, P, ds, Qd, _, rfl, upd_same, gx, px, ok2, r, h, fun G' H' P' dx' vfs fs s ok hx rf g p q => ⟨rfl, ?_⟩, fun cls d G' H' P' e s ok rx q => hW cls d e σ G' H' P' δ (w.step (toStp s) ok) rx q⟩
  obtain ⟨s3, ok3⟩ := (toStp s).tell ok nx hx g p
  exact k _ _ _ _ _ s3 ok3 (.ins upd_same (rf.mono (fun a o e => by rw [upd_ne (ne_of_none e g)]; exact e) fun _ h => h)) q
theorem de_make (M : Mk X.K C f) (F : FnI gp X.prog X.w X.K X.mg X.base k f C T) (hgd : gp = true → X.A.guards = some []) (hr : Room (k + 1) X.A) (hg : Gl X x) (hm : X.mg x = some (.ref C)) (hw : Wish X B W) (ha : DA X B (e :: es) n te) (hd : (x == ("__debug__" : Str)) = false := by decide)
    (h1 : starEach (e :: es) X.env = (false, eval e X.env) :: starEach es X.env := by rfl) (h2 : (backTo pos (starEach es X.env)).any (·.1) = false := by rfl) : DE X B (.Call (.Name x p) (e :: es) [] pos) (dCall T W te) := by
  obtain ⟨Wx, tk, hW⟩ := hw.ex
  refine (pe_makeσ (E := WE Wx) M F hgd hr hg hm (fun σ => passAt tk σ) ha hd h1 h2).mono fun σ H Q q => ?_
  obtain ⟨G, P, δ, Qd, w, q, kk⟩ := q
  exact ⟨G, P, δ, _, w, q, fun vs G1 H1 P1 ds s1 ok1 r1 _ q1 y dy ny ndy ne => spI_lift hW (w.step s1 ok1) r1 q1 (kk.step s1) ny ndy ne⟩
theorem de_make0 (M : Mk X.K C f) (F : FnI gp X.prog X.w X.K X.mg X.base k f C T) (hgd : gp = true → X.A.guards = some []) (hr : Room (k + 1) X.A) (hg : Gl X x) (hm : X.mg x = some (.ref C)) (hw : Wish X B W) (hd : (x == ("__debug__" : Str)) = false := by decide) :
    DE X B (.Call (.Name x p) [] [] pos) (dCall T W dNil) := by
  obtain ⟨Wx, tk, hW⟩ := hw.ex
  refine (pe_makeσ0 (E := WE Wx) M F hgd hr hg hm (fun σ => passAt tk σ) hd).mono fun σ H Q q => ?_
  obtain ⟨G, P, δ, Qd, w, q, kk⟩ := q
  exact fun y dy ny ndy ne => spI_lift hW w .nil q kk ny ndy ne

/-! ### built-ins -/
abbrev F1 := List D → (D → Prop) → Prop
def CallD (K : PySem.W.Frag) (r : List V → Hp → VK → Prop) (f : List D → (D → Prop) → Prop) : Prop := ∀ (G H : Hp) (P : Addr → Prop) (vs : List V) (ds : List D) (Qd : D → Prop) (Q : VK), WOk G H P → RepL K G P vs ds → f ds Qd → K1 K G H P Qd Q → r vs H Q
def dCB (f : List D → (D → Prop) → Prop) (te : DTA) : DT := fun δ Q => te δ fun ds => f ds Q
theorem lift_cb {K : PySem.W.Frag} {r : List V → Hp → VK → Prop} {f : List D → (D → Prop) → Prop} (h : CallD K r f) (σ : L2.St) (H : Hp) (Q : VK) (q : lift K B (dCB f te) σ H Q) : tCB r (liftA K B n te) σ H Q := by
  obtain ⟨G, P, δ, Qd, w, q, kk⟩ := q
  exact ⟨G, P, δ, _, w, q, fun vs G1 H1 P1 ds s1 ok1 r1 _ q1 => h _ _ _ _ _ _ _ ok1 r1 q1 (kk.step s1)⟩
theorem de_callB {id : String} {r : List V → Hp → VK → Prop} {fn : List D → (D → Prop) → Prop} (hc : CallR X (.builtin id) r) (h : CallD X.K r fn) (hg : Gl X x) (hm : X.mg x = none) (hv : bootBuiltins x = some (.builtin id)) (ha : DA X B (e :: es) n te) (hn : x ≠ "__name__" := by decide)
    (hdb : (x == ("__debug__" : Str)) = false := by decide) (h1 : starEach (e :: es) X.env = (false, eval e X.env) :: starEach es X.env := by rfl) (h2 : (backTo pos (starEach es X.env)).any (·.1) = false := by rfl) : DE X B (.Call (.Name x p) (e :: es) [] pos) (dCB fn te) :=
  (pe_callB hc hg hm hv ha hn hdb h1 h2).mono fun σ H Q q => lift_cb h σ H Q q
theorem de_callT {id : String} {r : List V → Hp → VK → Prop} {fn : List D → (D → Prop) → Prop} (hc : CallR X (.type id) r) (h : CallD X.K r fn) (hg : Gl X x) (hm : X.mg x = none) (hv : bootBuiltins x = some (.type id)) (ha : DA X B (e :: es) n te) (hn : x ≠ "__name__" := by decide)
    (hdb : (x == ("__debug__" : Str)) = false := by decide) (h1 : starEach (e :: es) X.env = (false, eval e X.env) :: starEach es X.env := by rfl) (h2 : (backTo pos (starEach es X.env)).any (·.1) = false := by rfl) : DE X B (.Call (.Name x p) (e :: es) [] pos) (dCB fn te) :=
  (pe_callTy hc hg hm hv ha hn hdb h1 h2).mono fun σ H Q q => lift_cb h σ H Q q
end
end FG

/-! FF: own lists, defs. -/
namespace FG
open PySem.Spec PySem L2 PyProof.Rows

/-! ### lists of one's own -/
def dAsgO (t : DTF) (i : Nat) : DTS := fun D δ => t δ fun ds => D.nx (δ.set i (some (.own ds)))
section
variable {K : PySem.W.Frag} {B : Base} {G H G1 H1 G' H' : Hp} {P P1 P' : Addr → Prop} {σ : L2.St} {δ : DSt}
theorem WS.setNew (w : WS K B G H P σ δ) (s : Stp G H P G' H' P') (ok : WOk G' H' P') {l : Addr} {xs : List V} {ds : List D} (hl : H l = none) (h : H' l = some (.lst xs)) (r : RepL K G' P' xs ds) (g : G' l = none) (p : ¬ P' l) (z : ds.length ≤ sizeLine) (i : Nat) :
    WS K B G' H' P' (σ.set i (some (.ref l))) (δ.set i (some (.own ds))) := by
  have w2 := w.step s ok
  refine w2.setOwn h r g p ?_ z ?_ i
  · cases q : B.H l with
    | none => rfl
    | some o => exact absurd hl (w.since.dm l (by rw [q]; simp))
  · intro j t e m z2
    obtain ⟨v, ev, q⟩ := w.sl j t e
    rw [z2] at ev
    cases ev
    cases t with
    | val d => cases m
    | own ds =>
      obtain ⟨l2, xs2, e2, h2, _⟩ := q
      cases e2
      rw [hl] at h2; cases h2
    | inst C fs =>
      obtain ⟨l2, dx, xs2, e2, h2, _⟩ := q
      cases e2
      rw [hl] at h2; cases h2
end
section
variable {X : Cx} {B : Base} {tg e o : Expr} {es : List Expr} {g : Tgt} {ta : DT} {tf : DTF} {te : DTA} {pos apos : Pos} {i n : Nat}
theorem ds_asgO (he : DF X B e tf) (hg : PG X tg (gName i)) (hs : swapsWithSole [tg] e pos.line X.env = pure false := by rfl) (hw : swappedStores [tg] e X.env = pure none := by rfl)
    (h1 : (assignEach [tg] X.env).map (·.2) = [assign tg X.env] := by rfl) : DS X B (.Assign [tg] e pos) (dAsgO tf i) := (ps_asg he hg hs hw h1).mono fun D σ H q => by
  obtain ⟨G, P, δ, Dd, w, q, k⟩ := q
  refine ⟨G, P, δ, _, w, q, fun l xs G1 H1 P1 ds s1 ok1 hl h r g p z q1 => ?_⟩
  exact k.nx _ _ _ _ _ (w.setNew s1 ok1 hl h r g p z i) s1.gg s1.pp q1
/-- y = [..] on one line: the list is stored by the comprehension itself -/
theorem ds_lcO {scope : Scope} {own : List (Str × Nat)} {ti : DTI} {tt : DTT} {tx : DT} {y : Str} {py lpos : Pos} {elt tgt iter : Expr} {ifs : List Expr} (hc : X.calm = true) (hN : X.N.Nodup) (hy : X.N[i]? = some y) (hyl : X.env.scope.names.lookup y = some .local)
    (hsw : swapsWith (.ListComp elt [⟨tgt, iter, ifs, 0⟩] scope lpos) (some (.Name y py)) pos.line X.env = pure true) (hi : DI X B tgt iter ti) (ok : BlkOk X.N X.env.scope scope own)
    (hg : ∀ (s : Shared) (H : Hp) (C : Addr) (cl : List (Str × Addr)) (fp : List Addr), DG (X.blk s H scope (compEnvC scope cl C X.env) fp) B tgt g) (ht : ∀ (s : Shared) (H : Hp) (C : Addr) (cl : List (Str × Addr)) (fp : List Addr), PTs (X.blk s H scope (compEnvC scope cl C X.env) fp) ifs (liftT X.K B tt))
    (hel : ∀ (s : Shared) (H : Hp) (C : Addr) (cl : List (Str × Addr)) (fp : List Addr), DE (X.blk s H scope (compEnvC scope cl C X.env) fp) B elt tx) (hv : ∀ j ∈ g.slots, j ∈ own.map (·.2)) (hs : ∀ x, foldedSetIterable iter X.env x = pure x := by intro _; rfl) :
    DS X B (.Assign [.Name y py] (.ListComp elt [⟨tgt, iter, ifs, 0⟩] scope lpos) pos) (dAsgO (fLc ti g tt tx (own.map (·.2))) i) := (ps_setLc (i := i) hc hN hy hyl hsw hi ok hg ht hel hs).mono fun D σ H q => by
  obtain ⟨G, P, δ, Dd, w, q, k⟩ := q
  refine lift_lc hv σ H _ ⟨G, P, δ, _, w, q, fun l xs G1 H1 P1 ds s1 ok1 hl h r g p z q1 => ?_⟩
  exact k.nx _ _ _ _ _ (w.setNew s1 ok1 hl h r g p z i) s1.gg s1.pp q1
/-- .. which stays -/
theorem ds_lcS {scope : Scope} {own : List (Str × Nat)} {ti : DTI} {tt : DTT} {tx : DT} {y : Str} {py lpos : Pos} {elt tgt iter : Expr} {ifs : List Expr} (hc : X.calm = true) (hN : X.N.Nodup) (hy : X.N[i]? = some y) (hyl : X.env.scope.names.lookup y = some .local)
    (hsw : swapsWith (.ListComp elt [⟨tgt, iter, ifs, 0⟩] scope lpos) (some (.Name y py)) pos.line X.env = pure true) (hi : DI X B tgt iter ti) (ok : BlkOk X.N X.env.scope scope own)
    (hg : ∀ (s : Shared) (H : Hp) (C : Addr) (cl : List (Str × Addr)) (fp : List Addr), DG (X.blk s H scope (compEnvC scope cl C X.env) fp) B tgt g) (ht : ∀ (s : Shared) (H : Hp) (C : Addr) (cl : List (Str × Addr)) (fp : List Addr), PTs (X.blk s H scope (compEnvC scope cl C X.env) fp) ifs (liftT X.K B tt))
    (hel : ∀ (s : Shared) (H : Hp) (C : Addr) (cl : List (Str × Addr)) (fp : List Addr), DE (X.blk s H scope (compEnvC scope cl C X.env) fp) B elt tx) (hv : ∀ j ∈ g.slots, j ∈ own.map (·.2)) (hs : ∀ x, foldedSetIterable iter X.env x = pure x := by intro _; rfl) :
    DS X B (.Assign [.Name y py] (.ListComp elt [⟨tgt, iter, ifs, 0⟩] scope lpos) pos) (dAsg (dStay (fLc ti g tt tx (own.map (·.2)))) (.nm i)) := (ps_setLc (i := i) hc hN hy hyl hsw hi ok hg ht hel hs).mono fun D σ H q => by
  obtain ⟨G, P, δ, Dd, w, q, k⟩ := q
  refine lift_lc hv σ H _ (lift_stay σ H _ ⟨G, P, δ, _, w, q, fun v G1 H1 P1 d s1 ok1 r1 q1 => ?_⟩)
  unfold gT at q1
  exact k.nx _ _ _ _ _ ((w.step s1 ok1).set r1 i) s1.gg s1.pp q1
/-- x.append(e) -/
def dApp (i : Nat) (ta : DT) : DTS := fun D δ => match δ[i]? with
  | some (some (.own ds)) => ta δ fun d => ds.length < sizeLine ∧ D.nx (δ.set i (some (.own (ds ++ [d]))))
  | _ => False
/-- .. of a value that needs no place; own things may be looked at -/
def dAppV (i : Nat) (ta : DT) : DTS := fun D δ => match δ[i]? with
  | some (some (.own ds)) => ta (view δ) fun d => d.scal = true ∧ ds.length < sizeLine ∧ D.nx (δ.set i (some (.own (ds ++ [d]))))
  | _ => False
/-- x.extend(e), e a list -/
def dExt (i : Nat) (ta : DT) : DTS := fun D δ => match δ[i]? with
  | some (some (.own ds)) => ta δ fun d => match d with
    | .lst es => ds.length + es.length ≤ sizeLine ∧ D.nx (δ.set i (some (.own (ds ++ es))))
    | _ => False
  | _ => False
/-- tg = x.pop() -/
def dPop (i : Nat) (g : Tgt) : DTS := fun D δ => match δ[i]? with
  | some (some (.own ds)) => match ds[ds.length - 1]? with
    | some d => gT g d (δ.set i (some (.own ds.dropLast))) D.nx
    | none => False
  | _ => False
/-- x[k] = e -/
def dSetIx (i : Nat) (tk ta : DT) : DTS := fun D δ => ta δ fun d => tk δ fun k => match k, δ[i]? with
  | .int k, some (some (.own ds)) => match ixN ds.length k with
    | some j => D.nx (δ.set i (some (.own (ds.set j d))))
    | none => False
  | _, _ => False
theorem own_end {K : PySem.W.Frag} {G H : Hp} {P : Addr → Prop} {σ : L2.St} {δ : DSt} {ds es : List D} {l : Addr} {ys : List V} (w : WS K B G H P σ δ) (hd : δ[i]? = some (some (.own ds))) (ev : σ[i]? = some (some (.ref l)))
    (r : RepL K G P ys es) (z : es.length ≤ sizeLine) : WS K B G (upd H l (.lst ys)) P σ (δ.set i (some (.own es))) := by
  obtain ⟨v2, ev2, l2, xs2, rfl, hx, rl, gx, px, bx, _⟩ := w.sl i _ hd
  rw [ev] at ev2
  cases ev2
  exact w.change (s' := .own es) hd rfl ev ⟨l, _, rfl, upd_same, r, gx, px, bx, z⟩ gx px (.inl bx) (by rw [hx]; simp) rfl
theorem ds_app {spos : Pos} (ho : PE X o (tVar i)) (he : DE X B e ta) (hbase : attributeBase o "append" X.env (eval o X.env) = eval o X.env := by rfl)
    (hfew : ((backTo pos (starEach [e] X.env)).all (fun x => !x.1) && (backToKw pos (keywordEach [] X.env)).all (fun x => x.1.isSome) && decide (([e] : List Expr).length + ([] : List Keyword).length + (if ([] : List Keyword).isEmpty then 0 else 1) < 30)) = true := by rfl)
    (hline : (apos.endLine == pos.line) = true := by rfl) (hs : starEach [e] X.env = (false, eval e X.env) :: starEach [] X.env := by rfl) (hp : (backTo pos (starEach [] X.env)).any (·.1) = false := by rfl) (hsw : swapsWith (.Call (.Attribute o "append" apos) [e] [] pos) none spos.line X.env = pure false := by rfl) :
    DS X B (.Expr (.Call (.Attribute o "append" apos) [e] [] pos) spos) (dApp i ta) := (ps_expr (pe_bm PySem.F.plainAttrs_list PySem.F.slot_list_append PySem.F.type_list_append mt_append ho (pa_cons he pa_nil hs) hbase hfew hline hs hp) hsw).mono fun D σ H q => by
  obtain ⟨G, P, δ, Dd, w, q, k⟩ := q
  unfold dApp at q
  split at q
  · rename_i ds hd
    obtain ⟨v2, ev, l, xs, rfl, hx, rl, gx, px, bx, _⟩ := w.sl i _ hd
    refine ⟨_, ev, .inl ⟨rfl, xs, .inl (.inl hx)⟩, G, P, δ, _, w, q, fun v G1 H1 P1 d s1 ok1 r1 q1 => ?_⟩
    refine ⟨l, xs, v, rfl, rfl, s1.hh _ _ hx px, by rw [rl.length]; exact q1.1, ?_⟩
    exact k.nx _ _ _ _ _ (own_end (w.step s1 ok1) hd ev ((s1.repL rl).append (.cons r1 .nil)) (by have := q1.1; simp; omega)) s1.gg s1.pp q1.2
  · exact q.elim
theorem ds_appV {spos : Pos} (ho : PE X o (tVar i)) (he : DE X B e ta) (hbase : attributeBase o "append" X.env (eval o X.env) = eval o X.env := by rfl)
    (hfew : ((backTo pos (starEach [e] X.env)).all (fun x => !x.1) && (backToKw pos (keywordEach [] X.env)).all (fun x => x.1.isSome) && decide (([e] : List Expr).length + ([] : List Keyword).length + (if ([] : List Keyword).isEmpty then 0 else 1) < 30)) = true := by rfl)
    (hline : (apos.endLine == pos.line) = true := by rfl) (hs : starEach [e] X.env = (false, eval e X.env) :: starEach [] X.env := by rfl) (hp : (backTo pos (starEach [] X.env)).any (·.1) = false := by rfl) (hsw : swapsWith (.Call (.Attribute o "append" apos) [e] [] pos) none spos.line X.env = pure false := by rfl) :
    DS X B (.Expr (.Call (.Attribute o "append" apos) [e] [] pos) spos) (dAppV i ta) := (ps_expr (pe_bm PySem.F.plainAttrs_list PySem.F.slot_list_append PySem.F.type_list_append mt_append ho (pa_cons he pa_nil hs) hbase hfew hline hs hp) hsw).mono fun D σ H q => by
  obtain ⟨G, P, δ, Dd, w, q, k⟩ := q
  unfold dAppV at q
  split at q
  · rename_i ds hd
    obtain ⟨v2, ev, l, xs, rfl, hx, rl, gx, px, bx, _⟩ := w.sl i _ hd
    obtain ⟨G0, w0, gg⟩ := w.view
    refine ⟨_, ev, .inl ⟨rfl, xs, .inl (.inl hx)⟩, G0, P, _, _, w0, q, fun v G1 H1 P1 d s1 ok1 r1 q1 => ?_⟩
    obtain ⟨s2, ok2⟩ := unview w.ok gg s1 ok1
    refine ⟨l, xs, v, rfl, rfl, s1.hh _ _ hx px, by rw [rl.length]; exact q1.2.1, ?_⟩
    exact k.nx _ _ _ _ _ (own_end (w.step s2 ok2) hd ev ((s2.repL rl).append (.cons (r1.scal q1.1) .nil)) (by have := q1.2.1; simp; omega)) s2.gg s2.pp q1.2.2
  · exact q.elim
theorem ds_ext {spos : Pos} (ho : PE X o (tVar i)) (he : DE X B e ta) (hbase : attributeBase o "extend" X.env (eval o X.env) = eval o X.env := by rfl)
    (hfew : ((backTo pos (starEach [e] X.env)).all (fun x => !x.1) && (backToKw pos (keywordEach [] X.env)).all (fun x => x.1.isSome) && decide (([e] : List Expr).length + ([] : List Keyword).length + (if ([] : List Keyword).isEmpty then 0 else 1) < 30)) = true := by rfl)
    (hline : (apos.endLine == pos.line) = true := by rfl) (hs : starEach [e] X.env = (false, eval e X.env) :: starEach [] X.env := by rfl) (hp : (backTo pos (starEach [] X.env)).any (·.1) = false := by rfl) (hsw : swapsWith (.Call (.Attribute o "extend" apos) [e] [] pos) none spos.line X.env = pure false := by rfl) :
    DS X B (.Expr (.Call (.Attribute o "extend" apos) [e] [] pos) spos) (dExt i ta) := (ps_expr (pe_bm PySem.F.plainAttrs_list PySem.F.slot_list_extend PySem.F.type_list_extend mt_extend ho (pa_cons he pa_nil hs) hbase hfew hline hs hp) hsw).mono fun D σ H q => by
  obtain ⟨G, P, δ, Dd, w, q, k⟩ := q
  unfold dExt at q
  split at q
  · rename_i ds hd
    obtain ⟨v2, ev, l, xs, rfl, hx, rl, gx, px, bx, _⟩ := w.sl i _ hd
    refine ⟨_, ev, .inl ⟨rfl, xs, .inl (.inl hx)⟩, G, P, δ, _, w, q, fun v G1 H1 P1 d s1 ok1 r1 q1 => ?_⟩
    cases r1 with
    | @lst b zs es hb rz z =>
      refine ⟨l, b, xs, zs, rfl, rfl, s1.hh _ _ hx px, ok1.gh _ _ hb, by rw [rl.length, rz.length]; exact q1.1, ?_⟩
      exact k.nx _ _ _ _ _ (own_end (w.step s1 ok1) hd ev ((s1.repL rl).append rz) (by have := q1.1; simp; omega)) s1.gg s1.pp q1.2
    | _ => exact q1.elim
  · exact q.elim
theorem ds_pop (ho : PE X o (tVar i)) (hg : DG X B tg g) (hbase : attributeBase o "pop" X.env (eval o X.env) = eval o X.env := by rfl) (hline : (apos.endLine == pos.line) = true := by rfl) {spos : Pos}
    (hs : swapsWithSole [tg] (.Call (.Attribute o "pop" apos) [] [] pos) spos.line X.env = pure false := by rfl) (hw : swappedStores [tg] (.Call (.Attribute o "pop" apos) [] [] pos) X.env = pure none := by rfl)
    (h1 : (assignEach [tg] X.env).map (·.2) = [assign tg X.env] := by rfl) : DS X B (.Assign [tg] (.Call (.Attribute o "pop" apos) [] [] pos) spos) (dPop i g) :=
  (ps_asg (pe_bm0 PySem.F.plainAttrs_list PySem.F.slot_list_pop PySem.F.type_list_pop mt_pop ho hbase hline) hg hs hw h1).mono fun D σ H q => by
    obtain ⟨G, P, δ, Dd, w, q, k⟩ := q
    unfold dPop at q
    split at q
    · rename_i ds hd
      obtain ⟨v2, ev, l, xs, rfl, hx, rl, gx, px, bx, z⟩ := w.sl i _ hd
      split at q
      · rename_i d hl
        obtain ⟨v, hv, rv⟩ := rl.get hl
        refine ⟨_, ev, .inl ⟨rfl, xs, .inl (.inl hx)⟩, l, xs, v, rfl, rfl, hx, by rw [rl.length]; exact hv, ?_⟩
        have w2 := own_end w hd ev rl.dropLast (by rw [List.length_dropLast]; omega)
        exact ⟨G, P, _, d, Dd.nx, w2, rv, q, fun σ' δ' w' _ q' => k.nx _ _ _ _ _ w' (fun _ _ h => h) (fun _ h => h) q'⟩
      · exact q.elim
    · exact q.elim
end

/-! ### a def keeps its promise -/
theorem ws_start {K : PySem.W.Frag} {G H : Hp} {P : Addr → Prop} {N : List Str} {vs : List V} {ds : List D} (ok : WOk G H P) (r : RepL K G P vs ds) :
    WS K ⟨G, H, P, fun _ => False⟩ G H P (L2.start N vs) (ds.map (fun d => some (.val d)) ++ List.replicate (N.length - ds.length) none) := by
  refine ⟨ok, ⟨fun _ _ h => h, fun _ _ h _ _ => h, fun _ h => h, fun _ h => h, fun _ h => .inl h, fun _ _ h => .inl h⟩, by unfold L2.start; simp [r.length], fun i s e => ?_, fun i j s s' _ e _ m _ => ?_⟩
  · by_cases hi : i < ds.length
    · rw [List.getElem?_append_left (by simpa using hi), List.getElem?_map] at e
      obtain ⟨d, hd⟩ : ∃ d, ds[i]? = some d := ⟨ds[i], List.getElem?_eq_getElem hi⟩
      rw [hd] at e
      cases e
      obtain ⟨v, hv, rv⟩ := r.get hd
      refine ⟨v, ?_, rv⟩
      unfold L2.start
      rw [List.getElem?_append_left (by rw [List.length_map, r.length]; exact hi), List.getElem?_map, hv]
      rfl
    · rw [List.getElem?_append_right (by simpa using hi), List.getElem?_replicate] at e
      split at e <;> cases e
  · by_cases hi : i < ds.length
    · rw [List.getElem?_append_left (by simpa using hi), List.getElem?_map] at e
      obtain ⟨d, hd⟩ : ∃ d, ds[i]? = some d := ⟨ds[i], List.getElem?_eq_getElem hi⟩
      rw [hd] at e
      cases e
      cases m
    · rw [List.getElem?_append_right (by simpa using hi), List.getElem?_replicate] at e
      split at e <;> cases e
section
variable {gp : Bool} {P : Program} {w : World} {K : PySem.W.Frag} {mg : Str → Option Value} {base : Heap} {k : Nat} {f : Addr} {fd : FuncData} {x qual : Str} {params : Arguments} {body : List Stmt} {scope : Scope} {dvs0 : List V} {kws : List (Str × V)} {N ps : List Str}
  {bs : List Value} {dvs : List V} {dfl : List D} {T : DSp} {t : (Exn → Prop) → DTS}
theorem bnd_of {A : Around} {outer : List Env} {s : Shared} {H : Hp} {E : XK} {us : List Value} {vs : List V} (hb : L2.Binds K fd ps bs) (hd : Vals dvs bs) (e0 : Env0 P w K mg base A outer s H) (r : Vals vs us) (hl : (vs ++ dvs).length = ps.length) :
    StX.Bnd (L2.CX P w) P w K mg base fd ⟨us, []⟩ ps A outer s H E (fun zs H2 => zs = vs ++ dvs ∧ H2 = H) := by
  intro A' Ex Q h
  have r2 : Vals (vs ++ dvs) (us ++ bs) := r.append hd
  have KI : K.In s.heap := e0.mod.kin.keeps fun b o e => (e0.bs b o e).1
  exact hb s us KI (by rw [← r2.length]; exact hl) _ _ _ _ (h s H _ _ e0 (Un.kept fun _ _ q => q) rfl (fun _ _ z => z) r2 hl ⟨rfl, rfl⟩)
theorem dfn (F : FunD K x qual params body scope dvs0 kws f fd) (S : FnScope N ps scope) (hb : L2.Binds K fd ps bs) (hd : Vals dvs bs) (rd : ∀ G P, RepL K G P dvs dfl) (hT : ∀ ds Q E, T ds Q E → (ds ++ dfl).length = ps.length)
    (hbody : ∀ (cdv : Value) (A : Around) (outer : List Env) (s : Shared) (H : Hp) (E : XK) (B : Base) (Ed : Exn → Prop), (gp = true → A.guards = some []) → Room k (A.deeper (envOfC qual scope s.heap.objs.size f cdv)) → B.M = (fun _ => False) →
      Wish (cxOf (L2.CX P w) P w K mg base N qual scope f cdv A outer s H E) B (fun e _ => Ed e) → DSs (cxOf (L2.CX P w) P w K mg base N qual scope f cdv A outer s H E) B body (t Ed))
    (hread : ∀ ds Q Ed, T ds Q Ed → t Ed { nx := fun _ => Q .non, rt := Q } ((ds ++ dfl).map (fun d => some (.val d)) ++ List.replicate (N.length - (ds ++ dfl).length) none)) : Fn gp P w K mg base (k + 1) f T := by
  intro A outer s H us vs Q E hg hr e0 r ⟨G, P0, ds, Qd, Ed, ok, rl, ht, k1, kx⟩
  obtain ⟨oc, od, dV, kV, doc, pm, an, cdv, ct, osl, rfl, lk, hcd, _, _⟩ := (F.ex)
  have rl2 := rl.append (rd G P0)
  refine StX.run_bnd lk hcd S hr e0 (bnd_of hb hd e0 r (by rw [rl2.length]; exact hT _ _ _ ht)) ?_
  rintro s2 H2 _ ⟨rfl, rfl⟩ hr2
  have wsh : Wish (cxOf (L2.CX P w) P w K mg base N qual scope f cdv A outer s2 H2 E) ⟨G, H2, P0, fun _ => False⟩ (fun e _ => Ed e) :=
    ⟨_, takes_of rfl rfl rfl rfl, fun cls d e σ G' H' P' δ ws rx q => kx cls d G' H' P' e (ws.since.stp fun _ z => z) ws.ok rx q⟩
  refine ⟨_, hbody cdv A outer s2 H2 E ⟨G, H2, P0, fun _ => False⟩ Ed hg hr2 rfl wsh, G, P0, _, _, ws_start ok rl2, hread ds Qd Ed ht, ?_⟩
  exact ⟨fun σ H' G' P' δ ws _ _ q => k1 _ _ _ _ _ (ws.since.stp fun _ z => z) ws.ok .non q, fun _ _ _ _ _ _ _ _ q => q.elim, fun _ _ _ _ _ _ _ _ q => q.elim, fun v H' G' P' d ok' sc rv q => k1 _ _ _ _ _ (sc.stp fun _ z => z) ok' rv q⟩
/-- .. without defaults, as properties want it -/
theorem dfn1 (F : FunD K x qual params body scope dvs0 kws f fd) (S : FnScope N ps scope) (hb : L2.Binds K fd ps []) (hT : ∀ ds Q E, T ds Q E → ds.length = ps.length)
    (hbody : ∀ (cdv : Value) (A : Around) (outer : List Env) (s : Shared) (H : Hp) (E : XK) (B : Base) (Ed : Exn → Prop), Room k (A.deeper (envOfC qual scope s.heap.objs.size f cdv)) → B.M = (fun _ => False) →
      Wish (cxOf (L2.CX P w) P w K mg base N qual scope f cdv A outer s H E) B (fun e _ => Ed e) → DSs (cxOf (L2.CX P w) P w K mg base N qual scope f cdv A outer s H E) B body (t Ed))
    (hread : ∀ ds Q Ed, T ds Q Ed → t Ed { nx := fun _ => Q .non, rt := Q } (ds.map (fun d => some (.val d)) ++ List.replicate (N.length - ds.length) none)) : Fn1 P w K mg base (k + 1) f ps T := by
  refine ⟨fd, F.ok S (fun vs H Q E ⟨G, P0, ds, Qd, Ed, ok, rl, ht, _⟩ => by rw [rl.length]; exact hT _ _ _ ht) (fun cdv A outer s H vs Q E hr ⟨G, P0, ds, Qd, Ed, ok, rl, ht, k1, kx⟩ => ?_), hb⟩
  have wsh : Wish (cxOf (L2.CX P w) P w K mg base N qual scope f cdv A outer s H E) ⟨G, H, P0, fun _ => False⟩ (fun e _ => Ed e) :=
    ⟨_, takes_of rfl rfl rfl rfl, fun cls d e σ G' H' P' δ ws rx q => kx cls d G' H' P' e (ws.since.stp fun _ z => z) ws.ok rx q⟩
  refine ⟨_, hbody cdv A outer s H E ⟨G, H, P0, fun _ => False⟩ Ed hr rfl wsh, G, P0, _, _, ws_start ok rl, hread ds Qd Ed ht, ?_⟩
  exact ⟨fun σ H' G' P' δ ws _ _ q => k1 _ _ _ _ _ (ws.since.stp fun _ z => z) ws.ok .non q, fun _ _ _ _ _ _ _ _ q => q.elim, fun _ _ _ _ _ _ _ _ q => q.elim, fun v H' G' P' d ok' sc rv q => k1 _ _ _ _ _ (sc.stp fun _ z => z) ok' rv q⟩
/-- __init__ -/
def endI (C : Addr) (Q : D → Prop) (δ : DSt) : Prop := match δ[(0 : Nat)]? with
  | some (some (.inst C' fs)) => C' = C ∧ Q (.ins C fs)
  | _ => False
theorem ws_startI {G H : Hp} {P : Addr → Prop} {x dx C : Addr} {vs : List V} {ds : List D} (ok : WOk G H P) (hx : H x = some (.ins C dx [])) (gx : G x = none) (px : ¬ P x) (r : RepL K G P vs ds) :
    WS K ⟨G, H, P, fun a => a = x⟩ G H P (L2.start N (.ref x :: vs)) (some (.inst C []) :: (ds.map (fun d => some (.val d)) ++ List.replicate (N.length - (ds.length + 1)) none)) := by
  have w0 := ws_start (N := List.replicate (N.length - 1) Str.empty) ok r
  have e1 : L2.start N (.ref x :: vs) = some (.ref x) :: L2.start (List.replicate (N.length - 1) Str.empty) vs := by
    unfold L2.start
    simp only [List.map_cons, List.length_cons, List.cons_append, List.length_replicate]
    congr 2
    rw [Nat.sub_sub, Nat.add_comm]
  have e2 : (List.replicate (N.length - 1) Str.empty).length - ds.length = N.length - (ds.length + 1) := by rw [List.length_replicate]; omega
  rw [e2] at w0
  rw [e1]
  refine ⟨ok, ⟨fun _ _ h => h, fun _ _ h _ _ => h, fun _ h => h, fun _ h => h, fun _ h => .inl h, fun _ _ h => .inl h⟩, by simp [w0.len], fun i s e => ?_, fun i j s s' hij e e' m m' => ?_⟩
  · cases i with
    | zero =>
      cases e
      exact ⟨_, rfl, x, dx, [], rfl, hx, .nil, gx, px, rfl⟩
    | succ i =>
      obtain ⟨v, h1, h2⟩ := w0.sl i s (by simpa using e)
      refine ⟨v, by simpa using h1, ?_⟩
      cases s with
      | val d => exact h2
      | own ds =>
        obtain ⟨l, xs, a, b, c, d', e', f', g'⟩ := h2
        exact ⟨l, xs, a, b, c, d', e', f', g'⟩
      | inst C fs =>
        obtain ⟨l, dx, xs, a, b, c, d', e', f'⟩ := h2
        exact f'.elim
  · have key : ∀ (i : Nat) (s : SV), (some (.inst C []) :: (ds.map (fun d => some (.val d)) ++ List.replicate (N.length - (ds.length + 1)) none) : DSt)[i]? = some (some s) → s.mut = true → i = 0 := by
      intro i s e m
      cases i with
      | zero => rfl
      | succ i =>
        have e' : (ds.map (fun d => some (SV.val d)) ++ List.replicate (N.length - (ds.length + 1)) none)[i]? = some (some s) := by simpa using e
        by_cases hi : i < ds.length
        · rw [List.getElem?_append_left (by simpa using hi), List.getElem?_map] at e'
          cases hd : ds[i]? with
          | none => rw [hd] at e'; cases e'
          | some d => rw [hd] at e'; cases e'; cases m
        · rw [List.getElem?_append_right (by simpa using hi), List.getElem?_replicate] at e'
          split at e' <;> cases e'
    exact absurd ((key i s e m).trans (key j s' e' m').symm) hij
theorem dfi {C : Addr} (F : FunD K x qual params body scope dvs0 kws f fd) (S : FnScope N ps scope) (hb : L2.Binds K fd ps bs) (hd : Vals dvs bs) (rd : ∀ G P, RepL K G P dvs dfl) (hT : ∀ ds Q E, T ds Q E → (ds ++ dfl).length + 1 = ps.length)
    (hbody : ∀ (cdv : Value) (A : Around) (outer : List Env) (s : Shared) (H : Hp) (E : XK) (B : Base) (Ed : Exn → Prop), (gp = true → A.guards = some []) → Room k (A.deeper (envOfC qual scope s.heap.objs.size f cdv)) →
      Wish (cxOf (L2.CX P w) P w K mg base N qual scope f cdv A outer s H E) B (fun e _ => Ed e) → DSs (cxOf (L2.CX P w) P w K mg base N qual scope f cdv A outer s H E) B body (t Ed))
    (hread : ∀ ds Q Ed, T ds Q Ed → t Ed { nx := endI C Q, rt := fun _ => False } (some (.inst C []) :: ((ds ++ dfl).map (fun d => some (.val d)) ++ List.replicate (N.length - ((ds ++ dfl).length + 1)) none))) : FnI gp P w K mg base (k + 1) f C T := by
  rintro A outer s H us _ Q E hg hr e0 r ⟨x0, dx, vs, G, P0, ds, Qd, Ed, rfl, hx, gx, px, ok, rl, ht, k1, kx⟩
  obtain ⟨oc, od, dV, kV, doc, pm, an, cdv, ct, osl, rfl, lk, hcd, _, _⟩ := (F.ex)
  have rl2 := rl.append (rd G P0)
  refine StX.run_bnd lk hcd S hr e0 (bnd_of hb hd e0 r (by
    show (vs ++ dvs).length + 1 = _
    rw [rl2.length]; exact hT _ _ _ ht)) ?_
  rintro s2 H2 _ ⟨rfl, rfl⟩ hr2
  have wsh : Wish (cxOf (L2.CX P w) P w K mg base N qual scope f cdv A outer s2 H2 E) ⟨G, H2, P0, fun a => a = x0⟩ (fun e _ => Ed e) :=
    ⟨_, takes_of rfl rfl rfl rfl, fun cls d e σ G' H' P' δ ws rx q => kx cls d G' H' P' e ws.since ws.ok rx q⟩
  refine ⟨_, hbody cdv A outer s2 H2 E ⟨G, H2, P0, fun a => a = x0⟩ Ed hg hr2 wsh, G, P0, _, _, ws_startI ok hx gx px rl2, hread ds Qd Ed ht, ?_⟩
  refine ⟨fun σ H' G' P' δ ws _ _ q => ?_, fun _ _ _ _ _ _ _ _ q => q.elim, fun _ _ _ _ _ _ _ _ q => q.elim, fun v H' G' P' d ok' sc rv q => q.elim⟩
  have q : endI C Qd δ := q
  unfold endI at q
  split at q
  · rename_i C' fs hd
    obtain ⟨rfl, q⟩ := q
    obtain ⟨v2, _, x2, dx2, vs2, rfl, hx2, rf, g2, p2, rfl⟩ := ws.sl 0 _ hd
    exact k1 _ _ _ _ _ _ ws.since ws.ok hx2 rf g2 p2 q
  · exact q.elim
end
end FG

/-! FH: chains, subscripts, ranges, built-ins on trees. -/
namespace FG
open PySem.Spec PySem L2 PyProof.Rows

section
variable {X : Cx} {B : Base} {e a b c : Expr} {es rest : List Expr} {ta tb tc : DT} {te : DTA} {pos : Pos} {n : Nat}
/-! ### a < b < c -/
theorem de_chain {op1 op2 : CmpOp} {r r' : R2} {f g : F2} (h1 : OpR X (compareOp op1) r) (k1 : OpD X.K r f) (h2 : OpR X (compareOp op2) r') (k2 : OpD X.K r' g) (ha : DE X B a ta) (hb : DE X B b tb) (hc : DE X B c tc)
    (m : lastMarks [op1, op2] [b, c] = false := by rfl) : DE X B (.Compare a [op1, op2] [b, c] pos) (dChain f g ta tb tc) :=
  (pe_chain h1 h2 ha hb hc m).mono fun σ H Q q => lift_chain k1 k2 σ H Q q
theorem dt_chain {op1 op2 : CmpOp} {r r' : R2} {f g : F2} (h1 : OpR X (compareOp op1) r) (k1 : OpD X.K r f) (h2 : OpR X (compareOp op2) r') (k2 : OpD X.K r' g) (ha : DE X B a ta) (hb : DE X B b tb) (hc : DE X B c tc)
    (m : lastMarks [op1, op2] [b, c] = false := by rfl) : DTe X B (.Compare a [op1, op2] [b, c] pos) (dTest (dChain f g ta tb tc)) :=
  (pt_chain h1 h2 ha hb hc m).mono fun σ H Q q => lift_test (fun σ H Q q => lift_chain k1 k2 σ H Q q) σ H Q q
/-! ### xs[i] -/
def fIx : F2 := fun x y Q => match x, y with
  | .lst ds, .int i => match atI ds i with
    | some d => Q d
    | none => False
  | .tup ds, .int i => match atI ds i with
    | some d => Q d
    | none => False
  | .str z, .int i => z.length ≤ sizeLine ∧ match atI z.cps.toList i with
    | some c => Q (.str (sign c))
    | none => False
  | .scr ns, .int i => match atI ns i with
    | some n => Q (.int n)
    | none => False
  | _, _ => False
theorem atI_map {α β : Type} (f : α → β) (xs : List α) (i : Int) : L2.atI (xs.map f) i = (L2.atI xs i).map f := by
  unfold L2.atI
  rw [List.length_map]
  cases ixN xs.length i with
  | none => rfl
  | some j => simp
theorem RepL.atI {K : PySem.W.Frag} {G : Hp} {P : Addr → Prop} {vs : List V} {ds : List D} {i : Int} {d : D} (r : RepL K G P vs ds) (h : L2.atI ds i = some d) : ∃ v, L2.atI vs i = some v ∧ Rep K G P v d := by
  unfold L2.atI at h ⊢
  rw [r.length]
  cases e : ixN ds.length i with
  | none => (rw [e] at h; cases h)
  | some j =>
    rw [e] at h
    obtain ⟨v, h1, h2⟩ := r.get (i := j) h
    exact ⟨v, h1, h2⟩
theorem od_ix {K : PySem.W.Frag} : OpD K (rIx K) fIx := by
  intro G H P x y dx dy Qd Q w rx ry q k
  cases ry with
  | int i =>
    cases rx with
    | @lst p xs ds h1 h2 h3 =>
      have q : (match L2.atI ds i with | some d => Qd d | none => False) := q
      split at q
      · rename_i d hd
        obtain ⟨v, h4, h5⟩ := h2.atI hd
        exact .inl ⟨_, _, i, v, rfl, rfl, .inl (.inl (w.gh _ _ h1)), h4, k.here w h5 q⟩
      · exact q.elim
    | @tup p xs ds h1 h2 h3 =>
      have q : (match L2.atI ds i with | some d => Qd d | none => False) := q
      split at q
      · rename_i d hd
        obtain ⟨v, h4, h5⟩ := h2.atI hd
        exact .inr (.inl ⟨_, _, i, v, rfl, rfl, sqt_mono w.gh h1, h4, k.here w h5 q⟩)
      · exact q.elim
    | str z =>
      obtain ⟨z1, q⟩ := (show z.length ≤ sizeLine ∧ (match L2.atI z.cps.toList i with | some c => Qd (.str (sign c)) | none => False) from q)
      split at q
      · rename_i d hd
        exact .inr (.inr ⟨_, _, _, rfl, rfl, z1, hd, k.here w (.str _) q⟩)
      · exact q.elim
    | @scr p ns h1 =>
      have q : (match L2.atI ns i with | some n => Qd (.int n) | none => False) := q
      split at q
      · rename_i n hn
        exact .inl ⟨_, _, i, .int n, rfl, rfl, sql_mono w.gh h1, by rw [atI_map, hn]; rfl, k.here w (.int _) q⟩
      · exact q.elim
    | _ => exact q.elim
  | _ => exact (show False by cases rx <;> exact q).elim
theorem de_ix (ha : DE X B a ta) (hb : DE X B b tb) (hs : PlainIx b := by intro _ _; rfl) : DE X B (.Subscript a b pos) (dOp fIx ta tb) := (pe_ix ix_seq ha hb hs).mono fun σ H Q q => lift_op od_ix σ H Q q
/-- .. an own list, looked at -/
def dIxO (i : Nat) (tb : DT) : DT := fun δ Q => tb δ fun y => match δ[i]?, y with
  | some (some (.own ds)), .int j => match atI ds j with
    | some d => Q d
    | none => False
  | _, _ => False
/-! ### xs[::-1] -/
def dRev (ta : DT) : DTF := fun δ Q => ta δ fun x => match x with
  | .lst ds => Q ds.reverse
  | _ => False
theorem df_rev {k : Nat} {p1 p2 p3 : Pos} (ha : DE X B a ta) : DF X B (.Subscript a (.Slice none none (some (.UnaryOp .USub (.Constant (.int 1) k p1) p2)) p3) pos) (dRev ta) := (pe_revL ha).mono fun σ H Q q => by
  obtain ⟨G, P, δ, Qd, w, q, kk⟩ := q
  refine ⟨G, P, δ, _, w, q, fun v G1 H1 P1 d s1 ok1 r1 q1 => ?_⟩
  cases r1 with
  | @lst p xs ds h1 h2 h3 =>
    refine ⟨_, _, rfl, .inl (.inl (ok1.gh _ _ h1)), fun l hl => ?_⟩
    have gl : G1 l = none := by
      cases z : G1 l with
      | none => rfl
      | some o => rw [ok1.gh l o z] at hl; cases hl
    have np : ¬ P1 l := fun z => by
      obtain ⟨i, j, e, _⟩ := ok1.pt l z
      rw [e] at hl; cases hl
    have hl0 : H l = none := by
      cases z : H l with
      | none => rfl
      | some o => exact absurd hl (s1.dm l (by rw [z]; simp))
    obtain ⟨s2, ok2⟩ := s1.poke ok1 (o := .lst xs.reverse) hl0 gl np
    exact kk l _ _ _ _ _ s2 ok2 hl0 upd_same h2.reverse gl np (by rw [List.length_reverse]; exact h3) q1
  | _ => exact q1.elim
/-! ### ranges -/
def steps (lo c : Int) (n : Nat) : List D := (List.range n).map fun (k : Nat) => .int (lo + (k : Int) * c)
theorem DWalk.rangeC {K : PySem.W.Frag} {G : Hp} {P : Addr → Prop} {lo c : Int} {n : Nat} (z : n ≤ sizeLine) : DWalk K (Itc lo c n) (steps lo c n) G P := by
  have hl : (steps lo c n).length = n := by simp [steps]
  refine ⟨⟨_, _, by rw [hl]; exact walk_rangeC, fun _ _ _ _ _ => True.intro, fun i v H H' G2 P2 hi ok gg pp y => ?_⟩, by rw [hl]; exact z⟩
  obtain ⟨rfl, rfl⟩ := y
  rw [hl] at hi
  exact ⟨G2, .int (lo + (i : Int) * c), .refl, ok, by simp [steps, hi], .int _⟩
theorem DWalk.range {K : PySem.W.Frag} {G : Hp} {P : Addr → Prop} {lo : Int} {n : Nat} (z : n ≤ sizeLine) : DWalk K (Itr lo n) (steps lo 1 n) G P := by
  have hl : (steps lo 1 n).length = n := by simp [steps]
  refine ⟨⟨_, _, by rw [hl]; exact walk_range, fun _ _ _ _ _ => True.intro, fun i v H H' G2 P2 hi ok gg pp y => ?_⟩, by rw [hl]; exact z⟩
  obtain ⟨rfl, rfl⟩ := y
  rw [hl] at hi
  exact ⟨G2, .int (lo + (i : Int) * 1), .refl, ok, by simp [steps, hi], by rw [Int.mul_one]; exact .int _⟩
def iRange1 (te : DTA) : DTI := fun δ Q => te δ fun ds => match ds with
  | [.int j] => j ≤ sizeLine ∧ -(2 ^ 62) ≤ j ∧ Q (steps 0 1 j.toNat)
  | _ => False
def iRange2 (te : DTA) : DTI := fun δ Q => te δ fun ds => match ds with
  | [.int i, .int j] => j - i ≤ sizeLine ∧ (-(2 ^ 62) ≤ i ∧ i < 2 ^ 62 ∧ -(2 ^ 62) ≤ j ∧ j < 2 ^ 62) ∧ Q (steps i 1 (j - i).toNat)
  | _ => False
/-- range(i, j, -1) -/
def iRange3 (te : DTA) : DTI := fun δ Q => te δ fun ds => match ds with
  | [.int i, .int j, .int c] => c = -1 ∧ i - j ≤ sizeLine ∧ (-(2 ^ 62) ≤ i ∧ i < 2 ^ 62 ∧ -(2 ^ 62) ≤ j ∧ j < 2 ^ 62) ∧ Q (steps i (-1) (i - j).toNat)
  | _ => False
theorem RepL.int1 {K : PySem.W.Frag} {G : Hp} {P : Addr → Prop} {vs : List V} {i : Int} (r : RepL K G P vs [.int i]) : (vs = [.int i]) := RepL.of_ints (ns := [i]) r
theorem RepL.int2 {K : PySem.W.Frag} {G : Hp} {P : Addr → Prop} {vs : List V} {i j : Int} (r : RepL K G P vs [.int i, .int j]) : (vs = [.int i, .int j]) := RepL.of_ints (ns := [i, j]) r
theorem RepL.int3 {K : PySem.W.Frag} {G : Hp} {P : Addr → Prop} {vs : List V} {i j k : Int} (r : RepL K G P vs [.int i, .int j, .int k]) : (vs = [.int i, .int j, .int k]) := RepL.of_ints (ns := [i, j, k]) r
theorem line62 : (sizeLine : Int) < 2 ^ 62 := by rw [sizeLine_eq]; decide
variable {tg : Expr} {p : Pos}
theorem di_range1 (hg : Gl X "range") (hm : X.mg "range" = none) (ha : DA X B [a] n te) (hs : starEach [a] X.env = [(false, eval a X.env)] := by rfl) : DI X B tg (.Call (.Name "range" p) [a] [] pos) (iRange1 te) := (pi_range1 hg hm ha hs).mono fun σ H R q => by
  obtain ⟨G, P, δ, Qi, w, q, k⟩ := q
  refine ⟨G, P, δ, _, w, q, fun vs G1 H1 P1 ds s1 ok1 r1 _ q1 => ?_⟩
  split at q1
  · rename_i j _
    have e := r1.int1; subst e
    have := line62
    exact ⟨j, rfl, q1.2.1, by omega, k _ _ _ _ _ s1 ok1 (DWalk.range (by omega)) q1.2.2⟩
  · exact q1.elim
theorem di_range2 (hg : Gl X "range") (hm : X.mg "range" = none) (ha : DA X B [a, b] n te) (hs : starEach [a, b] X.env = [(false, eval a X.env), (false, eval b X.env)] := by rfl) (hs2 : starEach [b] X.env = [(false, eval b X.env)] := by rfl) :
    DI X B tg (.Call (.Name "range" p) [a, b] [] pos) (iRange2 te) := (pi_range2 hg hm ha hs hs2).mono fun σ H R q => by
  obtain ⟨G, P, δ, Qi, w, q, k⟩ := q
  refine ⟨G, P, δ, _, w, q, fun vs G1 H1 P1 ds s1 ok1 r1 _ q1 => ?_⟩
  split at q1
  · rename_i i j _
    have e := r1.int2; subst e
    exact ⟨i, j, rfl, q1.2.1, k _ _ _ _ _ s1 ok1 (DWalk.range (by omega)) q1.2.2⟩
  · exact q1.elim
theorem di_range3 (hg : Gl X "range") (hm : X.mg "range" = none) (ha : DA X B [a, b, c] n te) (hs : starEach [a, b, c] X.env = (false, eval a X.env) :: starEach [b, c] X.env := by rfl) (hpl : (backTo pos (starEach [b, c] X.env)).any (·.1) = false := by rfl) : DI X B tg (.Call (.Name "range" p) [a, b, c] [] pos) (iRange3 te) := (pi_range3 hg hm ha hs hpl).mono fun σ H R q => by
  obtain ⟨G, P, δ, Qi, w, q, k⟩ := q
  refine ⟨G, P, δ, _, w, q, fun vs G1 H1 P1 ds s1 ok1 r1 _ q1 => ?_⟩
  split at q1
  · rename_i i j c _
    have e := r1.int3; subst e
    obtain ⟨rfl, z, ⟨h1, h2, h3, h4⟩, q1⟩ := q1
    exact ⟨i, j, -1, _, rfl, RgC.neg h1 h2 h3 h4, k _ _ _ _ _ s1 ok1 (DWalk.rangeC (by omega)) q1⟩
  · exact q1.elim
end

/-! ### isinstance, builtin classes -/
def D.tyn : D → Option String
  | .non => some "NoneType"
  | .bl _ => some "bool"
  | .int _ => some "int"
  | .str _ => some "str"
  | .tup _ => some "tuple"
  | .lst _ | .scr _ => some "list"
  | _ => none
def tyIs (t T : String) : Bool := t == T || (t == "bool" && T == "int")
def okTys : List String := ["int", "bool", "str", "tuple", "list"]
theorem kit_tyIs {t T : String} (ht : t ∈ "NoneType" :: okTys) (hT : T ∈ okTys) : kitB t T = some (tyIs t T) := by
  have h : ∀ t ∈ "NoneType" :: okTys, ∀ T ∈ okTys, kitB t T = some (tyIs t T) := by decide +kernel
  exact h t ht T hT
def fIsi : F1 := fun ds Q => match ds with
  | [x, .ty T] => (∃ t, x.tyn = some t ∧ T ∈ okTys ∧ Q (.bl (tyIs t T)))
  | _ => False
section
variable {X : Cx} {K : PySem.W.Frag} {G H : Hp} {P : Addr → Prop}
theorem Rep.tyx (gh : ∀ a o, G a = some o → H a = some o) {v : V} {d : D} {t : String} (r : Rep K G P v d) (e : d.tyn = some t) : TyX K H v (.type t) ∧ t ∈ "NoneType" :: okTys := by
  have sq : ∀ {a : Addr} {xs : List V}, SqT K H a xs → TyX K H (.ref a) (.type "tuple") := fun {a xs} h => by
    rcases (h) with (h | ⟨o, h⟩) | h
    · exact .base (.tup h)
    · exact .fTuple h
    · obtain ⟨o, _, _, h1, h2, _⟩ := h
      exact .kTuple h1 h2
  have sl : ∀ {a : Addr} {xs : List V}, SqL K H a xs → TyX K H (.ref a) (.type "list") := fun {a xs} h => by
    rcases (h) with (h | ⟨o, h⟩) | h
    · exact .base (.lst h)
    · exact .base (.frz h)
    · obtain ⟨o, _, _, h1, h2, _⟩ := h
      exact .kList h1 h2
  cases r <;> first
    | (cases e; exact ⟨.base .non, by decide⟩)
    | (cases e; exact ⟨.base (.bl _), by decide⟩)
    | (cases e; exact ⟨.base (.int _), by decide⟩)
    | (cases e; exact ⟨.base (.str _), by decide⟩)
    | (rename_i h _ _; cases e; exact ⟨sq (sqt_mono gh h), by decide⟩)
    | (rename_i h _ _; cases e; exact ⟨.base (.lst (gh _ _ h)), by decide⟩)
    | (rename_i h; cases e; exact ⟨sl (sql_mono gh h), by decide⟩)
    | cases e
theorem kit_tys {t : String} (ht : t ∈ "NoneType" :: okTys) : ∀ {Ts : List String}, (∀ T ∈ Ts, T ∈ okTys) → PySem.W.kitAny K (.type t) (Ts.map Value.type) = some (Ts.any (tyIs t))
  | [], _ => kitAny_nil
  | T :: Ts, h => by
    have ih := kit_tys ht (Ts := Ts) fun T' h' => h T' (List.mem_cons_of_mem _ h')
    have e := kit_tyIs ht (h T List.mem_cons_self)
    rw [List.map_cons, List.any_cons]
    refine kitAny_cons (kit_ty e) (fun z => ?_) (fun z => ?_)
    · rw [z, Bool.false_or]; exact ih
    · rw [z, Bool.true_or]
theorem cd_isi : CallD K (rIsi K) fIsi := by
  intro G H P vs ds Qd Q w r q k
  unfold fIsi at q
  split at q
  · obtain ⟨t, ht, hT, q⟩ := q
    cases r with
    | cons r1 r2 =>
      cases r2 with
      | cons r2 r3 =>
        cases r2
        cases r3
        obtain ⟨h1, h2⟩ := r1.tyx w.gh ht
        exact ⟨_, _, _, _, _, rfl, .ty _, h1, kit_ty (kit_tyIs h2 hT), k.here w (.bl _) q⟩
  · exact q.elim
end
/-- isinstance(e, (T1, T2, ..)) -/
def tTys : List String → TA
  | [] => tNil
  | T :: Ts => tCons (tC (.ty T)) (tTys Ts)
def dIsiT (Ts : List String) (ta : DT) : DT := fun δ Q => ta δ fun x => ∃ t, x.tyn = some t ∧ (∀ T ∈ Ts, T ∈ okTys) ∧ Q (.bl (Ts.any (tyIs t)))
theorem tTys_run {σ : L2.St} {H : Hp} : ∀ {Ts : List String} {Q : List V → Hp → Prop}, Q (Ts.map V.ty) H → tTys Ts σ H Q
  | [], _, q => q
  | T :: Ts, Q, q => by
    unfold tTys
    show tTys Ts σ H fun xs H2 => Q (.ty T :: xs) H2
    exact tTys_run q
theorem tys_cls : ∀ {Ts : List String}, Paired ClsV (Ts.map V.ty) (Ts.map Value.type)
  | [] => .nil
  | T :: _ => .cons (.ty T) tys_cls
section
variable {X : Cx} {B : Base} {e : Expr} {cs : List Expr} {ta : DT} {Ts : List String} {x1 : Nat} {tp p pos : Pos}
theorem de_isiT (hg : Gl X "isinstance") (hm : X.mg "isinstance" = none) (ha : DE X B e ta) (hcs : PA X cs (tTys Ts)) (hn : Ts.length ≤ sizeLine := by decide)
    (h0 : starEach [e, .Tuple cs x1 tp] X.env = (false, eval e X.env) :: starEach [.Tuple cs x1 tp] X.env := by rfl) (h1 : starEach [.Tuple cs x1 tp] X.env = (false, eval (.Tuple cs x1 tp) X.env) :: starEach [] X.env := by rfl) (h2 : (backTo pos (starEach [.Tuple cs x1 tp] X.env)).any (·.1) = false := by rfl) :
    DE X B (.Call (.Name "isinstance" p) [e, .Tuple cs x1 tp] [] pos) (dIsiT Ts ta) :=
  (pe_callB call_isiT hg hm (by rfl) (pa_cons ha (pa_cons (pe_tup hcs) pa_nil h1) h0) (by decide) (by decide) h0 h2).mono fun σ H Q q => by
    obtain ⟨G, P, δ, Qd, w, q, k⟩ := q
    refine ⟨G, P, δ, _, w, q, fun v G1 H1 P1 d s1 ok1 r1 ⟨t, ht, hT, q1⟩ => ?_⟩
    refine tTys_run ⟨by simpa using hn, fun l hl => ?_⟩
    obtain ⟨s2, ok2⟩ := Stp.laid (o := .tup (Ts.map V.ty)) ok1 hl
    obtain ⟨h1, h2⟩ := (s2.rep r1).tyx ok2.gh ht
    exact ⟨v, l, _, _, _, _, rfl, upd_same, tys_cls, h1, kit_tys h2 hT, k _ _ _ _ _ (s1.trans s2) ok2 (.bl _) q1⟩
end
/-! ### one value, two values -/
section
variable {X : Cx} {K : PySem.W.Frag}
def fLen : F1 := fun ds Q => match ds with
  | [.str s] => s.length ≤ sizeLine ∧ Q (.int s.length)
  | [.lst xs] => Q (.int xs.length)
  | [.tup xs] => Q (.int xs.length)
  | [.scr xs] => Q (.int xs.length)
  | _ => False
abbrev rLen (K : PySem.W.Frag) : List V → Hp → VK → Prop := fun xs H Q => ∃ x n, xs = [x] ∧ LenV K x H n ∧ Q (.int n) H
theorem cd_len : CallD K (rLen K) fLen := by
  intro G H P vs ds Qd Q w r q k
  unfold fLen at q
  split at q
  · cases r with | cons a b => cases a; cases b; exact ⟨_, _, rfl, ⟨q.1, rfl⟩, k.here w (.int _) q.2⟩
  · cases r with | cons a b => cases b; cases a with | lst h1 h2 h3 => exact ⟨_, _, rfl, .inl ⟨_, .inl (.inl (w.gh _ _ h1)), h2.length.symm⟩, k.here w (.int _) q⟩
  · cases r with | cons a b => cases b; cases a with | tup h1 h2 h3 => exact ⟨_, _, rfl, .inr ⟨_, sqt_mono w.gh h1, h2.length.symm⟩, k.here w (.int _) q⟩
  · cases r with | cons a b => cases b; cases a with | scr h1 => exact ⟨_, _, rfl, .inl ⟨_, sql_mono w.gh h1, by simp⟩, k.here w (.int _) q⟩
  · exact q.elim
def fAbs : F1 := fun ds Q => match ds with
  | [.int i] => Q (.int (if i < 0 then -i else i))
  | _ => False
theorem cd_abs : CallD K (fun xs H Q => ∃ i, xs = [.int i] ∧ Q (.int (if i < 0 then -i else i)) H) fAbs := by
  intro G H P vs ds Qd Q w r q k
  unfold fAbs at q
  split at q
  · have e := r.int1; subst e; exact ⟨_, rfl, k.here w (.int _) q⟩
  · exact q.elim
def fMax2 : F1 := fun ds Q => match ds with
  | [.int i, .int j] => Q (.int (if j > i then j else i))
  | _ => False
theorem cd_max2 : CallD K (fun xs H Q => ∃ i j, xs = [.int i, .int j] ∧ Q (.int (if j > i then j else i)) H) fMax2 := by
  intro G H P vs ds Qd Q w r q k
  unfold fMax2 at q
  split at q
  · have e := r.int2; subst e; exact ⟨_, _, rfl, k.here w (.int _) q⟩
  · exact q.elim
def fMin2 : F1 := fun ds Q => match ds with
  | [.int i, .int j] => Q (.int (if j < i then j else i))
  | _ => False
theorem cd_min2 : CallD K (fun xs H Q => ∃ i j, xs = [.int i, .int j] ∧ Q (.int (if j < i then j else i)) H) fMin2 := by
  intro G H P vs ds Qd Q w r q k
  unfold fMin2 at q
  split at q
  · have e := r.int2; subst e; exact ⟨_, _, rfl, k.here w (.int _) q⟩
  · exact q.elim
def fInt1 : F1 := fun ds Q => match ds with
  | [.int i] => Q (.int i)
  | [.bl b] => Q (.int (if b then 1 else 0))
  | _ => False
theorem cd_int1 : CallD K (fun xs H Q => (∃ i, xs = [.int i] ∧ Q (.int i) H) ∨ ∃ k, xs = [.bl k] ∧ Q (.int (if k then 1 else 0)) H) fInt1 := by
  intro G H P vs ds Qd Q w r q k
  unfold fInt1 at q
  split at q
  · have e := r.int1; subst e; exact .inl ⟨_, rfl, k.here w (.int _) q⟩
  · cases r with | cons a b => cases a; cases b; exact .inr ⟨_, rfl, k.here w (.int _) q⟩
  · exact q.elim
/-! ### lists of ints, of bools -/
def D.asInts : List D → Option (List Int)
  | [] => some []
  | .int i :: r => (D.asInts r).map (i :: ·)
  | _ :: _ => none
theorem asInts_map : ∀ (ns : List Int), D.asInts (ns.map D.int) = some ns
  | [] => rfl
  | n :: ns => by rw [List.map_cons]; unfold D.asInts; rw [asInts_map ns]; rfl
theorem of_asInts : ∀ {ds : List D} {ns : List Int}, D.asInts ds = some ns → ds = ns.map D.int
  | [], _, e => by cases e; rfl
  | .int i :: r, _, e => by
    unfold D.asInts at e
    cases e2 : D.asInts r with
    | none => rw [e2] at e; cases e
    | some ms => rw [e2] at e; cases e; rw [List.map_cons, ← of_asInts e2]
def D.asBls : List D → Option (List Bool)
  | [] => some []
  | .bl i :: r => (D.asBls r).map (i :: ·)
  | _ :: _ => none
theorem of_asBls : ∀ {ds : List D} {ns : List Bool}, D.asBls ds = some ns → ds = ns.map D.bl
  | [], _, e => by cases e; rfl
  | .bl i :: r, _, e => by
    unfold D.asBls at e
    cases e2 : D.asBls r with
    | none => rw [e2] at e; cases e
    | some ms => rw [e2] at e; cases e; rw [List.map_cons, ← of_asBls e2]
theorem asBls_map : ∀ (ns : List Bool), D.asBls (ns.map D.bl) = some ns
  | [] => rfl
  | n :: ns => by rw [List.map_cons]; unfold D.asBls; rw [asBls_map ns]; rfl
theorem RepL.of_bls {G : Hp} {P : Addr → Prop} : ∀ {ns : List Bool} {vs : List V}, RepL K G P vs (ns.map D.bl) → vs = ns.map V.bl
  | [], _, .nil => rfl
  | n :: ns, _, .cons a b => by
    cases a
    rw [RepL.of_bls b]; rfl
/-- the ints of a list -/
def fL (f : List Int → (D → Prop) → Prop) : F1 := fun ds Q => match ds with
  | [.lst xs] => ∃ ns, D.asInts xs = some ns ∧ f ns Q
  | [.scr ns] => f ns Q
  | _ => False
theorem cd_ints {f : List Int → (D → Prop) → Prop} {r : List V → Hp → VK → Prop} (h : ∀ (G H : Hp) (P : Addr → Prop) (a : Addr) (ns : List Int) (Qd : D → Prop) (Q : VK), WOk G H P → SqL K H a (ns.map V.int) → f ns Qd → K1 K G H P Qd Q → r [.ref a] H Q) : CallD K r (fL f) := by
  intro G H P vs ds Qd Q w rr q k
  unfold fL at q
  split at q
  · obtain ⟨ns, e, q⟩ := q
    rw [of_asInts e] at rr
    cases rr with | cons a b => cases b; cases a with | lst h1 h2 h3 => exact h _ _ _ _ ns _ _ w (by rw [← RepL.of_ints h2]; exact .inl (.inl (w.gh _ _ h1))) q k
  · cases rr with | cons a b => cases b; cases a with | scr h1 => exact h _ _ _ _ _ _ _ w (sql_mono w.gh h1) q k
  · exact q.elim
def gMax (ns : List Int) (Q : D → Prop) : Prop := 0 < ns.length ∧ ∀ m, m ∈ ns → (∀ y, y ∈ ns → y ≤ m) → Q (.int m)
def gMin (ns : List Int) (Q : D → Prop) : Prop := 0 < ns.length ∧ ∀ m, m ∈ ns → (∀ y, y ∈ ns → m ≤ y) → Q (.int m)
def gSum (ns : List Int) (Q : D → Prop) : Prop := Q (.int ns.sum)
def gSort (ns : List Int) (Q : D → Prop) : Prop := ns.length ≤ sizeLine ∧ ∀ ns' : List Int, ns'.Perm ns → ns'.Pairwise (· ≤ ·) → Q (.lst (ns'.map D.int))
theorem cd_maxL : CallD K (rMax K) (fL gMax) := cd_ints fun _ _ _ a ns _ _ w h q k => ⟨a, ns, rfl, h, q.1, fun m h1 h2 => k.here w (.int m) (q.2 m h1 h2)⟩
theorem cd_minL : CallD K (rMin K) (fL gMin) := cd_ints fun _ _ _ a ns _ _ w h q k => ⟨a, ns, rfl, h, q.1, fun m h1 h2 => k.here w (.int m) (q.2 m h1 h2)⟩
theorem cd_sum : CallD K (rSum K) (fL gSum) := cd_ints fun _ _ _ a ns _ _ w h q k => ⟨a, ns, rfl, h, k.here w (.int _) q⟩
theorem cd_sort : CallD K (rSortedI K) (fL gSort) := cd_ints fun _ _ _ a ns _ _ w h q k => ⟨a, ns, rfl, h, fun ns' p h1 h2 hp => k.new w hp (.newLst w hp RepL.ints (by rw [List.length_map, h1.length_eq]; exact q.1)) (q.2 ns' h1 h2)⟩
def fAll : F1 := fun ds Q => match ds with
  | [.lst xs] => ∃ bs, D.asBls xs = some bs ∧ Q (.bl (bs.all id))
  | _ => False
theorem cd_all : CallD K (rAll K) fAll := by
  intro G H P vs ds Qd Q w rr q k
  unfold fAll at q
  split at q
  · obtain ⟨bs, e, q⟩ := q
    rw [of_asBls e] at rr
    cases rr with | cons a b => cases b; cases a with | lst h1 h2 h3 => exact ⟨_, bs, rfl, by rw [← RepL.of_bls h2]; exact .inl (.inl (w.gh _ _ h1)), k.here w (.bl _) q⟩
  · exact q.elim
def fAny : F1 := fun ds Q => match ds with
  | [.lst xs] => ∃ bs, D.asBls xs = some bs ∧ Q (.bl (bs.any id))
  | _ => False
theorem cd_any : CallD K (rAny K) fAny := by
  intro G H P vs ds Qd Q w rr q k
  unfold fAny at q
  split at q
  · obtain ⟨bs, e, q⟩ := q
    rw [of_asBls e] at rr
    cases rr with | cons a b => cases b; cases a with | lst h1 h2 h3 => exact ⟨_, bs, rfl, by rw [← RepL.of_bls h2]; exact .inl (.inl (w.gh _ _ h1)), k.here w (.bl _) q⟩
  · exact q.elim
/-! ### list(x), tuple(x) -/
def fList : F1 := fun ds Q => match ds with
  | [.lst xs] => Q (.lst xs)
  | [.tup xs] => Q (.lst xs)
  | _ => False
theorem cd_list : CallD K (fun xs H Q => ∃ p ys, xs = [.ref p] ∧ (SqL K H p ys ∨ SqT K H p ys) ∧ ∀ l, H l = none → Q (.ref l) (upd H l (.lst ys))) fList := by
  intro G H P vs ds Qd Q w rr q k
  unfold fList at q
  split at q
  · cases rr with | cons a b => cases b; cases a with | lst h1 h2 h3 => exact ⟨_, _, rfl, .inl (.inl (.inl (w.gh _ _ h1))), fun l hl => k.new w hl (.newLst w hl h2 h3) q⟩
  · cases rr with | cons a b => cases b; cases a with | tup h1 h2 h3 => exact ⟨_, _, rfl, .inr (sqt_mono w.gh h1), fun l hl => k.new w hl (.newLst w hl h2 h3) q⟩
  · exact q.elim
def fTuple : F1 := fun ds Q => match ds with
  | [.lst xs] => Q (.tup xs)
  | [.tup xs] => Q (.tup xs)
  | _ => False
theorem cd_tuple : CallD K (fun xs H Q => ∃ p ys, xs = [.ref p] ∧ ((SqL K H p ys ∧ ∀ l, H l = none → Q (.ref l) (upd H l (.tup ys))) ∨ (SqT K H p ys ∧ Q (.ref p) H))) fTuple := by
  intro G H P vs ds Qd Q w rr q k
  unfold fTuple at q
  split at q
  · cases rr with | cons a b => cases b; cases a with | lst h1 h2 h3 => exact ⟨_, _, rfl, .inl ⟨.inl (.inl (w.gh _ _ h1)), fun l hl => k.new w hl (.newTup w hl h2 h3) q⟩⟩
  · cases rr with | cons a b => cases b; cases a with | tup h1 h2 h3 => exact ⟨_, _, rfl, .inr ⟨sqt_mono w.gh h1, k.here w (.tup h1 h2 h3) q⟩⟩
  · exact q.elim
end
end FG

/-! FI: max of four, repr, a method called by keyword. -/
namespace FG
open PySem.Spec PySem L2 PyProof.Rows

/-! ### max(a, b, c, d) -/
theorem max4_ok (v1 v2 v3 v4 : Value) : argsOk "max" ⟨[v1, v2, v3, v4], []⟩ := by unfold argsOk; kernel_rfl
section
variable {w : World} {P : Program} {A : Around} {s : Shared} {E : Value → Shared → Prop}
theorem max4_raw {i1 i2 i3 i4 : Int} {t1 t2 t3 t4 : Tok} {Q : Value → Shared → Prop} (hc : A.handled = none)
    (hq : ∀ h' tk m t, (∀ b o, s.heap.get? b = some o → h'.get? b = some o) → m ∈ [i1, i2, i3, i4] → (∀ y ∈ [i1, i2, i3, i4], y ≤ m) → Q (.int m t) { s with heap := h', toks := tk }) :
    wpAny (model P w) A (call (.builtin "max") [.int i1 t1, .int i2 t2, .int i3 t3, .int i4 t4]) Q E s := by
  let ps : Array (Int × Tok) := #[(i1, t1), (i2, t2), (i3, t3), (i4, t4)]
  let ob : Obj := { cls := .type "tuple", data := .seq #[.int i1 t1, .int i2 t2, .int i3 t3, .int i4 t4] }
  let h1 : Heap := s.heap.push ob
  have z1 : h1.objs.size = s.heap.objs.size + 1 := Heap.size_push ..
  have tup : h1.IsTuple s.heap.objs.size (intItems ps) := ⟨ob, Heap.get?_push_size _ rfl, rfl, 0, by simp [ob, ps, intItems]⟩
  have nm : (toString "max" ++ toString ".loop" : String) = "max.loop" := by decide
  apply call_function_tree F.kind_max F.plain_max F.entry_max (max4_ok _ _ _ _)
  show wpAny (model P w) A.in1 (Builtin.Builtins.bindParams "max" ["key", "default"] 0 ⟨[], []⟩ >>= _) _ _ s
  apply wpAny_bind
  apply wpAny_of_eq (show Builtin.Builtins.bindParams "max" ["key", "default"] 0 ⟨[], []⟩ = pure [none, none] from rfl)
  show wpAny _ A.in1 (newTuple [.int i1 t1, .int i2 t2, .int i3 t3, .int i4 t4] >>= _) _ _ s
  refine wpAny_bind ?_
  refine wpAny_newObj_type ?_
  refine wpAny_bind (wpAny_pyIter_tuple tup ?_)
  refine wpAny_bind ?_
  refine wpAny_newObj_type ?_
  rw [nm]
  have W := Walks.tuple (prog := P) (w := w) (A := A.in1) hc h1.objs.size s.heap.objs.size (by rw [z1]; exact Nat.ne_of_lt (Nat.lt_succ_self _)) (intItems ps)
  have cmp : CmpOf P w A.in1 .Gt (fun i v => (intItems ps)[i]? = some v) (fun i j => decide (numAt ps j < numAt ps i)) := CmpOf.ints_gt (numAt ps) (fun _ _ => intItems_at)
  have lt1 : s.heap.objs.size < h1.objs.size := by rw [z1]; exact Nat.lt_succ_self _
  have nope : ¬ (s.heap.objs.size + 1 + 1 = h1.objs.size ∨ s.heap.objs.size + 1 + 1 = s.heap.objs.size) := fun z => by rw [z1] at z; omega
  have nope2 : ∀ {b : Nat}, b = h1.objs.size → b < s.heap.objs.size → False := fun {b} z z2 => by rw [z1] at z; omega
  have nope3 : ∀ {b : Nat}, b = s.heap.objs.size + 1 + 1 → b < s.heap.objs.size → False := fun {b} z z2 => by omega
  refine wpAny_pure ⟨plainId_quiet F.plain_max_loop _, codeAny_max_loop_first (A := A) W _ cmp _ (fun hm => ?_) (by simp [ps, intItems]) (W.frame 0 _ _ ⟨⟨_, Heap.get?_push_size _ rfl, rfl, rfl⟩, tup.push _⟩ fun b _ o e => Heap.get?_push_of_some _ e) (Heap.get?_push_size _ rfl) fun v h' tk hP hk => ?_⟩
  · simp only [Heap.size_push, List.mem_cons, List.not_mem_nil, or_false] at hm
    exact nope hm
  · obtain ⟨t, rfl⟩ := intItems_at hP
    obtain ⟨k1, k2⟩ := argBest_gt (numAt ps) ((intItems ps).size - 1)
    have sz : (intItems ps).size - 1 = 3 := by simp [ps, intItems]
    refine hq h' tk _ t (fun b o e => ?_) ?_ fun y hy => ?_
    · have lb := Heap.lt_size e
      refine hk b o (fun hm => ?_) (fun z => ?_) (Heap.get?_push_of_some _ (Heap.get?_push_of_some _ (Heap.get?_push_of_some _ e)))
      · simp only [List.mem_cons, List.not_mem_nil, or_false] at hm
        exact nope2 hm lb
      · simp only [Heap.size_push] at z
        exact nope3 z lb
    · have all : ∀ j : Nat, j ≤ 3 → numAt ps j ∈ [i1, i2, i3, i4] := fun j hj => by
        match j, hj with
        | 0, _ => simp [numAt, ps]
        | 1, _ => simp [numAt, ps]
        | 2, _ => simp [numAt, ps]
        | 3, _ => simp [numAt, ps]
      exact all _ (by rw [← sz]; exact k1)
    · have e0 := k2 0 (by rw [sz]; decide)
      have e1 := k2 1 (by rw [sz]; decide)
      have e2 := k2 2 (by rw [sz]; decide)
      have e3 := k2 3 (by rw [sz]; decide)
      simp only [List.mem_cons, List.not_mem_nil, or_false] at hy
      rcases hy with rfl | rfl | rfl | rfl
      · exact e0
      · exact e1
      · exact e2
      · exact e3
end
section
variable {X : Cx} {K : PySem.W.Frag}
def rMax4 : List V → Hp → VK → Prop := fun xs H Q => ∃ i1 i2 i3 i4, xs = [.int i1, .int i2, .int i3, .int i4] ∧ ∀ m, m ∈ [i1, i2, i3, i4] → (∀ y ∈ [i1, i2, i3, i4], y ≤ m) → Q (.int m) H
theorem cr_max4 (hc : X.calm = true) : CallR X (.builtin "max") rMax4 := by
  intro pns s σ H xs us Q I r h
  obtain ⟨i1, i2, i3, i4, rfl, q⟩ := h
  cases r with
  | cons r1 r =>
    cases r with
    | cons r2 r =>
      obtain ⟨u3, u4, rfl, r3, r4⟩ := vals2 r
      obtain ⟨t1, rfl⟩ := (show ∃ t, _ = Value.int i1 t from r1)
      obtain ⟨t2, rfl⟩ := (show ∃ t, _ = Value.int i2 t from r2)
      obtain ⟨t3, rfl⟩ := (show ∃ t, _ = Value.int i3 t from r3)
      obtain ⟨t4, rfl⟩ := (show ∃ t, _ = Value.int i4 t from r4)
      exact max4_raw (I.ok.hd hc) fun h' tk m t k h1 h2 => ⟨.int m, H, I.kept k, ⟨t, rfl⟩, q m h1 h2⟩
def fMax4 : F1 := fun ds Q => match ds with
  | [.int a, .int b, .int c, .int d] => ∀ m, m ∈ [a, b, c, d] → (∀ y ∈ [a, b, c, d], y ≤ m) → Q (.int m)
  | _ => False
theorem cd_max4 : CallD K rMax4 fMax4 := by
  intro G H P vs ds Qd Q w r q k
  unfold fMax4 at q
  split at q
  · have e := RepL.of_ints (ns := [_, _, _, _]) r
    subst e
    exact ⟨_, _, _, _, rfl, fun m h1 h2 => k.here w (.int m) (q m h1 h2)⟩
  · exact q.elim

/-! ### repr of plain lists and tuples -/
def D.box : D → Bool
  | .lst _ | .tup _ => true
  | _ => false
def fRepr : F1 := fun ds Q => match ds with
  | [x] => x.box = true ∧ x.plain = true ∧ x.py.showable = true ∧ x.py.depth ≤ 60 ∧ x.py.shown.length ≤ sizeLine ∧ Q (.str x.py.shown)
  | _ => False
mutual
theorem plain_noDict : ∀ d : D, d.plain = true → d.py.hasDict = false
  | .non, _ => by unfold D.py; rfl
  | .bl _, _ => by unfold D.py; rfl
  | .int _, _ => by unfold D.py; rfl
  | .str _, _ => by unfold D.py; rfl
  | .tup xs, h => by unfold D.py; unfold PyData.hasDict; exact plain_noDictL xs (by unfold D.plain at h; exact h)
  | .lst xs, h => by unfold D.py; unfold PyData.hasDict; exact plain_noDictL xs (by unfold D.plain at h; exact h)
  | .dct _, h => by unfold D.plain at h; cases h
  | .ins _ _, h => by unfold D.plain at h; cases h
  | .pot, h => by unfold D.plain at h; cases h
  | .scr _, h => by unfold D.plain at h; cases h
  | .cls _, h => by unfold D.plain at h; cases h
  | .ty _, h => by unfold D.plain at h; cases h
theorem plain_noDictL : ∀ ds : List D, D.plainL ds = true → PyData.hasDictAll (D.pyL ds) = false
  | [], _ => by unfold D.pyL; unfold PyData.hasDictAll; rfl
  | d :: ds, h => by
    unfold D.plainL at h
    obtain ⟨h1, h2⟩ := Bool.and_eq_true_iff.mp h
    unfold D.pyL; unfold PyData.hasDictAll
    rw [plain_noDict d h1, plain_noDictL ds h2]; rfl
end
def rReprD (K : PySem.W.Frag) : List V → Hp → VK → Prop := fun xs H Q => ∃ a d, xs = [V.ref a] ∧ Dp K H (.ref a) d ∧ d.showable = true ∧ d.hasDict = false ∧ d.depth ≤ 60 ∧ d.shown.length ≤ sizeLine ∧ Q (.str d.shown) H
theorem cr_reprD (hg : X.A.guards = some []) (hu : X.A.units + 64 < cLine) : CallR X (.builtin "repr") (rReprD X.K) := by
  intro pns s σ H xs us Q I r h
  obtain ⟨a, d, rfl, hd, h1, h2, h3, h4, q⟩ := h
  obtain ⟨u0, rfl, rx⟩ := vals1 r
  obtain ⟨as, hr⟩ := Dp.reads I d _ _ hd rx
  cases rx
  exact repr_of_reads' hr h1 (PyData.noDict_hsm h2) hg (by omega) (fun _ _ e => e) (fun h' t tk k => ⟨.str _, H, I.kept k, ⟨t, rfl⟩, q⟩) h4
theorem cd_repr : CallD K (rReprD K) fRepr := by
  intro G H P vs ds Qd Q w r q k
  unfold fRepr at q
  split at q
  · obtain ⟨q0, q1, q2, q3, q4, q⟩ := q
    cases r with
    | cons r1 r2 =>
      cases r2
      have dp := r1.dp w.gh q1
      have hn := plain_noDict _ q1
      cases r1 with
      | tup h1 h2 h3 => exact ⟨_, _, rfl, dp, q2, hn, q3, q4, k.here w (.str _) q⟩
      | lst h1 h2 h3 => exact ⟨_, _, rfl, dp, q2, hn, q3, q4, k.here w (.str _) q⟩
      | _ => cases q0
  · exact q.elim
end
end FG

/-! FJ: the head's hook: defs by paths, facts by one Bool; the pots. -/
namespace FG
open PySem.Spec PySem L2 PyProof.Rows
open He (ga ma eqO eqO_ok Fa FnW Dv dflB dflB_ok kwdB kwdB_ok ba)

/-- where a def stands: a global, a class's method, a property's getter, a classmethod -/
inductive Pth where
  | glo (x : Str) | meth (C m : Str) | get (C f : Str) | clm (C m : Str)
/-- a property's object, its getter -/
def prAd (K : PySem.W.Frag) (C : Addr) (f : Str) : Addr := ma K C f
def gtAd (K : PySem.W.Frag) (C : Addr) (f : Str) : Addr := match PySem.W.recIn K (prAd K C f) "property" with
  | some (.ref g :: _) => g
  | _ => 0
def cmAd (K : PySem.W.Frag) (C : Addr) (f : Str) : Addr := match PySem.W.recIn K (prAd K C f) "classmethod" with
  | some (.ref g :: _) => g
  | _ => 0
def Pth.ad (K : PySem.W.Frag) : Pth → Addr
  | .glo x => ga K x
  | .meth C m => ma K (ga K C) m
  | .get C f => gtAd K (ga K C) f
  | .clm C m => cmAd K (ga K C) m
structure DefP where
  at_ : Pth
  name : Str
  qual : Str
  params : Arguments
  body : List Stmt
  scope : Scope
  dfl : List Dv := []
  kwd : List (Str × Dv) := []
def fnA (K : PySem.W.Frag) (a : Addr) : FnW := match K.lookup a with
  | some ⟨_, _, .func g, _⟩ => some (g.name, g.qualname, g.params, g.body, g.scope, g.globals, g.closure, g.builtins)
  | _ => none
def DefP.val (d : DefP) : FnW := some (d.name, d.qual, d.params, .stmts d.body, d.scope, mainGlobals, [], builtinsNs)
def DefP.dvs (K : PySem.W.Frag) (d : DefP) : List V := d.dfl.map (Dv.v K)
def DefP.kws (K : PySem.W.Frag) (d : DefP) : List (Str × V) := d.kwd.map fun q => (q.1, q.2.v K)
def DefP.ok (K : PySem.W.Frag) (d : DefP) : Bool := PySem.W.keepIn K (.ref (d.at_.ad K)) && match K.lookup (d.at_.ad K) with
  | some ⟨_, _, .func g, _⟩ => PySem.W.codeIn K g.code d.qual && (dflB K g.defaults (d.dvs K) && kwdB K g.kwdefaults (d.kws K))
  | _ => false
theorem DefP.fund {K : PySem.W.Frag} {d : DefP} (e : fnA K (d.at_.ad K) = d.val) (c : d.ok K = true) : ∃ fd, FunD K d.name d.qual d.params d.body d.scope (d.dvs K) (d.kws K) (d.at_.ad K) fd := by
  obtain ⟨kp, c⟩ := ba c
  unfold fnA DefP.val at e
  revert c e
  generalize hq : K.lookup (d.at_.ad K) = q
  intro e c
  match q, c, e, hq with
  | some ⟨oc, od, .func ⟨a1, a2, a3, a4, a5, a6, a7, a8, a9, a10, a11, a12, a13, a14, a15⟩, osl⟩, c, e, hq =>
    have e : (some (a1, a2, a3, a4, a5, a6, a7, a15) : FnW) = some (d.name, d.qual, d.params, .stmts d.body, d.scope, mainGlobals, [], builtinsNs) := e
    injection e with e
    simp only [Prod.mk.injEq] at e
    obtain ⟨rfl, rfl, rfl, rfl, rfl, rfl, rfl, rfl⟩ := e
    obtain ⟨c1, c2⟩ := ba (show (PySem.W.codeIn K a13 d.qual && (dflB K a8 (d.dvs K) && kwdB K a9 (d.kws K))) = true from c)
    obtain ⟨c2, c3⟩ := ba c2
    exact ⟨_, ⟨oc, od, a8, a9, a10, a11, a12, a13, a14, osl, rfl, hq, c1, dflB_ok c2, kwdB_ok c3⟩, kp⟩

/-! ### the hook -/
abbrev AlF : Type := Bool × List FnW
def obsF (ex : PySem.W.Frag → Bool) (fn : List DefP) (K : PySem.W.Frag) : AlF := (ex K && fn.all fun d => d.ok K, fn.map fun d => fnA K (d.at_.ad K))
def SaysF (ex : PySem.W.Frag → Bool) (fn : List DefP) (K : PySem.W.Frag) : Prop := obsF ex fn K = (true, fn.map DefP.val)
/-- what an object of the top leads to (a class to its names alone) -/
def refsQ (o : Obj) : List Addr := match o.data with
  | .seq its _ => its.toList.flatMap He.refV
  | .dict es _ => es.toList.flatMap fun e => He.refV e.val
  | .func fd => He.refV fd.code ++ (He.refV fd.defaults ++ He.refV fd.kwdefaults)
  | .cls cd => [cd.ns]
  | .fields vs => vs.toList.flatMap He.refV
  | _ => []
/-- level by level, n levels: nothing is sorted out -/
def lvQ (g : Addr → Option Obj) : Nat → List Addr → List Addr
  | 0, as => as
  | n + 1, as => as ++ lvQ g n (as.flatMap fun a => match g a with
    | some o => refsQ o
    | none => [])
def obsFG (n : Nat) (ex : PySem.W.Frag → Bool) (fn : List DefP) (g : Addr → Option Obj) : AlF := obsF ex fn (He.frG g (lvQ g n [mainGlobals]))
def hookF (n : Nat) (ex : PySem.W.Frag → Bool) (fn : List DefP) : PySem.W.Hook where
  α := AlF
  obs s := obsFG n ex fn s.heap.get?
  val _ := (true, fn.map DefP.val)
  says _ h := ∃ K : PySem.W.Frag, K.In h ∧ SaysF ex fn K
  of _ _ e := ⟨_, He.frG_in, e⟩
  keeps _ _ _ z k := let ⟨K, h1, h2⟩ := z; ⟨K, h1.keeps k, h2⟩
theorem obsFG_eq {n : Nat} {ex : PySem.W.Frag → Bool} {fn : List DefP} {g : Addr → Option Obj} {s : Shared} (h : ∀ a, g a = s.heap.get? a) : obsFG n ex fn g = (hookF n ex fn).obs s := by
  rw [show g = s.heap.get? from funext h]
  rfl
section
variable {ex : PySem.W.Frag → Bool} {fn : List DefP} {K : PySem.W.Frag}
theorem SaysF.yes (c : SaysF ex fn K) : ex K = true := (ba (congrArg Prod.fst c : (ex K && fn.all fun d => d.ok K) = true)).1
theorem SaysF.fund (c : SaysF ex fn K) (i : Nat) {d : DefP} (h : fn[i]? = some d := by rfl) : ∃ fd, FunD K d.name d.qual d.params d.body d.scope (d.dvs K) (d.kws K) (d.at_.ad K) fd := by
  have ok := List.all_eq_true.mp (ba (congrArg Prod.fst c : (ex K && fn.all fun d => d.ok K) = true)).2 d (List.mem_of_getElem? h)
  have v : (fn.map fun d => fnA K (d.at_.ad K))[i]? = (fn.map DefP.val)[i]? := congrArg (fun z : AlF => z.2[i]?) c
  rw [List.getElem?_map, List.getElem?_map, h] at v
  exact DefP.fund (Option.some.inj v) ok
end
/-! ### facts of one's own -/
def propB (K : PySem.W.Frag) (x f : Str) : Bool := eqO (PySem.W.findIn K (.ref (ga K x)) f) (some (some (.ref (prAd K (ga K x) f)))) && (eqO (PySem.W.specialIn K (.ref (prAd K (ga K x) f)) "__get__") (some (some (.builtin "property.__get__"))) &&
  (decide (PySem.W.takesIn K (.ref (prAd K (ga K x) f)) = some true) && match PySem.W.recIn K (prAd K (ga K x) f) "property" with
    | some (.ref _ :: _) => true
    | _ => false))
theorem propB_ok {K : PySem.W.Frag} {x f : Str} (h : propB K x f = true) : PropOf K (ga K x) f (prAd K (ga K x) f) (gtAd K (ga K x) f) := by
  obtain ⟨h1, h⟩ := ba h
  obtain ⟨h2, h⟩ := ba h
  obtain ⟨h3, h4⟩ := ba h
  refine ⟨eqO_ok h1, eqO_ok h2, of_decide_eq_true h3, ?_⟩
  unfold gtAd
  split at h4
  · rename_i g r e
    rw [e]
    exact ⟨r, rfl⟩
  · cases h4
def callB (K : PySem.W.Frag) (x : Str) : Bool := eqO (PySem.W.findIn K (.ref (ga K x)) "__call__") (some (some (.ref (ma K (ga K x) "__call__")))) && (PySem.W.isFn K (.ref (ma K (ga K x) "__call__")) && PySem.W.fnIn K (ma K (ga K x) "__call__"))
theorem callB_ok {K : PySem.W.Frag} {x : Str} (h : callB K x = true) : StX.CallO K (ga K x) (ma K (ga K x) "__call__") := by
  obtain ⟨h1, h⟩ := ba h
  obtain ⟨h2, h3⟩ := ba h
  exact ⟨eqO_ok h1, h2, h3⟩
end FG

/-! FK: the laws' pots of digits. -/
namespace FG
open PySem.Spec PySem L2 PyProof.Rows

theorem intBits_le {i : Int} {a : Nat} (h : i.natAbs < 2 ^ a) : Builtin.Int.intBits i ≤ a := by
  unfold Builtin.Int.intBits
  split
  · exact Nat.zero_le _
  · rename_i h0
    have : i.natAbs.log2 < a := (Nat.log2_lt (by intro z; apply h0; simp at z; simp [z])).mpr h
    omega
theorem cmulx {i j : Int} (a b : Nat) (h1 : i.natAbs < 2 ^ a) (h2 : j.natAbs < 2 ^ b) (h3 : a + b ≤ 134217728) : CMulX i j := by
  have k1 := intBits_le h1
  have k2 := intBits_le h2
  show (Builtin.Int.intBits i : Int) + (Builtin.Int.intBits j : Int) ≤ 134217728
  omega

/-! ### a draw -/
abbrev rDm : List V → Hp → VK → Prop := fun xs H Q => ∃ i j, xs = [.int i, .int j] ∧ CDivP i j ∧ ∀ p, H p = none → Q (.ref p) (upd H p (.tup [.int (i / j), .int (i % j)]))
abbrev tIx (K : PySem.W.Frag) (i : Nat) (k : Int) : TE := tOp (rIx K) (tVar i) (tC (.int k))
abbrev rM : R2 := rI (fun _ j => 0 < j) fun i j => .int (i % j)
abbrev rX : R2 := rI CMulX fun i j => .int (i * j)
abbrev rF : R2 := rI CDivW fun i j => .int (i / j)
abbrev rP : R2 := rI0 fun i j => .int (i + j)
def tDraw (K : PySem.W.Frag) : TS := tSeq
  (tIfS (tB (tGt (tIx K 0 0) (tC (.int 0)))) (tSeq (tAsg (tCB rDm (tCons (tIx K 0 0) (tCons (tVar 1) tNil))) (gTup K 2 (gCons (gSub (tVar 0) (tC (.int 0)) rSetL) (gCons (gName 2) gNil)))) (tRet (tVar 2))) tNext)
  (tSeq (tAsg (tOp rM (tOp rP (tOp rX (tIx K 0 1) (tC (.int 39373))) (tC (.int 12227))) (tC (.int 2147483629))) (gSub (tVar 0) (tC (.int 1)) rSetL))
    (tRet (tOp rM (tOp rF (tOp rM (tOp rX (tIx K 0 1) (tIx K 0 1)) (tC (.int 2147483563))) (tC (.int 13))) (tVar 1))))
/-- a digit below n -/
structure DrawP (ds : List D) (Q : D → Prop) (E : Exn → Prop) : Prop where
  out : ∃ n : Int, ds = [.pot, .int n] ∧ 0 < n ∧ n.natAbs.log2 < 9000 ∧ ∀ d : Int, 0 ≤ d → d < n → Q (.int d)
def T_draw : DSp := DrawP
theorem pot_set {G H : Hp} {P : Addr → Prop} {a : Addr} {i j : Int} (w : WOk G H P) (pa : P a) (h : PotN i j) : Stp G H P G (upd H a (.lst [.int i, .int j])) P ∧ WOk G (upd H a (.lst [.int i, .int j])) P := by
  have ga := w.pg a pa
  refine ⟨⟨fun _ _ z => z, fun b o e n => ?_, fun b e => ?_, fun _ z => z, fun _ z => .inl z, fun _ _ z => .inl z⟩, fun b o e => ?_, w.pg, fun b pb => ?_⟩
  · rw [upd_ne (fun z : b = a => n (z ▸ pa))]; exact e
  · by_cases q : b = a
    · subst q; rw [upd_same]; simp
    · rw [upd_ne q]; exact e
  · rw [upd_ne (ne_of_none e ga)]; exact w.gh b o e
  · by_cases q : b = a
    · subst q; rw [upd_same]; exact ⟨i, j, rfl, h⟩
    · rw [upd_ne q]; exact w.pt b pb
theorem rd_draw {K : PySem.W.Frag} {N : List Str} (hN : N.length = 3) (vs : List V) (H : Hp) (Q : VK) (E : XK) (h : spD K T_draw vs H Q E) : tDraw K { nx := fun _ H' => Q .non H', rt := Q } (L2.start N vs) H := by
  obtain ⟨G, P, ds, Qd, Ed, ok, rl, ⟨n, rfl, n0, nb, qd⟩, k1, _⟩ := h
  cases rl with
  | cons r1 rl =>
    cases rl with
    | cons r2 rl =>
      cases rl
      cases r2
      cases r1 with
      | @pot a pa =>
        obtain ⟨i, j, ha, hi, hj, hj2⟩ := ok.pt a pa
        have st : L2.start N [V.ref a, V.int n] = [some (.ref a), some (.int n), none] := by
          unfold L2.start
          rw [hN]
          rfl
        rw [st]
        have ix : ∀ {H' : Hp} {x y : Int} {Q' : VK}, H' a = some (.lst [.int x, .int y]) → Q' (.int x) H' → rIx K (.ref a) (.int 0) H' Q' := fun h1 h2 => .inl ⟨a, _, 0, _, rfl, rfl, .inl (.inl h1), rfl, h2⟩
        have iy : ∀ {H' : Hp} {x y : Int} {Q' : VK}, H' a = some (.lst [.int x, .int y]) → Q' (.int y) H' → rIx K (.ref a) (.int 1) H' Q' := fun h1 h2 => .inl ⟨a, _, 1, _, rfl, rfl, .inl (.inl h1), rfl, h2⟩
        refine ⟨_, rfl, ix ha ⟨_, _, rfl, rfl, _, rfl, ?_⟩⟩
        by_cases hp : 0 < i
        · refine Eq.mpr (if_pos (decide_eq_true hp)) ?_
          refine ⟨_, rfl, ix ha ⟨_, rfl, _, _, rfl, ⟨n0, PyProof.noPylong_of_log2 nb⟩, fun p hp2 => ?_⟩⟩
          have ne : a ≠ p := ne_of_none ha hp2
          have ha2 : upd H p (.tup [.int (i / n), .int (i % n)]) a = some (.lst [.int i, .int j]) := by rw [upd_ne ne]; exact ha
          refine ⟨p, _, rfl, .inl (.inl upd_same), rfl, _, _, rfl, _, rfl, ⟨a, _, 0, 0, rfl, rfl, ha2, rfl, _, _, rfl, ⟨rfl, ?_⟩⟩⟩
          obtain ⟨s1, ok1⟩ := Stp.laid (o := .tup [.int (i / n), .int (i % n)]) ok hp2
          obtain ⟨s2, ok2⟩ := pot_set (i := i / n) (j := j) ok1 pa ⟨Int.ediv_nonneg hi (Int.le_of_lt n0), hj, hj2⟩
          exact ⟨_, rfl, k1 _ _ _ _ _ (s1.trans s2) ok2 (.int _) (qd _ (Int.emod_nonneg _ (Int.ne_of_gt n0)) (Int.emod_lt_of_pos _ n0))⟩
        · refine Eq.mpr (if_neg (by simpa using hp)) ?_
          have c1 : CMulX j 39373 := cmulx 31 16 (by omega) (by decide) (by decide)
          refine ⟨_, rfl, iy ha ⟨_, _, rfl, rfl, c1, _, _, rfl, rfl, _, _, rfl, rfl, (by decide : (0 : Int) < 2147483629), _, rfl, a, _, 1, 1, rfl, rfl, ha, rfl, ?_⟩⟩
          have b0 : 0 ≤ (j * 39373 + 12227) % 2147483629 := Int.emod_nonneg _ (by decide)
          have b1 : (j * 39373 + 12227) % 2147483629 < 2147483629 := Int.emod_lt_of_pos _ (by decide)
          obtain ⟨s2, ok2⟩ := pot_set (i := i) (j := (j * 39373 + 12227) % 2147483629) ok pa ⟨hi, b0, by omega⟩
          show tRet (tOp rM (tOp rF (tOp rM (tOp rX (tIx K 0 1) (tIx K 0 1)) (tC (.int 2147483563))) (tC (.int 13))) (tVar 1)) { nx := fun _ H' => Q .non H', rt := Q } [some (.ref a), some (.int n), none] (upd H a (.lst [.int i, .int ((j * 39373 + 12227) % 2147483629)]))
          generalize (j * 39373 + 12227) % 2147483629 = z at *
          have ha2 : upd H a (.lst [.int i, .int z]) a = some (.lst [.int i, .int z]) := upd_same
          generalize upd H a (.lst [.int i, .int z]) = H2 at *
          have c2 : CMulX z z := cmulx 31 31 (by omega) (by omega) (by decide)
          refine ⟨_, rfl, iy ha2 ⟨_, rfl, iy ha2 ⟨_, _, rfl, rfl, c2, _, _, rfl, rfl, (by decide : (0 : Int) < 2147483563), _, _, rfl, rfl, (⟨by decide, by decide⟩ : (0 : Int) < 13 ∧ (13 : Int).natAbs.log2 < 9000), _, rfl, _, _, rfl, rfl, n0, ?_⟩⟩⟩
          exact k1 _ _ _ _ _ s2 ok2 (.int _) (qd _ (Int.emod_nonneg _ (Int.ne_of_gt n0)) (Int.emod_lt_of_pos _ n0))

/-! ### a new pot leaves a def -/
def dRetPot (tf : DTF) : DTS := fun D δ => tf (view δ) fun ds => ∃ i j, ds = [.int i, .int j] ∧ PotN i j ∧ D.rt .pot
theorem ds_retPot {X : Cx} {B : Base} {e : Expr} {tf : DTF} {pos : Pos} (he : DF X B e tf) : DS X B (.Return (some e) pos) (dRetPot tf) := (ps_ret he).mono fun D σ H q => by
  obtain ⟨G, P, δ, Dd, w, q, k⟩ := q
  obtain ⟨G0, w0, gg⟩ := w.view
  refine ⟨G0, P, _, _, w0, q, fun l xs G1 H1 P1 ds s1 ok1 hl h r g p z ⟨i, j, e, pn, q1⟩ => ?_⟩
  subst e
  have e := r.int2
  subst e
  have sc := w0.since.step s1
  have bl : B.H l = none := by
    cases e : B.H l with
    | none => rfl
    | some o => exact absurd hl (w.since.dm l (by rw [e]; simp))
  refine k.rt (.ref l) H1 G1 (fun a => P1 a ∨ a = l) .pot ⟨ok1.gh, fun a q => ?_, fun a q => ?_⟩ ⟨sc.gg, sc.hh, sc.dm, fun a q => .inl (sc.pp a q), fun a q => ?_, sc.gn⟩ (.pot (.inr rfl)) q1
  · rcases q with q | rfl
    · exact ok1.pg a q
    · exact g
  · rcases q with q | rfl
    · exact ok1.pt a q
    · exact ⟨i, j, h, pn⟩
  · rcases q with q | rfl
    · exact sc.pn a q
    · exact .inr bl
end FG

/-! FL: calls by keyword. -/
namespace FG
open PySem.Spec PySem L2 PyProof.Rows

/-- a promise by n positional values and keywords ks behind them -/
def FnPK (gp : Bool) (n : Nat) (ks : List Str) (P : Program) (w : World) (K : PySem.W.Frag) (mg : Str → Option Value) (base : Heap) (k : Nat) (f : Addr) (sp : Sp) : Prop :=
  ∀ (A : Around) (outer : List Env) (s : Shared) (H : Hp) (us ws : List Value) (vs zs : List V) (Q : VK) (E : XK), (gp = true → A.guards = some []) → Room k A → Env0 P w K mg base A outer s H → Vals vs us → vs.length = n → Vals zs ws → zs.length = ks.length → sp (vs ++ zs) H Q E →
    codeAny (model P w) A (.call (.ref f) ⟨us, ks.zip ws⟩) (CR (L2.CX P w) outer P w H s Q E) s
abbrev FnK (gp : Bool) (n : Nat) (ks : List Str) (P : Program) (w : World) (K : PySem.W.Frag) (mg : Str → Option Value) (base : Heap) (k : Nat) (f : Addr) (T : DSp) : Prop := FnPK gp n ks P w K mg base k f (spD K T)
section
variable {X : Cx} {B : Base} {gp : Bool} {k n m' : Nat} {f C g : Addr} {T : DSp} {W : XW} {x m : Str} {p pos apos kpos : Pos} {e o : Expr} {es : List Expr} {te tk : DTA} {ta : DT} {ks : List Str} {nm : Option Str} {kws : List Keyword}
theorem run_atK {pins : List (Addr × Obj)} {σ : L2.St} {H : Hp} {s : Shared} {Q : VK} {sp : Sp} {E : XK} {us ws : List Value} {vs zs : List V} (F : FnPK gp n ks X.prog X.w X.K X.mg X.base k f sp) (hgd : gp = true → X.A.guards = some []) (hr : Room k X.A)
    (hx : PassesAt (L2.CX X.prog X.w) X σ E) (I : Inv X pins σ H s) (r : Vals vs us) (hn : vs.length = n) (rz : Vals zs ws) (hz : zs.length = ks.length) (h : sp (vs ++ zs) H Q E) : wpAny (model X.prog X.w) X.A (call (.ref f) us (ks.zip ws)) (EP X pins σ Q) X.xe s := by
  apply wpAny_call
  refine codeAny_mono (F _ _ _ _ _ _ _ _ _ _ hgd hr I.env0 r hn rz hz h) ?_
  rintro (e | (u | _ | _ | _)) s' hq
  · exact hx _ _ _ _ _ I hq
  all_goals first | exact I.after hq | exact False.elim hq
abbrev DK (X : Cx) (B : Base) (kws : List Keyword) (n : Nat) (t : DTA) : Prop := PK X kws (liftA X.K B n t)
theorem _root_.L2.PK.mono {t u : TA} (h : PK X kws t) (i : ∀ σ H Q, u σ H Q → t σ H Q) : PK X kws u := ⟨fun pos pins s σ H Q I q => h.run pos pins s σ H Q I (i σ H Q q)⟩
theorem dk_nil : DK X B [] 0 dNil := pk_nil.mono fun σ H Q q => by
  obtain ⟨G, P, δ, Qd, w, q, k⟩ := q
  exact k _ _ _ _ _ .refl w.ok .nil rfl q
theorem dk_cons (ha : DE X B e ta) (hr : DK X B kws n tk) : DK X B (⟨nm, e, kpos⟩ :: kws) (n + 1) (dCons ta tk) := (pk_cons ha hr).mono fun σ H Q q => by
  obtain ⟨G, P, δ, Qd, w, q, k⟩ := q
  refine ⟨G, P, δ, _, w, q, fun v G1 H1 P1 d s1 ok1 r1 q1 => ?_⟩
  refine ⟨G1, P1, δ, _, w.step s1 ok1, q1, fun vs G2 H2 P2 ds s2 ok2 r2 hl q2 => ?_⟩
  exact k _ _ _ _ _ (s1.trans s2) ok2 (.cons (s2.rep r1) r2) (by simp [hl]) q2
/-- o.m(k = v, ..) -/
theorem pe_methK0 {sp : Sp} {E : L2.St → XK} {to : TE} {t : TA} {pl : Sem Bool} (ho : PE X o to) (c : Cls X.K C) (hm : Meth X.K C m f) (F : FnPK gp 1 ks X.prog X.w X.K X.mg X.base k f sp) (hgd : gp = true → X.A.guards = some []) (hr : Room k X.A)
    (hx : ∀ σ, PassesAt (L2.CX X.prog X.w) X σ (E σ)) (hk : PK X kws t) (hall : (backToKw pos (keywordEach kws X.env)).all (·.1.isSome) = true) (hks : (backToKw pos (keywordEach kws X.env)).filterMap (·.1) = ks)
    (hpl : ((backTo pos (starEach [] X.env)).any (·.1) || (backToKw pos (keywordEach kws X.env)).any (·.1.isNone)) = false)
    (ht : eval (.Call (.Attribute o m apos) [] kws pos) X.env = (do
      let v ← eval o X.env; standAt apos.atName
      let (g, fst) ← holding [v] (getMethod v m pl); callWith pos g fst (backTo pos (starEach [] X.env)) (backToKw pos (keywordEach kws X.env)))) :
    PE X (.Call (.Attribute o m apos) [] kws pos) (fun σ H Q => to σ H fun x H1 => ∃ a dx fs, x = .ref a ∧ H1 a = some (.ins C dx fs) ∧ fs.lookup m = none ∧ t σ H1 fun zs H2 => zs.length = ks.length ∧ sp (x :: zs) H2 Q (E σ)) := by
  constructor
  intro pins s σ H Q I h
  refine PySem.W.methodCall_KW (pl := pl) (thn (ho.run _ _ _ _ _ I h) ?_) ht
  rintro u s1 ⟨x, H1, I1, rx, a, dx, fs, rfl, ea, l, q⟩
  cases rx
  apply getmeth_ok I1 ea c hm l
  refine PySem.W.callWith_KW0 (h₀ := X.base) (first := [.ref a]) I.ok.mod.kin hm.kp hall (thn (hk.run pos pins s1 σ H1 _ I1 q) ?_) hpl
  rintro ws s2 ⟨zs, H2, I2, rz, hl, q2⟩
  refine ⟨I2.kIn, ?_⟩
  rw [hks]
  exact run_atK (us := [.ref a]) (vs := [.ref a]) F hgd hr (hx σ) I2 (.cons rfl .nil) rfl rz hl q2
theorem de_methK0 {pl : Sem Bool} (ho : DE X B o ta) (c : Cls X.K C) (hm : Meth X.K C m f) (F : FnK gp 1 ks X.prog X.w X.K X.mg X.base k f T) (hgd : gp = true → X.A.guards = some []) (hr : Room k X.A) (hw : Wish X B W) (hk : DK X B kws ks.length tk)
    (hall : (backToKw pos (keywordEach kws X.env)).all (·.1.isSome) = true := by rfl) (hks : (backToKw pos (keywordEach kws X.env)).filterMap (·.1) = ks := by rfl) (hpl : ((backTo pos (starEach [] X.env)).any (·.1) || (backToKw pos (keywordEach kws X.env)).any (·.1.isNone)) = false := by rfl)
    (ht : eval (.Call (.Attribute o m apos) [] kws pos) X.env = (do
      let v ← eval o X.env; standAt apos.atName
      let (g, fst) ← holding [v] (getMethod v m pl); callWith pos g fst (backTo pos (starEach [] X.env)) (backToKw pos (keywordEach kws X.env))) := by rfl) :
    DE X B (.Call (.Attribute o m apos) [] kws pos) (dMeth C m T W ta tk) := by
  obtain ⟨Wx, tks, hW⟩ := hw.ex
  refine (pe_methK0 (E := WE Wx) ho c hm F hgd hr (fun σ => passAt tks σ) hk hall hks hpl ht).mono fun σ H Q q => ?_
  obtain ⟨G, P, δ, Qd, w, q, kk⟩ := q
  refine ⟨G, P, δ, _, w, q, fun v G1 H1 P1 d s1 ok1 r1 q1 => ?_⟩
  cases r1 with
  | ins a b =>
    obtain ⟨rfl, hl, q1⟩ := q1
    refine ⟨_, _, _, rfl, ok1.gh _ _ a, b.lookup_none hl, G1, P1, δ, _, w.step s1 ok1, q1, fun vs G2 H2 P2 ds s2 ok2 r2 hn q2 => ⟨by rw [r2.length, hn], ?_⟩⟩
    exact sp_lift hW ((w.step s1 ok1).step s2 ok2) (.cons (s2.rep (.ins a b)) r2) q2 (kk.step (s1.trans s2))
  | _ => exact q1.elim
end
section
variable {gp : Bool} {P : Program} {w : World} {K : PySem.W.Frag} {mg : Str → Option Value} {base : Heap} {k n : Nat} {f : Addr} {fd : FuncData} {x qual : Str} {params : Arguments} {body : List Stmt} {scope : Scope} {kws : List (Str × V)} {N ps ks : List Str} {T : DSp} {t : (Exn → Prop) → DTS}
/-- how the keywords bind, no defaults -/
theorem bndK_of (F : FunD K x qual params body scope [] kws f fd) (h : ∀ (kV doc pm : Value) (an : Option Addr) (cdv ct : Value) (us ws : List Value), us.length = n → ws.length = ks.length → bindArgs (PySem.W.fnOf x qual params body scope .none kV doc pm an cdv ct) ⟨us, ks.zip ws⟩ = pure (ps.zip (us ++ ws)))
    {A : Around} {outer : List Env} {s : Shared} {H : Hp} {E : XK} {us ws : List Value} {vs zs : List V} (e0 : Env0 P w K mg base A outer s H) (r : Vals vs us) (hn : vs.length = n) (rz : Vals zs ws) (hz : zs.length = ks.length) (hl : (vs ++ zs).length = ps.length) :
    StX.Bnd (L2.CX P w) P w K mg base fd ⟨us, ks.zip ws⟩ ps A outer s H E (fun ys H2 => ys = vs ++ zs ∧ H2 = H) := by
  intro A' Ex Q hq
  obtain ⟨oc, od, dV, kV, doc, pm, an, cdv, ct, osl, rfl, lk, hcd, hD, _⟩ := F.ex
  have hd : dV = .none := by
    rcases hD with ⟨_, e⟩ | ⟨e, _⟩
    · exact e
    · exact absurd rfl e
  subst hd
  rw [h kV doc pm an cdv ct us ws (by rw [← r.length]; exact hn) (by rw [← rz.length]; exact hz)]
  exact wpAny_pure (hq s H (vs ++ zs) (us ++ ws) e0 (Un.kept fun _ _ q => q) rfl (fun _ _ z => z) (r.append rz) hl ⟨rfl, rfl⟩)
theorem dfnK (F : FunD K x qual params body scope [] kws f fd) (S : FnScope N ps scope) (h : ∀ (kV doc pm : Value) (an : Option Addr) (cdv ct : Value) (us ws : List Value), us.length = n → ws.length = ks.length → bindArgs (PySem.W.fnOf x qual params body scope .none kV doc pm an cdv ct) ⟨us, ks.zip ws⟩ = pure (ps.zip (us ++ ws)))
    (hT : ∀ ds Q E, T ds Q E → ds.length = ps.length)
    (hbody : ∀ (cdv : Value) (A : Around) (outer : List Env) (s : Shared) (H : Hp) (E : XK) (B : Base) (Ed : Exn → Prop), (gp = true → A.guards = some []) → Room k (A.deeper (envOfC qual scope s.heap.objs.size f cdv)) → B.M = (fun _ => False) →
      Wish (cxOf (L2.CX P w) P w K mg base N qual scope f cdv A outer s H E) B (fun e _ => Ed e) → DSs (cxOf (L2.CX P w) P w K mg base N qual scope f cdv A outer s H E) B body (t Ed))
    (hread : ∀ ds Q Ed, T ds Q Ed → t Ed { nx := fun _ => Q .non, rt := Q } (ds.map (fun d => some (.val d)) ++ List.replicate (N.length - ds.length) none)) : FnK gp n ks P w K mg base (k + 1) f T := by
  intro A outer s H us ws vs zs Q E hg hr e0 r hn rz hz ⟨G, P0, ds, Qd, Ed, ok, rl, ht, k1, kx⟩
  obtain ⟨oc, od, dV, kV, doc, pm, an, cdv, ct, osl, rfl, lk, hcd, _, _⟩ := (F.ex)
  refine StX.run_bnd lk hcd S hr e0 (bndK_of F h e0 r hn rz hz (by rw [rl.length]; exact hT _ _ _ ht)) ?_
  rintro s2 H2 _ ⟨rfl, rfl⟩ hr2
  have wsh : Wish (cxOf (L2.CX P w) P w K mg base N qual scope f cdv A outer s2 H2 E) ⟨G, H2, P0, fun _ => False⟩ (fun e _ => Ed e) :=
    ⟨_, takes_of rfl rfl rfl rfl, fun cls d e σ G' H' P' δ ws rx q => kx cls d G' H' P' e (ws.since.stp fun _ z => z) ws.ok rx q⟩
  refine ⟨_, hbody cdv A outer s2 H2 E ⟨G, H2, P0, fun _ => False⟩ Ed hg hr2 rfl wsh, G, P0, _, _, ws_start ok rl, hread ds Qd Ed ht, ?_⟩
  exact ⟨fun σ H' G' P' δ ws _ _ q => k1 _ _ _ _ _ (ws.since.stp fun _ z => z) ws.ok .non q, fun _ _ _ _ _ _ _ _ q => q.elim, fun _ _ _ _ _ _ _ _ q => q.elim, fun v H' G' P' d ok' sc rv q => k1 _ _ _ _ _ (sc.stp fun _ z => z) ok' rv q⟩
end
end FG

/-! FM: built-ins' names, several names at once. -/
namespace FG
open PySem.Spec PySem L2 PyProof.Rows

theorem b_len : bootBuiltins "len" = some (.builtin "len") := by kernel_rfl
theorem b_abs : bootBuiltins "abs" = some (.builtin "abs") := by kernel_rfl
theorem b_max : bootBuiltins "max" = some (.builtin "max") := by kernel_rfl
theorem b_min : bootBuiltins "min" = some (.builtin "min") := by kernel_rfl
theorem b_sum : bootBuiltins "sum" = some (.builtin "sum") := by kernel_rfl
theorem b_all : bootBuiltins "all" = some (.builtin "all") := by kernel_rfl
theorem b_any : bootBuiltins "any" = some (.builtin "any") := by kernel_rfl
theorem b_sorted : bootBuiltins "sorted" = some (.builtin "sorted") := by kernel_rfl
theorem b_isinstance : bootBuiltins "isinstance" = some (.builtin "isinstance") := by kernel_rfl
theorem b_repr : bootBuiltins "repr" = some (.builtin "repr") := by kernel_rfl
theorem b_divmod : bootBuiltins "divmod" = some (.builtin "divmod") := by kernel_rfl
theorem b_list : bootBuiltins "list" = some (.type "list") := by kernel_rfl
theorem b_tuple : bootBuiltins "tuple" = some (.type "tuple") := by kernel_rfl
theorem b_int : bootBuiltins "int" = some (.type "int") := by kernel_rfl
theorem b_bool : bootBuiltins "bool" = some (.type "bool") := by kernel_rfl
theorem b_str : bootBuiltins "str" = some (.type "str") := by kernel_rfl

/-- from the library's own promise -/
theorem FnP.of_ok {gp : Bool} {P : Program} {w : World} {K : PySem.W.Frag} {mg : Str → Option Value} {base : Heap} {k : Nat} {f : Addr} {fd : FuncData} {ps : List Str} {sp : Sp} (F : FnOk P w K mg base (L2.CX P w) k f fd ps sp) (hb : L2.Binds K fd ps []) : FnP gp P w K mg base k f sp := by
  have h := F.raw hb .nil
  intro A outer s H us vs Q E _ hr e0 r q
  apply h A outer s H us vs Q E hr e0 r
  show sp (vs ++ []) H Q E
  rw [List.append_nil]
  exact q
section
variable {K : PySem.W.Frag} {B : Base} {G H G1 H1 G' H' : Hp} {P P1 P' : Addr → Prop} {σ : L2.St} {δ : DSt}
/-- a new list stays itself through a step -/
theorem fresh_step {l : Addr} {xs : List V} {ds : List D} (s : Stp G1 H1 P1 G' H' P') (h : H1 l = some (.lst xs)) (r : RepL K G1 P1 xs ds) (g : G1 l = none) (p : ¬ P1 l) : H' l = some (.lst xs) ∧ RepL K G' P' xs ds ∧ G' l = none ∧ ¬ P' l := by
  refine ⟨s.hh _ _ h p, s.repL r, ?_, fun z => (s.pn l z).elim p fun z => by rw [h] at z; cases z⟩
  cases e : G' l with
  | none => rfl
  | some o =>
    rcases s.gn l o e with z | z
    · rw [g] at z; cases z
    · rw [h] at z; cases z
end
section
variable {X : Cx} {B : Base} {i j l : Nat} {x y z : Str} {a b c : Expr} {ta tb tc : DT} {tf : DTF} {px py pz pt pos : Pos} {kt k2 : Nat} {pt2 : Pos}
/-- x, y = a, b -/
def dPar2 (i j : Nat) (ta tb : DT) : DTS := fun D δ => ta δ fun u => tb δ fun v => D.nx ((δ.set i (some (.val u))).set j (some (.val v)))
theorem ds_par2 (hc : X.calm = true) (hN : X.N.Nodup) (hi : X.N[i]? = some x) (hj : X.N[j]? = some y) (hx : X.env.scope.names.lookup x = some .local) (hy : X.env.scope.names.lookup y = some .local) (ha : DE X B a ta) (hb : DE X B b tb) (hij : i ≠ j := by decide)
    (hw : swappedStores [.Tuple [.Name x px, .Name y py] kt pt] (.Tuple [a, b] k2 pt2) X.env = pure (some [x, y]) := by rfl) (hs : swapsWithSole [.Tuple [.Name x px, .Name y py] kt pt] (.Tuple [a, b] k2 pt2) pos.line X.env = pure false := by rfl)
    (h1 : starEach [a, b] X.env = (false, eval a X.env) :: starEach [b] X.env := by rfl) (h2 : starEach [b] X.env = (false, eval b X.env) :: starEach [] X.env := by rfl) : DS X B (.Assign [.Tuple [.Name x px, .Name y py] kt pt] (.Tuple [a, b] k2 pt2) pos) (dPar2 i j ta tb) :=
  (ps_par hc hN hi hj hij hx hy (pa_cons ha (pa_cons hb pa_nil h2) h1) hw hs).mono fun D σ H q => by
    obtain ⟨G, P, δ, Dd, w, q, k⟩ := q
    refine ⟨G, P, δ, _, w, q, fun u G1 H1 P1 d1 s1 ok1 r1 q1 => ?_⟩
    refine ⟨G1, P1, δ, _, w.step s1 ok1, q1, fun v G2 H2 P2 d2 s2 ok2 r2 q2 => ?_⟩
    refine ⟨u, v, rfl, k.nx _ _ _ _ _ ((((w.step s1 ok1).step s2 ok2).set (s2.rep r1) i).set r2 j) (fun a o e => s2.gg _ _ (s1.gg a o e)) (fun a e => s2.pp _ (s1.pp a e)) q2⟩
/-- x, y = a list of one's own, b -/
def dParO (i j : Nat) (tf : DTF) (tb : DT) : DTS := fun D δ => tf δ fun u => tb δ fun v => D.nx ((δ.set i (some (.own u))).set j (some (.val v)))
theorem ds_parO (hc : X.calm = true) (hN : X.N.Nodup) (hi : X.N[i]? = some x) (hj : X.N[j]? = some y) (hx : X.env.scope.names.lookup x = some .local) (hy : X.env.scope.names.lookup y = some .local) (ha : DF X B a tf) (hb : DE X B b tb) (hij : i ≠ j := by decide)
    (hw : swappedStores [.Tuple [.Name x px, .Name y py] kt pt] (.Tuple [a, b] k2 pt2) X.env = pure (some [x, y]) := by rfl) (hs : swapsWithSole [.Tuple [.Name x px, .Name y py] kt pt] (.Tuple [a, b] k2 pt2) pos.line X.env = pure false := by rfl)
    (h1 : starEach [a, b] X.env = (false, eval a X.env) :: starEach [b] X.env := by rfl) (h2 : starEach [b] X.env = (false, eval b X.env) :: starEach [] X.env := by rfl) : DS X B (.Assign [.Tuple [.Name x px, .Name y py] kt pt] (.Tuple [a, b] k2 pt2) pos) (dParO i j tf tb) :=
  (ps_par hc hN hi hj hij hx hy (pa_cons ha (pa_cons hb pa_nil h2) h1) hw hs).mono fun D σ H q => by
    obtain ⟨G, P, δ, Dd, w, q, k⟩ := q
    refine ⟨G, P, δ, _, w, q, fun l xs G1 H1 P1 us s1 ok1 hl h r g p z q1 => ?_⟩
    refine ⟨G1, P1, δ, _, w.step s1 ok1, q1, fun v G2 H2 P2 d2 s2 ok2 r2 q2 => ?_⟩
    obtain ⟨a1, a2, a3, a4⟩ := fresh_step s2 h r g p
    exact ⟨.ref l, v, rfl, k.nx _ _ _ _ _ ((w.setNew (s1.trans s2) ok2 hl a1 a2 a3 a4 z i).set r2 j) (fun a o e => s2.gg _ _ (s1.gg a o e)) (fun a e => s2.pp _ (s1.pp a e)) q2⟩
end
end FG

/-! FN: readings: comprehensions, subscripts, texts of data. -/
namespace FG
open PySem.Spec PySem L2 PyProof.Rows

/-! ### what is computed, by rules -/
@[simp] theorem sx_dRet (t : DT) : (dRet t : DTS) = (fun D δ => t (view δ) D.rt) := rfl
@[simp] theorem sx_dRetN  : (dRetN  : DTS) = (fun D _ => D.rt .non) := rfl
@[simp] theorem sx_dIf (c : DTT) (t u : DTS) : (dIf c t u : DTS) = (fun D δ => c (view δ) fun b => if b = true then t D δ else u D δ) := rfl
@[simp] theorem sx_dSeq (t u : DTS) : (dSeq t u : DTS) = (fun D δ => t { D with nx := u D } δ) := rfl
@[simp] theorem sx_dNext  : (dNext  : DTS) = (fun D δ => D.nx δ) := rfl
@[simp] theorem sx_dNever  : (dNever  : DTS) = (fun _ _ => False) := rfl
@[simp] theorem sx_dAsg (t : DT) (g : Tgt) : (dAsg t g : DTS) = (fun D δ => t δ fun d => gT g d δ D.nx) := rfl
@[simp] theorem sx_dVar (i : Nat) : (dVar i : DT) = (fun δ Q => match δ[i]? with
  | some (some (.val d)) => Q d
  | _ => False) := rfl
@[simp] theorem sx_dC (d : D) : (dC d : DT) = (fun _ Q => Q d) := rfl
@[simp] theorem sx_dOp (f : F2) (ta tb : DT) : (dOp f ta tb : DT) = (fun δ Q => ta δ fun x => tb δ fun y => f x y Q) := rfl
@[simp] theorem sx_dTest (t : DT) : (dTest t : DTT) = (fun δ Q => t δ fun d => match d with
  | .bl b => Q b
  | _ => False) := rfl
@[simp] theorem sx_dAnd (t u : DTT) : (dAnd t u : DTT) = (fun δ Q => t δ fun c => if c = true then u δ Q else Q false) := rfl
@[simp] theorem sx_dOr (t u : DTT) : (dOr t u : DTT) = (fun δ Q => t δ fun c => if c = true then Q true else u δ Q) := rfl
@[simp] theorem sx_dNot (t : DTT) : (dNot t : DTT) = (fun δ Q => t δ fun c => Q (!c)) := rfl
@[simp] theorem sx_dAndV (ta tb : DT) : (dAndV ta tb : DT) = (fun δ Q => ta δ fun x => match x with
  | .bl c => if c = true then tb δ Q else Q (.bl false)
  | _ => False) := rfl
@[simp] theorem sx_dOrV (ta tb : DT) : (dOrV ta tb : DT) = (fun δ Q => ta δ fun x => match x with
  | .bl c => if c = true then Q (.bl true) else tb δ Q
  | _ => False) := rfl
@[simp] theorem sx_dNotV (ta : DT) : (dNotV ta : DT) = (fun δ Q => ta δ fun x => match x with
  | .bl c => Q (.bl (!c))
  | _ => False) := rfl
@[simp] theorem sx_dIfE (t : DTT) (ta tb : DT) : (dIfE t ta tb : DT) = (fun δ Q => t (view δ) fun c => if c = true then ta δ Q else tb δ Q) := rfl
@[simp] theorem sx_dCB (f : List D → (D → Prop) → Prop) (te : DTA) : (dCB f te : DT) = (fun δ Q => te δ fun ds => f ds Q) := rfl
@[simp] theorem sx_dCons (ta : DT) (tr : DTA) : (dCons ta tr : DTA) = (fun δ Q => ta δ fun x => tr δ fun xs => Q (x :: xs)) := rfl
@[simp] theorem sx_dNil  : (dNil  : DTA) = (fun _ Q => Q []) := rfl
@[simp] theorem sx_dTup (ta : DTA) : (dTup ta : DT) = (fun δ Q => ta δ fun ds => Q (.tup ds)) := rfl
@[simp] theorem sx_dLst (ta : DTA) : (dLst ta : DT) = (fun δ Q => ta δ fun ds => Q (.lst ds)) := rfl
@[simp] theorem sx_dCall (T : DSp) (W : XW) (te : DTA) : (dCall T W te : DT) = (fun δ Q => te δ fun ds => T ds Q fun e => W e δ) := rfl
@[simp] theorem sx_dMeth (C : Addr) (m : Str) (T : DSp) (W : XW) (ta : DT) (te : DTA) : (dMeth C m T W ta te : DT) = (fun δ Q => ta δ fun x => match x with
  | .ins C' fs => C' = C ∧ fs.lookup m = none ∧ te δ fun ds => T (x :: ds) Q fun e => W e δ
  | _ => False) := rfl
@[simp] theorem sx_dFld (C : Addr) (f : Str) (ta : DT) : (dFld C f ta : DT) = (fun δ Q => ta δ fun x => match x with
  | .ins C' fs => C' = C ∧ match fs.lookup f with
    | some d => Q d
    | none => False
  | _ => False) := rfl
@[simp] theorem sx_dProp (C : Addr) (T : DSp) (ta : DT) : (dProp C T ta : DT) = (fun δ Q => ta δ fun x => match x with
  | .ins C' _ => C' = C ∧ T [x] Q fun _ => False
  | _ => False) := rfl
@[simp] theorem sx_dCallO (C : Addr) (T : DSp) (tf : DT) (te : DTA) : (dCallO C T tf te : DT) = (fun δ Q => tf δ fun x => match x with
  | .ins C' _ => C' = C ∧ te δ fun ds => T (x :: ds) Q fun _ => False
  | _ => False) := rfl
@[simp] theorem sx_dFldI (i : Nat) (C : Addr) (f : Str) : (dFldI i C f : DT) = (fun δ Q => match δ[i]? with
  | some (some (.inst C' fs)) => C' = C ∧ match fs.lookup f with
    | some d => Q d
    | none => False
  | _ => False) := rfl
@[simp] theorem sx_dSetF (i : Nat) (C : Addr) (f : Str) (ta : DT) : (dSetF i C f ta : DTS) = (fun D δ => ta δ fun d => match δ[i]? with
  | some (some (.inst C' fs)) => C' = C ∧ fs.length < 1000 ∧ D.nx (δ.set i (some (.inst C (putD f d fs))))
  | _ => False) := rfl
@[simp] theorem sx_view (δ : DSt) : (view δ : DSt) = (δ.map fun o => o.map SV.view) := rfl
@[simp] theorem sx_dIsiT (Ts : List String) (ta : DT) : (dIsiT Ts ta : DT) = (fun δ Q => ta δ fun x => ∃ t, x.tyn = some t ∧ (∀ T ∈ Ts, T ∈ okTys) ∧ Q (.bl (Ts.any (tyIs t)))) := rfl
@[simp] theorem sx_iSeq (t : DT) : (iSeq t : DTI) = (fun δ Q => t δ fun d => match d with
  | .lst ds => Q ds
  | .tup ds => Q ds
  | _ => False) := rfl
@[simp] theorem sx_dFor (ti : DTI) (tg : Tgt) (tb : DTS) : (dFor ti tg tb : DTS) = (fun D δ => ti δ fun items => dLoop tg tb D items δ) := rfl
@[simp] theorem sx_dChain (f g : F2) (ta tb tc : DT) : (dChain f g ta tb tc : DT) = (fun δ Q => ta δ fun x => tb δ fun y => f x y fun z => match z with
  | .bl k => if k = true then tc δ fun w => g y w Q else Q (.bl false)
  | _ => False) := rfl
@[simp] theorem sx_dNeg (ta : DT) : (dNeg ta : DT) = (fun δ Q => ta δ fun x => match x with
  | .int i => Q (.int (-i))
  | _ => False) := rfl
@[simp] theorem sx_dStay (t : DTF) : (dStay t : DT) = (fun δ Q => t δ fun ds => Q (.lst ds)) := rfl
@[simp] theorem sx_fLc (ti : DTI) (tg : Tgt) (tt : DTT) (te : DT) (vs : List Nat) : (fLc ti tg tt te vs : DTF) = (fun δ Q => ti δ fun items => dLcL tg tt te (wipeD δ vs) items [] Q) := rfl
@[simp] theorem sx_dYes  : (dYes  : DTT) = (fun _ Q => Q true) := rfl
@[simp] theorem sx_dParO (i j : Nat) (tf : DTF) (tb : DT) : (dParO i j tf tb : DTS) = (fun D δ => tf δ fun u => tb δ fun v => D.nx ((δ.set i (some (.own u))).set j (some (.val v)))) := rfl
@[simp] theorem sx_dPar2 (i j : Nat) (ta tb : DT) : (dPar2 i j ta tb : DTS) = (fun D δ => ta δ fun u => tb δ fun v => D.nx ((δ.set i (some (.val u))).set j (some (.val v)))) := rfl
@[simp] theorem sx_fLst (te : DTA) : (fLst te : DTF) = (fun δ Q => te δ Q) := rfl
@[simp] theorem sx_dRev (ta : DT) : (dRev ta : DTF) = (fun δ Q => ta δ fun x => match x with
  | .lst ds => Q ds.reverse
  | _ => False) := rfl
@[simp] theorem sx_dRetPot (tf : DTF) : (dRetPot tf : DTS) = (fun D δ => tf (view δ) fun ds => ∃ i j, ds = [.int i, .int j] ∧ PotN i j ∧ D.rt .pot) := rfl
@[simp] theorem sx_iRange1 (te : DTA) : (iRange1 te : DTI) = (fun δ Q => te δ fun ds => match ds with
  | [.int j] => j ≤ sizeLine ∧ -(2 ^ 62) ≤ j ∧ Q (steps 0 1 j.toNat)
  | _ => False) := rfl
@[simp] theorem sx_iRange2 (te : DTA) : (iRange2 te : DTI) = (fun δ Q => te δ fun ds => match ds with
  | [.int i, .int j] => j - i ≤ sizeLine ∧ (-(2 ^ 62) ≤ i ∧ i < 2 ^ 62 ∧ -(2 ^ 62) ≤ j ∧ j < 2 ^ 62) ∧ Q (steps i 1 (j - i).toNat)
  | _ => False) := rfl
@[simp] theorem sx_iRange3 (te : DTA) : (iRange3 te : DTI) = (fun δ Q => te δ fun ds => match ds with
  | [.int i, .int j, .int c] => c = -1 ∧ i - j ≤ sizeLine ∧ (-(2 ^ 62) ≤ i ∧ i < 2 ^ 62 ∧ -(2 ^ 62) ≤ j ∧ j < 2 ^ 62) ∧ Q (steps i (-1) (i - j).toNat)
  | _ => False) := rfl
@[simp] theorem sx_dApp (i : Nat) (ta : DT) : (dApp i ta : DTS) = (fun D δ => match δ[i]? with
  | some (some (.own ds)) => ta δ fun d => ds.length < sizeLine ∧ D.nx (δ.set i (some (.own (ds ++ [d]))))
  | _ => False) := rfl
@[simp] theorem sx_tyIs (t T : String) : (tyIs t T : Bool) = (t == T || (t == "bool" && T == "int")) := rfl
@[simp] theorem sx_okTys  : (okTys  : List String) = (["int", "bool", "str", "tuple", "list"]) := rfl
@[simp] theorem sx_endI (C : Addr) (Q : D → Prop) (δ : DSt) : (endI C Q δ : Prop) = (match δ[(0 : Nat)]? with
  | some (some (.inst C' fs)) => C' = C ∧ Q (.ins C fs)
  | _ => False) := rfl

section
variable {x : D} {xs : List D} {ks : List (Key × D)} {C : Addr} {fs : List (Str × D)} {ns : List Int} {i : Int} {b : Bool} {s : Str} {n : String} {j : Nat} {ts : List Tgt} {t : Tgt} {δ : DSt} {Q : DSt → Prop} {f g : Str}
@[simp] theorem isN_n : D.isN .non = true := rfl
@[simp] theorem isN_b : D.isN (.bl b) = false := rfl
@[simp] theorem isN_i : D.isN (.int i) = false := rfl
@[simp] theorem isN_s : D.isN (.str s) = false := rfl
@[simp] theorem isN_t : D.isN (.tup xs) = false := rfl
@[simp] theorem isN_l : D.isN (.lst xs) = false := rfl
@[simp] theorem isN_o : D.isN (.ins C fs) = false := rfl
@[simp] theorem tyn_n : D.tyn .non = some "NoneType" := rfl
@[simp] theorem tyn_b : D.tyn (.bl b) = some "bool" := rfl
@[simp] theorem tyn_i : D.tyn (.int i) = some "int" := rfl
@[simp] theorem tyn_s : D.tyn (.str s) = some "str" := rfl
@[simp] theorem tyn_t : D.tyn (.tup xs) = some "tuple" := rfl
@[simp] theorem tyn_l : D.tyn (.lst xs) = some "list" := rfl
@[simp] theorem tyn_r : D.tyn (.scr ns) = some "list" := rfl
@[simp] theorem tyn_d : D.tyn (.dct ks) = none := rfl
@[simp] theorem tyn_o : D.tyn (.ins C fs) = none := rfl
@[simp] theorem tyn_p : D.tyn .pot = none := rfl
@[simp] theorem tyn_c : D.tyn (.cls C) = none := rfl
@[simp] theorem tyn_y : D.tyn (.ty n) = none := rfl
@[simp] theorem putD_n : putD f x [] = [(f, x)] := rfl
@[simp] theorem putD_c {y : D} : putD f x ((g, y) :: fs) = if g = f then (g, x) :: fs else (g, y) :: putD f x fs := rfl
@[simp] theorem sv_v : SV.view (.val x) = .val x := rfl
@[simp] theorem sv_o : SV.view (.own xs) = .val (.lst xs) := rfl
@[simp] theorem sv_i : SV.view (.inst C fs) = .val (.ins C fs) := rfl
@[simp] theorem gT_n : gT (.nm j) x δ Q = Q (δ.set j (some (.val x))) := by simp only [gT]
@[simp] theorem gT_t : gT (.tp ts) (.tup xs) δ Q = gTs ts xs δ Q := by simp only [gT]
@[simp] theorem gT_l : gT (.tp ts) (.lst xs) δ Q = gTs ts xs δ Q := by simp only [gT]
@[simp] theorem gTs_n : gTs [] [] δ Q = Q δ := by simp only [gTs]
@[simp] theorem gTs_c : gTs (t :: ts) (x :: xs) δ Q = gT t x δ fun δ' => gTs ts xs δ' Q := by simp only [gTs]
end
section
variable {i j : Int} {s t : Str} {a b : List D} {x y z u : D} {p q : Bool} {Q : D → Prop} {ns : List Int} {f : Int → Int → Bool} {g : List Int → (D → Prop) → Prop}
@[simp] theorem fAdd_i : fAdd (.int i) (.int j) Q = Q (.int (i + j)) := rfl
@[simp] theorem fAdd_s : fAdd (.str s) (.str t) Q = (s.length + t.length ≤ sizeLine ∧ Q (.str (s ++ t))) := rfl
@[simp] theorem fAdd_l : fAdd (.lst a) (.lst b) Q = (a.length + b.length ≤ sizeLine ∧ Q (.lst (a ++ b))) := rfl
@[simp] theorem fAdd_t : fAdd (.tup a) (.tup b) Q = (a.length + b.length ≤ sizeLine ∧ Q (.tup (a ++ b))) := rfl
@[simp] theorem fSub_i : fSub (.int i) (.int j) Q = Q (.int (i - j)) := rfl
@[simp] theorem fMul_i : fMul (.int i) (.int j) Q = (CMulX i j ∧ Q (.int (i * j))) := rfl
@[simp] theorem fMul_l : fMul (.lst a) (.int j) Q = (-(2 ^ 63) ≤ j ∧ j < 2 ^ 63 ∧ a.length * j.toNat ≤ sizeLine ∧ Q (.lst (List.replicate j.toNat a).flatten)) := rfl
@[simp] theorem fFdiv_i : fFdiv (.int i) (.int j) Q = (CDivW i j ∧ Q (.int (i / j))) := rfl
@[simp] theorem fMod_i : fMod (.int i) (.int j) Q = (0 < j ∧ Q (.int (i % j))) := rfl
@[simp] theorem fPow_i : fPow (.int i) (.int j) Q = (CPow i j ∧ Q (.int (i ^ j.toNat))) := rfl
@[simp] theorem fInt_i : fInt f (.int i) (.int j) Q = Q (.bl (f i j)) := rfl
@[simp] theorem fEq_i : fEq (.int i) (.int j) Q = Q (.bl (decide (i = j))) := rfl
@[simp] theorem fEq_s : fEq (.str s) (.str t) Q = Q (.bl (decide (s = t))) := rfl
@[simp] theorem fEq_b : fEq (.bl p) (.bl q) Q = Q (.bl (decide (p = q))) := rfl
@[simp] theorem fEq_n : fEq .non .non Q = Q (.bl true) := rfl
@[simp] theorem fNe_i : fNe (.int i) (.int j) Q = Q (.bl (!decide (i = j))) := rfl
@[simp] theorem fNe_s : fNe (.str s) (.str t) Q = Q (.bl (!decide (s = t))) := rfl
@[simp] theorem fNe_b : fNe (.bl p) (.bl q) Q = Q (.bl (!decide (p = q))) := rfl
@[simp] theorem fNe_n : fNe .non .non Q = Q (.bl false) := rfl
@[simp] theorem fIsN_n : fIsN x .non Q = Q (.bl x.isN) := by cases x <;> rfl
@[simp] theorem fNotN_n : fNotN x .non Q = Q (.bl (!x.isN)) := by cases x <;> rfl
@[simp] theorem fIx_l : fIx (.lst a) (.int i) Q = (match L2.atI a i with | some d => Q d | none => False) := rfl
@[simp] theorem fIx_t : fIx (.tup a) (.int i) Q = (match L2.atI a i with | some d => Q d | none => False) := rfl
@[simp] theorem fIx_scr : fIx (.scr ns) (.int i) Q = (match L2.atI ns i with | some d => Q (.int d) | none => False) := rfl
@[simp] theorem fIx_s : fIx (.str s) (.int i) Q = (s.length ≤ sizeLine ∧ match L2.atI s.cps.toList i with | some c => Q (.str (sign c)) | none => False) := rfl
@[simp] theorem fLen_l : fLen [.lst a] Q = Q (.int a.length) := rfl
@[simp] theorem fLen_t : fLen [.tup a] Q = Q (.int a.length) := rfl
@[simp] theorem fLen_scr : fLen [.scr ns] Q = Q (.int ns.length) := rfl
@[simp] theorem fLen_s : fLen [.str s] Q = (s.length ≤ sizeLine ∧ Q (.int s.length)) := rfl
@[simp] theorem fMax2_i : fMax2 [.int i, .int j] Q = Q (.int (if j > i then j else i)) := rfl
@[simp] theorem fMin2_i : fMin2 [.int i, .int j] Q = Q (.int (if j < i then j else i)) := rfl
@[simp] theorem fMax4_i {k l : Int} : fMax4 [.int i, .int j, .int k, .int l] Q = ∀ m, m ∈ [i, j, k, l] → (∀ y ∈ [i, j, k, l], y ≤ m) → Q (.int m) := rfl
@[simp] theorem fAbs_i : fAbs [.int i] Q = Q (.int (if i < 0 then -i else i)) := rfl
@[simp] theorem fInt1_i : fInt1 [.int i] Q = Q (.int i) := rfl
@[simp] theorem fInt1_b : fInt1 [.bl p] Q = Q (.int (if p then 1 else 0)) := rfl
@[simp] theorem fAll_l : fAll [.lst a] Q = ∃ bs, D.asBls a = some bs ∧ Q (.bl (bs.all id)) := rfl
@[simp] theorem fAny_l : fAny [.lst a] Q = ∃ bs, D.asBls a = some bs ∧ Q (.bl (bs.any id)) := rfl
@[simp] theorem fL_l : fL g [.lst a] Q = ∃ ns, D.asInts a = some ns ∧ g ns Q := rfl
@[simp] theorem fL_scr : fL g [.scr ns] Q = g ns Q := rfl
@[simp] theorem fList_l : fList [.lst a] Q = Q (.lst a) := rfl
@[simp] theorem fList_t : fList [.tup a] Q = Q (.lst a) := rfl
@[simp] theorem fTuple_l : fTuple [.lst a] Q = Q (.tup a) := rfl
@[simp] theorem fTuple_t : fTuple [.tup a] Q = Q (.tup a) := rfl
@[simp] theorem fIsi_c {T : String} : fIsi [x, .ty T] Q = ∃ t, x.tyn = some t ∧ T ∈ okTys ∧ Q (.bl (tyIs t T)) := rfl
end

/-! ### comprehensions -/
section
variable {tg : Tgt} {tt : DTT} {te : DT} {δ : DSt} {Q : List D → Prop}
theorem lcl_gen (Y : D → D → Prop) : ∀ (items acc : List D), (∀ x ∈ items, ∀ R : D → Prop, (∀ y, Y x y → R y) → gT tg x δ fun δ' => te δ' R) → (∀ ys, Paired Y items ys → Q (acc ++ ys)) → dLcL tg dYes te δ items acc Q
  | [], acc, _, q => by
    unfold dLcL
    have := q [] .nil
    rwa [List.append_nil] at this
  | x :: xs, acc, h, q => by
    unfold dLcL
    show gT tg x δ fun δ' => if true = true then te δ' fun y => dLcL tg dYes te δ xs (acc ++ [y]) Q else dLcL tg dYes te δ xs acc Q
    simp only [if_true]
    refine h x List.mem_cons_self _ fun y hy => ?_
    refine lcl_gen Y xs (acc ++ [y]) (fun z hz => h z (List.mem_cons_of_mem _ hz)) fun ys hys => ?_
    rw [List.append_assoc]
    exact q (y :: ys) (.cons hy hys)
/-- each item gives f of it -/
theorem lcl_map (f : D → D) {items : List D} (h : ∀ x ∈ items, ∀ R : D → Prop, R (f x) → gT tg x δ fun δ' => te δ' R) (q : Q (items.map f)) : dLcL tg dYes te δ items [] Q := by
  refine lcl_gen (fun x y => y = f x) items [] (fun x hx R hR => h x hx R (hR _ rfl)) fun ys hys => ?_
  have : ys = items.map f := by
    clear h q
    induction hys with
    | nil => rfl
    | cons e _ ih => rw [List.map_cons, ← ih, e]
  rw [List.nil_append, this]
  exact q
/-- each item gives something that is Y -/
theorem lcl_any (Y : D → Prop) {items : List D} (h : ∀ x ∈ items, ∀ R : D → Prop, (∀ y, Y y → R y) → gT tg x δ fun δ' => te δ' R) (q : ∀ ys : List D, ys.length = items.length → (∀ y ∈ ys, Y y) → Q ys) : dLcL tg dYes te δ items [] Q := by
  refine lcl_gen (fun _ y => Y y) items [] h fun ys hys => ?_
  rw [List.nil_append]
  refine q ys ?_ ?_
  · clear h q
    induction hys with
    | nil => rfl
    | cons _ _ ih => simp [ih]
  · clear h q
    induction hys with
    | nil => intro y hy; cases hy
    | cons e _ ih =>
      intro y hy
      rcases (List.mem_cons.mp hy) with rfl | hy
      · exact e
      · exact ih y hy
/-- those items that pass p give f of it -/
theorem lcl_fm (p : D → Bool) (f : D → D) : ∀ (items acc : List D), (∀ x ∈ items, ∀ (R : D → Prop) (R0 : Prop), (p x = true → R (f x)) → (p x = false → R0) → gT tg x δ fun δ' => tt (view δ') fun b => if b = true then te δ' R else R0) → Q (acc ++ (items.filter p).map f) → dLcL tg tt te δ items acc Q
  | [], acc, _, q => by
    unfold dLcL
    simpa using q
  | x :: xs, acc, h, q => by
    unfold dLcL
    refine h x List.mem_cons_self _ _ (fun e => ?_) (fun e => ?_)
    · refine lcl_fm p f xs (acc ++ [f x]) (fun z hz => h z (List.mem_cons_of_mem _ hz)) ?_
      rw [List.filter_cons_of_pos e, List.map_cons] at q
      rwa [List.append_assoc, List.singleton_append]
    · refine lcl_fm p f xs acc (fun z hz => h z (List.mem_cons_of_mem _ hz)) ?_
      rwa [List.filter_cons_of_neg (by rw [e]; exact Bool.false_ne_true)] at q
end

/-! ### statements, one by one -/
section
variable {t : DT} {c : DTT} {a b : DTS} {i : Nat} {De : DEnds} {δ : DSt} {v d : D} {Y : D → Prop} {R : D → Prop}
theorem go_seq (h : a { De with nx := b De } δ) : dSeq a b De δ := h
/-- x = t, t's value is v -/
theorem go_asg (v : D) (h : ∀ k : D → Prop, k v → t δ k) (q : De.nx (δ.set i (some (.val v)))) : dAsg t (.nm i) De δ := h _ (by simp only [gT]; exact q)
/-- .. is one of Y's -/
theorem go_asgY (Y : D → Prop) (h : ∀ k : D → Prop, (∀ v, Y v → k v) → t δ k) (q : ∀ v, Y v → De.nx (δ.set i (some (.val v)))) : dAsg t (.nm i) De δ := h _ fun v hv => by simp only [gT]; exact q v hv
theorem go_if_t (h : ∀ k : Bool → Prop, k true → c (FG.view δ) k) (q : a De δ) : dIf c a b De δ := h _ (by rw [if_pos rfl]; exact q)
theorem go_if_f (h : ∀ k : Bool → Prop, k false → c (FG.view δ) k) (q : b De δ) : dIf c a b De δ := h _ (by rw [if_neg Bool.false_ne_true]; exact q)
theorem gs_asg {b : DTS} (v : D) (h : ∀ k : D → Prop, k v → t δ k) (q : b De (δ.set i (some (.val v)))) : dSeq (dAsg t (.nm i)) b De δ := h _ (by simp only [gT]; exact q)
theorem gs_asgY {b : DTS} (Y : D → Prop) (h : ∀ k : D → Prop, (∀ v, Y v → k v) → t δ k) (q : ∀ v, Y v → b De (δ.set i (some (.val v)))) : dSeq (dAsg t (.nm i)) b De δ := h _ fun v hv => by simp only [gT]; exact q v hv
theorem gs_next {b : DTS} {a : DTS} (h : ∀ k : Bool → Prop, k false → c (FG.view δ) k) (q : b De δ) : dSeq (dIf c a dNext) b De δ := h _ (by rw [if_neg Bool.false_ne_true]; exact q)
theorem go_ret (v : D) (h : ∀ k : D → Prop, k v → t (FG.view δ) k) (q : De.rt v) : dRet t De δ := h _ q
theorem go_var (h : δ[i]? = some (some (.val d))) (q : R d) : dVar i δ R := by
  unfold dVar
  rw [h]
  exact q
end

/-! ### subscripts -/
theorem atI_end {α : Type} (xs : List α) : L2.atI xs (-1) = xs.getLast? := by
  unfold L2.atI L2.ixN
  rw [if_neg (by decide)]
  cases xs with
  | nil => rfl
  | cons x xs =>
    have h : -(((x :: xs).length : Nat) : Int) ≤ -1 := by simp only [List.length_cons]; omega
    rw [if_pos h]
    have e : (-1 + (((x :: xs).length : Nat) : Int)).toNat = xs.length := by simp only [List.length_cons]; omega
    rw [e]
    show (x :: xs)[xs.length]? = _
    rw [(List.getLast?_eq_getElem?)]
    simp
theorem atI_n {α : Type} (xs : List α) (n : Nat) : L2.atI xs (n : Int) = xs[n]? := by
  unfold L2.atI L2.ixN
  rw [if_pos (by omega)]
  by_cases h : (n : Int) < ((xs.length : Nat) : Int)
  · rw [if_pos h]; simp
  · rw [if_neg h, List.getElem?_eq_none (by omega)]; rfl
@[simp] theorem atI_0 {α : Type} (x : α) (xs : List α) : L2.atI (x :: xs) 0 = some x := atI_n _ 0
@[simp] theorem atI_1 {α : Type} (x y : α) (xs : List α) : L2.atI (x :: y :: xs) 1 = some y := atI_n _ 1
@[simp] theorem atI_2 {α : Type} (x y z : α) (xs : List α) : L2.atI (x :: y :: z :: xs) 2 = some z := atI_n _ 2
@[simp] theorem atI_3 {α : Type} (x y z u : α) (xs : List α) : L2.atI (x :: y :: z :: u :: xs) 3 = some u := atI_n _ 3

/-! ### data of ints that can be shown -/
mutual
/-- ints of moderate size, None, bools, in lists and tuples -/
def D.nice : D → Bool
  | .non => true
  | .bl _ => true
  | .int i => decide (i.natAbs < 10 ^ 500)
  | .tup xs => D.niceL xs
  | .lst xs => D.niceL xs
  | _ => false
def D.niceL : List D → Bool
  | [] => true
  | x :: xs => D.nice x && D.niceL xs
end
mutual
/-- a bound of the shown text's length -/
def D.wt : D → Nat
  | .tup xs => D.wtL xs + 4
  | .lst xs => D.wtL xs + 4
  | _ => 502
def D.wtL : List D → Nat
  | [] => 0
  | x :: xs => D.wt x + 2 + D.wtL xs
end
mutual
def D.dep : D → Nat
  | .tup xs => D.depL xs + 1
  | .lst xs => D.depL xs + 1
  | _ => 0
def D.depL : List D → Nat
  | [] => 0
  | x :: xs => max (D.dep x) (D.depL xs)
end
mutual
theorem nice_plain : ∀ d : D, d.nice = true → d.plain = true
  | .non, _ => by unfold D.plain; rfl
  | .bl c, _ => by unfold D.plain; rfl
  | .int _, _ => by unfold D.plain; rfl
  | .str _, h => nomatch h
  | .tup xs, h => by unfold D.plain; exact nice_plainL xs (by unfold D.nice at h; exact h)
  | .lst xs, h => by unfold D.plain; exact nice_plainL xs (by unfold D.nice at h; exact h)
  | .dct _, h => nomatch h
  | .ins _ _, h => nomatch h
  | .pot, h => nomatch h
  | .scr _, h => nomatch h
  | .cls _, h => nomatch h
  | .ty _, h => nomatch h
theorem nice_plainL : ∀ ds : List D, D.niceL ds = true → D.plainL ds = true
  | [], _ => by unfold D.plainL; rfl
  | d :: ds, h => by
    unfold D.niceL at h
    obtain ⟨h1, h2⟩ := Bool.and_eq_true_iff.mp h
    unfold D.plainL
    rw [nice_plain d h1, nice_plainL ds h2]; rfl
end
theorem log_of {i : Int} (h : i.natAbs < 10 ^ 500) : i.natAbs.log2 < 1920 := by
  by_cases h0 : i.natAbs = 0
  · rw [h0]; decide
  · exact (Nat.log2_lt h0).mpr (Nat.lt_trans h (by decide +kernel))
mutual
theorem nice_show : ∀ d : D, d.nice = true → d.py.showable = true
  | .non, _ => by unfold D.py PyData.showable; rfl
  | .bl c, _ => by unfold D.py PyData.showable; rfl
  | .int i, h => by
    unfold D.py PyData.showable
    unfold D.nice at h
    exact decide_eq_true (log_of (of_decide_eq_true h))
  | .str _, h => nomatch h
  | .tup xs, h => by unfold D.py PyData.showable; exact nice_showL xs (by unfold D.nice at h; exact h)
  | .lst xs, h => by unfold D.py PyData.showable; exact nice_showL xs (by unfold D.nice at h; exact h)
  | .dct _, h => nomatch h
  | .ins _ _, h => nomatch h
  | .pot, h => nomatch h
  | .scr _, h => nomatch h
  | .cls _, h => nomatch h
  | .ty _, h => nomatch h
theorem nice_showL : ∀ ds : List D, D.niceL ds = true → PyData.showableAll (D.pyL ds) = true
  | [], _ => by unfold D.pyL PyData.showableAll; rfl
  | d :: ds, h => by
    unfold D.niceL at h
    obtain ⟨h1, h2⟩ := Bool.and_eq_true_iff.mp h
    unfold D.pyL PyData.showableAll
    rw [nice_show d h1, nice_showL ds h2]; rfl
end
mutual
theorem dep_py : ∀ d : D, d.plain = true → d.py.depth = d.dep
  | .non, _ => by unfold D.py D.dep PyData.depth; rfl
  | .bl _, _ => by unfold D.py D.dep PyData.depth; rfl
  | .int _, _ => by unfold D.py D.dep PyData.depth; rfl
  | .str _, _ => by unfold D.py D.dep PyData.depth; rfl
  | .tup xs, h => by unfold D.py D.dep PyData.depth; rw [dep_pyL xs (by unfold D.plain at h; exact h)]
  | .lst xs, h => by unfold D.py D.dep PyData.depth; rw [dep_pyL xs (by unfold D.plain at h; exact h)]
  | .dct _, h => nomatch h
  | .ins _ _, h => nomatch h
  | .pot, h => nomatch h
  | .scr _, h => nomatch h
  | .cls _, h => nomatch h
  | .ty _, h => nomatch h
theorem dep_pyL : ∀ ds : List D, D.plainL ds = true → PyData.depthAll (D.pyL ds) = D.depL ds
  | [], _ => by unfold D.pyL D.depL PyData.depthAll; rfl
  | d :: ds, h => by
    unfold D.plainL at h
    obtain ⟨h1, h2⟩ := Bool.and_eq_true_iff.mp h
    unfold D.pyL D.depL PyData.depthAll
    rw [dep_py d h1, dep_pyL ds h2]
end
mutual
theorem nice_lay : ∀ d : D, d.nice = true → d.py.canLay0 = true
  | .non, _ => by unfold D.py PyData.canLay0; rfl
  | .bl c, _ => by unfold D.py PyData.canLay0; rfl
  | .int i, h => by unfold D.py PyData.canLay0; rfl
  | .str _, h => nomatch h
  | .tup xs, h => by unfold D.py PyData.canLay0; exact nice_layL xs (by unfold D.nice at h; exact h)
  | .lst xs, h => by unfold D.py PyData.canLay0; exact nice_layL xs (by unfold D.nice at h; exact h)
  | .dct _, h => nomatch h
  | .ins _ _, h => nomatch h
  | .pot, h => nomatch h
  | .scr _, h => nomatch h
  | .cls _, h => nomatch h
  | .ty _, h => nomatch h
theorem nice_layL : ∀ ds : List D, D.niceL ds = true → PyData.canLayAll0 (D.pyL ds) = true
  | [], _ => by unfold D.pyL PyData.canLayAll0; rfl
  | d :: ds, h => by
    unfold D.niceL at h
    obtain ⟨h1, h2⟩ := Bool.and_eq_true_iff.mp h
    unfold D.pyL PyData.canLayAll0
    rw [nice_lay d h1, nice_layL ds h2]; rfl
end
theorem nice_okEq {d : D} (h : d.nice = true) (hd : d.dep ≤ 64) : d.okEq = true := by
  unfold D.okEq SeqAt.shaped
  rw [nice_plain d h, nice_lay d h, dep_py d (nice_plain d h), decide_eq_true hd]
  rfl
/-- xs == [] -/
theorem eq_nil {xs : List D} {Q : D → Prop} (h : D.nice (.lst xs) = true) (hd : D.dep (.lst xs) ≤ 64) (q : Q (.bl xs.isEmpty)) : fEq (.lst xs) (.lst []) Q := by
  have e : D.eqq (.lst xs) (.lst []) = xs.isEmpty := by
    unfold D.eqq
    cases xs <;> (simp only [D.py, D.pyL]; unfold PyData.eqv PyData.eqvAll; rfl)
  show D.okEq (.lst xs) = true ∧ D.okEq (.lst []) = true ∧ Q (.bl (D.eqq (.lst xs) (.lst [])))
  rw [e]
  exact ⟨nice_okEq h hd, by decide +kernel, q⟩
/-- one of some ints -/
theorem pick {xs : List Int} {d M : Int} (h0 : 0 ≤ d) (h1 : d < xs.length) (h : ∀ x ∈ xs, 0 ≤ x ∧ x ≤ M) : ∃ x, L2.atI (xs.map D.int) d = some (.int x) ∧ 0 ≤ x ∧ x ≤ M := by
  obtain ⟨n, rfl⟩ := (Int.eq_ofNat_of_zero_le h0)
  have hn : n < xs.length := by omega
  refine ⟨xs[n], ?_, h _ (List.getElem_mem hn)⟩
  rw [atI_n, List.getElem?_map, List.getElem?_eq_getElem hn]
  rfl
theorem ints_of {Y : Int → Prop} : ∀ {ys : List D}, (∀ y ∈ ys, ∃ v, y = .int v ∧ Y v) → ∃ vs : List Int, ys = vs.map D.int ∧ ∀ v ∈ vs, Y v
  | [], _ => ⟨[], rfl, fun _ h => nomatch h⟩
  | y :: ys, h => by
    obtain ⟨v, rfl, hv⟩ := h y List.mem_cons_self
    obtain ⟨vs, rfl, hs⟩ := ints_of (ys := ys) fun z hz => h z (List.mem_cons_of_mem _ hz)
    exact ⟨v :: vs, rfl, fun w hw => by
      rcases List.mem_cons.mp hw with rfl | hw
      · exact hv
      · exact hs w hw⟩
theorem int_len {i : Int} (h : i.natAbs < 10 ^ 500) : (Str.ofString (toString i)).length ≤ 502 := by
  have big : ((10 ^ 500 : Nat) : Int) = 10 ^ 500 := by norm_cast
  by_cases h0 : 0 ≤ i
  · exact Nat.le_trans (toString_length_le h0 (k := 500) (by decide) (by omega)) (by decide)
  · have e := len_text_negI (n := i) (by omega)
    have l := toString_length_le (v := 0 - i) (by omega) (k := 500) (by decide) (by omega)
    omega
mutual
theorem shown_len : ∀ d : D, d.nice = true → d.py.shown.length ≤ d.wt
  | .non, _ => by unfold D.py PyData.shown D.wt; decide +kernel
  | .bl c, _ => by unfold D.py PyData.shown D.wt; cases c <;> decide +kernel
  | .int i, h => by
    unfold D.nice at h
    unfold D.py PyData.shown D.wt
    exact int_len (of_decide_eq_true h)
  | .str _, h => nomatch h
  | .tup xs, h => by
    unfold D.nice at h
    have := shown_lenL xs h
    unfold D.py PyData.shown D.wt
    have k := tupleText_len_le (PyData.shownAll (D.pyL xs))
    omega
  | .lst xs, h => by
    unfold D.nice at h
    have := shown_lenL xs h
    unfold D.py PyData.shown D.wt
    have k := listText_len_le (PyData.shownAll (D.pyL xs))
    omega
  | .dct _, h => nomatch h
  | .ins _ _, h => nomatch h
  | .pot, h => nomatch h
  | .scr _, h => nomatch h
  | .cls _, h => nomatch h
  | .ty _, h => nomatch h
theorem shown_lenL : ∀ ds : List D, D.niceL ds = true → ((PyData.shownAll (D.pyL ds)).map (·.length)).sum + 2 * (PyData.shownAll (D.pyL ds)).length ≤ D.wtL ds
  | [], _ => by unfold D.pyL PyData.shownAll D.wtL; simp
  | d :: ds, h => by
    unfold D.niceL at h
    obtain ⟨h1, h2⟩ := Bool.and_eq_true_iff.mp h
    have k1 := shown_len d h1
    have k2 := shown_lenL ds h2
    unfold D.pyL PyData.shownAll D.wtL
    simp only [List.length_cons, List.sum_cons, List.map_cons]
    omega
end
/-- what repr asks -/
theorem repr_ok {x : D} {Q : D → Prop} (hb : x.box = true) (hn : x.nice = true) (hd : x.dep ≤ 60) (hw : x.wt ≤ 1000000) (q : Q (.str x.py.shown)) : fRepr [x] Q :=
  ⟨hb, nice_plain x hn, nice_show x hn, by rw [dep_py x (nice_plain x hn)]; exact hd, Nat.le_trans (shown_len x hn) (Nat.le_trans hw (by rw [sizeLine_eq]; decide)), q⟩
end FG

/-! FO: a law's end, where repr may be called. -/
namespace FG
open PySem.Spec PySem L2 PyProof.Rows

/-- the law's def is called with the script behind the top -/
theorem end_call {P : Program} {w : World} {K : PySem.W.Frag} {mg mb : Str → Option Value} {k : Nat} {fa a : Addr} {sp : Sp} {s : Shared} {vs : List Value} {ns : List Int} (KX : K.In s.heap) (n1 : s.heap.Ns mainGlobals mg) (n2 : s.heap.Ns builtinsNs mb) (n3 : ∀ x : Str, x ≠ "__name__" → mb x = bootBuiltins x) (n4 : s.heap.NoLimit) (g0 : s.gens = #[])
    (oa : s.heap.get? a = some { cls := .type "list", data := .seq vs.toArray }) (iv : IntsAre vs ns) (sz : ns.length ≤ sizeLine) (rm : Room k callerA) (F : ∀ base : Heap, K.In base → base.Ns mainGlobals mg → FnP true P w K mg base k fa sp)
    (goal : ∀ H : Hp, Only H → SqL K H a (ns.map V.int) → sp [.ref a] H (fun v _ => v = .bl true) fun _ _ _ => False) :
    codeAny (model P w) callerA (.call (.ref fa) ⟨[.ref a], []⟩) (fun r s' => r = .ok (.ret (.bool true)) ∧ OldK s.heap s'.heap ∧ s'.os = s.os ∧ AllBare s'.gens) s := by
  have rv := vals_ints iv
  have lv := iv.length
  have main : ∀ H : Hp, Only H → SqL K H a (ns.map V.int) → HOk P w H s.heap → (∀ b, H b ≠ none → b = a ∧ K.lookup a = none) →
      codeAny (model P w) callerA (.call (.ref fa) ⟨[.ref a], []⟩) (fun r s' => r = .ok (.ret (.bool true)) ∧ OldK s.heap s'.heap ∧ s'.os = s.os ∧ AllBare s'.gens) s := by
    intro H only sq hok own
    have free : ∀ {b : Addr} {o : Obj} {es : Array DictEntry} {m : Nat}, s.heap.get? b = some o → o.data = .dict es m → H b = none := by
      intro b o es m e d
      cases q : H b with
      | none => rfl
      | some u =>
        have z : b = a := (own b (by rw [q]; exact Option.some_ne_none u)).1
        rw [z, oa] at e
        cases e
        cases (show Data.seq vs.toArray _ = Data.dict es m from d)
    have ns' : ∀ {b : Addr} {m : Str → Option Value}, s.heap.Ns b m → (hidT s.heap H).Ns b m := by
      rintro b m ⟨o, es, j, e, d, r⟩
      exact ⟨o, es, j, hidT_get e (free e d), d, r⟩
    have kin : K.In (hidT s.heap H) := by
      intro b o e
      refine hidT_get (KX b o e) ?_
      cases q : H b with
      | none => rfl
      | some u =>
        obtain ⟨z1, z2⟩ := own b (by rw [q]; exact Option.some_ne_none u)
        rw [z1, z2] at e
        cases e
    have md : Mod K mg (hidT s.heap H) := by
      refine ⟨kin, ns' n1, ⟨mb, ns' n2, n3⟩, ?_⟩
      obtain ⟨mc, h1, h2⟩ := n4
      exact ⟨mc, ns' h1, h2⟩
    have en : Env0 P w K mg (hidT s.heap H) callerA [] s H := by
      refine ⟨rfl, md, fun b o e => of_hidT e, Nat.le_of_eq (hidT_size _ _), trivial, fun b hb => ?_, hok, .of_eq g0⟩
      cases (show b ∈ ([] : List Addr) from hb)
    refine codeAny_mono (F _ kin (ns' n1) callerA [] s H [.ref a] [.ref a] _ _ (fun _ => rfl) rm en (.cons rfl .nil) (goal H only sq)) ?_
    rintro (er | fl) s' h
    · obtain ⟨_, _, _, _, _, _, _, _, _, _, _, _, z⟩ := (show CX P w [] H s (fun _ _ _ => False) er s' from h)
      exact z.elim
    cases fl with
    | ret u =>
      obtain ⟨v, H', os, bare, un, hok', r', rfl⟩ := h
      cases (show u = Value.bool true from r')
      refine ⟨rfl, (OldK.of_keep fun b o e => ?_), os, bare⟩
      cases q : H b with
      | none => exact un.keep b o e q (fun z => by cases (show b ∈ ([] : List Addr) from z)) (by simp)
      | some u =>
        obtain ⟨ob, xs, z⟩ := (only b).resolve_left (by rw [q]; exact Option.some_ne_none u)
        have z1 := (hok b _ z).1
        have z2 := (hok' b _ (un.frzs b ob _ z)).1
        rw [e] at z1
        cases z1
        exact z2
    | _ => exact False.elim h
  cases hk : K.lookup a with
  | some o =>
    have e := KX a o hk
    rw [oa] at e
    cases e
    exact main (fun _ => none) (fun _ => .inl rfl) (.inr ⟨_, vs.toArray, _, hk, rfl, rfl, rfl, by rw [List.size_toArray, lv]; exact sz, by simpa using rv⟩) (fun b u z => nomatch (show (none : Option HO) = some u from z)) fun b z => absurd rfl z
  | none =>
    have hh : ∀ {b : Addr} {u : HO}, (if b = a then some (HO.frz { cls := .type "list", data := .seq vs.toArray } (.lst (ns.map V.int))) else none) = some u → b = a ∧ u = .frz { cls := .type "list", data := .seq vs.toArray } (.lst (ns.map V.int)) := by
      intro b u z
      split at z
      · rename_i h
        exact ⟨h, (Option.some.inj z).symm⟩
      · cases z
    refine main (fun b => if b = a then some (.frz { cls := .type "list", data := .seq vs.toArray } (.lst (ns.map V.int))) else none) (fun b => ?_) (.inl (.inr ⟨_, if_pos rfl⟩)) (fun b u z => ?_) fun b z => ?_
    · cases q : (if b = a then some (HO.frz { cls := .type "list", data := .seq vs.toArray } (.lst (ns.map V.int))) else none) with
      | none => exact .inl q
      | some u =>
        obtain ⟨_, rfl⟩ := hh q
        exact .inr ⟨_, _, q⟩
    · obtain ⟨rfl, rfl⟩ := hh z
      exact ⟨oa, by rw [List.length_map]; exact sz, vs, _, rv, oa⟩
    · cases q : (if b = a then some (HO.frz { cls := .type "list", data := .seq vs.toArray } (.lst (ns.map V.int))) else none) with
      | none => exact absurd q z
      | some u => exact ⟨(hh q).1, hk⟩
/-- the end over a head by facts -/
theorem walk_fg {l : PySem.W.OpenLaw} {n k : Nat} {q : Program} {loose : List Str} {XP : (Str → Option Value) → Heap → Prop} {YP : World → Heap → Prop} {d : DefRec} (h1 : l.most = some n) (h2 : n ≤ sizeLine) (h3 : d.params.defaults = []) (h4 : Room k callerA)
    (F : ∀ (w : World) (mg : Str → Option Value) (fa : Addr) (h : Heap), YP w h → h.Ns mainGlobals mg → mg d.name = some (.ref fa) → ∃ (K : PySem.W.Frag) (T : DSp), K.In h ∧ (∀ (ns : List Int) (E : Exn → Prop) (Q : D → Prop), ns.length ≤ n → Q (.bl true) → T [.scr ns] Q E) ∧ ∀ base : Heap, K.In base → base.Ns mainGlobals mg → Fn true l.prog w K mg base k fa T) :
    PySem.W.WalkO q loose XP YP (l.row.toRowW) d [] (fun f vs => PySem.call f vs) := by
  refine Att.attach_call h1 h3 fun w s₀ s₁ mg mb fa o pm cd doc a vs ns G Y ho hd hcd hmg hobj hints hlen hg => ?_
  obtain ⟨K, T, KX, hT, hF⟩ := F w mg fa _ Y G.T.g hmg
  refine end_call KX G.T.g G.T.b G.T.builtins G.T.nolimit hg hobj hints (Nat.le_trans hlen h2) h4 hF fun H only sq => ?_
  refine ⟨H, fun _ => False, [.scr ns], fun x => x = .bl true, fun _ => False, ⟨fun _ _ z => z, fun _ z => z.elim, fun _ z => z.elim⟩, .cons (.scr sq) .nil, hT ns _ _ hlen rfl, ?_, fun _ _ _ _ _ _ _ _ _ z => z⟩
  rintro v G' H' P' x _ _ r rfl
  cases r
  rfl
end FG

/-! FP: slices, more walks, three names at once. -/
namespace FG
open PySem.Spec PySem L2 PyProof.Rows

/-! ### a[lo:hi] -/
def dNo : DSt → (Option Int → Prop) → Prop := fun _ Q => Q none
def dPart (t : DT) : DSt → (Option Int → Prop) → Prop := fun δ Q => t δ fun d => match d with
  | .int i => Q (some i)
  | _ => False
def liftO (K : PySem.W.Frag) (B : Base) (t : DSt → (Option Int → Prop) → Prop) : TO := fun σ H Q => ∃ G P δ Qd, WS K B G H P σ δ ∧ t δ Qd ∧ ∀ o G' H' P', Stp G H P G' H' P' → WOk G' H' P' → Qd o → Q o H'
abbrev DO (X : Cx) (B : Base) (e : Option Expr) (t : DSt → (Option Int → Prop) → Prop) : Prop := PO X e (liftO X.K B t)
theorem _root_.L2.PO.mono {X : Cx} {e : Option Expr} {t u : TO} (h : PO X e t) (i : ∀ σ H Q, u σ H Q → t σ H Q) : PO X e u := ⟨fun pns s σ H Q I q => h.run pns s σ H Q I (i σ H Q q)⟩
/-- the part of a list -/
def cutL {α : Type} (xs : List α) (lo hi : Option Int) : List α := (xs.drop (HT.sIx xs.length 0 lo)).take (HT.sIx xs.length xs.length hi - HT.sIx xs.length 0 lo)
section
variable {X : Cx} {B : Base} {e a b c : Expr} {lo hi : Option Expr} {ta tb tc : DT} {tl th : DSt → (Option Int → Prop) → Prop} {pos p2 : Pos} {te : DTA} {n : Nat}
theorem do_none : DO X B none dNo := po_none.mono fun σ H Q q => by
  obtain ⟨G, P, δ, Qd, w, q, k⟩ := q
  exact k none _ _ _ .refl w.ok q
theorem do_some (h : DE X B e ta) : DO X B (some e) (dPart ta) := (po_some h).mono fun σ H Q q => by
  obtain ⟨G, P, δ, Qd, w, q, k⟩ := q
  refine ⟨G, P, δ, _, w, q, fun v G1 H1 P1 d s1 ok1 r1 q1 => ?_⟩
  cases r1 with
  | int i => exact ⟨i, rfl, k _ _ _ _ s1 ok1 q1⟩
  | _ => exact q1.elim
def rSlD (K : PySem.W.Frag) : V → Option Int → Option Int → Hp → VK → Prop := fun x l u H Q => rSlL K x l u H Q ∨ rSlA K x l u H Q ∨ rSlS x l u H Q
theorem sl_D : SlR X (rSlD X.K) := sl_list.or (sl_tupA.or sl_str)
def fSl (x : D) (l u : Option Int) (Q : D → Prop) : Prop := match x with
  | .lst ds => Q (.lst (cutL ds l u))
  | .tup ds => Q (.tup (cutL ds l u))
  | .str z => z.length ≤ sizeLine ∧ Q (.str (cutS z l u))
  | _ => False
def dSl (ta : DT) (tl th : DSt → (Option Int → Prop) → Prop) : DT := fun δ Q => ta δ fun x => tl δ fun l => th δ fun u => fSl x l u Q
theorem cut_le {α : Type} (xs : List α) (l u : Option Int) : (cutL xs l u).length ≤ xs.length := by
  unfold cutL
  simp only [List.length_take, List.length_drop]
  omega
theorem RepL.cut {K : PySem.W.Frag} {G : Hp} {P : Addr → Prop} {vs : List V} {ds : List D} (r : RepL K G P vs ds) (l u : Option Int) : RepL K G P (cutV vs l u) (cutL ds l u) := by
  unfold cutV cutL
  rw [r.length]
  exact (r.drop _).take _
theorem cut_all {α : Type} {xs : List α} {l u : Option Int} (h : HT.sIx xs.length 0 l = 0 ∧ HT.sIx xs.length xs.length u = xs.length) : cutL xs l u = xs := by
  unfold cutL
  rw [h.1, h.2]
  simp
theorem de_sl (ha : DE X B e ta) (hl : DO X B lo tl) (hu : DO X B hi th) : DE X B (.Subscript e (.Slice lo hi none p2) pos) (dSl ta tl th) := (pe_slice sl_D ha hl hu).mono fun σ H Q q => by
  obtain ⟨G, P, δ, Qd, w, q, k⟩ := q
  refine ⟨G, P, δ, _, w, q, fun v G1 H1 P1 d s1 ok1 r1 q1 => ?_⟩
  refine ⟨G1, P1, δ, _, w.step s1 ok1, q1, fun l G2 H2 P2 s2 ok2 q2 => ?_⟩
  refine ⟨G2, P2, δ, _, (w.step s1 ok1).step s2 ok2, q2, fun u G3 H3 P3 s3 ok3 q3 => ?_⟩
  have r3 := s3.rep (s2.rep r1)
  have k3 := k.step (s1.trans (s2.trans s3))
  cases r3 with
  | @lst p xs ds h1 h2 h3 => exact .inl ⟨_, _, rfl, .inl (.inl (ok3.gh _ _ h1)), fun l2 hl2 => k3.new ok3 hl2 (.newLst ok3 hl2 (h2.cut l u) (Nat.le_trans (cut_le _ _ _) h3)) q3⟩
  | @tup p xs ds h1 h2 h3 =>
    refine .inr (.inl ⟨_, _, rfl, sqt_mono ok3.gh h1, fun h => ?_, fun _ l2 hl2 => k3.new ok3 hl2 (.newTup ok3 hl2 (h2.cut l u) (Nat.le_trans (cut_le _ _ _) h3)) q3⟩)
    rw [h2.length] at h
    have q3' : Qd (.tup (cutL ds l u)) := q3
    rw [cut_all h] at q3'
    exact k3.here ok3 (.tup h1 h2 h3) q3'
  | str z => exact .inr (.inr ⟨z, rfl, q3.1, k3.here ok3 (.str _) q3.2⟩)
  | _ => exact q3.elim

/-! ### walks: a text's signs, places and items, two lists -/
def iText (t : DT) : DTI := fun δ Q => t δ fun d => match d with
  | .str z => z.length ≤ sizeLine ∧ Q (z.cps.toList.map fun c => .str (sign c))
  | _ => False
variable {tg : Expr}
theorem di_text (he : DE X B e ta) : DI X B tg e (iText ta) := (pi_str he).mono fun σ H R q => by
  obtain ⟨G, P, δ, Qi, w, q, k⟩ := q
  refine ⟨G, P, δ, _, w, q, fun v G1 H1 P1 d s1 ok1 r1 q1 => ?_⟩
  cases r1 with
  | str z =>
    have hl : (z.cps.toList.map fun c => D.str (sign c)).length = z.cps.size := by simp
    refine ⟨z, rfl, k _ _ _ _ _ s1 ok1 ⟨⟨_, _, by rw [hl]; exact walk_str, fun _ _ _ _ _ => trivial, fun i v H2 H3 G2 P2 hi ok gg pp y => ?_⟩, by rw [hl]; exact q1.1⟩ q1.2⟩
    obtain ⟨rfl, c, hc, rfl⟩ := y
    refine ⟨G2, .str (sign c), .refl, ok, ?_, .str _⟩
    rw [List.getElem?_map]
    have : z.cps.toList[i]? = some c := by simpa using hc
    rw [this]
    rfl
  | _ => exact q1.elim
theorem _root_.FG.Rep.pair {K : PySem.W.Frag} {G H : Hp} {P : Addr → Prop} {x y : V} {dx dy : D} {t : Addr} (w : WOk G H P) (h : H t = none) (r1 : Rep K G P x dx) (r2 : Rep K G P y dy) : ∃ G', Stp G H P G' (upd H t (.tup [x, y])) P ∧ WOk G' (upd H t (.tup [x, y])) P ∧ Rep K G' P (.ref t) (.tup [dx, dy]) :=
  let ⟨s, ok⟩ := Stp.new (o := .tup [x, y]) w h
  ⟨_, s, ok, .newTup w h (.cons r1 (.cons r2 .nil)) (show 2 ≤ sizeLine by decide)⟩
/-- enumerate(xs) -/
def numbered (i : Nat) : List D → List D
  | [] => []
  | d :: ds => .tup [.int (i : Int), d] :: numbered (i + 1) ds
theorem numbered_get : ∀ (ds : List D) (k i : Nat) (d : D), ds[i]? = some d → (numbered k ds)[i]? = some (.tup [.int ((k + i : Nat) : Int), d])
  | [], _, _, _, h => by simp at h
  | x :: xs, k, 0, d, h => by simp at h; subst h; rfl
  | x :: xs, k, i + 1, d, h => by
    have := numbered_get xs (k + 1) i d (by simpa using h)
    rw [show k + 1 + i = k + (i + 1) by omega] at this
    simpa [numbered] using this
theorem numbered_len : ∀ (ds : List D) (k : Nat), (numbered k ds).length = ds.length
  | [], _ => rfl
  | _ :: xs, k => by simp [numbered, numbered_len xs]
def iEnumD (te : DTA) : DTI := fun δ Q => te δ fun ds => match ds with
  | [.lst xs] => Q (numbered 0 xs)
  | _ => False
theorem di_enum {elts : List Expr} {kk : Nat} {tpos p : Pos} (hg : Gl X "enumerate") (hm : X.mg "enumerate" = none) (ha : DA X B [e] n te) (hs : starEach [e] X.env = [(false, eval e X.env)] := by rfl) : DI X B (.Tuple elts kk tpos) (.Call (.Name "enumerate" p) [e] [] pos) (iEnumD te) := (pi_enum hg hm ha hs).mono fun σ H R q => by
  obtain ⟨G, P, δ, Qi, w, q, k⟩ := q
  refine ⟨G, P, δ, _, w, q, fun vs G1 H1 P1 ds s1 ok1 r1 _ q1 => ?_⟩
  split at q1
  · rename_i xs _
    cases r1 with
    | cons a b =>
      cases b
      cases a with
      | @lst p ys ds h1 h2 h3 =>
        have hl := numbered_len xs 0
        refine ⟨p, ys, rfl, .inl (.inl (ok1.gh _ _ h1)), k _ _ _ _ _ s1 ok1 ⟨⟨_, _, by rw [hl, ← h2.length]; exact walk_enum (K := X.K) (a := p) (xs := ys), fun G2 H2 P2 ok gg => Or.inl (Or.inl (ok.gh _ _ (gg _ _ h1))), fun i v H2 H3 G2 P2 hi ok gg pp y => ?_⟩, by rw [hl]; exact h3⟩ q1⟩
        obtain ⟨T, x, y, rfl, hT, rfl, e1, e2⟩ := y
        cases e1
        obtain ⟨d, hd, rd⟩ := h2.get' e2
        obtain ⟨G3, s3, ok3, r3⟩ := FG.Rep.pair ok hT (.int (i : Nat)) (rd.mono gg pp)
        refine ⟨G3, _, s3, ok3, ?_, r3⟩
        have := numbered_get xs 0 i d hd
        rwa [Nat.zero_add] at this
  · exact q1.elim
/-- zip(xs, ys), lists -/
def zipD : List D → List D → List D
  | x :: xs, y :: ys => .tup [x, y] :: zipD xs ys
  | _, _ => []
theorem zipD_len : ∀ xs ys : List D, (zipD xs ys).length = min xs.length ys.length
  | [], _ => by simp [zipD]
  | _ :: _, [] => by simp [zipD]
  | x :: xs, y :: ys => by simp only [zipD, List.length_cons, zipD_len xs ys]; omega
theorem zipD_get : ∀ (xs ys : List D) (i : Nat) (x y : D), xs[i]? = some x → ys[i]? = some y → (zipD xs ys)[i]? = some (.tup [x, y])
  | [], _, _, _, _, h, _ => by simp at h
  | _ :: _, [], _, _, _, _, h => by simp at h
  | a :: xs, b :: ys, 0, x, y, h, h2 => by simp at h h2; subst h h2; rfl
  | a :: xs, b :: ys, i + 1, x, y, h, h2 => by
    have := zipD_get xs ys i x y (by simpa using h) (by simpa using h2)
    simpa [zipD] using this
def iZipD (te : DTA) : DTI := fun δ Q => te δ fun ds => match ds with
  | [.lst xs, .lst ys] => Q (zipD xs ys)
  | _ => False
theorem di_zip {elts : List Expr} {kk : Nat} {tpos p : Pos} (hg : Gl X "zip") (hm : X.mg "zip" = none) (ha : DA X B [a, b] n te) (hs : starEach [a, b] X.env = (false, eval a X.env) :: starEach [b] X.env := by rfl) (hpl : (backTo pos (starEach [b] X.env)).any (·.1) = false := by rfl) : DI X B (.Tuple elts kk tpos) (.Call (.Name "zip" p) [a, b] [] pos) (iZipD te) :=
  (pi_zip hg hm ha hs hpl).mono fun σ H R q => by
    obtain ⟨G, P, δ, Qi, w, q, k⟩ := q
    refine ⟨G, P, δ, _, w, q, fun vs G1 H1 P1 ds s1 ok1 r1 _ q1 => ?_⟩
    split at q1
    · rename_i xs ys _
      cases r1 with
      | cons c r =>
        cases r with
        | cons d r =>
          cases r
          cases c with
          | @lst p us ds h1 h2 h3 =>
            cases d with
            | @lst p' us' ds' h1' h2' h3' =>
              have hl := zipD_len xs ys
              refine ⟨p, p', us, us', rfl, .inl (.inl (ok1.gh _ _ h1)), .inl (.inl (ok1.gh _ _ h1')), k _ _ _ _ _ s1 ok1 ⟨⟨_, _, walk_zip (xs := us) (ys := us') (by rw [hl, h2.length, h2'.length]), fun G2 H2 P2 ok gg => ⟨Or.inl (Or.inl (ok.gh _ _ (gg _ _ h1))), Or.inl (Or.inl (ok.gh _ _ (gg _ _ h1')))⟩, fun i v H2 H3 G2 P2 hi ok gg pp y => ?_⟩, by rw [hl]; exact Nat.le_trans (Nat.min_le_left _ _) h3⟩ q1⟩
              obtain ⟨T, x, y, rfl, hT, rfl, e1, e2⟩ := y
              obtain ⟨d1, hd1, rd1⟩ := h2.get' e1
              obtain ⟨d2, hd2, rd2⟩ := h2'.get' e2
              obtain ⟨G3, s3, ok3, r3⟩ := FG.Rep.pair ok hT (rd1.mono gg pp) (rd2.mono gg pp)
              exact ⟨G3, _, s3, ok3, zipD_get _ _ _ _ _ hd1 hd2, r3⟩
    · exact q1.elim
/-! ### x, y, z = a, b, c -/
def dPar3 (i j l : Nat) (ta tb tc : DT) : DTS := fun D δ => ta δ fun u => tb δ fun v => tc δ fun w => D.nx (((δ.set i (some (.val u))).set j (some (.val v))).set l (some (.val w)))
theorem ds_par3 {i j l : Nat} {x y z : Str} {px py pz pt pt2 : Pos} {kt k2 : Nat} (hc : X.calm = true) (hN : X.N.Nodup) (hi : X.N[i]? = some x) (hj : X.N[j]? = some y) (hl : X.N[l]? = some z) (hx : X.env.scope.names.lookup x = some .local) (hy : X.env.scope.names.lookup y = some .local) (hz : X.env.scope.names.lookup z = some .local)
    (ha : DE X B a ta) (hb : DE X B b tb) (hcc : DE X B c tc) (hij : i ≠ j := by decide) (hil : i ≠ l := by decide) (hjl : j ≠ l := by decide)
    (hw : swappedStores [.Tuple [.Name x px, .Name y py, .Name z pz] kt pt] (.Tuple [a, b, c] k2 pt2) X.env = pure (some [x, y, z]) := by rfl) (hs : swapsWithSole [.Tuple [.Name x px, .Name y py, .Name z pz] kt pt] (.Tuple [a, b, c] k2 pt2) pos.line X.env = pure false := by rfl)
    (h1 : starEach [a, b, c] X.env = (false, eval a X.env) :: starEach [b, c] X.env := by rfl) (h2 : starEach [b, c] X.env = (false, eval b X.env) :: starEach [c] X.env := by rfl) (h3 : starEach [c] X.env = (false, eval c X.env) :: starEach [] X.env := by rfl) :
    DS X B (.Assign [.Tuple [.Name x px, .Name y py, .Name z pz] kt pt] (.Tuple [a, b, c] k2 pt2) pos) (dPar3 i j l ta tb tc) :=
  (ps_par3 hc hN hi hj hl hij hil hjl hx hy hz (pa_cons ha (pa_cons hb (pa_cons hcc pa_nil h3) h2) h1) hw hs).mono fun D σ H q => by
    obtain ⟨G, P, δ, Dd, w, q, k⟩ := q
    refine ⟨G, P, δ, _, w, q, fun u G1 H1 P1 d1 s1 ok1 r1 q1 => ?_⟩
    refine ⟨G1, P1, δ, _, w.step s1 ok1, q1, fun v G2 H2 P2 d2 s2 ok2 r2 q2 => ?_⟩
    refine ⟨G2, P2, δ, _, (w.step s1 ok1).step s2 ok2, q2, fun v3 G3 H3 P3 d3 s3 ok3 r3 q3 => ?_⟩
    have s13 := s1.trans (s2.trans s3)
    exact ⟨u, v, v3, rfl, k.nx _ _ _ _ _ ((((w.step s13 ok3).set (s3.rep (s2.rep r1)) i).set (s3.rep r2) j).set r3 l) s13.gg s13.pp q3⟩
/-! ### [*a, b, *c] -/
def KLs (K : PySem.W.Frag) (G H : Hp) (P : Addr → Prop) (Qd : List D → Prop) (Q : List V → Hp → Prop) : Prop := ∀ v G' H' P' d, Stp G H P G' H' P' → WOk G' H' P' → RepL K G' P' v d → Qd d → Q v H'
def liftAs (K : PySem.W.Frag) (B : Base) (t : DTA) : TA := fun σ H Q => ∃ G P δ Qd, WS K B G H P σ δ ∧ t δ Qd ∧ KLs K G H P Qd Q
abbrev DAs (X : Cx) (B : Base) (es : List Expr) (t : DTA) : Prop := PA X es (liftAs X.K B t)
variable {es : List Expr} {tes : DTA} {p : Pos}
theorem das_nil : DAs X B [] dNil := pa_nil.mono fun σ H Q q => by
  obtain ⟨G, P, δ, Qd, w, q, k⟩ := q
  exact k _ _ _ _ _ .refl w.ok .nil q
theorem das_cons (ha : DE X B e ta) (hr : DAs X B es tes) (hs : starEach (e :: es) X.env = (false, eval e X.env) :: starEach es X.env := by rfl) : DAs X B (e :: es) (dCons ta tes) := (pa_cons ha hr hs).mono fun σ H Q q => by
  obtain ⟨G, P, δ, Qd, w, q, k⟩ := q
  refine ⟨G, P, δ, _, w, q, fun v G1 H1 P1 d s1 ok1 r1 q1 => ?_⟩
  refine ⟨G1, P1, δ, _, w.step s1 ok1, q1, fun vs G2 H2 P2 ds s2 ok2 r2 q2 => ?_⟩
  exact k _ _ _ _ _ (s1.trans s2) ok2 (.cons (s2.rep r1) r2) q2
def dStar (ta : DT) (tr : DTA) : DTA := fun δ Q => ta δ fun x => match x with
  | .lst xs => tr δ fun ys => Q (xs ++ ys)
  | .tup xs => tr δ fun ys => Q (xs ++ ys)
  | _ => False
theorem das_star (ha : DE X B e ta) (hr : DAs X B es tes) (hs : starEach (.Starred e p :: es) X.env = (true, eval e X.env) :: starEach es X.env := by rfl) : DAs X B (.Starred e p :: es) (dStar ta tes) := (StX.pa_star ha hr hs).mono fun σ H Q q => by
  obtain ⟨G, P, δ, Qd, w, q, k⟩ := q
  refine ⟨G, P, δ, _, w, q, fun v G1 H1 P1 d s1 ok1 r1 q1 => ?_⟩
  cases r1 with
  | lst h1 h2 h3 =>
    refine ⟨_, _, rfl, .inr (.inl (.inl (ok1.gh _ _ h1))), G1, P1, δ, _, w.step s1 ok1, q1, fun vs G2 H2 P2 ds s2 ok2 r2 q2 => ?_⟩
    exact k _ _ _ _ _ (s1.trans s2) ok2 ((s2.repL h2).append r2) q2
  | tup h1 h2 h3 =>
    refine ⟨_, _, rfl, .inl (sqt_mono ok1.gh h1), G1, P1, δ, _, w.step s1 ok1, q1, fun vs G2 H2 P2 ds s2 ok2 r2 q2 => ?_⟩
    exact k _ _ _ _ _ (s1.trans s2) ok2 ((s2.repL h2).append r2) q2
  | _ => exact q1.elim
def fLstS (te : DTA) : DTF := fun δ Q => te δ fun ds => ds.length ≤ sizeLine ∧ Q ds
theorem df_lstS (ha : DAs X B es tes) : DF X B (.List es pos) (fLstS tes) := (pe_lst ha).mono fun σ H Q q => by
  obtain ⟨G, P, δ, Qd, w, q, k⟩ := q
  refine ⟨G, P, δ, _, w, q, fun vs G2 H2 P2 ds s2 ok2 r2 q2 => ⟨by rw [r2.length]; exact q2.1, fun l hl => ?_⟩⟩
  have l0 : H l = none := by
    cases z : H l with
    | none => rfl
    | some o => exact absurd hl (s2.dm l (by rw [z]; exact Option.some_ne_none o))
  have lg : G2 l = none := by
    cases z : G2 l with
    | none => rfl
    | some o => (rw [ok2.gh l o z] at hl; cases hl)
  have lp : ¬ P2 l := fun z => by
    obtain ⟨i, j, e, _⟩ := ok2.pt l z
    rw [e] at hl; cases hl
  obtain ⟨s3, ok3⟩ := s2.poke ok2 (o := .lst vs) l0 lg lp
  exact k l vs _ _ _ ds s3 ok3 l0 upd_same r2 lg lp q2.1 q2.2
/-! ### x += e, ints -/
def dAugI (i : Nat) (f : Int → Int → Int) (ta : DT) : DTS := fun D δ => match δ[i]? with
  | some (some (.val (.int u))) => ta δ fun y => match y with
    | .int v => D.nx (δ.set i (some (.val (.int (f u v)))))
    | _ => False
  | _ => False
theorem ds_augI {i : Nat} {x : Str} {op : Operator} {f : Int → Int → Int} {p3 : Pos} (hN : X.N.Nodup) (hi : X.N[i]? = some x) (hx : Loc X.env.scope x) (ha : DE X B e ta) (ho : PIp X op (ipI f)) (hf : X.fn x = true ∨ X.env.scope.names.lookup x = some .local := by first | exact Or.inl rfl | exact Or.inr rfl) : DS X B (.AugAssign (.Name x p3) op e pos) (dAugI i f ta) := (ps_aug hN hi hx ha ho hf).mono fun D σ H q => by
  obtain ⟨G, P, δ, Dd, w, q, k⟩ := q
  unfold dAugI at q
  split at q
  · rename_i u hd
    obtain ⟨v, ev, rv⟩ := w.sl i _ hd
    cases (show Rep X.K G P v (.int u) from rv)
    refine ⟨_, ev, G, P, δ, _, w, q, fun y G1 H1 P1 d s1 ok1 r1 q1 => ?_⟩
    cases r1 with
    | int j => exact ⟨u, j, rfl, rfl, k.nx _ _ _ _ _ ((w.step s1 ok1).set (.int _) i) s1.gg s1.pp q1⟩
    | _ => exact q1.elim
  · exact q.elim
end

/-! ### constants of the module -/
section
variable {K : PySem.W.Frag} {h : Heap} {mg : Str → Option Value} {x : Str}
theorem con_int (X : K.In h) (G : h.Ns mainGlobals mg) {i : Int} (c : (He.Fa.int x i).ok K = true) : Con1 K mg x (.int i) := by
  obtain ⟨t, e⟩ := He.int_ok X G c
  exact ⟨_, .int i, e, ⟨t, rfl⟩, fun _ _ => .int i⟩
theorem con_str (X : K.In h) (G : h.Ns mainGlobals mg) {z : Str} (c : (He.Fa.str x z).ok K = true) : Con1 K mg x (.str z) := by
  obtain ⟨t, e⟩ := He.str_ok X G c
  exact ⟨_, .str z, e, ⟨t, rfl⟩, fun _ _ => .str z⟩
def intsB (K : PySem.W.Frag) (x : Str) (ns : List Int) : Bool := (He.Fa.glo x).ok K && (He.tupB K x (ns.map He.Dv.int) && decide (ns.length ≤ sizeLine))
theorem con_ints (X : K.In h) (G : h.Ns mainGlobals mg) {ns : List Int} (c : intsB K x ns = true) : Con1 K mg x (.tup (ns.map D.int)) := by
  obtain ⟨c1, c⟩ := He.ba c
  obtain ⟨c2, c3⟩ := He.ba c
  refine ⟨_, .ref (He.ga K x), He.glo_ok X G c1, rfl, fun G' P' => .tup (xs := ns.map V.int) ?_ RepL.ints (by rw [List.length_map]; exact of_decide_eq_true c3)⟩
  have q := He.tupB_ok c2 G'
  rw [List.map_map] at q
  exact q
end

/-! ### f(e, .., k = v, ..) -/
section
variable {X : Cx} {B : Base} {gp : Bool} {k n m : Nat} {f : Addr} {T : DSp} {W : XW} {x : Str} {p pos : Pos} {e : Expr} {es : List Expr} {te tk : DTA} {ks : List Str} {kws : List Keyword}
theorem pe_fnK {sp : Sp} {E : L2.St → XK} {t u : TA} (F : FnPK gp n ks X.prog X.w X.K X.mg X.base k f sp) (hgd : gp = true → X.A.guards = some []) (hr : Room k X.A) (hg : Gl X x) (hm : X.mg x = some (.ref f)) (hk : PySem.W.keepIn X.K (.ref f) = true) (hx : ∀ σ, PassesAt (L2.CX X.prog X.w) X σ (E σ)) (ha : PA X (e :: es) t) (hkw : PK X kws u)
    (hall : (backToKw pos (keywordEach kws X.env)).all (·.1.isSome) = true) (hks : (backToKw pos (keywordEach kws X.env)).filterMap (·.1) = ks) (hd : (x == ("__debug__" : Str)) = false) (h1 : starEach (e :: es) X.env = (false, eval e X.env) :: starEach es X.env)
    (hpl : ((backTo pos (starEach (e :: es) X.env)).any (·.1) || (backToKw pos (keywordEach kws X.env)).any (·.1.isNone)) = false) :
    PE X (.Call (.Name x p) (e :: es) kws pos) (fun σ H Q => t σ H fun vs H1 => u σ H1 fun zs H2 => vs.length = n ∧ zs.length = ks.length ∧ sp (vs ++ zs) H2 Q (E σ)) := by
  constructor
  intro pns s σ H Q I h
  apply wpAny_Call_Name_kw
  apply ld_glob I hg hm _ hd
  refine PySem.W.callWith_KW (h₀ := X.base) I.ok.mod.kin hk hall (thn (ha.run pos pns s σ H _ I h) ?_) hpl h1
  rintro us s1 ⟨vs, H1, I1, r, q⟩
  refine thn (hkw.run pos pns s1 σ H1 _ I1 q) ?_
  rintro ws s2 ⟨zs, H2, I2, rz, l1, l2, q2⟩
  refine ⟨I2.kIn, ?_⟩
  rw [hks]
  exact run_atK F hgd hr (hx σ) I2 r l1 rz l2 q2
def dCallK (T : DSp) (W : XW) (te tk : DTA) : DT := fun δ Q => te δ fun ds => tk δ fun es => T (ds ++ es) Q fun e => W e δ
theorem de_callK (F : FnK gp n ks X.prog X.w X.K X.mg X.base k f T) (hgd : gp = true → X.A.guards = some []) (hr : Room k X.A) (hg : Gl X x) (hm : X.mg x = some (.ref f)) (hk : PySem.W.keepIn X.K (.ref f) = true) (hw : Wish X B W) (ha : DA X B (e :: es) n te) (hkw : DK X B kws ks.length tk)
    (hall : (backToKw pos (keywordEach kws X.env)).all (·.1.isSome) = true := by rfl) (hks : (backToKw pos (keywordEach kws X.env)).filterMap (·.1) = ks := by rfl) (hd : (x == ("__debug__" : Str)) = false := by decide) (h1 : starEach (e :: es) X.env = (false, eval e X.env) :: starEach es X.env := by rfl)
    (hpl : ((backTo pos (starEach (e :: es) X.env)).any (·.1) || (backToKw pos (keywordEach kws X.env)).any (·.1.isNone)) = false := by rfl) : DE X B (.Call (.Name x p) (e :: es) kws pos) (dCallK T W te tk) := by
  obtain ⟨Wx, tks, hW⟩ := hw.ex
  refine (pe_fnK (E := WE Wx) F hgd hr hg hm hk (fun σ => passAt tks σ) ha hkw hall hks hd h1 hpl).mono fun σ H Q q => ?_
  obtain ⟨G, P, δ, Qd, w, q, kk⟩ := q
  refine ⟨G, P, δ, _, w, q, fun vs G1 H1 P1 ds s1 ok1 r1 l1 q1 => ?_⟩
  refine ⟨G1, P1, δ, _, w.step s1 ok1, q1, fun zs G2 H2 P2 es s2 ok2 r2 l2 q2 => ⟨by rw [r1.length, l1], by rw [r2.length, l2], ?_⟩⟩
  exact sp_lift hW ((w.step s1 ok1).step s2 ok2) ((s2.repL r1).append r2) q2 (kk.step (s1.trans s2))
end
end FG

/-! FR: keywords in any sequence. -/
namespace FG
open PySem.Spec PySem L2 PyProof.Rows

/-- those at the places ix -/
def sel {α : Type} (ix : List Nat) (xs : List α) : List α := ix.filterMap fun i => xs[i]?
def TP (ix : List Nat) (T : DSp) : DSp := fun ds Q E => T (sel ix ds) Q E
theorem vals_get {vs : List V} {us : List Value} (h : Vals vs us) : ∀ i : Nat, (vs[i]? = none ∧ us[i]? = none) ∨ ∃ v u, vs[i]? = some v ∧ us[i]? = some u ∧ RelV v u := by
  induction h with
  | nil => intro i; exact .inl ⟨rfl, rfl⟩
  | cons a _ ih =>
    intro i
    cases i with
    | zero => exact .inr ⟨_, _, rfl, rfl, a⟩
    | succ i => simpa using ih i
theorem vals_sel {vs : List V} {us : List Value} (h : Vals vs us) : ∀ ix : List Nat, Vals (sel ix vs) (sel ix us)
  | [] => .nil
  | i :: ix => by
    have ih := vals_sel h ix
    unfold sel at ih ⊢
    rcases vals_get h i with ⟨e1, e2⟩ | ⟨v, u, e1, e2, r⟩
    · rw [List.filterMap_cons_none e1, List.filterMap_cons_none e2]; exact ih
    · rw [List.filterMap_cons_some e1, List.filterMap_cons_some e2]; exact .cons r ih
section
variable {K : PySem.W.Frag} {G : Hp} {P : Addr → Prop}
theorem repL_get : ∀ {vs : List V} {ds : List D}, RepL K G P vs ds → ∀ i : Nat, (vs[i]? = none ∧ ds[i]? = none) ∨ ∃ v d, vs[i]? = some v ∧ ds[i]? = some d ∧ Rep K G P v d
  | _, _, .nil, i => .inl ⟨by simp, by simp⟩
  | _, _, .cons a r, 0 => .inr ⟨_, _, rfl, rfl, a⟩
  | _, _, .cons a r, i + 1 => by simpa using repL_get r i
theorem repL_sel {vs : List V} {ds : List D} (h : RepL K G P vs ds) : ∀ ix : List Nat, RepL K G P (sel ix vs) (sel ix ds)
  | [] => .nil
  | i :: ix => by
    have ih := repL_sel h ix
    unfold sel at ih ⊢
    rcases repL_get h i with ⟨e1, e2⟩ | ⟨v, d, e1, e2, r⟩
    · rw [List.filterMap_cons_none e1, List.filterMap_cons_none e2]; exact ih
    · rw [List.filterMap_cons_some e1, List.filterMap_cons_some e2]; exact .cons r ih
end
section
variable {gp : Bool} {P : Program} {w : World} {K : PySem.W.Frag} {mg : Str → Option Value} {base : Heap} {k n : Nat} {f : Addr} {fd : FuncData} {x qual : Str} {params : Arguments} {body : List Stmt} {scope : Scope} {kws : List (Str × V)} {N ps ks : List Str} {T : DSp} {t : (Exn → Prop) → DTS} {ix : List Nat}
theorem bndKp_of (F : FunD K x qual params body scope [] kws f fd) (h : ∀ (kV doc pm : Value) (an : Option Addr) (cdv ct : Value) (us ws : List Value), us.length = n → ws.length = ks.length → bindArgs (PySem.W.fnOf x qual params body scope .none kV doc pm an cdv ct) ⟨us, ks.zip ws⟩ = pure (ps.zip (sel ix (us ++ ws))))
    {A : Around} {outer : List Env} {s : Shared} {H : Hp} {E : XK} {us ws : List Value} {vs zs : List V} (e0 : Env0 P w K mg base A outer s H) (r : Vals vs us) (hn : vs.length = n) (rz : Vals zs ws) (hz : zs.length = ks.length) (hl : (sel ix (vs ++ zs)).length = ps.length) :
    StX.Bnd (L2.CX P w) P w K mg base fd ⟨us, ks.zip ws⟩ ps A outer s H E (fun ys H2 => ys = sel ix (vs ++ zs) ∧ H2 = H) := by
  intro A' Ex Q hq
  obtain ⟨oc, od, dV, kV, doc, pm, an, cdv, ct, osl, rfl, lk, hcd, hD, _⟩ := F.ex
  have hd : dV = .none := by
    rcases hD with ⟨_, e⟩ | ⟨e, _⟩
    · exact e
    · exact absurd rfl e
  subst hd
  rw [h kV doc pm an cdv ct us ws (by rw [← r.length]; exact hn) (by rw [← rz.length]; exact hz)]
  exact wpAny_pure (hq s H (sel ix (vs ++ zs)) (sel ix (us ++ ws)) e0 (Un.kept fun _ _ q => q) rfl (fun _ _ z => z) (vals_sel (r.append rz) ix) hl ⟨rfl, rfl⟩)
theorem dfnKp (F : FunD K x qual params body scope [] kws f fd) (S : FnScope N ps scope) (h : ∀ (kV doc pm : Value) (an : Option Addr) (cdv ct : Value) (us ws : List Value), us.length = n → ws.length = ks.length → bindArgs (PySem.W.fnOf x qual params body scope .none kV doc pm an cdv ct) ⟨us, ks.zip ws⟩ = pure (ps.zip (sel ix (us ++ ws))))
    (hT : ∀ ds Q E, T ds Q E → ds.length = ps.length)
    (hbody : ∀ (cdv : Value) (A : Around) (outer : List Env) (s : Shared) (H : Hp) (E : XK) (B : Base) (Ed : Exn → Prop), (gp = true → A.guards = some []) → Room k (A.deeper (envOfC qual scope s.heap.objs.size f cdv)) → B.M = (fun _ => False) →
      Wish (cxOf (L2.CX P w) P w K mg base N qual scope f cdv A outer s H E) B (fun e _ => Ed e) → DSs (cxOf (L2.CX P w) P w K mg base N qual scope f cdv A outer s H E) B body (t Ed))
    (hread : ∀ ds Q Ed, T ds Q Ed → t Ed { nx := fun _ => Q .non, rt := Q } (ds.map (fun d => some (.val d)) ++ List.replicate (N.length - ds.length) none)) : FnK gp n ks P w K mg base (k + 1) f (TP ix T) := by
  intro A outer s H us ws vs zs Q E hg hr e0 r hn rz hz ⟨G, P0, ds, Qd, Ed, ok, rl, ht, k1, kx⟩
  obtain ⟨oc, od, dV, kV, doc, pm, an, cdv, ct, osl, rfl, lk, hcd, _, _⟩ := (F.ex)
  have rs := repL_sel rl ix
  refine StX.run_bnd lk hcd S hr e0 (bndKp_of F h e0 r hn rz hz (by rw [rs.length]; exact hT _ _ _ ht)) ?_
  rintro s2 H2 _ ⟨rfl, rfl⟩ hr2
  have wsh : Wish (cxOf (L2.CX P w) P w K mg base N qual scope f cdv A outer s2 H2 E) ⟨G, H2, P0, fun _ => False⟩ (fun e _ => Ed e) :=
    ⟨_, takes_of rfl rfl rfl rfl, fun cls d e σ G' H' P' δ ws rx q => kx cls d G' H' P' e (ws.since.stp fun _ z => z) ws.ok rx q⟩
  refine ⟨_, hbody cdv A outer s2 H2 E ⟨G, H2, P0, fun _ => False⟩ Ed hg hr2 rfl wsh, G, P0, _, _, ws_start ok rs, hread (sel ix ds) Qd Ed ht, ?_⟩
  exact ⟨fun σ H' G' P' δ ws _ _ q => k1 _ _ _ _ _ (ws.since.stp fun _ z => z) ws.ok .non q, fun _ _ _ _ _ _ _ _ q => q.elim, fun _ _ _ _ _ _ _ _ q => q.elim, fun v H' G' P' d ok' sc rv q => k1 _ _ _ _ _ (sc.stp fun _ z => z) ok' rv q⟩
end
end FG

/-! FS: return [x.pop(e) for k in ..], x a list of one's own. -/
namespace FG
open PySem.Spec PySem L2 PyProof.Rows

section
variable {K : PySem.W.Frag} {B : Base} {G H : Hp} {P : Addr → Prop} {σ : L2.St} {δ : DSt}
theorem get_snoc {α : Type} {xs : List α} {x y : α} {i : Nat} (h : (xs ++ [x])[i]? = some y) : (i < xs.length ∧ xs[i]? = some y) ∨ (i = xs.length ∧ x = y) := by
  by_cases hi : i < xs.length
  · rw [List.getElem?_append_left hi] at h
    exact .inl ⟨hi, h⟩
  · rw [List.getElem?_append_right (by omega)] at h
    have : i - xs.length = 0 := by
      cases z : i - xs.length with
      | zero => rfl
      | succ n => rw [z] at h; simp at h
    rw [this] at h
    exact .inr ⟨by omega, by simpa using h⟩
/-- one more slot: a list that may change -/
theorem WS.more (w : WS K B G H P σ δ) {l : Addr} {xs : List V} {ds : List D} (h : H l = some (.lst xs)) (r : RepL K G P xs ds) (g : G l = none) (p : ¬ P l) (b : B.H l = none) (z : ds.length ≤ sizeLine)
    (fresh : ∀ (j : Nat) (s : SV), δ[j]? = some (some s) → s.mut = true → σ[j]? ≠ some (some (.ref l))) : WS K B G H P (σ ++ [some (.ref l)]) (δ ++ [some (.own ds)]) := by
  have e0 := w.len
  refine ⟨w.ok, w.since, by rw [List.length_append, List.length_append, e0]; rfl, fun i s e => ?_, fun i j s s' hij e1 e2 m1 m2 => ?_⟩
  · rcases get_snoc e with ⟨hi, e⟩ | ⟨hi, e⟩
    · obtain ⟨v, a, c⟩ := w.sl i s e
      exact ⟨v, by rw [List.getElem?_append_left (by omega)]; exact a, c⟩
    · cases e
      refine ⟨.ref l, ?_, l, xs, rfl, h, r, g, p, b, z⟩
      rw [hi, e0, List.getElem?_append_right (Nat.le_refl _), Nat.sub_self]
      rfl
  · have last : (σ ++ [some (V.ref l)])[δ.length]? = some (some (.ref l)) := by
      rw [e0, List.getElem?_append_right (Nat.le_refl _), Nat.sub_self]
      rfl
    rcases get_snoc e1 with ⟨h1, e1⟩ | ⟨h1, e1⟩ <;> rcases get_snoc e2 with ⟨h2, e2⟩ | ⟨h2, e2⟩
    · rw [List.getElem?_append_left (by omega), List.getElem?_append_left (by omega)]
      exact w.inj i j s s' hij e1 e2 m1 m2
    · rw [h2, last, List.getElem?_append_left (by omega)]
      exact fresh i s e1 m1
    · rw [h1, last, List.getElem?_append_left (by omega)]
      exact fun z => fresh j s' e2 m2 z.symm
    · omega
/-- without the last slot -/
theorem WS.less {a : Option V} {c : Option SV} (w : WS K B G H P (σ ++ [a]) (δ ++ [c])) : WS K B G H P σ δ := by
  have e0 : δ.length = σ.length := by
    have := w.len
    rw [List.length_append, List.length_append] at this
    simpa using this
  have up : ∀ {i : Nat} {s : SV}, δ[i]? = some (some s) → i < δ.length ∧ (δ ++ [c])[i]? = some (some s) := fun {i s} e => by
    have hi : i < δ.length := (List.getElem?_eq_some_iff.mp e).1
    exact ⟨hi, by rw [List.getElem?_append_left hi]; exact e⟩
  refine ⟨w.ok, w.since, e0, fun i s e => ?_, fun i j s s' hij e1 e2 m1 m2 => ?_⟩
  · obtain ⟨hi, e⟩ := up e
    obtain ⟨v, x, y⟩ := w.sl i s e
    rw [List.getElem?_append_left (by omega)] at x
    exact ⟨v, x, y⟩
  · obtain ⟨h1, e1⟩ := up e1
    obtain ⟨h2, e2⟩ := up e2
    have := w.inj i j s s' hij e1 e2 m1 m2
    rwa [List.getElem?_append_left (by omega), List.getElem?_append_left (by omega)] at this
theorem set_len {α : Type} {xs : List α} {k : Nat} {v : α} (h : ¬ k < xs.length) : xs.set k v = xs := List.set_eq_of_length_le (Nat.not_lt.mp h)
/-- a slot ahead of the last -/
theorem WS.setL {a : Option V} {c : Option SV} (w : WS K B G H P (σ ++ [a]) (δ ++ [c])) {v : V} {d : D} (r : Rep K G P v d) (k : Nat) : WS K B G H P (σ.set k (some v) ++ [a]) (δ.set k (some (.val d)) ++ [c]) := by
  have e0 := w.less.len
  by_cases h : k < σ.length
  · have := w.set r k
    rwa [List.set_append_left _ _ h, List.set_append_left _ _ (by omega)] at this
  · rw [set_len h, set_len (by omega)]
    exact w
theorem WS.unsetL {a : Option V} {c : Option SV} (w : WS K B G H P (σ ++ [a]) (δ ++ [c])) (k : Nat) : WS K B G H P (σ.set k none ++ [a]) (δ.set k none ++ [c]) := by
  have e0 := w.less.len
  by_cases h : k < σ.length
  · have := w.unset k
    rwa [List.set_append_left _ _ h, List.set_append_left _ _ (by omega)] at this
  · rw [set_len h, set_len (by omega)]
    exact w
theorem last_get {α : Type} (xs : List α) (x : α) : (xs ++ [x])[xs.length]? = some x := by
  rw [List.getElem?_append_right (Nat.le_refl _), Nat.sub_self]
  rfl
theorem last_set {α : Type} (xs : List α) (x y : α) : (xs ++ [x]).set xs.length y = xs ++ [y] := by
  rw [List.set_append_right _ _ (Nat.le_refl _), Nat.sub_self]
  rfl
theorem ix_nat {i n : Nat} (h : i < n) : seqIndex? (i : Int) n = some i := by
  have e : (if (i : Int) < 0 then (i : Int) + (n : Int) else (i : Int)) = i := if_neg (by omega)
  simp only [seqIndex?, e]
  rw [if_pos (by simp; omega)]
  rfl
theorem RepL.erase : ∀ {vs : List V} {ds : List D} (i : Nat), RepL K G P vs ds → RepL K G P (vs.eraseIdx i) (ds.eraseIdx i)
  | _, _, _, .nil => .nil
  | _, _, 0, .cons _ r => r
  | _, _, i + 1, .cons a r => .cons a (RepL.erase i r)
end

/-- list(x), a new list of one's own -/
def fListOf (te : DTA) : DTF := fun δ Q => te δ fun ds => match ds with
  | [.lst xs] => Q xs
  | [.tup xs] => Q xs
  | _ => False
section
variable {X : Cx} {B : Base} {e : Expr} {es : List Expr} {n : Nat} {te : DTA} {p pos : Pos}
theorem df_listOf (hg : Gl X "list") (hm : X.mg "list" = none) (hv2 : bootBuiltins "list" = some (.type "list")) (ha : DA X B (e :: es) n te)
    (h1 : starEach (e :: es) X.env = (false, eval e X.env) :: starEach es X.env := by rfl) (h2 : (backTo pos (starEach es X.env)).any (·.1) = false := by rfl) : DF X B (.Call (.Name "list" p) (e :: es) [] pos) (fListOf te) :=
  (pe_callTy call_list_of hg hm hv2 ha (by decide) (by decide) h1 h2).mono fun σ H Q q => by
    obtain ⟨G, P, δ, Qd, w, q, k⟩ := q
    refine ⟨G, P, δ, _, w, q, fun vs G2 H2 P2 ds s2 ok2 r2 hl q2 => ?_⟩
    have fin : ∀ (a : Addr) (ys : List V) (xs : List D), (SqL X.K H2 a ys ∨ SqT X.K H2 a ys) → RepL X.K G2 P2 ys xs → xs.length ≤ sizeLine → Qd xs → vs = [.ref a] → ∃ p ys, vs = [.ref p] ∧ (SqL X.K H2 p ys ∨ SqT X.K H2 p ys) ∧ ∀ l, H2 l = none → Q (.ref l) (upd H2 l (.lst ys)) := by
      intro a ys xs hs ry hz qd e
      refine ⟨a, ys, e, hs, fun l hl => ?_⟩
      have hp0 : H l = none := by
        cases z : H l with
        | none => rfl
        | some o => exact absurd hl (s2.dm l (by rw [z]; simp))
      have gp : G2 l = none := by
        cases z : G2 l with
        | none => rfl
        | some o => rw [ok2.gh l o z] at hl; cases hl
      have np : ¬ P2 l := fun z => by
        obtain ⟨i, j, e, _⟩ := ok2.pt l z
        rw [e] at hl; cases hl
      obtain ⟨s3, ok3⟩ := s2.poke ok2 (o := .lst ys) hp0 gp np
      exact k l ys _ _ _ xs s3 ok3 hp0 upd_same ry gp np hz qd
    split at q2
    · cases r2 with | cons a b => cases b; cases a with | lst g1 g2 g3 => exact fin _ _ _ (.inl (.inl (.inl (ok2.gh _ _ g1)))) g2 g3 q2 rfl
    · cases r2 with | cons a b => cases b; cases a with | tup g1 g2 g3 => exact fin _ _ _ (.inr (sqt_mono ok2.gh g1)) g2 g3 q2 rfl
    · exact q2.elim
end
/-- the popped ones, one after another -/
def dPops (j k : Nat) (te : DT) (δ : DSt) : List D → List D → List D → (List D → Prop) → Prop
  | [], _, acc, Q => Q acc
  | x :: xs, ds, acc, Q => te (view ((δ.set j (some (.own ds))).set k (some (.val x)))) fun y => ∃ (i : Nat) (d : D), y = .int i ∧ ds[i]? = some d ∧ dPops j k te δ xs (ds.eraseIdx i) (acc ++ [d]) Q
def dRetPops (ti : DTI) (j k : Nat) (te : DT) : DTS := fun D δ => match δ[j]? with
  | some (some (.own ds)) => ti δ fun items => dPops j k te (δ.set k none) items ds [] fun r => D.rt (.lst r)
  | _ => False
section
variable {X : Cx} {B : Base} {e o iter tg : Expr} {pos cpos apos rpos p2 : Pos} {ti : DTI} {te : DT} {j k : Nat} {x : Str}
theorem set_none_set {α : Type} (xs : List (Option α)) (k : Nat) (v : Option α) : (xs.set k v).set k none = xs.set k none := by rw [List.set_set]
theorem ds_retPops {scope : Scope} {own : List (Str × Nat)} (hc : X.calm = true) (hN : X.N.Nodup) (hjk : j ≠ k) (hi : DI X B tg iter ti) (ok : BlkOk X.N X.env.scope scope own) (how : own.map (·.2) = [k])
    (hg : ∀ (s : Shared) (H : Hp) (C : Addr) (cl : List (Str × Addr)) (fp : List Addr), PG (X.blk s H scope (compEnvC scope cl C X.env) fp) tg (gName k))
    (ho : ∀ (s : Shared) (H : Hp) (C : Addr) (cl : List (Str × Addr)) (fp : List Addr), PE (X.blk s H scope (compEnvC scope cl C X.env) fp) o (tVar j))
    (he : ∀ (s : Shared) (H : Hp) (C : Addr) (cl : List (Str × Addr)) (fp : List Addr), DE (X.blk s H scope (compEnvC scope cl C X.env) fp) B e te)
    (hs : ∀ x, foldedSetIterable iter X.env x = pure x)
    (hb : ∀ (s : Shared) (H : Hp) (C : Addr) (cl : List (Str × Addr)) (fp : List Addr), attributeBase o "pop" (X.blk s H scope (compEnvC scope cl C X.env) fp).env (eval o (X.blk s H scope (compEnvC scope cl C X.env) fp).env) = eval o (X.blk s H scope (compEnvC scope cl C X.env) fp).env)
    (hf : ∀ (s : Shared) (H : Hp) (C : Addr) (cl : List (Str × Addr)) (fp : List Addr), ((backTo cpos (starEach [e] (X.blk s H scope (compEnvC scope cl C X.env) fp).env)).all (fun x => !x.1) && (backToKw cpos (keywordEach [] (X.blk s H scope (compEnvC scope cl C X.env) fp).env)).all (fun x => x.1.isSome) && decide (([e] : List Expr).length + ([] : List Keyword).length + (if ([] : List Keyword).isEmpty then 0 else 1) < 30)) = true)
    (hl : (apos.endLine == cpos.line) = true)
    (h1 : ∀ (s : Shared) (H : Hp) (C : Addr) (cl : List (Str × Addr)) (fp : List Addr), starEach [e] (X.blk s H scope (compEnvC scope cl C X.env) fp).env = (false, eval e (X.blk s H scope (compEnvC scope cl C X.env) fp).env) :: starEach [] (X.blk s H scope (compEnvC scope cl C X.env) fp).env)
    (h2 : ∀ (s : Shared) (H : Hp) (C : Addr) (cl : List (Str × Addr)) (fp : List Addr), (backTo cpos (starEach [] (X.blk s H scope (compEnvC scope cl C X.env) fp).env)).any (·.1) = false) :
    DS X B (.Return (some (.ListComp (.Call (.Attribute o "pop" apos) [e] [] cpos) [⟨tg, iter, [], 0⟩] scope pos)) rpos) (dRetPops ti j k te) :=
  (ps_ret (pe_lc (te := tBM X.K "list" rPopAt (tVar j) (tCons (lift X.K B te) tNil)) hc hN hi ok hg (fun _ _ _ _ _ => pts_nil) (fun s H C cl fp => pe_bm PySem.F.plainAttrs_list PySem.F.slot_list_pop PySem.F.type_list_pop mt_popAt (ho s H C cl fp) (pa_cons (he s H C cl fp) pa_nil (h1 s H C cl fp)) (hb s H C cl fp) (hf s H C cl fp) hl (h1 s H C cl fp) (h2 s H C cl fp)) hs)).mono fun De σ H q => by
    obtain ⟨G, P, δ, Dd, w, q, kk⟩ := q
    unfold dRetPops at q
    split at q
    · rename_i ds hd
      rw [how]
      refine ⟨G, P, δ, _, w, q, fun J G1 H1 P1 items s1 ok1 wk q1 => ?_⟩
      intro L hL
      obtain ⟨Gp, Y, wk1, gp, yl⟩ := wk.ex
      have w1 := (w.step s1 ok1).unset k
      have gL : G1 L = none := by
        cases z : G1 L with
        | none => rfl
        | some o => rw [ok1.gh L o z] at hL; cases hL
      have pL : ¬ P1 L := fun z => by
        obtain ⟨i, j, e, _⟩ := ok1.pt L z
        rw [e] at hL; cases hL
      have bL : B.H L = none := by
        cases z : B.H L with
        | none => rfl
        | some o => exact absurd hL (w1.since.dm L (by rw [z]; simp))
      obtain ⟨sp, okp⟩ := Stp.laid (o := HO.lst []) ok1 hL
      have jl : j < δ.length := (List.getElem?_eq_some_iff.mp hd).1
      obtain ⟨v0, ev0, l, xs0, rfl, hx0, rl0, gx0, px0, bx0, zx0⟩ := w.sl j _ hd
      have lL : l ≠ L := fun z => by
        have := s1.hh _ _ hx0 px0
        rw [z, hL] at this
        cases this
      have w2 : WS X.K B G1 (upd H1 L (.lst [])) P1 (σ.set k none ++ [some (.ref L)]) ((δ.set k none).set j (some (.own ds)) ++ [some (.own [])]) := by
        have e1 : (δ.set k none).set j (some (.own ds)) = δ.set k none := by
          refine List.ext_getElem? fun i => ?_
          by_cases hij : j = i
          · subst hij
            rw [List.getElem?_set_self (by rw [List.length_set]; exact jl), List.getElem?_set_ne (fun z => hjk z.symm)]
            exact hd.symm
          · rw [List.getElem?_set_ne hij]
        rw [e1]
        refine (w1.step sp okp).more upd_same .nil gL pL bL (Nat.zero_le _) fun i s e m ev => ?_
        obtain ⟨v, ev2, r⟩ := w1.sl i s e
        rw [ev] at ev2
        cases ev2
        cases s with
        | val d => cases m
        | own es => obtain ⟨l3, xs3, e3, h3, _⟩ := r; cases e3; rw [hL] at h3; cases h3
        | inst C fs => obtain ⟨l3, dx3, xs3, e3, h3, _⟩ := r; cases e3; rw [hL] at h3; cases h3
      have lenσ : σ.length = δ.length := w.len.symm
      refine lc_it wk1 (fun i H2 => ∃ (G2 : Hp) (P2 : Addr → Prop) (es acc : List D), WS X.K B G2 H2 P2 (σ.set k none ++ [some (.ref L)]) ((δ.set k none).set j (some (.own es)) ++ [some (.own acc)]) ∧ (∀ a o, G1 a = some o → G2 a = some o) ∧ (∀ a, P1 a → P2 a) ∧ acc.length ≤ i ∧ es.length ≤ sizeLine ∧ dPops j k te (δ.set k none) (items.drop i) es acc fun r => Dd.rt (.lst r))
        ⟨G1, P1, ds, [], w2, fun _ _ h => h, fun _ h => h, Nat.le_refl _, zx0, by simpa using q1⟩ (fun i H2 _ ⟨G2, P2, es, acc, ww, gg, pp, _⟩ => gp G2 H2 P2 ww.ok gg) ?_ ?_
      · rintro i x H2 H2' hi ⟨G2, P2, es, acc, ww, gg, pp, la, le, q2⟩ y
        obtain ⟨G3, d, s3, ok3, e3, r3⟩ := yl i x H2 H2' G2 P2 hi ww.ok gg pp y
        have hdr : items.drop i = d :: items.drop (i + 1) := by
          rw [List.drop_eq_getElem_cons hi]
          rw [List.getElem?_eq_getElem hi] at e3
          rw [Option.some.inj e3]
        rw [hdr] at q2
        unfold dPops at q2
        have w3 := ww.step s3 ok3
        have w4 := w3.setL r3 k
        have jl2 : j < ((δ.set k none).set j (some (SV.own es))).length := by rw [List.length_set, List.length_set]; exact jl
        have hdj : (((δ.set k none).set j (some (SV.own es))).set k (some (.val d)))[j]? = some (some (.own es)) := by
          rw [List.getElem?_set_ne (fun z => hjk z.symm), List.getElem?_set_self (by rw [List.length_set]; exact jl)]
        refine ⟨by show ((σ.set k none).set k (some x)).set k none = σ.set k none; rw [List.set_set, List.set_set], ?_⟩
        have w4l := w4.less
        obtain ⟨v2, ev, l2, xs, rfl, hx, rl, gx, px, bx, zx⟩ := w4l.sl j _ hdj
        obtain ⟨G0, w0, gg0⟩ := w4l.view
        show tBM X.K "list" rPopAt (tVar j) (tCons (lift X.K B te) tNil) ((σ.set k none).set k (some x)) H2' _
        refine ⟨_, ev, .inl ⟨rfl, xs, .inl (.inl hx)⟩, G0, P2, _, _, w0, q2, fun v G5 H5 P5 dv s5 ok5 r5 ⟨m, dm, em, hm, q5⟩ => ?_⟩
        subst em
        cases r5
        obtain ⟨s6, ok6⟩ := unview w4l.ok gg0 s5 ok5
        have w5 := w4.step s6 ok6
        obtain ⟨yv, hy, ry⟩ := (s6.repL rl).get hm
        have hml : m < xs.length := (List.getElem?_eq_some_iff.mp hy).1
        have line : sizeLine < 2 ^ 62 := by rw [sizeLine_eq]; decide
        have lx : xs.length = es.length := rl.length
        refine ⟨l2, xs, (m : Int), m, yv, rfl, rfl, s6.hh _ _ hx px, by omega, by omega, ix_nat hml, hy, ?_⟩
        have evx : ((σ.set k none).set k (some x) ++ [some (.ref L)])[j]? = some (some (.ref l2)) := by
          rw [List.getElem?_append_left (List.getElem?_eq_some_iff.mp ev).1]
          exact ev
        have hdx : (((δ.set k none).set j (some (SV.own es))).set k (some (.val d)) ++ [some (.own acc)])[j]? = some (some (.own es)) := by
          rw [List.getElem?_append_left (List.getElem?_eq_some_iff.mp hdj).1]
          exact hdj
        have le2 : (es.eraseIdx m).length ≤ sizeLine := Nat.le_trans (List.length_eraseIdx_le _ _) le
        have w6 := own_end w5 hdx evx ((s6.repL rl).erase m) le2
        rw [List.set_append_left _ _ (List.getElem?_eq_some_iff.mp hdj).1] at w6
        have e6 := w6.less.len
        obtain ⟨v7, ev7, L7, accs, rfl, h7, r7, g7, p7, b7, z7⟩ := w6.sl _ _ (last_get _ _)
        have hz := wk.line
        have evn := ev7
        rw [e6, last_get] at ev7
        cases ev7
        refine ⟨accs, h7, by rw [r7.length]; omega, G3, P5, es.eraseIdx m, acc ++ [dm], ?_, fun a o z => s3.gg a o (gg a o z), fun a z => s6.pp a (s3.pp a (pp a z)), by rw [List.length_append]; simp; omega, le2, q5⟩
        have w7 := own_end (i := ((((δ.set k none).set j (some (SV.own es))).set k (some (.val d))).set j (some (.own (es.eraseIdx m)))).length) (ds := acc) (es := acc ++ [dm]) w6 (last_get _ _) evn (r7.append (.cons ry .nil)) (by rw [List.length_append]; simp; omega)
        rw [last_set] at w7
        have w8 := w7.unsetL k
        have eσ : ((σ.set k none).set k (some x)).set k none = σ.set k none := by rw [List.set_set, List.set_set]
        have eδ : ((((δ.set k none).set j (some (SV.own es))).set k (some (.val d))).set j (some (.own (es.eraseIdx m)))).set k none = (δ.set k none).set j (some (.own (es.eraseIdx m))) := by
          refine List.ext_getElem? fun i => ?_
          by_cases h1 : k = i
          · subst h1
            by_cases hk : k < δ.length
            · rw [List.getElem?_set_self (by simpa using hk), List.getElem?_set_ne hjk, List.getElem?_set_self (by simpa using hk)]
            · rw [List.getElem?_eq_none (by simpa using hk), List.getElem?_eq_none (by simpa using hk)]
          · rw [List.getElem?_set_ne h1]
            by_cases h2 : j = i
            · subst h2
              rw [List.getElem?_set_self (by simpa using jl), List.getElem?_set_self (by simpa using jl)]
            · rw [List.getElem?_set_ne h2, List.getElem?_set_ne h1, List.getElem?_set_ne h2, List.getElem?_set_ne h2]
        rw [eσ, eδ] at w8
        exact w8
      · rintro H2 ⟨G2, P2, es, acc, ww, gg, pp, la, le, q2⟩
        rw [List.drop_length] at q2
        unfold dPops at q2
        obtain ⟨G5, w5, gg5⟩ := ww.view
        obtain ⟨v, ev, r⟩ := w5.sl δ.length (.val (.lst acc)) (by
          rw [view_get, List.getElem?_append_right (by rw [List.length_set, List.length_set]; exact Nat.le_refl _), List.length_set, List.length_set, Nat.sub_self]
          rfl)
        rw [List.getElem?_append_right (by rw [List.length_set]; omega), List.length_set, lenσ, Nat.sub_self] at ev
        cases ev
        exact kk.rt _ _ _ _ _ w5.ok w5.since r q2
    · exact q.elim
end
end FG

/-! FT: sorted(set(xs)), xs a list of ints; list(range(..)); repr of an int, of None. -/
namespace FG
open PySem PySem.Spec PyProof.Rows L2
section
variable {Pr : Program} {wd : World} {Ar : Around} {Er : Value → Shared → Prop} {sh : Shared}
/-- the new set, empty -/
abbrev set0 (wd : World) : Obj := { cls := .type "set", dict := none, data := .set #[] 0 (.fresh 0 0 (!wd.params.followText "set-order")) }
abbrev heap0 (wd : World) (sh : Shared) : Heap := sh.heap.push (set0 wd)
/-- what making it leaves -/
def setMade (wd : World) (sh : Shared) (ks : List Int) : Value → Shared → Prop := fun r s3 => r = .none ∧ ∃ hp tk c, s3 = { sh with heap := hp, toks := tk } ∧ SetR wd hp sh.heap.objs.size (fun j => decide (j ∈ ks)) c ∧ c ≤ ks.length ∧ (∀ b o, sh.heap.get? b = some o → hp.get? b = some o)
theorem set_of_ints {src : Addr} {arr : Array Value} (ks : List Int) {Qr : Value → Shared → Prop} (hn : Ar.handled = none) (hs : sh.heap.IsList src arr) (hk : IntsAre arr.toList ks) (room : ks.length + 1 < scanBound)
    (fin : ∀ (hp : Heap) (tk c : Nat), SetR wd hp sh.heap.objs.size (fun j => decide (j ∈ ks)) c → c ≤ ks.length → (∀ b o, sh.heap.get? b = some o → hp.get? b = some o) → Qr (.ref sh.heap.objs.size) { sh with heap := hp, toks := tk }) :
    wpAny (model Pr wd) Ar (call (.type "set") [.ref src]) Qr Er sh := by
  have lenA : arr.size = ks.length := by
    have z := IntsAre.length hk
    rwa [Array.length_toList] at z
  obtain ⟨c0, tl0, mro0⟩ := F.called_set.mro
  have made0 := F.called_set.made
  have sub0 := F.called_set.sub
  refine wpAny_call (codeAny_of_tree ?_)
  show wpAny _ _ (callAny (.type "set") _) _ _ _
  refine wpAny_pure ⟨Code.quiet_builtin _ (by decide +kernel), codeAny_builtin F.entry_type_call ?_⟩
  rw [Around.under_plain (weight_type_call_type "set" [.ref src] []) rfl]
  have nt0 := F.called_set.notType
  have cc0 := F.called_set.canCreate
  have tc0 := F.typeCall_set_1 (.ref src)
  repeat (any_goals (first | assumption | wp_step))
  have born : (heap0 wd sh).get? sh.heap.objs.size = some (set0 wd) := Heap.get?_push_size _ rfl
  refine codeAny_mono (code_set_led1 (.ref src) (E := Er) (Q₁ := fun ob s2 => ob = .ref sh.heap.objs.size ∧ s2 = { sh with heap := heap0 wd sh }) ⟨rfl, rfl⟩) fun rr s2 hr => ?_
  rcases rr with e0 | fl0
  · exact hr
  cases fl0 with
  | ret ob =>
    obtain ⟨rfl, rfl⟩ := hr
    have tyS : Shared.TypeIs { sh with heap := heap0 wd sh } (.ref sh.heap.objs.size) "set" := ⟨_, born, rfl⟩
    have li0 := F.called_set.init.lookup
    have bi0 := F.called_set.init.bind (.ref sh.heap.objs.size)
    repeat (any_goals (first | assumption | wp_step))
    refine codeAny_mono (codeAny_call_builtin (R := wants (setMade wd sh ks) Er) F.called_set.init.plain F.entry_set_init (check_set_init_1 tyS ?_)) fun r3 s3 h3 => ?_
    · obtain ⟨ol, hol, hcl, nl, hdl⟩ := hs
      obtain ⟨ocls, odict, odata, oslots⟩ := ol
      simp only at hcl hdl
      subst hcl; subst hdl
      have still : (heap0 wd sh).get? src = some { cls := .type "list", dict := odict, data := .seq arr nl, slots := oslots } := Heap.get?_push_of_some _ hol
      have no1 := F.sub_list_set
      have no2 := F.sub_list_frozenset
      have no3 : (Value.type "list" == Value.type "dict") = false := by decide
      have lst1 : (heap0 wd sh).IsList src arr := ⟨_, still, rfl, nl, rfl⟩
      unfold Builtin.«set.__init__» noKeywords Builtin.Frozenset.updateFrom
      generalize hPI : pyIter = PI
      wp_walk
      subst hPI
      refine wpAny_pyIter_list lst1 ?_
      refine wpAny_bind (wpAny_runValue ?_)
      have srcL : src < sh.heap.objs.size := Heap.lt_size hol
      have hn3 : Ar.in1.in1.in1.handled = none := by simp [hn]
      have sz1 : (heap0 wd sh).objs.size = sh.heap.objs.size + 1 := Heap.size_push ..
      have apart : src ≠ (heap0 wd sh).objs.size := by rw [sz1]; exact Nat.ne_of_lt (Nat.lt_succ_of_lt srcL)
      have notIn : sh.heap.objs.size ∉ [(heap0 wd sh).objs.size, src] := by
        rw [sz1]
        simp only [List.mem_cons, List.not_mem_nil, or_false, not_or]
        exact ⟨Nat.ne_of_lt (Nat.lt_succ_self _), Nat.ne_of_gt srcL⟩
      have vals : ∀ (i : Nat) (v : Value), arr[i]? = some v → ∃ k t, ks[i]? = some k ∧ v = .int k t := fun i v hv => by
        have il : i < ks.length := by rw [← lenA]; exact (Array.getElem?_eq_some_iff.mp hv).1
        obtain ⟨t, e⟩ := PyProof.Rows.IntsAre.int_at hk i v (by rwa [Array.getElem?_toList])
        refine ⟨ks[i], t, List.getElem?_eq_getElem il, ?_⟩
        rw [e, List.getD_eq_getElem?_getD, List.getElem?_eq_getElem il] <;> rfl
      refine set_update_ints ((Walks.list hn3 _ src apart arr).toS) sh.heap.objs.size notIn ks lenA room vals (arr.size - 0) 0 _ (by omega) (Nat.zero_le _) ⟨⟨_, Heap.get?_push_size _ rfl, rfl, rfl⟩, (lst1.push _)⟩ ?first ?last
      case first =>
        have kept : ((heap0 wd sh).push { cls := .type "list_iterator", data := .fields #[.ref src, .int 0 0] }).get? sh.heap.objs.size = some (set0 wd) := Heap.get?_push_of_some _ born
        exact ⟨0, Nat.le_refl 0, setR_new_at kept⟩
      case last =>
        intro s4 c4 mv lc4 sr4
        obtain ⟨hp, g2, d2, tk2, os2⟩ := s4
        have eg : g2 = sh.gens := mv.gens
        have ed : d2 = sh.drawn := mv.drawn
        have eo : os2 = sh.os := mv.os
        subst eg; subst ed; subst eo
        show wpAny _ _ _ _ _ _
        refine wpAny_pure ?_
        show wpAny _ _ (ret Value.none) _ _ _
        rw [lenA] at lc4
        refine wpAny_pure ⟨rfl, hp, tk2, c4, rfl, sr4, lc4, fun b o e => ?_⟩
        have lb : b < sh.heap.objs.size := Heap.lt_size e
        refine mv.heap b o ?_ (Heap.get?_push_of_some _ (Heap.get?_push_of_some _ e))
        rw [sz1]
        simp only [List.mem_cons, List.not_mem_nil, or_false, not_or]
        exact ⟨Nat.ne_of_lt lb, Nat.ne_of_lt (Nat.lt_succ_of_lt lb)⟩
    · rcases r3 with e3 | fl3
      · exact h3
      cases fl3 with
      | ret r =>
        obtain ⟨rfl, hp, tk, c, rfl, sr, lc, kp⟩ := h3
        repeat (any_goals (first | assumption | wp_step))
        exact fin _ _ _ sr lc kp
      | _ => exact h3.elim
  | _ => exact hr.elim
end
section
variable {X : Cx}
/-- set(xs), xs a list of ints -/
def rSetOfI (K : PySem.W.Frag) (w : World) : List V → Hp → VK → Prop := fun xs H Q => ∃ (l : Addr) (ns : List Int), xs = [V.ref l] ∧ SqL K H l (ns.map V.int) ∧ ns.length < 64 ∧ ∀ a c, H a = none → c < 64 → Q (.ref a) (upd H a (SetO w a (fun j => decide (j ∈ ns)) c))
theorem cr_setOfI (hc : X.calm = true) : CallR X (.type "set") (rSetOfI X.K X.w) := by
  intro pins s σ H xs us Q I r h
  obtain ⟨l, ns, rfl, hl, hf, q⟩ := h
  rw [Vals.ref1 r]
  obtain ⟨its, rv, pl, hz⟩ := I.list hl
  have hn : H s.heap.objs.size = none := I.hok.fresh (Nat.le_refl _)
  have sb : ns.length + 1 < scanBound := Nat.lt_of_lt_of_le (Nat.succ_lt_succ hf) (by decide)
  refine set_of_ints (Pr := X.prog) (wd := X.w) ns (I.ok.hd hc) pl.isList (by simpa using ints_of_vals rv) sb fun h' tk c R lc k => ?_
  exact ⟨.ref s.heap.objs.size, upd H s.heap.objs.size (SetO X.w s.heap.objs.size (fun j => decide (j ∈ ns)) c), I.laid (t' := tk) k (Nat.le_refl _) (setO_new R), rfl, q _ c hn (by omega)⟩
end

theorem b_set : bootBuiltins "set" = some (.type "set") := by decide +kernel
/-! ### sorted(set(e)) -/
def dSortSet (ta : DT) : DT := fun δ Q => ta δ fun x => match x with
  | .lst ds => ∃ ns, D.asInts ds = some ns ∧ ns.length < 64 ∧ ∀ ms : List Int, ms.Pairwise (· < ·) → (∀ k, k ∈ ms ↔ k ∈ ns) → Q (.lst (ms.map D.int))
  | _ => False
section
variable {X : Cx} {B : Base} {e : Expr} {ta : DT} {p p2 pos pos2 : Pos}
theorem de_sortSet (hc : X.calm = true) (hg : Gl X "sorted") (hm : X.mg "sorted" = none) (hv : bootBuiltins "sorted" = some (.builtin "sorted")) (hg2 : Gl X "set") (hm2 : X.mg "set" = none) (hv2 : bootBuiltins "set" = some (.type "set")) (he : DE X B e ta)
    (h1 : starEach [.Call (.Name "set" p2) [e] [] pos2] X.env = (false, eval (.Call (.Name "set" p2) [e] [] pos2) X.env) :: starEach [] X.env := by rfl) (h2 : (backTo pos (starEach [] X.env)).any (·.1) = false := by rfl)
    (h3 : starEach [e] X.env = (false, eval e X.env) :: starEach [] X.env := by rfl) (h4 : (backTo pos2 (starEach [] X.env)).any (·.1) = false := by rfl) :
    DE X B (.Call (.Name "sorted" p) [.Call (.Name "set" p2) [e] [] pos2] [] pos) (dSortSet ta) :=
  (pe_callB (cr_sortedSet hc) hg hm hv (pa_cons (pe_callTy (cr_setOfI hc) hg2 hm2 hv2 (pa_cons he pa_nil h3) (by decide) (by decide) h3 h4) pa_nil h1) (by decide) (by decide) h1 h2).mono fun σ H Q q => by
    obtain ⟨G, P, δ, Qd, w, q, k⟩ := q
    refine ⟨G, P, δ, _, w, q, fun v G1 H1 P1 d s1 ok1 r1 q1 => ?_⟩
    cases r1 with
    | @lst a xs ds g1 g2 g3 =>
      obtain ⟨ns, e, hn, q1⟩ := q1
      rw [of_asInts e] at g2
      refine ⟨a, ns, rfl, by rw [← RepL.of_ints g2]; exact .inl (.inl (ok1.gh _ _ g1)), hn, fun b c hb h64 => ?_⟩
      obtain ⟨s2, ok2⟩ := Stp.laid (o := SetO X.w b (fun j => decide (j ∈ ns)) c) ok1 hb
      refine ⟨b, _, c, rfl, upd_same, h64, fun ms z pw mem hl hz => ?_⟩
      refine (k.step (s1.trans s2)).new ok2 hz (.newLst ok2 hz RepL.ints (by rw [List.length_map, sizeLine_eq]; omega)) (q1 ms pw fun j => ?_)
      rw [mem j]
      exact decide_eq_true_iff
    | _ => exact q1.elim
end

/-! ### list(range(..)) -/
def rgD (a b : Int) : List D := (List.range (b - a).toNat).map fun (i : Nat) => D.int (a + i)
theorem rg_rep {K : PySem.W.Frag} {G : Hp} {P : Addr → Prop} (a b : Int) : RepL K G P (rgV a b) (rgD a b) := by
  have e1 : rgV a b = ((List.range (b - a).toNat).map fun (i : Nat) => a + (i : Int)).map V.int := by unfold rgV; rw [List.map_map]; rfl
  have e2 : rgD a b = ((List.range (b - a).toNat).map fun (i : Nat) => a + (i : Int)).map D.int := by unfold rgD; rw [List.map_map]; rfl
  rw [e1, e2]
  exact RepL.ints
def dListRg1 (ta : DT) : DT := fun δ Q => ta δ fun x => match x with
  | .int n => n ≤ 16777216 ∧ 0 ≤ n ∧ Q (.lst (rgD 0 n))
  | _ => False
def dListRg2 (ta tb : DT) : DT := fun δ Q => ta δ fun x => tb δ fun y => match x, y with
  | .int i, .int j => RgOk i j ∧ Q (.lst (rgD i j))
  | _, _ => False
section
variable {X : Cx} {B : Base} {e a b : Expr} {ta tb : DT} {p p2 pos pos2 : Pos}
theorem de_listRg1 (hc : X.calm = true) (hg : Gl X "list") (hm : X.mg "list" = none) (hg2 : Gl X "range") (hm2 : X.mg "range" = none) (ha : DE X B a ta)
    (h1 : starEach [.Call (.Name "range" p2) [a] [] pos2] X.env = (false, eval (.Call (.Name "range" p2) [a] [] pos2) X.env) :: starEach [] X.env := by rfl) (h2 : starEach [a] X.env = (false, eval a X.env) :: starEach [] X.env := by rfl) :
    DE X B (.Call (.Name "list" p) [.Call (.Name "range" p2) [a] [] pos2] [] pos) (dListRg1 ta) := (pe_listRg hc hg hm (prg_1 hg2 hm2 ha h2) h1).mono fun σ H Q q => by
    obtain ⟨G, P, δ, Qd, w, q, k⟩ := q
    refine ⟨G, P, δ, _, w, q, fun v G1 H1 P1 d s1 ok1 r1 q1 => ?_⟩
    cases r1 with
    | int n =>
      obtain ⟨b1, b2, q1⟩ := q1
      refine ⟨n, rfl, RgOk.of_le (by omega) b1 (by omega) b2, fun z hz => ?_⟩
      refine (k.step s1).new ok1 hz (.newLst ok1 hz (rg_rep 0 n) ?_) q1
      unfold rgD
      rw [List.length_map, List.length_range, sizeLine_eq]
      omega
    | _ => exact q1.elim
theorem de_listRg2 (hc : X.calm = true) (hg : Gl X "list") (hm : X.mg "list" = none) (hg2 : Gl X "range") (hm2 : X.mg "range" = none) (ha : DE X B a ta) (hb : DE X B b tb)
    (h1 : starEach [.Call (.Name "range" p2) [a, b] [] pos2] X.env = (false, eval (.Call (.Name "range" p2) [a, b] [] pos2) X.env) :: starEach [] X.env := by rfl) (h2 : starEach [a, b] X.env = (false, eval a X.env) :: starEach [b] X.env := by rfl) (h3 : starEach [b] X.env = (false, eval b X.env) :: starEach [] X.env := by rfl) (h4 : (backTo pos2 (starEach [b] X.env)).any (·.1) = false := by rfl) :
    DE X B (.Call (.Name "list" p) [.Call (.Name "range" p2) [a, b] [] pos2] [] pos) (dListRg2 ta tb) := (pe_listRg hc hg hm (prg_2 hg2 hm2 ha hb h2 h3 h4) h1).mono fun σ H Q q => by
    obtain ⟨G, P, δ, Qd, w, q, k⟩ := q
    refine ⟨G, P, δ, _, w, q, fun v G1 H1 P1 d s1 ok1 r1 q1 => ?_⟩
    refine ⟨G1, P1, δ, _, w.step s1 ok1, q1, fun u G2 H2 P2 d2 s2 ok2 r2 q2 => ?_⟩
    cases r1 with
    | int i =>
      cases r2 with
      | int j =>
        obtain ⟨rg, q2⟩ := q2
        refine ⟨i, j, rfl, rfl, rg, fun z hz => ?_⟩
        refine ((k.step s1).step s2).new ok2 hz (.newLst ok2 hz (rg_rep i j) ?_) q2
        unfold rgD
        rw [List.length_map, List.length_range, sizeLine_eq]
        exact rg.2.2.2.2
      | _ => exact q2.elim
    | _ => exact q2.elim
end

/-! ### a + b, a new list of one's own -/
def fCat (ta tb : DT) : DTF := fun δ Q => ta δ fun x => tb δ fun y => match x, y with
  | .lst xs, .lst ys => xs.length + ys.length ≤ sizeLine ∧ Q (xs ++ ys)
  | _, _ => False
section
variable {X : Cx} {B : Base} {a b : Expr} {ta tb : DT} {pos : Pos}
theorem df_cat (ha : DE X B a ta) (hb : DE X B b tb) : DF X B (.BinOp a .Add b pos) (fCat ta tb) := (pe_op op_cat ha hb).mono fun σ H Q q => by
  obtain ⟨G, P, δ, Qd, w, q, k⟩ := q
  refine ⟨G, P, δ, _, w, q, fun x G1 H1 P1 d1 s1 ok1 r1 q1 => ?_⟩
  refine ⟨G1, P1, δ, _, w.step s1 ok1, q1, fun y G2 H2 P2 d2 s2 ok2 r2 q2 => ?_⟩
  have r1 := s2.rep r1
  cases r1 with
  | lst g1 g2 g3 =>
    cases r2 with
    | lst j1 j2 j3 =>
      refine ⟨_, _, _, _, rfl, rfl, ok2.gh _ _ g1, ok2.gh _ _ j1, by rw [g2.length, j2.length]; exact q2.1, fun l hl => ?_⟩
      have s12 := s1.trans s2
      have hp0 : H l = none := by
        cases z : H l with
        | none => rfl
        | some o => exact absurd hl (s12.dm l (by rw [z]; simp))
      have gp : G2 l = none := by
        cases z : G2 l with
        | none => rfl
        | some o => rw [ok2.gh l o z] at hl; cases hl
      have np : ¬ P2 l := fun z => by
        obtain ⟨i, j, e, _⟩ := ok2.pt l z
        rw [e] at hl; cases hl
      obtain ⟨s3, ok3⟩ := s12.poke ok2 (o := .lst (_ ++ _)) hp0 gp np
      exact k l _ _ _ _ _ s3 ok3 hp0 upd_same (g2.append j2) gp np (by rw [List.length_append]; exact q2.1) q2.2
    | _ => exact q2.elim
  | _ => exact q2.elim
end
/-! ### repr, of plain values too -/
def fReprA : F1 := fun ds Q => match ds with
  | [.int i] => i.natAbs.log2 < 1920 ∧ Q (.str (toString i))
  | [.non] => Q (.str "None")
  | [.bl b] => Q (.str (if b then "True" else "False"))
  | ds => fRepr ds Q
section
variable {X : Cx}
theorem cr_reprI : CallR X (.builtin "repr") (fun xs H Q => ∃ i, xs = [.int i] ∧ i.natAbs.log2 < 1920 ∧ Q (.str (toString i)) H) := by
  intro pins s σ H xs us Q I r h
  obtain ⟨i, rfl, few, q⟩ := h
  obtain ⟨u, rfl, t, rfl⟩ := vals1 r
  exact PySem.P.repr_of_int few ⟨.str _, H, I.tok _, ⟨_, rfl⟩, q⟩
theorem cr_reprN : CallR X (.builtin "repr") (fun xs H Q => xs = [.non] ∧ Q (.str "None") H) := by
  intro pins s σ H xs us Q I r h
  obtain ⟨rfl, q⟩ := h
  obtain ⟨u, rfl, ru⟩ := vals1 r
  cases ru
  exact PySem.P.repr_of_none ⟨.str _, H, I.tok _, ⟨_, rfl⟩, q⟩
theorem cr_reprB : CallR X (.builtin "repr") (fun xs H Q => ∃ b, xs = [.bl b] ∧ Q (.str (if b then "True" else "False")) H) := by
  intro pins s σ H xs us Q I r h
  obtain ⟨b, rfl, q⟩ := h
  obtain ⟨u, rfl, ru⟩ := vals1 r
  cases ru
  exact PySem.P.repr_of_bool ⟨.str _, H, I.tok _, ⟨_, rfl⟩, q⟩
def rReprA (K : PySem.W.Frag) : List V → Hp → VK → Prop := fun xs H Q => (((∃ i, xs = [.int i] ∧ i.natAbs.log2 < 1920 ∧ Q (.str (toString i)) H) ∨ (xs = [.non] ∧ Q (.str "None") H)) ∨ (∃ b, xs = [.bl b] ∧ Q (.str (if b then "True" else "False")) H)) ∨ rReprD K xs H Q
theorem cr_reprA (hg : X.A.guards = some []) (hu : X.A.units + 64 < cLine) : CallR X (.builtin "repr") (rReprA X.K) := ((cr_reprI.or cr_reprN).or cr_reprB).or (cr_reprD hg hu)
theorem cd_reprA {K : PySem.W.Frag} : CallD K (rReprA K) fReprA := by
  intro G H P vs ds Qd Q w r q k
  unfold fReprA at q
  split at q
  · cases r with | cons r1 r2 => cases r2; cases r1; exact .inl (.inl (.inl ⟨_, rfl, q.1, k.here w (.str _) q.2⟩))
  · cases r with | cons r1 r2 => cases r2; cases r1; exact .inl (.inl (.inr ⟨rfl, k.here w (.str _) q⟩))
  · cases r with | cons r1 r2 => cases r2; cases r1; exact .inl (.inr ⟨_, rfl, k.here w (.str _) q⟩)
  · exact .inr (cd_repr G H P vs _ Qd Q w r q k)
end
end FG

/-! FU: C(*e), constants that hold empty tuples. -/
namespace FG
open PySem PySem.Spec PyProof.Rows L2
section
variable {X : Cx} {B : Base} {gp : Bool} {k : Nat} {f C : Addr} {T : DSp} {W : XW} {x : Str} {p sp_ pos : Pos} {e : Expr} {ta : DT} {te : TE}
theorem pe_makeσS {sp : Sp} {E : L2.St → XK} (M : Mk X.K C f) (F : FnP gp X.prog X.w X.K X.mg X.base k f sp) (hgd : gp = true → X.A.guards = some []) (hr : Room (k + 1) X.A) (hg : Gl X x) (hm : X.mg x = some (.ref C))
    (hx : ∀ σ, PassesAt (L2.CX X.prog X.w) X σ (E σ)) (he : PE X e te) (hd : (x == ("__debug__" : Str)) = false) (hst : starEach [.Starred e sp_] X.env = [(true, eval e X.env)]) :
    PE X (.Call (.Name x p) [.Starred e sp_] [] pos) (fun σ H Q => te σ H fun y H1 => ∃ a xs, y = V.ref a ∧ (SqT X.K H1 a xs ∨ SqL X.K H1 a xs) ∧ ∀ x dx, H1 x = none → H1 dx = none → dx ≠ x → sp (.ref x :: xs) (upd (upd H1 dx (.own x)) x (.ins C dx [])) (fun v H2 => v = .non ∧ Q (.ref x) H2) (E σ)) := by
  constructor
  intro pins s σ H Q I h
  apply wpAny_Call_Name_kw
  apply ld_glob I hg hm _ hd
  refine PySem.W.callWith_S (h₀ := X.base) I.ok.mod.kin M.kp (thn (he.run pins s σ H _ I h) ?_) hst
  rintro v s1 ⟨y, H1, I1, ry, a, xs, rfl, hxs, q⟩
  obtain rfl : v = Value.ref a := ry
  exact StX.star_any I1 hxs fun us s2 I2 rv => ⟨I2.kIn, run_makeσ (us := us) M F hgd hr (hx σ) I2 rv q⟩
/-- C(*e) -/
def dMakeS (T : DSp) (W : XW) (ta : DT) : DT := fun δ Q => ta δ fun x => match x with
  | .tup ds => T ds Q fun e => W e δ
  | .lst ds => T ds Q fun e => W e δ
  | _ => False
theorem de_makeS (M : Mk X.K C f) (F : FnI gp X.prog X.w X.K X.mg X.base k f C T) (hgd : gp = true → X.A.guards = some []) (hr : Room (k + 1) X.A) (hg : Gl X x) (hm : X.mg x = some (.ref C)) (hw : Wish X B W) (ha : DE X B e ta) (hd : (x == ("__debug__" : Str)) = false := by decide)
    (hst : starEach [.Starred e sp_] X.env = [(true, eval e X.env)] := by rfl) : DE X B (.Call (.Name x p) [.Starred e sp_] [] pos) (dMakeS T W ta) := by
  obtain ⟨Wx, tk, hW⟩ := hw.ex
  refine (pe_makeσS (E := WE Wx) M F hgd hr hg hm (fun σ => passAt tk σ) ha hd hst).mono fun σ H Q q => ?_
  obtain ⟨G, P, δ, Qd, w, q, kk⟩ := q
  refine ⟨G, P, δ, _, w, q, fun v G1 H1 P1 d s1 ok1 r1 q1 => ?_⟩
  cases r1 with
  | tup a1 a2 a3 => exact ⟨_, _, rfl, .inl (sqt_mono ok1.gh a1), fun y dy ny ndy ne => spI_lift hW (w.step s1 ok1) a2 q1 (kk.step s1) ny ndy ne⟩
  | lst a1 a2 a3 => exact ⟨_, _, rfl, .inr (.inl (.inl (ok1.gh _ _ a1))), fun y dy ny ndy ne => spI_lift hW (w.step s1 ok1) a2 q1 (kk.step s1) ny ndy ne⟩
  | _ => exact q1.elim
end
/-! ### a tuple of the module that holds empty tuples and ints -/
def nilB (K : PySem.W.Frag) (a : Addr) : Bool := match K.lookup a with
  | some ⟨.type c, _, .seq its _, _⟩ => decide (c = "tuple") && decide (its.size = 0)
  | _ => false
theorem nilB_ok {K : PySem.W.Frag} {a : Addr} (h : nilB K a = true) (H : Hp) : SqT K H a [] := by
  unfold nilB at h
  split at h
  · rename_i c od its n osl q
    obtain ⟨h1, h2⟩ := He.ba h
    have e : its = #[] := Array.eq_empty_of_size_eq_zero (of_decide_eq_true h2)
    refine .inr ⟨_, its, n, q, congrArg Value.type (of_decide_eq_true h1), rfl, by rw [of_decide_eq_true h2]; exact Nat.zero_le _, ?_⟩
    rw [e]
    exact .nil
  · cases h
/-- where the i-th of it stands -/
def itemAd (K : PySem.W.Frag) (x : Str) (i : Nat) : Addr := match K.lookup (He.ga K x) with
  | some ⟨_, _, .seq its _, _⟩ => match its[i]? with
    | some (.ref a) => a
    | _ => 0
  | _ => 0
/-- ((), (), i, j) -/
def nil2B (K : PySem.W.Frag) (x : Str) (i j : Int) : Bool := (He.Fa.glo x).ok K && (He.tupB K x [.adr fun K => itemAd K x 0, .adr fun K => itemAd K x 1, .int i, .int j] && (nilB K (itemAd K x 0) && nilB K (itemAd K x 1)))
theorem con_nil2 {K : PySem.W.Frag} {h : Heap} {mg : Str → Option Value} {x : Str} (X : K.In h) (G : h.Ns mainGlobals mg) {i j : Int} (c : nil2B K x i j = true) : Con1 K mg x (.tup [.tup [], .tup [], .int i, .int j]) := by
  obtain ⟨c1, c⟩ := He.ba c
  obtain ⟨c2, c⟩ := He.ba c
  obtain ⟨c3, c4⟩ := He.ba c
  refine ⟨_, .ref (He.ga K x), He.glo_ok X G c1, rfl, fun G' P' => .tup (xs := [.ref (itemAd K x 0), .ref (itemAd K x 1), .int i, .int j]) (He.tupB_ok c2 G') ?_ (by rw [sizeLine_eq]; show 4 ≤ 16777216; decide)⟩
  exact .cons (.tup (nilB_ok c3 G') .nil (Nat.zero_le _)) (.cons (.tup (nilB_ok c4 G') .nil (Nat.zero_le _)) (.cons (.int i) (.cons (.int j) .nil)))
end FG

/-! FV: x != y by an own __eq__. -/
namespace FG
open PySem PySem.Spec PyProof.Rows L2 PySem.W
section
variable {prog : Program} {w : World} {A : Around} {E : Value → Shared → Prop} {s : Shared} {K : Frag} {x C L f : Addr} {h₀ : Heap} {m : Str → Option Value} {ox : Obj} {od : Option Obj} {b : Value}
/-- what the own == gives: a bool -/
def BoolBack (Q : Value → Shared → Prop) (v : Value) (s' : Shared) : Prop := ∃ c, v = .bool c ∧ Q (.bool (!c)) s'
theorem entry_ne {Q : Fin → Shared → Prop} (hu : A.units < cLine) (X : K.In s.heap) (I : InstAt s.heap x ox C od) (he : findIn K (.ref C) "__eq__" = some (some (.ref f))) (hf : isFn K (.ref f) = true)
    (h : wpAny (model prog w) A (call (.ref f) [.ref x, b]) (fun v s' => ∃ c, v = .bool c ∧ Q (.done (.ret (.bool (!c)))) s') E s) : wpAny (model prog w) A (Builtin.«object.__ne__» ⟨[.ref x, b], []⟩) Q E s := by
  unfold Builtin.«object.__ne__»
  have key : wpAny (model prog w) A (callSpecialIfBound? (.ref x) "__eq__" [b]) (fun r s' => ∃ c, r = some (.bool c) ∧ Q (.done (.ret (.bool (!c)))) s') E s :=
    ifBound_K X I he hf (wpAny_mono h (fun v s' ⟨c, e, q⟩ => ⟨c, by rw [e], q⟩) fun _ _ e => e)
  repeat (first | with_reducible refine wpAny_cRoomFor hu ?_ | (refine wpAny_bind (wpAny_mono key (fun r s' ⟨c, e, q⟩ => ?_) fun _ _ e => e); subst e) | wp_step)
  exact q
theorem ifBound_objNe {M : Model} {args : List Value} {Q : Option Value → Shared → Prop} (X : K.In s.heap) (I : InstAt s.heap x ox C od) (hs : findIn K (.ref C) "__ne__" = some (some (.builtin "object.__ne__")))
    (h : wpAny M A (call (.builtin "object.__ne__") (.ref x :: args)) (fun v => Q (some v)) E s) : wpAny M A (callSpecialIfBound? (.ref x) "__ne__" args) Q E s := by
  simp only [callSpecialIfBound?, bindSpecialIfBound?]
  refine wpAny_holding (wpAny_bind (wpAny_bind (wpAny_bind (I.type.here ((looks_findIn X hs).here ?_)))))
  refine wpAny_bind (wpAny_askSetting (wpAny_ite ?_))
  have done : wpAny M A (call (.builtin "object.__ne__") ([.ref x] ++ args) >>= fun v => pure (some v)) Q E s := wpAny_bind (wpAny_mono h (fun v s' z => wpAny_pure z) fun _ _ z => z)
  split
  · exact wpAny_bind (wpAny_of_eq (F.cmp_object.ne.bind _) (wpAny_pure (by exact done)))
  · exact wpAny_tryCatch (wpAny_bind (wpAny_of_eq (F.cmp_object.ne.bind _) (wpAny_pure (by exact done))))
/-- two instances of a class with an own == and no own != -/
theorem ne_own {y : Addr} {oy : Obj} {oe : Option Obj} {Q : Value → Shared → Prop} (hu : A.units + 1 < cLine) (X : K.In s.heap) (I : InstAt s.heap x ox C od) (J : InstAt s.heap y oy C oe) (hm : mroIn K C (.type "object") = some true)
    (hn : findIn K (.ref C) "__ne__" = some (some (.builtin "object.__ne__"))) (he : findIn K (.ref C) "__eq__" = some (some (.ref f))) (hf : isFn K (.ref f) = true)
    (h : wpAny (model prog w) A.in1 (call (.ref f) [.ref x, .ref y]) (fun v s' => ∃ c, v = .bool c ∧ Q (.bool (!c)) s') E s) : wpAny (model prog w) A (richCompare .NotEq (.ref x) (.ref y)) Q E s := by
  have one : wpAny (model prog w) A (tryCompare (.ref x) "__ne__" (.ref y)) (fun r s' => ∃ c, r = some (.bool c) ∧ Q (.bool c) s') E s := by
    unfold tryCompare
    refine wpAny_bind (ifBound_objNe X I hn (wpAny_call (codeAny_call_builtin F.cmp_object.ne.plain F.cmpEntry_ne (check_slot F.cmpKind_ne F.cmpSplit_ne (I.type.andThen (looks_mroIn X hm)) (F.cmpArgs_ne _ _) (entry_ne (A := A.in1) (by show A.units + 1 < cLine; exact hu) X I he hf ?_)))))
    refine wpAny_mono h (fun v s' ⟨c, e, q⟩ => ⟨c, e, ?_⟩) fun _ _ z => z
    exact wpAny_pure ⟨_, rfl, q⟩
  unfold richCompare
  simp only [oneThing_ref]
  refine wpAny_holding (wpAny_bind (wpAny_cRoomFor (by omega) ?_))
  refine wpAny_bind (I.type.here (wpAny_bind (J.type.here ?_)))
  split
  · rename_i q
    simp at q
  · refine wpAny_bind (wpAny_pure ?_)
    simp only [Bool.false_eq_true, if_false]
    refine wpAny_bind (wpAny_mono one (fun r s' z => ?_) fun _ _ z => z)
    obtain ⟨c, rfl, hq⟩ := z
    exact wpAny_pure hq
end
end FG

/-! FW: generator defs, told by trees; list(f(..)). -/
namespace FG
open PySem PySem.Spec PyProof.Rows L2 GenW

/-! ### if in a generator's body -/
section
variable {X : Cx}
def tGIf (c : TT) (t u : TGn) : TGn := fun D ys σ H => c σ H fun b H1 => if b = true then t D ys σ H1 else u D ys σ H1
theorem gs_if {c : Expr} {sa sb : List Stmt} {pos : Pos} {tc : TT} {t u : TGn} (hc : PT X c tc) (ha : GSs X sa t) (hb : GSs X sb u) : GS X (.If c sa sb pos) (tGIf tc t u) := by
  refine ⟨fun A S ip R n ys s₀ cd fs K J gd lv s σ H D g hn k hI ht => ?_⟩
  rw [exec_If]
  obtain ⟨acc, cc, r, I⟩ := hI
  refine seg_bind_wrap (m := standAt pos) (wpAny_standAt ?_)
  refine seg_bind_wrap ?_
  rw [g.over]
  refine wpAny_mono (hc.run _ s σ H _ I ht) (fun b s' hb' => ?_) fun x s' hx => k.exc n s₀ x s' hx
  obtain ⟨H2, I2, q2⟩ := hb'
  cases b with
  | true => exact ha.run A S ip R n ys s₀ cd fs K J gd lv s' σ H2 D g hn k ⟨acc, cc, r, I2⟩ q2
  | false => exact hb.run A S ip R n ys s₀ cd fs K J gd lv s' σ H2 D g hn k ⟨acc, cc, r, I2⟩ q2
theorem _root_.L2.GS.mono {s : Stmt} {t u : TGn} (h : GS X s t) (i : ∀ D ys σ H, u D ys σ H → t D ys σ H) : GS X s u :=
  ⟨fun A S ip R n ys s₀ cd fs K J gd lv s σ H D g hn k hI ht => h.run A S ip R n ys s₀ cd fs K J gd lv s σ H D g hn k hI (i D ys σ H ht)⟩
theorem _root_.L2.GSs.mono {s : List Stmt} {t u : TGn} (h : GSs X s t) (i : ∀ D ys σ H, u D ys σ H → t D ys σ H) : GSs X s u :=
  ⟨fun A S ip R n ys s₀ cd fs K J gd lv s σ H D g hn k hI ht => h.run A S ip R n ys s₀ cd fs K J gd lv s σ H D g hn k hI (i D ys σ H ht)⟩
end

/-! ### by trees -/
/-- what is wanted behind a statement of a generator; the list: what is out so far -/
structure DGEnds where
  nx : List D → DSt → Prop
  bk : List D → DSt → Prop := fun _ _ => False
  ct : List D → DSt → Prop := fun _ _ => False
abbrev DGn := DGEnds → List D → DSt → Prop
def DGEnds.at (D : DGEnds) (ys : List FG.D) : DEnds := { nx := D.nx ys, rt := fun _ => False, bk := D.bk ys, ct := D.ct ys }
structure KGS (K : PySem.W.Frag) (B : Base) (G0 : Hp) (P0 : Addr → Prop) (Dd : DGEnds) (D : GEnds) : Prop where
  nx : ∀ ys dys σ H G P δ, WS K B G H P σ δ → (∀ a o, G0 a = some o → G a = some o) → (∀ a, P0 a → P a) → RepL K G P ys dys → Dd.nx dys δ → D.nx ys σ H
  bk : ∀ ys dys σ H G P δ, WS K B G H P σ δ → (∀ a o, G0 a = some o → G a = some o) → (∀ a, P0 a → P a) → RepL K G P ys dys → Dd.bk dys δ → D.bk ys σ H
  ct : ∀ ys dys σ H G P δ, WS K B G H P σ δ → (∀ a o, G0 a = some o → G a = some o) → (∀ a, P0 a → P a) → RepL K G P ys dys → Dd.ct dys δ → D.ct ys σ H
def liftN (K : PySem.W.Frag) (B : Base) (t : DGn) : TGn := fun D ys σ H => ∃ G P δ Dd dys, WS K B G H P σ δ ∧ RepL K G P ys dys ∧ t Dd dys δ ∧ KGS K B G P Dd D
abbrev NS (X : Cx) (B : Base) (s : Stmt) (t : DGn) : Prop := GS X s (liftN X.K B t)
abbrev NSs (X : Cx) (B : Base) (s : List Stmt) (t : DGn) : Prop := GSs X s (liftN X.K B t)
section
variable {K : PySem.W.Frag} {B : Base} {G H G' H' : Hp} {P P' : Addr → Prop} {Dd : DGEnds} {D : GEnds}
theorem KGS.step (k : KGS K B G P Dd D) (gg : ∀ a o, G a = some o → G' a = some o) (pp : ∀ a, P a → P' a) : KGS K B G' P' Dd D :=
  ⟨fun ys dys σ H G2 P2 δ w g p => k.nx ys dys σ H G2 P2 δ w (fun a o h => g a o (gg a o h)) (fun a h => p a (pp a h)), fun ys dys σ H G2 P2 δ w g p => k.bk ys dys σ H G2 P2 δ w (fun a o h => g a o (gg a o h)) (fun a h => p a (pp a h)),
    fun ys dys σ H G2 P2 δ w g p => k.ct ys dys σ H G2 P2 δ w (fun a o h => g a o (gg a o h)) (fun a h => p a (pp a h))⟩
end
/-- a statement that hands out nothing -/
def nPlain (t : DTS) : DGn := fun D ys δ => t (D.at ys) δ
def nNext : DGn := fun D ys δ => D.nx ys δ
def nSeq (t u : DGn) : DGn := fun D ys δ => t { D with nx := u D } ys δ
def nIf (c : DTT) (t u : DGn) : DGn := fun D ys δ => c (view δ) fun b => if b = true then t D ys δ else u D ys δ
def nYield (ta : DT) : DGn := fun D ys δ => ys.length < sizeLine ∧ ta δ fun d => D.nx (ys ++ [d]) δ
def nWh (tc : DTT) (tb : DGn) (D : DGEnds) : Nat → List FG.D → DSt → Prop
  | 0, _, _ => False
  | n + 1, ys, δ => tc (view δ) fun b => if b = true then tb { nx := nWh tc tb D n, ct := nWh tc tb D n, bk := D.nx } ys δ else D.nx ys δ
def nWhile (tc : DTT) (tb : DGn) : DGn := fun D ys δ => ∃ n, nWh tc tb D n ys δ
section
variable {X : Cx} {B : Base} {s : Stmt} {rest sa sb body : List Stmt} {e c : Expr} {ta : DT} {tc : DTT} {t u tb : DGn} {td : DTS} {pos yp : Pos}
theorem lift_plain {K : PySem.W.Frag} (D : GEnds) (ys : List V) (σ : L2.St) (H : Hp) (q : liftN K B (nPlain td) D ys σ H) : tPlain (liftS K B td) D ys σ H := by
  obtain ⟨G, P, δ, Dd, dys, w, r, q, k⟩ := q
  exact ⟨G, P, δ, _, w, q, ⟨fun σ' H' G' P' δ' w' g p q' => k.nx ys dys σ' H' G' P' δ' w' g p (r.mono g p) q', fun σ' H' G' P' δ' w' g p q' => k.bk ys dys σ' H' G' P' δ' w' g p (r.mono g p) q',
    fun σ' H' G' P' δ' w' g p q' => k.ct ys dys σ' H' G' P' δ' w' g p (r.mono g p) q', fun _ _ _ _ _ _ _ _ q' => q'.elim⟩⟩
theorem ns_plain (h : DS X B s td) : NS X B s (nPlain td) := (gs_ps h).mono fun D ys σ H q => lift_plain D ys σ H q
theorem nss_plain (h : DSs X B rest td) : NSs X B rest (nPlain td) := (gss_pss h).mono fun D ys σ H q => lift_plain D ys σ H q
theorem nss_nil : NSs X B [] nNext := gss_nil.mono fun D ys σ H q => by
  obtain ⟨G, P, δ, Dd, dys, w, r, q, k⟩ := q
  exact k.nx ys dys σ H G P δ w (fun _ _ h => h) (fun _ h => h) r q
theorem nss_cons (h1 : NS X B s t) (h2 : NSs X B rest u) : NSs X B (s :: rest) (nSeq t u) := (gss_cons h1 h2).mono fun D ys σ H q => by
  obtain ⟨G, P, δ, Dd, dys, w, r, q, k⟩ := q
  exact ⟨G, P, δ, { Dd with nx := u Dd }, dys, w, r, q, ⟨fun ys' dys' σ' H' G' P' δ' w' g p r' q' => ⟨G', P', δ', Dd, dys', w', r', q', k.step g p⟩, k.bk, k.ct⟩⟩
theorem nss_one (h1 : NS X B s t) : NSs X B [s] (nSeq t nNext) := nss_cons h1 nss_nil
theorem ns_if (hc : DTe X B c tc) (ha : NSs X B sa t) (hb : NSs X B sb u) : NS X B (.If c sa sb pos) (nIf tc t u) := (gs_if hc ha hb).mono fun D ys σ H q => by
  obtain ⟨G, P, δ, Dd, dys, w, r, q, k⟩ := q
  refine ⟨G, P, δ, _, w, q, fun b G1 H1 P1 s1 ok1 q1 => ?_⟩
  cases b with
  | true =>
    rw [if_pos rfl]
    exact ⟨G1, P1, δ, Dd, dys, w.step s1 ok1, s1.repL r, q1, k.step s1.gg s1.pp⟩
  | false =>
    rw [if_neg (Bool.false_ne_true)]
    exact ⟨G1, P1, δ, Dd, dys, w.step s1 ok1, s1.repL r, q1, k.step s1.gg s1.pp⟩
theorem ns_yield (he : DE X B e ta) (hco : X.env.scope.isCoroutine = false := by rfl) (hi : interactive X.env = false := by rfl) : NS X B (.Expr (.Yield (some e) yp) pos) (nYield ta) := (L2.gs_yield he hco hi).mono fun D ys σ H q => by
  obtain ⟨G, P, δ, Dd, dys, w, r, ⟨hl, q⟩, k⟩ := q
  refine ⟨by rw [r.length]; exact hl, G, P, δ, _, w, q, fun v G1 H1 P1 d s1 ok1 r1 q1 => ?_⟩
  exact k.nx _ _ σ H1 G1 P1 δ (w.step s1 ok1) s1.gg s1.pp ((s1.repL r).append (.cons r1 .nil)) q1
theorem ns_while (hp : PassesOwn (model X.prog X.w) X.A X.env X.xe) (hc : DTe X B c tc) (hb : NSs X B body tb) : NS X B (.While c body [] pos) (nWhile tc tb) := (gs_while hp hc hb).mono fun D ys σ H q => by
  obtain ⟨G, P, δ, Dd, dys, w, r, ⟨n, q⟩, k⟩ := q
  refine ⟨fun m ys σ H => ∃ G' P' δ dys, WS X.K B G' H P' σ δ ∧ RepL X.K G' P' ys dys ∧ (∀ a o, G a = some o → G' a = some o) ∧ (∀ a, P a → P' a) ∧ nWh tc tb Dd m dys δ, ⟨n, G, P, δ, dys, w, r, fun _ _ h => h, fun _ h => h, q⟩, ?_⟩
  rintro m ys σ H ⟨G2, P2, δ2, dys2, w2, r2, gg, pp, q2⟩
  cases m with
  | zero => unfold nWh at q2; exact q2.elim
  | succ m =>
    unfold nWh at q2
    refine ⟨G2, P2, δ2, _, w2, q2, fun b G3 H3 P3 s3 ok3 q3 => ?_⟩
    cases b with
    | false =>
      rw [if_neg (Bool.false_ne_true)]
      exact k.nx ys dys2 σ H3 G3 P3 δ2 (w2.step s3 ok3) (fun a o h => s3.gg a o (gg a o h)) (fun a h => s3.pp a (pp a h)) (s3.repL r2) q3
    | true =>
      rw [if_pos rfl]
      refine ⟨fun ys σ H => ∃ G' P' δ dys, WS X.K B G' H P' σ δ ∧ RepL X.K G' P' ys dys ∧ (∀ a o, G a = some o → G' a = some o) ∧ (∀ a, P a → P' a) ∧ nWh tc tb Dd m dys δ, fun ys' σ' H' h => ⟨m, Nat.lt_succ_self m, h⟩, ?_⟩
      have nxt : ∀ ys dys σ H G4 P4 δ, WS X.K B G4 H P4 σ δ → (∀ a o, G3 a = some o → G4 a = some o) → (∀ a, P3 a → P4 a) → RepL X.K G4 P4 ys dys → nWh tc tb Dd m dys δ → ∃ G' P' δ dys, WS X.K B G' H P' σ δ ∧ RepL X.K G' P' ys dys ∧ (∀ a o, G a = some o → G' a = some o) ∧ (∀ a, P a → P' a) ∧ nWh tc tb Dd m dys δ :=
        fun ys dys σ H G4 P4 δ w g p r q => ⟨G4, P4, δ, dys, w, r, fun a o h => g a o (s3.gg a o (gg a o h)), fun a h => p a (s3.pp a (pp a h)), q⟩
      refine ⟨G3, P3, δ2, _, dys2, w2.step s3 ok3, s3.repL r2, q3, ⟨nxt, ?_, nxt⟩⟩
      exact fun ys dys σ H G4 P4 δ w g p r q => k.nx ys dys σ H G4 P4 δ w (fun a o h => g a o (s3.gg a o (gg a o h))) (fun a h => p a (s3.pp a (pp a h))) r q
end

/-! ### the generator def, its call -/
abbrev GSp := List D → (List D → Prop) → Prop
def spG (K : PySem.W.Frag) (T : GSp) : SpG := fun vs H Q E => ∃ G P ds Qd, WOk G H P ∧ RepL K G P vs ds ∧ T ds Qd ∧ ∀ ys G' H' P' dys, Stp G H P G' H' P' → WOk G' H' P' → RepL K G' P' ys dys → Qd dys → Q ys H'
abbrev xNo : XK := fun _ _ _ => False
section
variable {P : Program} {w : World} {K : PySem.W.Frag} {mg : Str → Option Value} {base : Heap} {k : Nat} {f : Addr} {fd : FuncData} {x qual : Str} {params : Arguments} {body : List Stmt} {scope : Scope} {dvs0 : List V} {kws : List (Str × V)} {N ps : List Str} {T : GSp} {t : DGn}
/-- it raises nothing -/
theorem dgfn (F : FunD K x qual params body scope dvs0 kws f fd) (S : GScope N ps scope) (hT : ∀ ds Q, T ds Q → ds.length = ps.length)
    (hbody : ∀ (cdv : Value) (A : Around) (outer : List Env) (s : Shared) (H : Hp) (E : XK) (pn : List (Addr × Obj)) (B : Base), Room k (A.deeper (envOfC qual scope s.heap.objs.size f cdv)) → B.M = (fun _ => False) →
      NSs (gcxOf P w K mg base N qual scope f cdv A outer s H E pn) B body t)
    (hread : ∀ ds Q, T ds Q → t { nx := fun ys _ => Q ys } [] (ds.map (fun d => some (.val d)) ++ List.replicate (N.length - ds.length) none)) : GFn P w K mg base (k + 1) f fd ps (spG K T) := by
  obtain ⟨oc, od, dV, kV, doc, pm, an, cdv, ct, osl, rfl, lk, hcd, _, _⟩ := F.ex
  refine gfn_of lk hcd S (fun vs H Q E ⟨G, P0, ds, Qd, ok, rl, ht, _⟩ => by rw [rl.length]; exact hT _ _ ht) fun A outer s H vs Q E pn hr ⟨G, P0, ds, Qd, ok, rl, ht, k1⟩ => ?_
  refine ⟨_, hbody cdv A outer s H E pn ⟨G, H, P0, fun _ => False⟩ hr rfl, G, P0, _, _, [], ws_start ok rl, .nil, hread ds Qd ht, ?_⟩
  exact ⟨fun ys dys σ H' G' P' δ ws _ _ r q => k1 ys G' H' P' dys (ws.since.stp fun _ z => z) ws.ok r q, fun _ _ _ _ _ _ _ _ _ _ _ q => q.elim, fun _ _ _ _ _ _ _ _ _ _ _ q => q.elim⟩
end
/-- list(f(..)) -/
def dListK (T : GSp) (dfl : List D) (te tk : DTA) : DT := fun δ Q => te δ fun ds => tk δ fun es => T (ds ++ es ++ dfl) fun ys => ys.length ≤ sizeLine → Q (.lst ys)
section
variable {X : Cx} {B : Base} {k n : Nat} {f : Addr} {fd : FuncData} {ps ks : List Str} {T : GSp} {x : Str} {p p2 pos pos' : Pos} {e : Expr} {es : List Expr} {te tk : DTA} {kws : List Keyword}
theorem passes_xno {X : Cx} : Passes (CX X.prog X.w) X xNo := fun pins σ H sc e s I hc => by
  obtain ⟨_, _, _, _, _, _, _, _, _, _, _, _, z⟩ := hc
  exact z.elim
theorem noStop_xno {K : PySem.W.Frag} : NoStop K xNo := fun _ _ _ z => z.elim
/-- f(e, .., k = v, ..) of a generator def; dv: its defaults -/
theorem pgen_callK {sp : SpG} {E : XK} {t u : TA} {dv : List V} {dw : List Value} (F : GFn X.prog X.w X.K X.mg X.base k f fd ps sp) (hr : Room k X.A) (hg : Gl X x) (hm : X.mg x = some (.ref f)) (hk : PySem.W.keepIn X.K (.ref f) = true) (rd : Vals dv dw)
    (hbind : ∀ (s : Shared) (us ws : List Value), X.K.In s.heap → us.length = n → ws.length = ks.length → BindsTo s fd ⟨us, ks.zip ws⟩ (ps.zip (us ++ ws ++ dw))) (ha : PA X (e :: es) t) (hkw : PK X kws u)
    (hall : (backToKw pos' (keywordEach kws X.env)).all (·.1.isSome) = true := by rfl) (hks : (backToKw pos' (keywordEach kws X.env)).filterMap (·.1) = ks := by rfl) (hd : (x == ("__debug__" : Str)) = false := by decide) (h1 : starEach (e :: es) X.env = (false, eval e X.env) :: starEach es X.env := by rfl)
    (hpl : ((backTo pos' (starEach (e :: es) X.env)).any (·.1) || (backToKw pos' (keywordEach kws X.env)).any (·.1.isNone)) = false := by rfl) :
    PGen X k (.Call (.Name x p) (e :: es) kws pos') (fun σ H cont => t σ H fun vs H1 => u σ H1 fun zs H2 => vs.length = n ∧ zs.length = ks.length ∧ sp (vs ++ zs ++ dv) H2 cont E) E := by
  refine ⟨fun pins s σ H cont I h => ?_⟩
  refine wpAny_Call_Name_kw (ld_glob I hg hm ?_ hd)
  refine PySem.W.callWith_KW (h₀ := X.base) I.ok.mod.kin hk hall (thn (ha.run pos' pins s σ H _ I h) ?_) hpl h1
  rintro us s1 ⟨vs, H1, I1, r, q⟩
  refine thn (hkw.run pos' pins s1 σ H1 _ I1 q) ?_
  rintro ws s2 ⟨zs, H2, I2, rz, l1, l2, q2⟩
  refine ⟨I2.kIn, ?_⟩
  rw [hks]
  refine wpAny_call (codeAny_mono (F.run X.A X.stack s2 H2 ⟨us, ks.zip ws⟩ (us ++ ws ++ dw) (vs ++ zs ++ dv) cont E hr I2.env0 (hbind s2 us ws I2.kIn (by rw [← r.length]; exact l1) (by rw [← rz.length]; exact l2)) ((r.append rz).append rd) q2) fun r' s' hq => ?_)
  cases r' with
  | error e => exact False.elim hq
  | ok fl =>
    cases fl with
    | ret u => exact ⟨H2, s2, [], I2, .nil, hq⟩
    | next => exact False.elim hq
    | brk => exact False.elim hq
    | cont => exact False.elim hq
theorem lst_end {G H G2 H2 : Hp} {P P2 : Addr → Prop} {K : PySem.W.Frag} {Qd : FG.D → Prop} {Q : VK} (k : K1 K G H P Qd Q) (s2 : Stp G H P G2 H2 P2) (ok2 : WOk G2 H2 P2) {ys : List V} {dys : List FG.D} (r : RepL K G2 P2 ys dys) (q : dys.length ≤ sizeLine → Qd (.lst dys)) (hz : dys.length ≤ sizeLine) {a : Addr} (h : H2 a = none) : Q (.ref a) (upd H2 a (.lst ys)) :=
  (k.step s2).new ok2 h (Rep.newLst ok2 h r hz) (q hz)
/-- a generator def as callers want it: its promise, how its arguments are bound -/
def GDef (P : Program) (w : World) (K : PySem.W.Frag) (mg : Str → Option Value) (base : Heap) (k : Nat) (f : Addr) (ps : List Str) (T : GSp) (n : Nat) (ks : List Str) (dfl : List FG.D) : Prop :=
  ∃ (fd : FuncData) (dv : List V) (dw : List Value), GFn P w K mg base k f fd ps (spG K T) ∧ Vals dv dw ∧ (∀ G Pt, RepL K G Pt dv dfl) ∧
    (∀ (s : Shared) (us ws : List Value), K.In s.heap → us.length = n → ws.length = ks.length → BindsTo s fd ⟨us, ks.zip ws⟩ (ps.zip (us ++ ws ++ dw))) ∧ ∀ ds Q, T ds Q → T ds fun ys => ys.length ≤ sizeLine ∧ Q ys
theorem de_listG {dfl : List FG.D} (hF : GDef X.prog X.w X.K X.mg X.base k f ps T n ks dfl) (hr : Room (k + 3) X.A) (hg : Gl X x) (hm : X.mg x = some (.ref f)) (hk : PySem.W.keepIn X.K (.ref f) = true)
    (hgl : Gl X "list") (hml : X.mg "list" = none) (hv : bootBuiltins "list" = some (.type "list")) (ha : DA X B (e :: es) n te) (hkw : DK X B kws ks.length tk)
    (hall : (backToKw pos' (keywordEach kws X.env)).all (·.1.isSome) = true := by rfl) (hks : (backToKw pos' (keywordEach kws X.env)).filterMap (·.1) = ks := by rfl) (hd : (x == ("__debug__" : Str)) = false := by decide) (h1 : starEach (e :: es) X.env = (false, eval e X.env) :: starEach es X.env := by rfl)
    (hpl : ((backTo pos' (starEach (e :: es) X.env)).any (·.1) || (backToKw pos' (keywordEach kws X.env)).any (·.1.isNone)) = false := by rfl)
    (he : starEach [.Call (.Name x p) (e :: es) kws pos'] X.env = (false, eval (.Call (.Name x p) (e :: es) kws pos') X.env) :: starEach [] X.env := by rfl) : DE X B (.Call (.Name "list" p2) [.Call (.Name x p) (e :: es) kws pos'] [] pos) (dListK T dfl te tk) := by
  obtain ⟨fd, dv, dw, F, rd, rp, hbind, hT⟩ := hF
  refine (pe_listG (pgen_callK (E := xNo) F (hr.mono (by omega)) hg hm hk rd hbind ha hkw hall hks hd h1 hpl) passes_xno noStop_xno hr hgl hml hv (he := he)).mono fun σ H Q q => ?_
  obtain ⟨G, P, δ, Qd, w, q, kk⟩ := q
  refine ⟨G, P, δ, _, w, q, fun vs G1 H1 P1 ds s1 ok1 r1 l1 q1 => ?_⟩
  refine ⟨G1, P1, δ, _, w.step s1 ok1, q1, fun zs G2 H2 P2 es s2 ok2 r2 l2 q2 => ⟨by rw [r1.length, l1], by rw [r2.length, l2], ?_⟩⟩
  refine ⟨G2, P2, ds ++ es ++ dfl, _, ok2, ((s2.repL r1).append r2).append (rp _ _), hT _ _ q2, fun ys G3 H3 P3 dys s3 ok3 r3 q3 a ha => ?_⟩
  exact lst_end (kk.step (s1.trans s2)) s3 ok3 r3 q3.2 q3.1 ha
end
end FG

/-! FX: a < b < c < d as a test; x.insert(i, e). -/
namespace L2
open PySem PySem.Spec PyProof.Rows
section
variable {X : Cx} {a b c d : Expr} {ta tb tc td : TE} {pos : Pos}
def tChain3 (r r' r'' : R2) (ta tb tc td : TE) : TE := fun σ H Q => ta σ H fun x H1 => tb σ H1 fun y H2 => r x y H2 fun z H3 => ∃ k, z = .bl k ∧
  (if k = true then tc σ H3 fun w H4 => r' y w H4 fun z2 H5 => ∃ k2, z2 = .bl k2 ∧ (if k2 = true then td σ H5 fun v H6 => r'' w v H6 Q else Q (.bl false) H5) else Q (.bl false) H3)
theorem pt_chain3 {op op' op'' : CmpOp} {r r' r'' : R2} (ho : OpR X (compareOp op) r) (ho' : OpR X (compareOp op') r') (ho'' : OpR X (compareOp op'') r'') (ha : PE X a ta) (hb : PE X b tb) (hc : PE X c tc) (hd : PE X d td)
    (hm : lastMarks [op, op', op''] [b, c, d] = false := by with_unfolding_all rfl) : PT X (.Compare a [op, op', op''] [b, c, d] pos) (tTest (tChain3 r r' r'' ta tb tc td)) := by
  refine ⟨fun pins s σ H Q I h => ?_⟩
  refine isTrue_chain (thn (ha.run pins s σ H _ I h) fun v s1 ⟨x, H1, I1, r1, q1⟩ => test_link (thn (hb.run pins s1 σ H1 _ I1 q1) fun u s2 ⟨y, H2, I2, r2, q2⟩ =>
    thn (ho pins s2 σ H2 x y v u _ I2 r1 r2 q2) fun d' s3 ⟨z, H3, I3, r3, k, e, q3⟩ => ?_)) hm
  subst e
  cases r3
  refine wpAny_truthy_bool ?_
  cases k with
  | false =>
    obtain ⟨k', e', q'⟩ := q3
    cases e'
    exact ite_ff ⟨H3, I3, q'⟩
  | true =>
    refine ite_tt (test_link (thn (hc.run pins s3 σ H3 _ I3 q3) fun w' s4 ⟨z', H4, I4, r4, q4⟩ => thn (ho' pins s4 σ H4 y z' u w' _ I4 r2 r4 q4) fun d' s5 ⟨z2, H5, I5, r5, k2, e2, q5⟩ => ?_))
    subst e2
    cases r5
    refine wpAny_truthy_bool ?_
    cases k2 with
    | false =>
      obtain ⟨k', e', q'⟩ := q5
      cases e'
      exact ite_ff ⟨H5, I5, q'⟩
    | true =>
      refine ite_tt (test_last (thn (hd.run pins s5 σ H5 _ I5 q5) fun w2 s6 ⟨z6, H6, I6, r6, q6⟩ => thn (ho'' pins s6 σ H6 z' z6 w' w2 _ I6 r4 r6 q6) fun d' s7 ⟨z7, H7, I7, r7, k7, e7, q7⟩ => ?_))
      subst e7
      cases r7
      exact wpAny_truthy_bool ⟨H7, I7, q7⟩
end
end L2
namespace FG
open PySem.Spec PySem L2 PyProof.Rows
section
variable {X : Cx} {B : Base} {o e1 e2 a b c d : Expr} {ta tb tc td t1 t2 : DT} {pos apos spos : Pos} {i : Nat}
def dChain3 (f g h : F2) (ta tb tc td : DT) : DT := fun δ Q => ta δ fun x => tb δ fun y => f x y fun z => match z with
  | .bl k => if k = true then tc δ fun w => g y w fun z2 => match z2 with
      | .bl k2 => if k2 = true then td δ fun v => h w v Q else Q (.bl false)
      | _ => False
    else Q (.bl false)
  | _ => False
theorem lift_chain3 {K : PySem.W.Frag} {r r' r'' : R2} {f g h : F2} (h1 : OpD K r f) (h2 : OpD K r' g) (h3 : OpD K r'' h) (σ : L2.St) (H : Hp) (Q : VK) (q : lift K B (dChain3 f g h ta tb tc td) σ H Q) : tChain3 r r' r'' (lift K B ta) (lift K B tb) (lift K B tc) (lift K B td) σ H Q := by
  obtain ⟨G, P, δ, Qd, w, q, k⟩ := q
  refine ⟨G, P, δ, _, w, q, fun x G1 H1 P1 dx s1 ok1 rx q1 => ?_⟩
  refine ⟨G1, P1, δ, _, w.step s1 ok1, q1, fun y G2 H2 P2 dy s2 ok2 ry q2 => ?_⟩
  refine h1 _ _ _ _ _ _ _ _ _ ok2 (s2.rep rx) ry q2 fun z G3 H3 P3 dz s3 ok3 rz q3 => ?_
  cases dz with
  | bl kk =>
    cases rz
    refine ⟨kk, rfl, ?_⟩
    cases kk with
    | true =>
      rw [if_pos rfl]
      have q3 : tc δ fun w => g dy w fun z2 => match z2 with
        | .bl k2 => if k2 = true then td δ fun v => h w v Qd else Qd (.bl false)
        | _ => False := q3
      refine ⟨G3, P3, δ, _, ((w.step s1 ok1).step s2 ok2).step s3 ok3, q3, fun v G4 H4 P4 dv s4 ok4 rv q4 => ?_⟩
      refine h2 _ _ _ _ _ _ _ _ _ ok4 ((s3.trans s4).rep ry) rv q4 fun z2 G5 H5 P5 dz2 s5 ok5 rz2 q5 => ?_
      cases dz2 with
      | bl k2 =>
        cases rz2
        refine ⟨k2, rfl, ?_⟩
        cases k2 with
        | true =>
          rw [if_pos rfl]
          have q5 : td δ fun v => h dv v Qd := q5
          refine ⟨G5, P5, δ, _, ((((w.step s1 ok1).step s2 ok2).step s3 ok3).step s4 ok4).step s5 ok5, q5, fun v6 G6 H6 P6 dv6 s6 ok6 rv6 q6 => ?_⟩
          exact h3 _ _ _ _ _ _ _ _ _ ok6 ((s5.trans s6).rep rv) rv6 q6 (k.step (s1.trans (s2.trans (s3.trans (s4.trans (s5.trans s6))))))
        | false =>
          rw [if_neg Bool.false_ne_true]
          have q5 : Qd (.bl false) := q5
          exact k _ _ _ _ _ (s1.trans (s2.trans (s3.trans (s4.trans s5)))) ok5 (.bl false) q5
      | _ => exact q5.elim
    | false =>
      have q3' : Qd (.bl false) := q3
      rw [if_neg (Bool.false_ne_true)]
      exact k _ _ _ _ _ (s1.trans (s2.trans s3)) ok3 (.bl false) q3'
  | _ => exact q3.elim
theorem dt_chain3 {op1 op2 op3 : CmpOp} {r r' r'' : R2} {f g h : F2} (h1 : OpR X (compareOp op1) r) (k1 : OpD X.K r f) (h2 : OpR X (compareOp op2) r') (k2 : OpD X.K r' g) (h3 : OpR X (compareOp op3) r'') (k3 : OpD X.K r'' h) (ha : DE X B a ta) (hb : DE X B b tb) (hc : DE X B c tc) (hd : DE X B d td)
    (m : lastMarks [op1, op2, op3] [b, c, d] = false := by rfl) : DTe X B (.Compare a [op1, op2, op3] [b, c, d] pos) (dTest (dChain3 f g h ta tb tc td)) :=
  (pt_chain3 h1 h2 h3 ha hb hc hd m).mono fun σ H Q q => lift_test (fun σ H Q q => lift_chain3 k1 k2 k3 σ H Q q) σ H Q q
/-- x.insert(i, e): i may look at own things -/
def dIns (i : Nat) (t1 t2 : DT) : DTS := fun D δ => match δ[i]? with
  | some (some (.own ds)) => t1 (view δ) fun k => match k with
    | .int j => t2 δ fun d => 0 ≤ j ∧ j < 2 ^ 63 ∧ ds.length < sizeLine ∧ D.nx (δ.set i (some (.own (ds.take j.toNat ++ [d] ++ ds.drop j.toNat))))
    | _ => False
  | _ => False
theorem ds_ins (ho : PE X o (tVar i)) (he1 : DE X B e1 t1) (he2 : DE X B e2 t2) (hbase : attributeBase o "insert" X.env (eval o X.env) = eval o X.env := by rfl)
    (hfew : ((backTo pos (starEach [e1, e2] X.env)).all (fun x => !x.1) && (backToKw pos (keywordEach [] X.env)).all (fun x => x.1.isSome) && decide (([e1, e2] : List Expr).length + ([] : List Keyword).length + (if ([] : List Keyword).isEmpty then 0 else 1) < 30)) = true := by rfl)
    (hline : (apos.endLine == pos.line) = true := by rfl) (hs : starEach [e1, e2] X.env = (false, eval e1 X.env) :: starEach [e2] X.env := by rfl) (hs2 : starEach [e2] X.env = (false, eval e2 X.env) :: starEach [] X.env := by rfl) (hp : (backTo pos (starEach [e2] X.env)).any (·.1) = false := by rfl) (hsw : swapsWith (.Call (.Attribute o "insert" apos) [e1, e2] [] pos) none spos.line X.env = pure false := by rfl) :
    DS X B (.Expr (.Call (.Attribute o "insert" apos) [e1, e2] [] pos) spos) (dIns i t1 t2) := (ps_expr (pe_bm PySem.F.plainAttrs_list PySem.F.slot_list_insert PySem.F.type_list_insert mt_insert ho (pa_cons he1 (pa_cons he2 pa_nil hs2) hs) hbase hfew hline hs hp) hsw).mono fun D σ H q => by
  obtain ⟨G, P, δ, Dd, w, q, k⟩ := q
  unfold dIns at q
  split at q
  · rename_i ds hd
    obtain ⟨v2, ev, l, xs, rfl, hx, rl, gx, px, bx, _⟩ := w.sl i _ hd
    obtain ⟨G0, w0, gg⟩ := w.view
    refine ⟨_, ev, .inl ⟨rfl, xs, .inl (.inl hx)⟩, G0, P, _, _, w0, q, fun v G1 H1 P1 d s1 ok1 r1 q1 => ?_⟩
    obtain ⟨s2, ok2⟩ := unview w.ok gg s1 ok1
    cases d with
    | int j =>
      cases r1
      refine ⟨_, _, δ, _, w.step s2 ok2, q1, fun v3 G3 H3 P3 d3 s3 ok3 r3 q3 => ?_⟩
      obtain ⟨z0, z1, z2, q3⟩ := q3
      have st := s2.trans s3
      refine ⟨l, xs, j, v3, rfl, rfl, st.hh _ _ hx px, by rw [rl.length]; exact z2, z0, z1, ?_⟩
      exact k.nx _ _ _ _ _ (own_end (w.step st ok3) hd ev ((((st.repL rl).take _).append (.cons r3 .nil)).append ((st.repL rl).drop _)) (by simp only [List.length_append, List.length_take, List.length_drop, List.length_singleton]; omega)) st.gg st.pp q3
    | _ => exact q1.elim
  · exact q.elim
end

/-! ### lists and tuples of ints of any size -/
mutual
def D.tame : D → Bool
  | .int _ => true
  | .tup xs => D.tameL xs
  | .lst xs => D.tameL xs
  | _ => false
def D.tameL : List D → Bool
  | [] => true
  | x :: xs => D.tame x && D.tameL xs
end
mutual
theorem tame_plain : ∀ d : D, d.tame = true → d.plain = true
  | .int _, _ => by unfold D.plain; rfl
  | .tup xs, h => by unfold D.plain; exact tame_plainL xs (by unfold D.tame at h; exact h)
  | .lst xs, h => by unfold D.plain; exact tame_plainL xs (by unfold D.tame at h; exact h)
  | .non, h => nomatch h
  | .bl _, h => nomatch h
  | .str _, h => nomatch h
  | .dct _, h => nomatch h
  | .ins _ _, h => nomatch h
  | .pot, h => nomatch h
  | .scr _, h => nomatch h
  | .cls _, h => nomatch h
  | .ty _, h => nomatch h
theorem tame_plainL : ∀ ds : List D, D.tameL ds = true → D.plainL ds = true
  | [], _ => by unfold D.plainL; rfl
  | d :: ds, h => by
    unfold D.tameL at h
    obtain ⟨h1, h2⟩ := Bool.and_eq_true_iff.mp h
    unfold D.plainL
    rw [tame_plain d h1, tame_plainL ds h2]; rfl
end
mutual
theorem tame_lay : ∀ d : D, d.tame = true → d.py.canLay0 = true
  | .int _, _ => by unfold D.py PyData.canLay0; rfl
  | .tup xs, h => by unfold D.py PyData.canLay0; exact tame_layL xs (by unfold D.tame at h; exact h)
  | .lst xs, h => by unfold D.py PyData.canLay0; exact tame_layL xs (by unfold D.tame at h; exact h)
  | .non, h => nomatch h
  | .bl _, h => nomatch h
  | .str _, h => nomatch h
  | .dct _, h => nomatch h
  | .ins _ _, h => nomatch h
  | .pot, h => nomatch h
  | .scr _, h => nomatch h
  | .cls _, h => nomatch h
  | .ty _, h => nomatch h
theorem tame_layL : ∀ ds : List D, D.tameL ds = true → PyData.canLayAll0 (D.pyL ds) = true
  | [], _ => by unfold D.pyL PyData.canLayAll0; rfl
  | d :: ds, h => by
    unfold D.tameL at h
    obtain ⟨h1, h2⟩ := Bool.and_eq_true_iff.mp h
    unfold D.pyL PyData.canLayAll0
    rw [tame_lay d h1, tame_layL ds h2]; rfl
end
theorem tame_okEq {d : D} (h : d.tame = true) (hd : d.dep ≤ 64) : d.okEq = true := by
  unfold D.okEq SeqAt.shaped
  rw [tame_plain d h, tame_lay d h, dep_py d (tame_plain d h), decide_eq_true hd]
  rfl
/-- xs != [] -/
theorem tame_ne_nil {xs : List D} {Q : D → Prop} (h : D.tame (.lst xs) = true) (hd : D.dep (.lst xs) ≤ 64) (q : Q (.bl (!xs.isEmpty))) : fNe (.lst xs) (.lst []) Q := by
  have e : D.eqq (.lst xs) (.lst []) = xs.isEmpty := by
    unfold D.eqq
    cases xs <;> (simp only [D.py, D.pyL]; unfold PyData.eqv PyData.eqvAll; rfl)
  show D.okEq (.lst xs) = true ∧ D.okEq (.lst []) = true ∧ Q (.bl (!D.eqq (.lst xs) (.lst [])))
  rw [e]
  exact ⟨tame_okEq h hd, by decide +kernel, q⟩
theorem tame_same {d : D} (h : d.tame = true) : d.eqq d = true := SeqAt.eqv_refl _ (tame_lay d h)
theorem tame_ints : ∀ xs : List Int, D.tameL (xs.map D.int) = true ∧ D.depL (xs.map D.int) = 0
  | [] => ⟨rfl, rfl⟩
  | x :: xs => by
    obtain ⟨h1, h2⟩ := tame_ints xs
    rw [List.map_cons]
    unfold D.tameL D.depL
    rw [h1, h2]
    exact ⟨rfl, rfl⟩
/-- the same list of ints -/
theorem ints_eq_t {xs : List Int} {R : D → Prop} (q : R (.bl true)) : fEq (.lst (xs.map D.int)) (.lst (xs.map D.int)) R := by
  obtain ⟨h1, h2⟩ := tame_ints xs
  have h3 : D.tame (.lst (xs.map D.int)) = true := by unfold D.tame; exact h1
  have h4 : D.dep (.lst (xs.map D.int)) ≤ 64 := by unfold D.dep; omega
  show D.okEq _ = true ∧ D.okEq _ = true ∧ R (.bl (D.eqq _ _))
  rw [tame_same h3]
  exact ⟨tame_okEq h3 h4, tame_okEq h3 h4, q⟩
theorem ints_ne_f {xs : List Int} {R : D → Prop} (q : R (.bl false)) : fNe (.lst (xs.map D.int)) (.lst (xs.map D.int)) R := by
  obtain ⟨h1, h2⟩ := tame_ints xs
  have h3 : D.tame (.lst (xs.map D.int)) = true := by unfold D.tame; exact h1
  have h4 : D.dep (.lst (xs.map D.int)) ≤ 64 := by unfold D.dep; omega
  show D.okEq _ = true ∧ D.okEq _ = true ∧ R (.bl (!D.eqq _ _))
  rw [tame_same h3]
  exact ⟨tame_okEq h3 h4, tame_okEq h3 h4, q⟩
/-! ### nodes of generators' readings -/
theorem ns_pl {t : DTS} {u : DGn} {De : DGEnds} {ys : List D} {δ : DSt} (h : t { nx := u De ys, rt := fun _ => False, bk := De.bk ys, ct := De.ct ys } δ) : nSeq (nPlain t) u De ys δ := h
theorem ns_next {c : DTT} {a : DTS} {u : DGn} {De : DGEnds} {ys : List D} {δ : DSt} (h : ∀ k : Bool → Prop, k false → c (view δ) k) (q : u De ys δ) : nSeq (nPlain (dIf c a dNext)) u De ys δ := h _ (by rw [if_neg Bool.false_ne_true]; exact q)
theorem ns_asg {t : DT} {i : Nat} {u : DGn} {De : DGEnds} {ys : List D} {δ : DSt} (v : D) (h : ∀ k : D → Prop, k v → t δ k) (q : u De ys (δ.set i (some (.val v)))) : nSeq (nPlain (dAsg t (.nm i))) u De ys δ := h _ (by simp only [gT]; exact q)
theorem ns_asgO {tf : DTF} {i : Nat} {u : DGn} {De : DGEnds} {ys : List D} {δ : DSt} (es : List D) (h : ∀ k : List D → Prop, k es → tf δ k) (q : u De ys (δ.set i (some (.own es)))) : nSeq (nPlain (dAsgO tf i)) u De ys δ := h _ q
theorem ns_app {i : Nat} {t : DT} {u : DGn} {De : DGEnds} {ys : List D} {δ : DSt} {fs : List D} (d : D) (e : δ[i]? = some (some (.own fs))) (h : ∀ k : D → Prop, k d → t δ k) (l : fs.length < sizeLine) (q : u De ys (δ.set i (some (.own (fs ++ [d]))))) : nSeq (nPlain (dApp i t)) u De ys δ := by
  show dApp i t _ δ
  unfold dApp
  rw [e]
  exact h _ ⟨l, q⟩
theorem ns_if_t {c : DTT} {a b u : DGn} {De : DGEnds} {ys : List D} {δ : DSt} (h : ∀ k : Bool → Prop, k true → c (view δ) k) (q : a { De with nx := u De } ys δ) : nSeq (nIf c a b) u De ys δ := h _ (by rw [if_pos rfl]; exact q)
theorem ns_if_f {c : DTT} {a b u : DGn} {De : DGEnds} {ys : List D} {δ : DSt} (h : ∀ k : Bool → Prop, k false → c (view δ) k) (q : b { De with nx := u De } ys δ) : nSeq (nIf c a b) u De ys δ := h _ (by rw [if_neg Bool.false_ne_true]; exact q)
theorem pop_ok {i : Nat} {g : Tgt} {De : DEnds} {δ : DSt} {es : List D} {d : D} (e : δ[i]? = some (some (.own (es ++ [d])))) (q : gT g d (δ.set i (some (.own es))) De.nx) : dPop i g De δ := by
  unfold dPop
  rw [e]
  show match (es ++ [d])[(es ++ [d]).length - 1]? with
    | some d' => gT g d' (δ.set i (some (.own (es ++ [d]).dropLast))) De.nx
    | none => False
  rw [List.length_append, List.length_singleton, Nat.add_sub_cancel, List.getElem?_append_right (Nat.le_refl _), Nat.sub_self, List.dropLast_concat]
  exact q
theorem ins_ok {i : Nat} {t1 t2 : DT} {De : DEnds} {δ : DSt} {fs : List D} {j : Int} (Y : D → Prop) (e : δ[i]? = some (some (.own fs))) (h1 : ∀ k : D → Prop, k (.int j) → t1 (view δ) k) (h2 : ∀ k : D → Prop, (∀ v, Y v → k v) → t2 δ k) (h0 : 0 ≤ j) (hj : j < 2 ^ 63) (l : fs.length < sizeLine)
    (q : ∀ v, Y v → De.nx (δ.set i (some (.own (fs.take j.toNat ++ [v] ++ fs.drop j.toNat))))) : dIns i t1 t2 De δ := by
  unfold dIns
  rw [e]
  exact h1 _ (h2 _ fun v hv => ⟨h0, hj, l, q v hv⟩)
end FG

/-! FY: operators by a class's own def; isinstance of an own class; a generator def's keyword-only defaults. -/
namespace HT
open PySem PySem.Spec PyProof.Rows L2
section
variable {prog : Program} {w : World} {A : Around} {E : Value → Shared → Prop} {s : Shared}
/-! ### t[::-1] of a tuple -/
theorem back_adjust (n : Nat) : Builtin.Slice.sliceAdjust none none (-1) (n : Int) = ((n : Int) - 1, -1) := rfl
theorem back_places (n : Nat) : Builtin.Slice.slicePlaces ((n : Int) - 1) (-1) (-1) = n := by
  unfold Builtin.Slice.slicePlaces
  rw [if_neg (by decide)]
  by_cases h : 0 < n
  · rw [if_pos (by omega)]
    show (((n : Int) - 1 - (-1) - 1) / 1 + 1).toNat = n
    omega
  · rw [if_neg (by omega)]
    show 0 = n
    omega
theorem back_pick (xs : Array Value) : ((List.range xs.size).filterMap fun (k : Nat) => xs[((xs.size : Int) - 1 + (k : Int) * (-1)).toNat]?).toArray = xs.toList.reverse.toArray := by
  have e : (fun (k : Nat) => xs[((xs.size : Int) - 1 + (k : Int) * (-1)).toNat]?) = (fun i => xs[i]?) ∘ fun k => xs.size - 1 - k := by
    funext k
    show _ = xs[xs.size - 1 - k]?
    congr 1
    omega
  rw [e, ← List.filterMap_map, PySem.W.krv_range, List.filterMap_reverse, PySem.W.krv_all]
theorem back_applied {z : Addr} {v1 v2 v3 : Value} {n : Nat} {R : Int × Int × Nat → Shared → Prop} (hz : s.heap.IsSliceOf z v1 v2 v3) (p1 : IsPart v1 none) (p2 : IsPart v2 none) (p3 : IsPart v3 (some (-1)))
    (q : R ((n : Int) - 1, -1, n) s) : wpAny (model prog w) A (Builtin.Slice.sliceApplied (.ref z) (pure (n : Int))) R E s := by
  obtain ⟨oz, g1, _, g3⟩ := id hz
  unfold Builtin.Slice.sliceApplied Builtin.Slice.sliceFields
  refine wpAny_bind (wpAny_bind (wpAny_field g1 g3 (x := v1) rfl (wpAny_bind (wpAny_field g1 g3 (x := v2) rfl (wpAny_bind (wpAny_field g1 g3 (x := v3) rfl (wpAny_pure ?_)))))))
  refine wpAny_bind (slicePart_ p3 ?_)
  show wpAny _ _ (if ((-1 : Int) == 0) = true then _ else _) _ _ s
  rw [if_neg (by decide)]
  refine wpAny_bind (slicePart_ p1 (wpAny_bind (slicePart_ p2 (wpAny_bind (wpAny_pure ?_)))))
  show wpAny _ _ (pure ((n : Int) - 1, (-1 : Int), Builtin.Slice.slicePlaces ((n : Int) - 1) (-1) (-1))) _ _ s
  rw [back_places]
  exact wpAny_pure q
theorem back_item {t z : Addr} {xs : Array Value} {v1 v2 v3 : Value} {R : Value → Shared → Prop} (ht : IsTup s.heap t xs) (hz : s.heap.IsSliceOf z v1 v2 v3) (p1 : IsPart v1 none) (p2 : IsPart v2 none) (p3 : IsPart v3 (some (-1)))
    (q : R (.ref s.heap.objs.size) { s with heap := s.heap.push { cls := .type "tuple", data := .seq xs.toList.reverse.toArray } }) (hn : xs.size ≤ sizeLine) : wpAny (model prog w) A (getItem (.ref t) (.ref z)) R E s := by
  have fits : sizeOk (.seq xs.toList.reverse.toArray) := by
    show xs.toList.reverse.toArray.size ≤ sizeLine
    rw [List.size_toArray, List.length_reverse, Array.length_toList]
    exact hn
  obtain ⟨oz, g1, g2, g3⟩ := id hz
  have tz : s.TypeIs (.ref z) "slice" := ⟨oz, g1, g2⟩
  unfold getItem
  try with_reducible refine wpAny_holding ?_
  first | refine wpAny_bind (wpAny_pure ?_) | skip
  refine wpAny_bind (wpAny_sequenceKey ht.typeIs (by decide) ?_)
  refine wpAny_bind (wpAny_callSpecial?_slot (name := Str.ofString "__getitem__") ht.typeIs PyProof.Rows.slot_tuple_getitem (wpAny_call_entry PyProof.Rows.slot_tuple_getitem ht.typeIs entry_tuple_getitem ?_ (args_tuple_getitem _ _)))
  show wpAny _ _ (Builtin.Tuple.tupleItemsOf (.ref t) >>= _) _ _ s
  refine wpAny_bind (tupleItemsOf_ ht (wpAny_bind (wpAny_typeOf tz ?_)))
  rw [if_pos (by decide)]
  refine wpAny_bind (back_applied hz p1 p2 p3 ?_)
  have no : ¬ ((((xs.size : Int) - 1) == 0 && (-1 : Int) == 1 && xs.size == xs.size) = true) := by
    rw [show ((-1 : Int) == 1) = false from rfl, Bool.and_false, Bool.false_and]
    exact Bool.false_ne_true
  show wpAny _ _ (if (((xs.size : Int) - 1) == 0 && (-1 : Int) == 1 && xs.size == xs.size) = true then _ else _) _ _ s
  rw [if_neg no, back_pick]
  first
    | exact wpAny_bind (m := Builtin.Tuple.tupleExact _) (wpAny_newObj_type (wpAny_pure ⟨_, rfl, wpAny_pure q⟩) fits)
    | exact wpAny_bind (m := Builtin.Tuple.tupleExact _) (wpAny_newObj_type (wpAny_bind (wpAny_pure (wpAny_pure ⟨_, rfl, wpAny_pure q⟩))) fits)
    | exact wpAny_bind (wpAny_bind (m := Builtin.Tuple.tupleExact _) (wpAny_newObj_type (wpAny_pure (wpAny_pure ⟨_, rfl, wpAny_pure q⟩)) fits))
    | exact wpAny_bind (wpAny_bind (m := Builtin.Tuple.tupleExact _) (wpAny_newObj_type (wpAny_pure ⟨_, rfl, wpAny_pure q⟩) fits))
end
end HT
namespace L2
open PySem PySem.Spec PyProof.Rows
def tRevT (K : PySem.W.Frag) (te : TE) : TE := fun σ H Q => te σ H fun x H1 => ∃ a xs, x = .ref a ∧ SqT K H1 a xs ∧ ∀ p, H1 p = none → Q (.ref p) (upd H1 p (.tup xs.reverse))
theorem pe_revT {X : Cx} {e : Expr} {te : TE} {k : Nat} {p1 p2 p3 pos : Pos} (he : PE X e te) : PE X (.Subscript e (.Slice none none (some (.UnaryOp .USub (.Constant (.int 1) k p1) p2)) p3) pos) (tRevT X.K te) := by
  refine ⟨fun pins s σ H Q I h => Subscript_ (thn (he.run pins s σ H _ I h) fun v s1 ⟨x, H1, I1, r1, q1⟩ => ?_)⟩
  obtain ⟨a, xs, rfl, hx, q⟩ := q1
  cases r1
  have back : PO X (some (.UnaryOp .USub (.Constant (.int 1) k p1) p2)) (tPart (tUn (rU fun i => .int (-i)) (tC (.int 1)))) := po_some (pe_un un_neg pe_int)
  refine wpAny_Slice (thn (po_none.run pins s1 σ H1 (fun o G => o = none ∧ G = H1) I1 ⟨rfl, rfl⟩) fun v1 s2 ⟨l, H2, I2, pa, el, e2⟩ => ?_)
  subst el e2
  refine thn (po_none.run pins s2 σ H2 (fun o G => o = none ∧ G = H2) I2 ⟨rfl, rfl⟩) fun v2 s3 ⟨u, H3, I3, pb, eu, e3⟩ => ?_
  subst eu e3
  refine thn (back.run pins s3 σ H3 (fun o G => o = some (-1) ∧ G = H3) I3 ⟨1, rfl, -1, rfl, rfl, rfl⟩) fun v3 s4 ⟨o, H4, I4, pc, eo, e4⟩ => ?_
  subst eo e4
  have I5 : Inv X pins σ H4 { s4 with heap := s4.heap.push { cls := .type "slice", data := .fields #[v1, v2, v3] } } := I4.kept (t' := s4.toks) fun b ob q => Heap.get?_push_of_some _ q
  obtain ⟨its, r, ht, hz⟩ := I5.tuple hx
  have hlen := r.length
  show wpAny (model X.prog X.w) X.A (subscriptTail e (.Slice none none (some (.UnaryOp .USub (.Constant (.int 1) k p1) p2)) p3) (.ref a) (.ref s4.heap.objs.size)) (EP X pins σ Q) X.xe { s4 with heap := s4.heap.push { cls := .type "slice", data := .fields #[v1, v2, v3] } }
  refine tail_any (ops := [.ref a, .ref s4.heap.objs.size]) ht.typeIs (PyProof.Rows.slot_tuple_getitem.lookup) ?_ (by with_unfolding_all rfl)
  refine HT.back_item ht (Heap.IsSliceOf.new _ v1 v2 v3) pa pb pc ?_ (by rw [List.size_toArray]; omega)
  refine ⟨.ref _, _, I5.laid (t' := s4.toks) (o := .tup xs.reverse) (fun b ob q => Heap.get?_push_of_some _ q) (Nat.le_refl _) ?_, rfl, q _ (I5.hok.fresh (Nat.le_refl _))⟩
  exact ⟨by rw [List.length_reverse]; exact hz, _, r.reverse, _, Heap.get?_push_size _ rfl, rfl, 0, rfl⟩
end L2
namespace FG
open PySem PySem.Spec PyProof.Rows L2
/-- e[::-1] of a tuple -/
def dRevT (ta : DT) : DT := fun δ Q => ta δ fun x => match x with
  | .tup ds => Q (.tup ds.reverse)
  | _ => False
theorem de_revT {X : Cx} {B : Base} {a : Expr} {ta : DT} {k : Nat} {p1 p2 p3 pos : Pos} (ha : DE X B a ta) : DE X B (.Subscript a (.Slice none none (some (.UnaryOp .USub (.Constant (.int 1) k p1) p2)) p3) pos) (dRevT ta) := (pe_revT ha).mono fun σ H Q q => by
  obtain ⟨G, P, δ, Qd, w, q, kk⟩ := q
  refine ⟨G, P, δ, _, w, q, fun v G1 H1 P1 d s1 ok1 r1 q1 => ?_⟩
  cases r1 with
  | @tup p xs ds h1 h2 h3 => exact ⟨_, _, rfl, sqt_mono ok1.gh h1, fun l hl => (kk.step s1).new ok1 hl (.newTup ok1 hl h2.reverse (by rw [List.length_reverse]; exact h3)) q1⟩
  | _ => exact q1.elim
end FG
namespace FG
open PySem PySem.Spec PyProof.Rows L2
open He (ga ma eqO eqO_ok ba)
/-- what the class at C says of its own def for an operator -/
structure OwnOp (K : PySem.W.Frag) (C f : Addr) (m : Str) : Prop where
  at_ : PySem.W.findIn K (.ref C) m = some (some (.ref f))
  fn : PySem.W.isFn K (.ref f) = true
  first : PySem.W.selfFirst K C = true
def ownB (K : PySem.W.Frag) (x m : Str) : Bool := eqO (PySem.W.findIn K (.ref (ga K x)) m) (some (some (.ref (ma K (ga K x) m)))) && (PySem.W.isFn K (.ref (ma K (ga K x) m)) && PySem.W.selfFirst K (ga K x))
theorem ownB_ok {K : PySem.W.Frag} {x m : Str} (h : ownB K x m = true) : OwnOp K (ga K x) (ma K (ga K x) m) m := by
  obtain ⟨h1, h⟩ := ba h
  obtain ⟨h2, h3⟩ := ba h
  exact ⟨eqO_ok h1, h2, h3⟩
/-- what isinstance asks of the class at C -/
structure IsoC (K : PySem.W.Frag) (C : Addr) : Prop where
  ha : PySem.W.findIn K (.ref C) "__class__" = some (some (.builtin "object.__class__"))
  hn : PySem.W.specialIn K (.builtin "object.__class__") "__get__" = some (some (.builtin "getset_descriptor.__get__"))
  ht : PySem.W.takesIn K (.builtin "object.__class__") = some true
  hm : PySem.W.mroIn K C (.type "object") = some true
  hk : PySem.W.kitOne K (.ref C) (.ref C) = some true
def isoB (K : PySem.W.Frag) (x : Str) : Bool := eqO (PySem.W.findIn K (.ref (ga K x)) "__class__") (some (some (.builtin "object.__class__"))) && (eqO (PySem.W.specialIn K (.builtin "object.__class__") "__get__") (some (some (.builtin "getset_descriptor.__get__"))) &&
  (decide (PySem.W.takesIn K (.builtin "object.__class__") = some true) && (decide (PySem.W.mroIn K (ga K x) (.type "object") = some true) && decide (PySem.W.kitOne K (.ref (ga K x)) (.ref (ga K x)) = some true))))
theorem isoB_ok {K : PySem.W.Frag} {x : Str} (h : isoB K x = true) : IsoC K (ga K x) := by
  obtain ⟨h1, h⟩ := ba h
  obtain ⟨h2, h⟩ := ba h
  obtain ⟨h3, h⟩ := ba h
  obtain ⟨h4, h5⟩ := ba h
  exact ⟨eqO_ok h1, eqO_ok h2, of_decide_eq_true h3, of_decide_eq_true h4, of_decide_eq_true h5⟩
section
variable {X : Cx} {B : Base} {gp : Bool} {k : Nat} {f C : Addr} {T : DSp} {W : XW} {a b e : Expr} {p pos : Pos}
theorem pe_binσ {op : Operator} {sp : Sp} {E : L2.St → XK} {ta tb : TE} (o : OwnOp X.K C f (PySem.dunder op.info.2)) (F : FnP gp X.prog X.w X.K X.mg X.base k f sp) (hgd : gp = true → X.A.guards = some []) (hr : Room k X.A)
    (hx : ∀ σ, PassesAt (L2.CX X.prog X.w) X σ (E σ)) (ha : PE X a ta) (hb : PE X b tb) :
    PE X (.BinOp a op b pos) (fun σ H Q => ta σ H fun x H1 => tb σ H1 fun y H2 => ∃ a1 dx fs a2 dy gs, x = .ref a1 ∧ y = .ref a2 ∧ H2 a1 = some (.ins C dx fs) ∧ H2 a2 = some (.ins C dy gs) ∧ sp [x, y] H2 Q (E σ)) := by
  refine ⟨fun pins s σ H Q I h => ?_⟩
  refine wpAny_BinOp (binT ha hb I h fun v u s2 x y H2 I2 rx ry q => ?_)
  obtain ⟨a1, dx, fs, a2, dy, gs, rfl, rfl, h1, h2, q⟩ := q
  cases rx
  cases ry
  obtain ⟨mA, J, _⟩ := ins_get I2.hok h1
  obtain ⟨mB, J', _⟩ := ins_get I2.hok h2
  obtain ⟨od, J, _⟩ := J.look
  obtain ⟨od', J', _⟩ := J'.look
  obtain ⟨m, hF⟩ := I2.fr
  refine PySem.W.binop_K hF I2.ok.mod.kin J J'.type o.first o.at_ o.fn (wpAny_mono (run_atσ (us := [.ref a1, .ref a2]) (vs := [.ref a1, .ref a2]) F hgd hr (hx σ) I2 (.cons rfl (.cons rfl .nil)) q) (fun w s' z => ?_) fun _ _ z => z)
  obtain ⟨z', H', I', rz, qz⟩ := z
  exact SlX.cmpback rz ⟨z', H', I', rz, qz⟩
/-- a op b by the own def of a's class, b of the same class -/
def dOwn2 (C : Addr) (T : DSp) (W : XW) (ta tb : DT) : DT := fun δ Q => ta δ fun x => tb δ fun y => (∃ fs, x = .ins C fs) ∧ (∃ gs, y = .ins C gs) ∧ T [x, y] Q fun e => W e δ
variable {ta tb : DT}
theorem de_binO {op : Operator} (o : OwnOp X.K C f (PySem.dunder op.info.2)) (F : Fn gp X.prog X.w X.K X.mg X.base k f T) (hgd : gp = true → X.A.guards = some []) (hr : Room k X.A) (hw : Wish X B W) (ha : DE X B a ta) (hb : DE X B b tb) :
    DE X B (.BinOp a op b pos) (dOwn2 C T W ta tb) := by
  obtain ⟨Wx, tk, hW⟩ := hw.ex
  refine (pe_binσ (E := WE Wx) o F hgd hr (fun σ => passAt tk σ) ha hb).mono fun σ H Q q => ?_
  obtain ⟨G, P, δ, Qd, w, q, kk⟩ := q
  refine ⟨G, P, δ, _, w, q, fun v G1 H1 P1 d s1 ok1 r1 q1 => ?_⟩
  refine ⟨G1, P1, δ, _, w.step s1 ok1, q1, fun u G2 H2 P2 d2 s2 ok2 r2 q2 => ?_⟩
  obtain ⟨⟨fs, rfl⟩, ⟨gs, rfl⟩, q2⟩ := q2
  cases r1 with
  | ins a1 b1 =>
    cases r2 with
    | ins a2 b2 =>
      exact ⟨_, _, _, _, _, _, rfl, rfl, ok2.gh _ _ (s2.gg _ _ a1), ok2.gh _ _ a2, sp_lift hW ((w.step s1 ok1).step s2 ok2) (.cons (s2.rep (.ins a1 b1)) (.cons (.ins a2 b2) .nil)) q2 (kk.step (s1.trans s2))⟩
/-- isinstance(e, C) where e's value is of the class itself -/
def fIsC (C : Addr) : F1 := fun ds Q => ∃ fs, ds = [.ins C fs, .cls C] ∧ Q (.bl true)
theorem cd_isC {K : PySem.W.Frag} (c : Cls K C) (i : IsoC K C) : CallD K (rIsi K) (fIsC C) := by
  intro G H P vs ds Qd Q w r q k
  obtain ⟨fs, rfl, q⟩ := q
  cases r with
  | cons r1 r2 =>
    cases r2 with
    | cons r2 r3 =>
      cases r3
      cases r2
      cases r1 with
      | ins a1 b1 => exact ⟨_, _, _, _, _, rfl, .own _, .base (.ins (w.gh _ _ a1) c i.ha i.hn i.ht i.hm), i.hk, k.here w (.bl _) q⟩
theorem con_cls {K : PySem.W.Frag} {mg : Str → Option Value} {x : Str} {C : Addr} (h : mg x = some (.ref C)) : Con1 K mg x (.cls C) := ⟨.ref C, .ref C, h, rfl, fun _ _ => .cls C⟩
end
/-- a generator def whose keyword-only parameters are all left out -/
theorem gdef_of {P : Program} {w : World} {K : PySem.W.Frag} {mg : Str → Option Value} {base : Heap} {k : Nat} {f : Addr} {fd : FuncData} {ps : List Str} {T : GSp} {n : Nat} {dv : List V} {dw : List Value} {dfl : List D}
    (F : GFn P w K mg base k f fd ps (spG K T)) (rd : Vals dv dw) (rp : ∀ G Pt, RepL K G Pt dv dfl) (hb : L2.Binds K fd ps dw) (hn : n + dw.length = ps.length) (cap : ∀ ds Q, T ds Q → T ds fun ys => ys.length ≤ sizeLine ∧ Q ys) : GDef P w K mg base k f ps T n [] dfl := by
  refine ⟨fd, dv, dw, F, rd, rp, fun s us ws X h1 h2 => ?_, cap⟩
  cases ws with
  | cons _ _ => cases h2
  | nil =>
    rw [List.append_nil]
    exact hb s us X (by rw [List.length_append, h1]; exact hn)
end FG

/-! FZ: == and != of instances by the class's own __eq__. -/
namespace FG
open PySem PySem.Spec PyProof.Rows L2
open He (ga ma eqO eqO_ok ba)
/-- a class with an own __eq__ and no own __ne__ -/
structure OwnEq (K : PySem.W.Frag) (C f : Addr) : Prop where
  at_ : PySem.W.findIn K (.ref C) "__eq__" = some (some (.ref f))
  fn : PySem.W.isFn K (.ref f) = true
  ne : PySem.W.findIn K (.ref C) "__ne__" = some (some (.builtin "object.__ne__"))
  ob : PySem.W.mroIn K C (.type "object") = some true
def eqB (K : PySem.W.Frag) (x : Str) : Bool := eqO (PySem.W.findIn K (.ref (ga K x)) "__eq__") (some (some (.ref (ma K (ga K x) "__eq__")))) && (PySem.W.isFn K (.ref (ma K (ga K x) "__eq__")) &&
  (eqO (PySem.W.findIn K (.ref (ga K x)) "__ne__") (some (some (.builtin "object.__ne__"))) && decide (PySem.W.mroIn K (ga K x) (.type "object") = some true)))
theorem eqB_ok {K : PySem.W.Frag} {x : Str} (h : eqB K x = true) : OwnEq K (ga K x) (ma K (ga K x) "__eq__") := by
  obtain ⟨h1, h⟩ := ba h
  obtain ⟨h2, h⟩ := ba h
  obtain ⟨h3, h4⟩ := ba h
  exact ⟨eqO_ok h1, h2, eqO_ok h3, of_decide_eq_true h4⟩
/-- two instances of the class at C, what sp says of them -/
def rEqO (C : Addr) (sp : Sp) : R2 := fun x y H Q => ∃ a dx fs b dy gs, x = .ref a ∧ y = .ref b ∧ H a = some (.ins C dx fs) ∧ H b = some (.ins C dy gs) ∧ sp [x, y] H Q fun _ _ _ => False
def rNeO (C : Addr) (sp : Sp) : R2 := fun x y H Q => rEqO C sp x y H fun v H' => ∃ c, v = .bl c ∧ Q (.bl (!c)) H'
section
variable {X : Cx} {k : Nat} {f C : Addr} {T : DSp} {sp : Sp}
theorem op_eqO (o : OwnEq X.K C f) (F : FnP false X.prog X.w X.K X.mg X.base k f sp) (hr : Room k X.A) : OpR X (compareOp .Eq) (rEqO C sp) := by
  intro pins s σ H x y v u Q I rx ry h
  obtain ⟨a, dx, fs, b, dy, gs, rfl, rfl, ha, hb, q⟩ := h
  cases rx
  cases ry
  obtain ⟨mA, J, _⟩ := ins_get I.hok ha
  obtain ⟨mB, J', _⟩ := ins_get I.hok hb
  obtain ⟨od, J, _⟩ := J.look
  obtain ⟨od', J', _⟩ := J'.look
  obtain ⟨m, hF⟩ := I.fr
  show wpAny (model X.prog X.w) X.A (richCompare .Eq (.ref a) (.ref b)) (EP X pins σ Q) X.xe s
  refine PySem.W.cmp_K (op := .Eq) (tb := .ref C) hr.units0 hF I.ok.mod.kin J J'.type (by simp [PySem.W.notFirst]) o.at_ o.fn ?_
  refine wpAny_mono (run_atσ (gp := false) (us := [.ref a, .ref b]) (vs := [.ref a, .ref b]) F (by nofun) hr (passAt takes0 σ) I (.cons rfl (.cons rfl .nil)) q) (fun w s' z => ?_) fun _ _ z => z
  obtain ⟨z', H', I', rz, qz⟩ := z
  exact SlX.cmpback rz ⟨z', H', I', rz, qz⟩
theorem op_neO (o : OwnEq X.K C f) (F : FnP false X.prog X.w X.K X.mg X.base k f sp) (hr : Room (k + 1) X.A) : OpR X (compareOp .NotEq) (rNeO C sp) := by
  intro pins s σ H x y v u Q I rx ry h
  obtain ⟨a, dx, fs, b, dy, gs, rfl, rfl, ha, hb, q⟩ := h
  cases rx
  cases ry
  obtain ⟨mA, J, _⟩ := ins_get I.hok ha
  obtain ⟨mB, J', _⟩ := ins_get I.hok hb
  obtain ⟨od, J, _⟩ := J.look
  obtain ⟨od', J', _⟩ := J'.look
  show wpAny (model X.prog X.w) X.A (richCompare .NotEq (.ref a) (.ref b)) (EP X pins σ Q) X.xe s
  refine ne_own hr.in1.units0 I.kIn J J' o.ob o.ne o.at_ o.fn ?_
  apply wpAny_call
  refine codeAny_mono (F X.A.in1 X.stack s H [.ref a, .ref b] [.ref a, .ref b] _ _ (by nofun) hr.in1 I.env0.in1 (.cons rfl (.cons rfl .nil)) q) ?_
  intro r s' hq
  cases r with
  | error e => exact passAt takes0 σ _ _ _ _ _ I hq
  | ok fl =>
    cases fl with
    | ret u =>
      obtain ⟨z, H', I', rz, c, rfl, qz⟩ := I.after hq
      cases rz
      exact ⟨c, rfl, .bl (!c), H', I', rfl, qz⟩
    | next => exact False.elim hq
    | brk => exact False.elim hq
    | cont => exact False.elim hq
/-- x == y, instances of the class at C -/
def fEqO (C : Addr) (T : DSp) : F2 := fun x y Q => (∃ fs, x = .ins C fs) ∧ (∃ gs, y = .ins C gs) ∧ T [x, y] Q fun _ => False
def fNeO (C : Addr) (T : DSp) : F2 := fun x y Q => fEqO C T x y fun v => ∃ c, v = .bl c ∧ Q (.bl (!c))
theorem od_eqO {K : PySem.W.Frag} : OpD K (rEqO C (spD K T)) (fEqO C T) := by
  intro G H P x y dx dy Qd Q w rx ry q kk
  obtain ⟨⟨fs, rfl⟩, ⟨gs, rfl⟩, q⟩ := q
  cases rx with
  | ins a b =>
    cases ry with
    | ins c d => exact ⟨_, _, _, _, _, _, rfl, rfl, w.gh _ _ a, w.gh _ _ c, G, P, _, Qd, fun _ => False, w, .cons (.ins a b) (.cons (.ins c d) .nil), q, kk, fun _ _ _ _ _ _ _ _ _ z => z⟩
theorem od_neO {K : PySem.W.Frag} : OpD K (rNeO C (spD K T)) (fNeO C T) := by
  intro G H P x y dx dy Qd Q w rx ry q kk
  refine od_eqO G H P x y dx dy _ _ w rx ry q fun v G' H' P' d s ok r z => ?_
  obtain ⟨c, rfl, z⟩ := z
  cases r
  exact ⟨c, rfl, kk _ _ _ _ _ s ok (.bl _) z⟩
end
/-! ### a comprehension in a comprehension -/
def relabS (scope sc : Scope) : Scope := { scope with names := scope.names.map fun (n, k) => if (k == .free && sc.kind == .function && sc.names.lookup n == some .cell) then (n, .cell) else (n, k) }
theorem blkOk_in {N : List Str} {own : List (Str × Nat)} {s1 s0 scope : Scope} {cl : List (Str × Addr)} {C : Addr} {env : Env} (e : env.scope = s0) (h : blkC N (relabS s1 s0) scope own = true) : BlkOk N (compEnvC s1 cl C env).scope scope own := by
  subst e
  exact blkOk_by h
end FG
/-! ### the run of the top, asked three things one by one -/
namespace FG
open PySem PySem.W PySem.Calls PyProof.Rows HandSHeadRun
noncomputable abbrev topEnd (r : OpenRow) (M : Nat) (w : World) (os : OsState) : Option SharedT := endF (stepQ (denQ tabQ) r.prog w) M r.prog w os
theorem map3 {α β γ δ : Type} {o : Option α} {f : α → β} {g : α → γ} {h : α → δ} {a : β} {b : γ} {c : δ} (h1 : o.map f = some a) (h2 : o.map g = some b) (h3 : o.map h = some c) : o.map (fun s => (f s, g s, h s)) = some (a, b, c) := by
  cases o with
  | none => cases h1
  | some s =>
    injection h1 with h1
    injection h2 with h2
    injection h3 with h3
    show some (f s, g s, h s) = _
    rw [h1, h2, h3]
theorem run_of {r : OpenRow} {q : Program} {H : Hook} {ob : SharedT → H.α} {M : Nat} {loose : List PySem.Str} {w : World} (h1 : ∀ os, (topEnd r M w os).map (fun s => looksF r.prog (boot_heap w.params) s.abs) = some true)
    (h2 : ∀ os, (topEnd r M w os).map (fun s => seenQ q loose (importedModules r.prog.main.body) (fun s => xlAt q [] s && recOk r.toRowW.records s) s.abs) = some (openGood q loose)) (h3 : ∀ os, (topEnd r M w os).map ob = some (H.val w)) : RunEq r q H ob M loose w :=
  fun os => map3 (h1 os) (h2 os) (h3 os)
end FG

/-! F1: is of bools; an own operator with an int on the right; a def with *args. -/
namespace FG
open PySem PySem.Spec PyProof.Rows L2
open He (ga ma eqO eqO_ok ba)
/-! ### is, is not of bools -/
def fIsB : F2 := fun x y Q => ∃ a b, x = .bl a ∧ y = .bl b ∧ Q (.bl (decide (a = b)))
def fNotB : F2 := fun x y Q => ∃ a b, x = .bl a ∧ y = .bl b ∧ Q (.bl (!decide (a = b)))
theorem od_isB {K : PySem.W.Frag} : OpD K rIsB fIsB := by
  intro G H P x y dx dy Qd Q w rx ry q k
  obtain ⟨a, b, rfl, rfl, q⟩ := q
  cases rx
  cases ry
  exact ⟨a, b, rfl, rfl, k.here w (.bl _) q⟩
theorem od_notB {K : PySem.W.Frag} : OpD K rNotB fNotB := by
  intro G H P x y dx dy Qd Q w rx ry q k
  obtain ⟨a, b, rfl, rfl, q⟩ := q
  cases rx
  cases ry
  exact ⟨a, b, rfl, rfl, k.here w (.bl _) q⟩
/-! ### an own operator with an int on the right -/
structure OwnOpI (K : PySem.W.Frag) (C f : Addr) (nm : String) : Prop where
  at_ : PySem.W.findIn K (.ref C) (PySem.dunder nm) = some (some (.ref f))
  fn : PySem.W.isFn K (.ref f) = true
  first : PySem.W.selfFirst K C = true
  nr : PySem.W.findIn K (.ref C) (dunderR nm) = some none
  h1 : ∃ fo, PySem.W.findIn K (.type "int") (PySem.dunder nm) = some fo
  h2 : ∃ ro, PySem.W.findIn K (.type "int") (dunderR nm) = some ro
  sub : PySem.W.subIn K (.type "int") (.ref C) = some false
def isNN (o : Option (Option Value)) : Bool := match o with
  | some none => true
  | _ => false
def ownIB (K : PySem.W.Frag) (x : Str) (m : Str) (nm : String) : Bool :=
  eqO (PySem.W.findIn K (.ref (ga K x)) (PySem.dunder nm)) (some (some (.ref (ma K (ga K x) m)))) && (PySem.W.isFn K (.ref (ma K (ga K x) m)) && (PySem.W.selfFirst K (ga K x) &&
  (isNN (PySem.W.findIn K (.ref (ga K x)) (dunderR nm)) && ((PySem.W.findIn K (.type "int") (PySem.dunder nm)).isSome && ((PySem.W.findIn K (.type "int") (dunderR nm)).isSome && decide (PySem.W.subIn K (.type "int") (.ref (ga K x)) = some false))))))
theorem ownIB_ok {K : PySem.W.Frag} {x m : Str} {nm : String} (h : ownIB K x m nm = true) : OwnOpI K (ga K x) (ma K (ga K x) m) nm := by
  obtain ⟨h1, h⟩ := ba h
  obtain ⟨h2, h⟩ := ba h
  obtain ⟨h3, h⟩ := ba h
  obtain ⟨h4, h⟩ := ba h
  obtain ⟨h5, h⟩ := ba h
  obtain ⟨h6, h7⟩ := ba h
  refine ⟨eqO_ok h1, h2, h3, ?_, Option.isSome_iff_exists.mp h5, Option.isSome_iff_exists.mp h6, of_decide_eq_true h7⟩
  unfold isNN at h4
  split at h4
  · rename_i e
    exact e
  · cases h4
section
variable {X : Cx} {B : Base} {gp : Bool} {k : Nat} {f C : Addr} {T : DSp} {W : XW} {a b e : Expr} {p pos : Pos}
theorem pe_binI {op : Operator} {sp : Sp} {E : L2.St → XK} {ta tb : TE} (o : OwnOpI X.K C f op.info.2) (F : FnP gp X.prog X.w X.K X.mg X.base k f sp) (hgd : gp = true → X.A.guards = some []) (hr : Room k X.A)
    (hx : ∀ σ, PassesAt (L2.CX X.prog X.w) X σ (E σ)) (ha : PE X a ta) (hb : PE X b tb) :
    PE X (.BinOp a op b pos) (fun σ H Q => ta σ H fun x H1 => tb σ H1 fun y H2 => ∃ a1 dx fs i, x = .ref a1 ∧ y = .int i ∧ H2 a1 = some (.ins C dx fs) ∧ sp [x, y] H2 Q (E σ)) := by
  refine ⟨fun pins s σ H Q I h => ?_⟩
  refine wpAny_BinOp (binT ha hb I h fun v u s2 x y H2 I2 rx ry q => ?_)
  obtain ⟨a1, dx, fs, i, rfl, rfl, h1, q⟩ := q
  cases rx
  obtain ⟨t, rfl⟩ := ry
  obtain ⟨mA, J, _⟩ := ins_get I2.hok h1
  obtain ⟨od, J, _⟩ := J.look
  obtain ⟨m, hF⟩ := I2.fr
  obtain ⟨fo, o1⟩ := o.h1
  obtain ⟨ro, o2⟩ := o.h2
  refine PySem.W.ksp_binT hF I2.ok.mod.kin J rfl o.first o.at_ o.fn o.nr (.inl rfl) o1 o2 o.sub (wpAny_mono (run_atσ (us := [.ref a1, .int i t]) (vs := [.ref a1, .int i]) F hgd hr (hx σ) I2 (.cons rfl (.cons ⟨t, rfl⟩ .nil)) q) (fun w s' z => ?_) fun _ _ z => z)
  obtain ⟨z', H', I', rz, qz⟩ := z
  exact SlX.cmpback rz ⟨z', H', I', rz, qz⟩
/-- a op i by the own def of a's class, i an int -/
def dOwnI (C : Addr) (T : DSp) (W : XW) (ta tb : DT) : DT := fun δ Q => ta δ fun x => tb δ fun y => (∃ fs, x = .ins C fs) ∧ (∃ i, y = .int i) ∧ T [x, y] Q fun e => W e δ
variable {ta tb : DT}
theorem de_binI {op : Operator} (o : OwnOpI X.K C f op.info.2) (F : Fn gp X.prog X.w X.K X.mg X.base k f T) (hgd : gp = true → X.A.guards = some []) (hr : Room k X.A) (hw : Wish X B W) (ha : DE X B a ta) (hb : DE X B b tb) :
    DE X B (.BinOp a op b pos) (dOwnI C T W ta tb) := by
  obtain ⟨Wx, tk, hW⟩ := hw.ex
  refine (pe_binI (E := WE Wx) o F hgd hr (fun σ => passAt tk σ) ha hb).mono fun σ H Q q => ?_
  obtain ⟨G, P, δ, Qd, w, q, kk⟩ := q
  refine ⟨G, P, δ, _, w, q, fun v G1 H1 P1 d s1 ok1 r1 q1 => ?_⟩
  refine ⟨G1, P1, δ, _, w.step s1 ok1, q1, fun u G2 H2 P2 d2 s2 ok2 r2 q2 => ?_⟩
  obtain ⟨⟨fs, rfl⟩, ⟨i, rfl⟩, q2⟩ := q2
  cases r1 with
  | ins a1 b1 =>
    cases r2
    exact ⟨_, _, _, _, rfl, rfl, ok2.gh _ _ (s2.gg _ _ a1), sp_lift hW ((w.step s1 ok1).step s2 ok2) (.cons (s2.rep (.ins a1 b1)) (.cons (.int _) .nil)) q2 (kk.step (s1.trans s2))⟩
end
/-! ### def f(*v) -/
section
variable {P : Program} {w : World} {K : PySem.W.Frag} {mg : Str → Option Value} {base : Heap} {k : Nat} {f : Addr} {fd : FuncData} {x qual pv : Str} {params : Arguments} {body : List Stmt} {scope : Scope} {kws : List (Str × V)} {N : List Str} {T : DSp} {t : (Exn → Prop) → DTS}
/-- the promise behind the binding: one tuple -/
def starT (T : DSp) : DSp := fun es Q E => ∃ ds, es = [.tup ds] ∧ T ds Q E
theorem dfnS (F : FunD K x qual params body scope [] kws f fd) (S : FnScope N [pv] scope)
    (hb : ∀ (kV doc pm : Value) (an : Option Addr) (cdv ct : Value) (us : List Value), bindArgs (PySem.W.fnOf x qual params body scope .none kV doc pm an cdv ct) ⟨us, []⟩ = (newTuple us >>= fun t => pure [(pv, t)]))
    (hT : ∀ ds Q E, T ds Q E → ds.length ≤ sizeLine)
    (hbody : ∀ (cdv : Value) (A : Around) (outer : List Env) (s : Shared) (H : Hp) (E : XK) (B : Base) (Ed : Exn → Prop), Room k (A.deeper (envOfC qual scope s.heap.objs.size f cdv)) → B.M = (fun _ => False) →
      Wish (cxOf (L2.CX P w) P w K mg base N qual scope f cdv A outer s H E) B (fun e _ => Ed e) → DSs (cxOf (L2.CX P w) P w K mg base N qual scope f cdv A outer s H E) B body (t Ed))
    (hread : ∀ ds Q Ed, T ds Q Ed → t Ed { nx := fun _ => Q .non, rt := Q } (some (.val (.tup ds)) :: List.replicate (N.length - 1) none)) : Fn false P w K mg base (k + 1) f T := by
  obtain ⟨oc, od, dV, kV, doc, pm, an, cdv, ct, osl, rfl, lk, hcd, hD, _⟩ := F.ex
  have eD : dV = .none := by
    rcases hD with ⟨_, e⟩ | ⟨e, _⟩
    · exact e
    · exact absurd rfl e
  subst eD
  have R : FnR P w K mg base (L2.CX P w) (k + 1) f _ := StX.fn_star (ps := []) (pv := pv) (sp := spD K (starT T)) lk hcd S StX.cxUp (fun us rest hl => by
    cases us with
    | nil => exact hb kV doc pm an cdv ct rest
    | cons _ _ => cases hl) fun A outer s H vs Q E hr ⟨G, P0, es, Qd, Ed, ok, rl, ht, k1, kx⟩ => by
    obtain ⟨ds, rfl, ht⟩ := ht
    have wsh : Wish (cxOf (L2.CX P w) P w K mg base N qual scope f cdv A outer s H E) ⟨G, H, P0, fun _ => False⟩ (fun e _ => Ed e) :=
      ⟨_, takes_of rfl rfl rfl rfl, fun cls d e σ G' H' P' δ ws rx q => kx cls d G' H' P' e (ws.since.stp fun _ z => z) ws.ok rx q⟩
    refine ⟨_, hbody cdv A outer s H E ⟨G, H, P0, fun _ => False⟩ Ed hr rfl wsh, G, P0, _, _, ws_start ok rl, hread ds Qd Ed ht, ?_⟩
    exact ⟨fun σ H' G' P' δ ws _ _ q => k1 _ _ _ _ _ (ws.since.stp fun _ z => z) ws.ok .non q, fun _ _ _ _ _ _ _ _ q => q.elim, fun _ _ _ _ _ _ _ _ q => q.elim, fun v H' G' P' d ok' sc rv q => k1 _ _ _ _ _ (sc.stp fun _ z => z) ok' rv q⟩
  intro A outer s H us vs Q E _ hr e0 r ⟨G, P0, ds, Qd, Ed, ok, rl, ht, k1, kx⟩
  refine R A outer s H us vs Q E hr e0 r ⟨[], vs, rfl, rfl, by rw [rl.length]; exact hT _ _ _ ht, fun p hp => ?_⟩
  obtain ⟨s1, ok1⟩ := Stp.new (o := .tup vs) ok hp
  exact ⟨_, P0, [.tup ds], Qd, Ed, ok1, .cons (.newTup ok hp rl (hT _ _ _ ht)) .nil, ⟨ds, rfl, ht⟩, k1.step s1, fun cls d G' H' P' e s2 => kx cls d G' H' P' e (s1.trans s2)⟩
end
section
variable {X : Cx} {B : Base} {i j l : Nat} {x y z : Str} {a b c e : Expr} {ta tb tc : DT} {tf : DTF} {px py pz pt pos : Pos} {kt k2 : Nat} {pt2 : Pos}
/-- x, y = a, a list of one's own -/
def dPar2O (i j : Nat) (ta : DT) (tf : DTF) : DTS := fun D δ => ta δ fun u => tf δ fun us => D.nx ((δ.set i (some (.val u))).set j (some (.own us)))
theorem ds_par2O (hc : X.calm = true) (hN : X.N.Nodup) (hi : X.N[i]? = some x) (hj : X.N[j]? = some y) (hx : X.env.scope.names.lookup x = some .local) (hy : X.env.scope.names.lookup y = some .local) (ha : DE X B a ta) (hb : DF X B b tf) (hij : i ≠ j := by decide)
    (hw : swappedStores [.Tuple [.Name x px, .Name y py] kt pt] (.Tuple [a, b] k2 pt2) X.env = pure (some [x, y]) := by rfl) (hs : swapsWithSole [.Tuple [.Name x px, .Name y py] kt pt] (.Tuple [a, b] k2 pt2) pos.line X.env = pure false := by rfl)
    (h1 : starEach [a, b] X.env = (false, eval a X.env) :: starEach [b] X.env := by rfl) (h2 : starEach [b] X.env = (false, eval b X.env) :: starEach [] X.env := by rfl) : DS X B (.Assign [.Tuple [.Name x px, .Name y py] kt pt] (.Tuple [a, b] k2 pt2) pos) (dPar2O i j ta tf) :=
  (ps_par hc hN hi hj hij hx hy (pa_cons ha (pa_cons hb pa_nil h2) h1) hw hs).mono fun D σ H q => by
    obtain ⟨G, P, δ, Dd, w, q, k⟩ := q
    refine ⟨G, P, δ, _, w, q, fun u G1 H1 P1 d1 s1 ok1 r1 q1 => ?_⟩
    refine ⟨G1, P1, δ, _, w.step s1 ok1, q1, fun l xs G2 H2 P2 us s2 ok2 hl h r g p z q2 => ?_⟩
    exact ⟨u, .ref l, rfl, k.nx _ _ _ _ _ (((w.step s1 ok1).set r1 i).setNew s2 ok2 hl h r g p z j) (fun a o e => s2.gg _ _ (s1.gg a o e)) (fun a e => s2.pp _ (s1.pp a e)) q2⟩
/-- what is not reached -/
def dNot_ : DT := fun _ _ => False
theorem de_not_ : DE X B e dNot_ := ⟨fun _ _ _ _ _ _ h => by
  obtain ⟨_, _, _, _, _, q, _⟩ := h
  exact q.elim⟩
/-- x, y = a list of one's own, b; by a tuple (a name that a comprehension reads) -/
theorem ds_parOT (hc : X.calm = true) (g1 : PG X (.Name x px) (gName i)) (g2 : PG X (.Name y py) (gName j)) (ha : DF X B a tf) (hb : DE X B b tb)
    (hs : swapsWithSole [.Tuple [.Name x px, .Name y py] kt pt] (.Tuple [a, b] k2 pt2) pos.line X.env = pure false := by rfl) (hw : swappedStores [.Tuple [.Name x px, .Name y py] kt pt] (.Tuple [a, b] k2 pt2) X.env = pure none := by rfl)
    (h1 : starEach [a, b] X.env = (false, eval a X.env) :: starEach [b] X.env := by rfl) (h2 : starEach [b] X.env = (false, eval b X.env) :: starEach [] X.env := by rfl)
    (h3 : (assignEach [.Tuple [.Name x px, .Name y py] kt pt] X.env).map (·.2) = [assign (.Tuple [.Name x px, .Name y py] kt pt) X.env] := by rfl) : DS X B (.Assign [.Tuple [.Name x px, .Name y py] kt pt] (.Tuple [a, b] k2 pt2) pos) (dParO i j tf tb) :=
  (ps_asg (pe_tup (pa_cons ha (pa_cons hb pa_nil h2) h1)) (pg_tup (n := 2) hc (pgs_cons g1 (pgs_cons g2 pgs_nil))) hs hw h3).mono fun D σ H q => by
    obtain ⟨G, P, δ, Dd, w, q, k⟩ := q
    refine ⟨G, P, δ, _, w, q, fun l xs G1 H1 P1 us s1 ok1 hl h r g p z q1 => ?_⟩
    refine ⟨G1, P1, δ, _, w.step s1 ok1, q1, fun v G2 H2 P2 d2 s2 ok2 r2 q2 => ?_⟩
    refine ⟨by simp only [List.length_cons, List.length_nil]; rw [sizeLine_eq]; omega, fun q hq => ?_⟩
    obtain ⟨s3, ok3⟩ := Stp.new (o := .tup [.ref l, v]) ok2 hq
    obtain ⟨a1, a2, a3, a4⟩ := fresh_step (s2.trans s3) h r g p
    refine ⟨q, [.ref l, v], rfl, .inl (.inl upd_same), rfl, .ref l, [v], rfl, v, [], rfl, rfl, ?_⟩
    exact k.nx _ _ _ _ _ ((w.setNew ((s1.trans s2).trans s3) ok3 hl a1 a2 a3 a4 z i).set (s3.rep r2) j) (fun a o e => s3.gg _ _ (s2.gg _ _ (s1.gg a o e))) (fun a e => s3.pp _ (s2.pp _ (s1.pp a e))) q2
end
end FG

/-! F2: classmethods with *args, a class held by a local name called. -/
namespace FG
open PySem PySem.Spec PyProof.Rows L2
open He (ga ma eqO eqO_ok ba)
/-! ### what the text must have -/
structure ClsM (K : PySem.W.Frag) (C p g : Addr) (m : Str) : Prop where
  r : ClX.CRead K C (.type "type")
  c : ClX.CMet K C (.type "type") m p g
def isCmG (C p : Addr) : Option PySem.W.CFound → Bool
  | some (.get (.builtin i) (.ref q) .none (.ref D)) => i == "classmethod.__get__" && (q == p && D == C)
  | _ => false
theorem isCmG_ok {C p : Addr} {o : Option PySem.W.CFound} (h : isCmG C p o = true) : o = some (.get (.builtin "classmethod.__get__") (.ref p) .none (.ref C)) := by
  unfold isCmG at h
  split at h
  · obtain ⟨a, h⟩ := ba h
    obtain ⟨b, c⟩ := ba h
    rw [beq_iff_eq.mp a, beq_iff_eq.mp b, beq_iff_eq.mp c]
  · cases h
def isRec1 (K : PySem.W.Frag) (p g : Addr) : Bool := match PySem.W.recIn K p "classmethod" with
  | some (.ref q :: _) => q == g
  | _ => false
theorem isRec1_ok {K : PySem.W.Frag} {p g : Addr} (h : isRec1 K p g = true) : ∃ rest, PySem.W.recIn K p "classmethod" = some (.ref g :: rest) := by
  unfold isRec1 at h
  split at h
  · rename_i q rest e
    rw [beq_iff_eq.mp h] at e
    exact ⟨rest, e⟩
  · cases h
def clsMB (K : PySem.W.Frag) (x m : Str) : Bool := PySem.W.readsIn K (ga K x) (.type "type") && (eqO (PySem.W.specialIn K (.ref (ga K x)) "__getattribute__") (some (some (.builtin "type.__getattribute__"))) && (isCmG (ga K x) (prAd K (ga K x) m) (PySem.W.findCls K (.ref (ga K x)) (.type "type") m) && (isRec1 K (prAd K (ga K x) m) (cmAd K (ga K x) m) && PySem.W.fnIn K (cmAd K (ga K x) m))))
theorem clsMB_ok {K : PySem.W.Frag} {x m : Str} (h : clsMB K x m = true) : ClsM K (ga K x) (prAd K (ga K x) m) (cmAd K (ga K x) m) m := by
  obtain ⟨h1, h⟩ := ba h
  obtain ⟨h2, h⟩ := ba h
  obtain ⟨h3, h⟩ := ba h
  obtain ⟨h4, h5⟩ := ba h
  exact ⟨⟨h1, eqO_ok h2⟩, ⟨isCmG_ok h3, isRec1_ok h4, h5⟩⟩
section
variable {X : Cx} {B : Base} {gp : Bool} {k n i : Nat} {f C p g : Addr} {T : DSp} {W : XW} {x m : Str} {o e : Expr} {es : List Expr} {te : DTA} {ta : DT} {p1 pos apos : Pos} {pl : Sem Bool}
/-- the promise of a classmethod's def: behind its class the arguments -/
def spC (K : PySem.W.Frag) (C : Addr) (T : DSp) : Sp := fun vs H Q E => ∃ ws, vs = .ref C :: ws ∧ spD K T ws H Q E
/-- C.m(..) -/
def dCMeth (C : Addr) (T : DSp) (ta : DT) (te : DTA) : DT := fun δ Q => ta δ fun x => x = .cls C ∧ te δ fun ds => T ds Q fun _ => False
theorem de_cmeth (ho : DE X B o ta) (M : ClsM X.K C p g m) (F : FnP false X.prog X.w X.K X.mg X.base k g (spC X.K C T)) (hr : Room k X.A) (ha : DA X B (e :: es) n te)
    (hst : starEach (e :: es) X.env = (false, eval e X.env) :: starEach es X.env := by rfl) (hpl : (backTo pos (starEach es X.env)).any (·.1) = false := by rfl)
    (ht : eval (.Call (.Attribute o m apos) (e :: es) [] pos) X.env = (do
      let ov ← eval o X.env
      standAt apos.atName
      let (f, first) ← holding [ov] (getMethod ov m pl)
      callWith pos f first (backTo pos (starEach (e :: es) X.env)) (backToKw pos (keywordEach [] X.env))) := by rfl) :
    DE X B (.Call (.Attribute o m apos) (e :: es) [] pos) (dCMeth C T ta te) := (ClX.pe_cmeth (E := E0) (pl := pl) ho M.r M.c F.raw hr passL ha hst hpl ht).mono fun σ H Q q => by
  obtain ⟨G, P, δ, Qd, w, q, kk⟩ := q
  refine ⟨G, P, δ, _, w, q, fun v G1 H1 P1 d s1 ok1 r1 q1 => ?_⟩
  obtain ⟨rfl, q1⟩ := q1
  cases r1
  refine ⟨rfl, G1, P1, δ, _, w.step s1 ok1, q1, fun vs G2 H2 P2 ds s2 ok2 r2 _ q2 => ?_⟩
  exact ⟨vs, rfl, G2, P2, ds, Qd, fun _ => False, ok2, r2, q2, kk.step (s1.trans s2), fun _ _ _ _ _ _ _ _ _ z => z⟩
/-- cls(e, ..): a class held by a local name -/
theorem pe_makeV {sp : Sp} {E : L2.St → XK} {t : TA} (M : Mk X.K C f) (F : FnP gp X.prog X.w X.K X.mg X.base k f sp) (hgd : gp = true → X.A.guards = some []) (hr : Room (k + 1) X.A) (hN : X.N[i]? = some x) (hv : Vis X.env.scope x)
    (hx : ∀ σ, PassesAt (L2.CX X.prog X.w) X σ (E σ)) (ha : PA X (e :: es) t) (hdb : (x == ("__debug__" : Str)) = false) (hcd : (x == ("__classdict__" : Str)) = false)
    (h1 : starEach (e :: es) X.env = (false, eval e X.env) :: starEach es X.env) (h2 : (backTo pos (starEach es X.env)).any (·.1) = false) :
    PE X (.Call (.Name x p1) (e :: es) [] pos) (fun σ H Q => σ[i]? = some (some (.ref C)) ∧ t σ H fun vs H1 => ∀ x dx, H1 x = none → H1 dx = none → dx ≠ x → sp (.ref x :: vs) (upd (upd H1 dx (.own x)) x (.ins C dx [])) (fun v H2 => v = .non ∧ Q (.ref x) H2) (E σ)) := by
  refine ⟨fun pins s σ H Q I h => ?_⟩
  obtain ⟨hs, ht⟩ := h
  refine wpAny_Call_Name_kw (thn ((pe_var (pos := p1) hN hv hdb hcd).run pins s σ H (fun v H1 => v = .ref C ∧ H1 = H) I ⟨.ref C, hs, rfl, rfl⟩) fun u s1 ⟨v, H1, I1, r1, q1⟩ => ?_)
  obtain ⟨rfl, rfl⟩ := q1
  cases r1
  refine PySem.W.callWith_K I.ok.mod.kin M.kp (thn (ha.run pos pins s1 σ _ _ I1 ht) fun us s2 ⟨vs, H2, I2, r, q⟩ => ⟨I2.kIn, ?_⟩) h1 h2
  exact run_makeσ M F hgd hr (hx σ) I2 r q
def dMakeV (i : Nat) (C : Addr) (T : DSp) (W : XW) (te : DTA) : DT := fun δ Q => δ[i]? = some (some (.val (.cls C))) ∧ dCall T W te δ Q
theorem de_makeV (M : Mk X.K C f) (F : FnI gp X.prog X.w X.K X.mg X.base k f C T) (hgd : gp = true → X.A.guards = some []) (hr : Room (k + 1) X.A) (hN : X.N[i]? = some x) (hv : Vis X.env.scope x) (hw : Wish X B W) (ha : DA X B (e :: es) n te) (hdb : (x == ("__debug__" : Str)) = false := by decide) (hcd : (x == ("__classdict__" : Str)) = false := by decide)
    (h1 : starEach (e :: es) X.env = (false, eval e X.env) :: starEach es X.env := by rfl) (h2 : (backTo pos (starEach es X.env)).any (·.1) = false := by rfl) : DE X B (.Call (.Name x p1) (e :: es) [] pos) (dMakeV i C T W te) := by
  obtain ⟨Wx, tk, hW⟩ := hw.ex
  refine (pe_makeV (E := WE Wx) M F hgd hr hN hv (fun σ => passAt tk σ) ha hdb hcd h1 h2).mono fun σ H Q q => ?_
  obtain ⟨G, P, δ, Qd, w, ⟨hi, q⟩, kk⟩ := q
  obtain ⟨v, ev, rv⟩ := w.sl i _ hi
  cases rv
  exact ⟨ev, G, P, δ, _, w, q, fun vs G1 H1 P1 ds s1 ok1 r1 _ q1 y dy ny ndy ne => spI_lift hW (w.step s1 ok1) r1 q1 (kk.step s1) ny ndy ne⟩
end
/-! ### def f(cls, *v) -/
section
variable {P : Program} {w : World} {K : PySem.W.Frag} {mg : Str → Option Value} {base : Heap} {k : Nat} {f C : Addr} {fd : FuncData} {x qual pc pv : Str} {params : Arguments} {body : List Stmt} {scope : Scope} {kws : List (Str × V)} {N : List Str} {T : DSp} {t : (Exn → Prop) → DTS}
def starC (C : Addr) (T : DSp) : DSp := fun es Q E => ∃ ds, es = [.cls C, .tup ds] ∧ T ds Q E
theorem dfnSC (F : FunD K x qual params body scope [] kws f fd) (S : FnScope N [pc, pv] scope)
    (h0 : ∀ (kV doc pm : Value) (an : Option Addr) (cdv ct : Value) (a : Value), bindArgs (PySem.W.fnOf x qual params body scope .none kV doc pm an cdv ct) ⟨[a], []⟩ = (newTuple [] >>= fun t => pure [(pc, a), (pv, t)]))
    (h1 : ∀ (kV doc pm : Value) (an : Option Addr) (cdv ct : Value) (a r : Value) (rs : List Value), bindArgs (PySem.W.fnOf x qual params body scope .none kV doc pm an cdv ct) ⟨a :: r :: rs, []⟩ = (newTuple (r :: rs) >>= fun t => pure [(pc, a), (pv, t)]))
    (hT : ∀ ds Q E, T ds Q E → ds.length ≤ sizeLine)
    (hbody : ∀ (cdv : Value) (A : Around) (outer : List Env) (s : Shared) (H : Hp) (E : XK) (B : Base) (Ed : Exn → Prop), Room k (A.deeper (envOfC qual scope s.heap.objs.size f cdv)) → B.M = (fun _ => False) →
      Wish (cxOf (L2.CX P w) P w K mg base N qual scope f cdv A outer s H E) B (fun e _ => Ed e) → DSs (cxOf (L2.CX P w) P w K mg base N qual scope f cdv A outer s H E) B body (t Ed))
    (hread : ∀ ds Q Ed, T ds Q Ed → t Ed { nx := fun _ => Q .non, rt := Q } (some (.val (.cls C)) :: some (.val (.tup ds)) :: List.replicate (N.length - 2) none)) : FnP false P w K mg base (k + 1) f (spC K C T) := by
  obtain ⟨oc, od, dV, kV, doc, pm, an, cdv, ct, osl, rfl, lk, hcd, hD, _⟩ := F.ex
  have eD : dV = .none := by
    rcases hD with ⟨_, e⟩ | ⟨e, _⟩
    · exact e
    · exact absurd rfl e
  subst eD
  have R : FnR P w K mg base (L2.CX P w) (k + 1) f _ := StX.fn_star (ps := [pc]) (pv := pv) (sp := spD K (starC C T)) lk hcd S StX.cxUp (StX.bind_star1 (B := fun l => bindArgs (PySem.W.fnOf x qual params body scope .none kV doc pm an cdv ct) ⟨l, []⟩) (h0 kV doc pm an cdv ct) (h1 kV doc pm an cdv ct)) fun A outer s H vs Q E hr ⟨G, P0, es, Qd, Ed, ok, rl, ht, k1, kx⟩ => by
    obtain ⟨ds, rfl, ht⟩ := ht
    have wsh : Wish (cxOf (L2.CX P w) P w K mg base N qual scope f cdv A outer s H E) ⟨G, H, P0, fun _ => False⟩ (fun e _ => Ed e) :=
      ⟨_, takes_of rfl rfl rfl rfl, fun cls d e σ G' H' P' δ ws rx q => kx cls d G' H' P' e (ws.since.stp fun _ z => z) ws.ok rx q⟩
    refine ⟨_, hbody cdv A outer s H E ⟨G, H, P0, fun _ => False⟩ Ed hr rfl wsh, G, P0, _, _, ws_start ok rl, hread ds Qd Ed ht, ?_⟩
    exact ⟨fun σ H' G' P' δ ws _ _ q => k1 _ _ _ _ _ (ws.since.stp fun _ z => z) ws.ok .non q, fun _ _ _ _ _ _ _ _ q => q.elim, fun _ _ _ _ _ _ _ _ q => q.elim, fun v H' G' P' d ok' sc rv q => k1 _ _ _ _ _ (sc.stp fun _ z => z) ok' rv q⟩
  intro A outer s H us vs Q E _ hr e0 r ⟨ws, ev, G, P0, ds, Qd, Ed, ok, rl, ht, k1, kx⟩
  subst ev
  refine R A outer s H us _ Q E hr e0 r ⟨[.ref C], ws, rfl, rfl, by rw [rl.length]; exact hT _ _ _ ht, fun p hp => ?_⟩
  obtain ⟨s1, ok1⟩ := Stp.new (o := .tup ws) ok hp
  exact ⟨_, P0, [.cls C, .tup ds], Qd, Ed, ok1, .cons (.cls C) (.cons (.newTup ok hp rl (hT _ _ _ ht)) .nil), ⟨ds, rfl, ht⟩, k1.step s1, fun cls d G' H' P' e s2 => kx cls d G' H' P' e (s1.trans s2)⟩
end
end FG

/-! F3: sorted(set(xs)) of more than 63 ints. -/
namespace L2
open PySem PySem.Spec PyProof.Rows
section
variable {P : Program} {w : World} {A : Around} {E : Value → Shared → Prop} {s : Shared} {a : Addr}
/-- sorted(set of ints), fewer than the model's scan bound -/
theorem sorted_setB {S : Int → Bool} {n : Nat} {Q : Value → Shared → Prop} (R : SetR w s.heap a S n) (hh : A.handled = none)
    (hQ : ∀ s' p (out : List Value) (c : Nat) (ns : List Int), (∀ b o, s.heap.get? b = some o → s'.heap.get? b = some o) → s'.gens = s.gens → s'.os = s.os → s.heap.objs.size ≤ p →
      s'.heap.get? p = some (seqObj "list" out.toArray c) → IntsAre out ns → ns.Pairwise (· < ·) → (∀ k, k ∈ ns ↔ S k = true) → ns.length = n → Q (.ref p) s') :
    wpAny (model P w) A (call (.builtin "sorted") [.ref a]) Q E s := by
  obtain ⟨o, es, ep, t, ho, hex, hd, g, nd, hm, hb, hf, hn, hr, hl⟩ := R
  refine Calls.call_function_entry kind_sorted plain_sorted entry_sorted (args_sorted1 _) ?_
  unfold Builtin.«sorted»
  refine wpAny_bind (m := checkCount "sorted" 1 1 _) (wpAny_pure ?_)
  refine wpAny_bind (collect_set (A := A.in1) hh ⟨o, ho, hex.1, hd⟩ hf hb hr hl fun s1 vs k1 hz g1 o1 pm => ?_)
  have hvl : vs.length = n := by rw [pm.length_eq, List.length_map, Array.length_toList]; exact hn
  have hvz : vs.length ≤ sizeLine := by
    rw [hvl, ← hn]
    exact fits_of_scanBound hb
  have hI : IntsAre vs (vs.map Builtin.Re.reRawOf) := ints_of vs fun v hv => by
    obtain ⟨e, he, q⟩ := List.mem_map.mp (pm.mem_iff.mp hv)
    obtain ⟨k, tk, h1, _⟩ := g e he
    exact ⟨k, tk, by rw [← q]; exact h1⟩
  have pk : (vs.map Builtin.Re.reRawOf).Perm (es.toList.map keyOf) := by
    have q := pm.map Builtin.Re.reRawOf
    rw [List.map_map] at q
    exact q
  refine wpAny_bind (wpAny_newList ?_ hvz)
  have hoL : (s1.heap.push (seqObj "list" vs.toArray 0)).get? s1.heap.objs.size = some (seqObj "list" vs.toArray 0) := Heap.get?_push_size _ rfl
  refine wpAny_bind (wpAny_holding (wpAny_call_entry slot_list_sort ⟨_, hoL, rfl⟩ entry_list_sort (SrtO.list_sort_ord SrtO.swo_int hoL hvz (fun h2 => SrtO.ints_sortable hI h2) fun out hs hst => ⟨_, rfl, ?_⟩) (args_list_sort _)))
  obtain ⟨a1, a2, a3⟩ := SrtO.ints_out hI hs hst
  obtain ⟨c, hc⟩ := sortedHeap_at (vs := vs) (out := out.toArray) hoL
  have pn : (out.map SrtO.iv).Perm (es.toList.map keyOf) := a2.trans pk
  refine wpAny_pure ⟨_, rfl, hQ _ s1.heap.objs.size out c (out.map SrtO.iv) (fun b u e => ?_) g1 o1 hz hc a1 (lt_of_le_nodup _ a3 (pn.nodup_iff.mpr nd)) (fun k => by rw [pn.mem_iff, ← hm k]) ?_⟩
  · have q := k1 b u e
    have hlt := Heap.lt_size q
    show (sortedHeap (s1.heap.push (seqObj "list" vs.toArray 0)) s1.heap.objs.size vs out.toArray).get? b = some u
    rw [sortedHeap_old (Nat.ne_of_lt hlt) (by rw [size_push']; exact Nat.lt_succ_of_lt hlt)]
    exact Heap.get?_push_of_some _ q
  · rw [pn.length_eq, List.length_map, Array.length_toList]; exact hn
end
section
variable {X : Cx}
def rSortedSetB (w : World) : List V → Hp → VK → Prop := fun vs H Q => ∃ (a : Addr) (S : Int → Bool) (n : Nat), vs = [V.ref a] ∧ H a = some (SetO w a S n) ∧ n < 4000 ∧
  ∀ (ns : List Int) (p : Addr), ns.Pairwise (· < ·) → (∀ k : Int, k ∈ ns ↔ S k = true) → ns.length = n → H p = none → Q (.ref p) (upd H p (.lst (ns.map V.int)))
theorem cr_sortedSetB (hc : X.calm = true) : CallR X (.builtin "sorted") (rSortedSetB X.w) := by
  intro pins s σ H vs us Q I r h
  obtain ⟨a, S, n, rfl, ha, h64, q⟩ := h
  have R := setO_get I ha
  rw [Vals.ref1 r]
  refine sorted_setB R (I.ok.hd hc) fun s' p out c ns k g o hp hg hi hs hm hl => ?_
  have hlen : (ns.map V.int).length ≤ sizeLine := by rw [List.length_map, hl, sizeLine_eq]; omega
  have hn : H p = none := I.hok.fresh hp
  have J : Inv X pins σ (upd H p (.lst (ns.map V.int))) { s with heap := s'.heap, gens := s'.gens, drawn := s'.drawn, toks := s'.toks } :=
    I.call (ch := []) (Un.laid k hp hn) (I.hok.laid k hp ⟨hlen, out, c, vals_of_ints hi, hg⟩) (by rw [g]; exact I.bare) (fun _ z => nomatch z)
  have e : s' = { s with heap := s'.heap, gens := s'.gens, drawn := s'.drawn, toks := s'.toks } := by
    cases s'
    cases s
    cases o
    rfl
  rw [e]
  exact ⟨.ref p, _, J, rfl, q ns p hs hm hl hn⟩
end
end L2
namespace FG
open PySem PySem.Spec PyProof.Rows L2
section
variable {X : Cx}
def rSetOfB (K : PySem.W.Frag) (w : World) : List V → Hp → VK → Prop := fun xs H Q => ∃ (l : Addr) (ns : List Int), xs = [V.ref l] ∧ SqL K H l (ns.map V.int) ∧ ns.length < 4000 ∧ ∀ a c, H a = none → c < 4000 → Q (.ref a) (upd H a (SetO w a (fun j => decide (j ∈ ns)) c))
theorem cr_setOfB (hc : X.calm = true) : CallR X (.type "set") (rSetOfB X.K X.w) := by
  intro pins s σ H xs us Q I r h
  obtain ⟨l, ns, rfl, hl, hf, q⟩ := h
  rw [Vals.ref1 r]
  obtain ⟨its, rv, pl, hz⟩ := I.list hl
  have hn : H s.heap.objs.size = none := I.hok.fresh (Nat.le_refl _)
  have sb : ns.length + 1 < scanBound := Nat.lt_of_lt_of_le (Nat.succ_lt_succ hf) (by decide)
  refine set_of_ints (Pr := X.prog) (wd := X.w) ns (I.ok.hd hc) pl.isList (by simpa using ints_of_vals rv) sb fun h' tk c R lc k => ?_
  exact ⟨.ref s.heap.objs.size, upd H s.heap.objs.size (SetO X.w s.heap.objs.size (fun j => decide (j ∈ ns)) c), I.laid (t' := tk) k (Nat.le_refl _) (setO_new R), rfl, q _ c hn (by omega)⟩
end
/-- sorted(set(e)), up to some thousands of ints -/
def dSortSetB (ta : DT) : DT := fun δ Q => ta δ fun x => match x with
  | .lst ds => ∃ ns, D.asInts ds = some ns ∧ ns.length < 4000 ∧ ∀ ms : List Int, ms.Pairwise (· < ·) → (∀ k, k ∈ ms ↔ k ∈ ns) → Q (.lst (ms.map D.int))
  | _ => False
section
variable {X : Cx} {B : Base} {e : Expr} {ta : DT} {p p2 pos pos2 : Pos}
theorem de_sortSetB (hc : X.calm = true) (hg : Gl X "sorted") (hm : X.mg "sorted" = none) (hv : bootBuiltins "sorted" = some (.builtin "sorted")) (hg2 : Gl X "set") (hm2 : X.mg "set" = none) (hv2 : bootBuiltins "set" = some (.type "set")) (he : DE X B e ta)
    (h1 : starEach [.Call (.Name "set" p2) [e] [] pos2] X.env = (false, eval (.Call (.Name "set" p2) [e] [] pos2) X.env) :: starEach [] X.env := by rfl) (h2 : (backTo pos (starEach [] X.env)).any (·.1) = false := by rfl)
    (h3 : starEach [e] X.env = (false, eval e X.env) :: starEach [] X.env := by rfl) (h4 : (backTo pos2 (starEach [] X.env)).any (·.1) = false := by rfl) :
    DE X B (.Call (.Name "sorted" p) [.Call (.Name "set" p2) [e] [] pos2] [] pos) (dSortSetB ta) :=
  (pe_callB (cr_sortedSetB hc) hg hm hv (pa_cons (pe_callTy (cr_setOfB hc) hg2 hm2 hv2 (pa_cons he pa_nil h3) (by decide) (by decide) h3 h4) pa_nil h1) (by decide) (by decide) h1 h2).mono fun σ H Q q => by
    obtain ⟨G, P, δ, Qd, w, q, k⟩ := q
    refine ⟨G, P, δ, _, w, q, fun v G1 H1 P1 d s1 ok1 r1 q1 => ?_⟩
    cases r1 with
    | @lst a xs ds g1 g2 g3 =>
      obtain ⟨ns, e, hn, q1⟩ := q1
      rw [of_asInts e] at g2
      refine ⟨a, ns, rfl, by rw [← RepL.of_ints g2]; exact .inl (.inl (ok1.gh _ _ g1)), hn, fun b c hb h64 => ?_⟩
      obtain ⟨s2, ok2⟩ := Stp.laid (o := SetO X.w b (fun j => decide (j ∈ ns)) c) ok1 hb
      refine ⟨b, _, c, rfl, upd_same, h64, fun ms z pw mem hl hz => ?_⟩
      refine (k.step (s1.trans s2)).new ok2 hz (.newLst ok2 hz RepL.ints (by rw [List.length_map, sizeLine_eq]; omega)) (q1 ms pw fun j => ?_)
      rw [mem j]
      exact decide_eq_true_iff
    | _ => exact q1.elim
end
end FG

/-! F4: zip(xs, ys, strict=True) of two lists of one length. -/
namespace PySem
open Sem (wp)
namespace F
theorem typeCall_zip_strict (a b c : Value) : checkTypeCall "zip" ⟨[a, b], [(Str.ofString "strict", c)]⟩ = pure () := by kernel_rfl
theorem newCall_zip_strict (a b c : Value) : checkBuiltinCall "zip.__new__" ⟨[.type "zip", a, b], [(Str.ofString "strict", c)]⟩ = pure () := by kernel_rfl
theorem args_object_init_strict (obj a b c : Value) : argsOk "object.__init__" ⟨[obj, a, b], [(Str.ofString "strict", c)]⟩ := by unfold argsOk; kernel_rfl
end F
abbrev IsZipS (h : Heap) (z TI TO : Addr) (f0 : Value) : Prop :=
  h.get? z = some { cls := .type "zip", dict := none, data := .fields #[f0, .bool false, .bool true, .ref TI, .ref TO], slots := #[] }
abbrev zipS5 (h : Heap) (l1 l2 : Addr) : Heap := (zipH4 h l1 l2).push { cls := .type "zip", data := .fields #[.none, .bool false, .bool true, .ref (zipH2 h l1 l2).objs.size, .ref (zipH3 h l1 l2).objs.size] }
theorem meets_zip_newS (l1 l2 : Addr) (xs ys : Array Value) :
    Meets (Builtin.«zip.__new__» ⟨[.type "zip", .ref l1, .ref l2], [(Str.ofString "strict", .bool true)]⟩) (fun _ R s => s.heap.IsList l1 xs ∧ s.heap.IsList l2 ys ∧
      R (.ok (.ret (.ref (zipH4 s.heap l1 l2).objs.size))) { s with heap := zipS5 s.heap l1 l2 }) :=
  .of_wp fun prog w A R s h => by
    obtain ⟨hp, g, d, tk, os⟩ := s; obtain ⟨hl1, hl2, h⟩ := h
    have hsub := sub_zip
    have hL1 : Heap.IsList (Shared.heap ⟨hp, g, d, tk, os⟩) l1 xs := hl1
    have hL2 : Heap.IsList (Shared.heap ⟨hp.push { cls := .type "list_iterator", data := .fields #[.ref l1, .int 0 0] }, g, d, tk, os⟩) l2 ys := Heap.IsList.push hl2 _
    have e1 : (Str.ofString "strict" == ("strict" : Str)) = true := by decide +kernel
    have e2 : (Str.ofString "strict" != ("strict" : Str)) = false := by decide +kernel
    wp_walk using wpAny_pyIter_list hL1, wpAny_pyIter_list hL2
    exact ⟨_, rfl, h⟩

section
variable {prog : Program} {w : World} {A : Around} {E : Value → Shared → Prop} {s : Shared}
theorem call_zip_S {l1 l2 : Addr} {xs ys : Array Value} {Q : Value → Shared → Prop} (hl1 : s.heap.IsList l1 xs) (hl2 : s.heap.IsList l2 ys)
    (h : ∀ h', IsZipS h' (s.heap.objs.size + 4) (s.heap.objs.size + 2) (s.heap.objs.size + 3) .none → IsPair h' (s.heap.objs.size + 2) (.ref s.heap.objs.size) (.ref (s.heap.objs.size + 1)) →
      IsPair h' (s.heap.objs.size + 3) .none .none → h'.IsListIter s.heap.objs.size l1 0 → h'.IsListIter (s.heap.objs.size + 1) l2 0 → h'.objs.size = s.heap.objs.size + 5 →
      (∀ c o, s.heap.get? c = some o → h'.get? c = some o) → Q (.ref (s.heap.objs.size + 4)) { s with heap := h' }) :
    wpAny (model prog w) A (call (.type "zip") [.ref l1, .ref l2] [(Str.ofString "strict", .bool true)]) Q E s := by
  refine callType_newKw F.called_zip (by decide) (F.typeCall_zip_strict _ _ _) (F.newCall_zip_strict _ _ _) (fun obj => F.args_object_init_strict obj _ _ _) F.entry_zip_new
    (meets_zip_newS l1 l2 xs ys) ⟨hl1, hl2, ?_⟩
  have z1 : (zipH1 s.heap l1).objs.size = s.heap.objs.size + 1 := Heap.size_push ..
  have z2 : (zipH2 s.heap l1 l2).objs.size = s.heap.objs.size + 2 := by rw [Heap.size_push, z1]
  have z3 : (zipH3 s.heap l1 l2).objs.size = s.heap.objs.size + 3 := by rw [Heap.size_push, z2]
  have z4 : (zipH4 s.heap l1 l2).objs.size = s.heap.objs.size + 4 := by rw [Heap.size_push, z3]
  have z5 : (zipS5 s.heap l1 l2).objs.size = s.heap.objs.size + 5 := by rw [Heap.size_push, z4]
  have g5 : (zipS5 s.heap l1 l2).get? (zipH4 s.heap l1 l2).objs.size = some _ := Heap.get?_push_size _ rfl
  have g4 : (zipS5 s.heap l1 l2).get? (zipH3 s.heap l1 l2).objs.size = some _ := Heap.get?_push_of_some _ (Heap.get?_push_size _ rfl)
  have g3 : (zipS5 s.heap l1 l2).get? (zipH2 s.heap l1 l2).objs.size = some _ := Heap.get?_push_of_some _ (Heap.get?_push_of_some _ (Heap.get?_push_size _ rfl))
  have g2 : (zipS5 s.heap l1 l2).get? (zipH1 s.heap l1).objs.size = some _ := Heap.get?_push_of_some _ (Heap.get?_push_of_some _ (Heap.get?_push_of_some _ (Heap.get?_push_size _ rfl)))
  have g1 : (zipS5 s.heap l1 l2).get? s.heap.objs.size = some _ := Heap.get?_push_of_some _ (Heap.get?_push_of_some _ (Heap.get?_push_of_some _ (Heap.get?_push_of_some _ (Heap.get?_push_size _ rfl))))
  show _ ∧ _
  rw [z2, z3, z4] at g5
  rw [z1, z2] at g3
  rw [z3] at g4
  rw [z1] at g2
  rw [z4]
  exact ⟨⟨_, g5, rfl⟩, h _ g5 g3 g4 ⟨_, g1, rfl, rfl⟩ ⟨_, g2, rfl, rfl⟩ z5 fun c o x =>
    Heap.get?_push_of_some _ (Heap.get?_push_of_some _ (Heap.get?_push_of_some _ (Heap.get?_push_of_some _ (Heap.get?_push_of_some _ x))))⟩
end

section
variable {prog : Program} {w : World} {A : Around} {E : Value → Shared → Prop} {s : Shared}
theorem nextOrEnd_item {it l : Addr} {i : Nat} {items} {x : Value} {Q : Option Value → Shared → Prop} (hit : s.heap.IsListIter it l i)
    (hl : s.heap.IsList l items) (hx : items[i]? = some x)
    (hQ : ∀ h', h'.IsListIter it l (i + 1) → Heap.SameBut it s.heap h' → Q (some x) { s with heap := h' }) :
    wpAny (model prog w) A (Builtin.SmallTypes.nextOrEnd (.ref it)) Q E s := by
  unfold Builtin.SmallTypes.nextOrEnd
  exact wpAny_bind (wpAny_attempt (wpAny_nextOf_list_item hit hl hx fun h' a b => wpAny_pure (hQ h' a b)))
theorem nextOrEnd_end {it l : Addr} {i : Nat} {items} {Q : Option Value → Shared → Prop} (hh : A.handled = none) (hit : s.heap.IsListIter it l i)
    (hl : s.heap.IsList l items) (hx : items[i]? = none)
    (hQ : ∀ h', Heap.ExtBut it s.heap h' → Q none { s with heap := h' }) :
    wpAny (model prog w) A (Builtin.SmallTypes.nextOrEnd (.ref it)) Q E s := by
  unfold Builtin.SmallTypes.nextOrEnd
  refine wpAny_bind (wpAny_attempt (wpAny_nextOf_list_end hh hit hl hx fun h' e hb he => ?_))
  obtain ⟨o, ho, hc⟩ := he
  refine wpAny_bind (wpAny_isInstance (T := "StopIteration") (b := true) ⟨o, ho, hc⟩ isSubtype_stop ?_)
  exact wpAny_pure (hQ h' hb)
theorem stop_raised {α : Type} {Q : α → Shared → Prop} (hh : A.handled = none)
    (hE : ∀ h' e, (∀ c o, s.heap.get? c = some o → h'.get? c = some o) → (∃ o, h'.get? e = some o ∧ o.cls = .type "StopIteration") → E (.ref e) { s with heap := h' }) :
    wpAny (model prog w) A (Builtin.SmallTypes.stopIteration : Sem α) Q E s := by
  unfold Builtin.SmallTypes.stopIteration
  refine wpAny_bind ?_
  simp only [newExc, newTuple]
  refine wpAny_bind (wpAny_newObj_type ?_ (by size_fits))
  refine wpAny_bind (m := firstArgMember _ _) (wpAny_of_eq (a := Value.none) (by first | rfl | (simp only [firstArgMember]; rfl)) ?_)
  refine wpAny_newObj_type ?_ (by size_fits)
  simp only [raiseNew]
  refine wpAny_bind (wpAny_handled ?_)
  rw [hh]
  refine wpAny_bind (wpAny_pure (wpAny_throw ?_))
  exact hE _ _ (fun c o q => Heap.get?_push_of_some _ (Heap.get?_push_of_some _ q)) ⟨_, Heap.get?_push_size _ rfl, rfl⟩

theorem zipS_next_item {z TI TO i1 i2 l1 l2 : Addr} {k1 k2 : Nat} {xs ys : Array Value} {x y a b : Value} {Q : Value → Shared → Prop} (D : ZipApart z TI TO i1 i2 l1 l2)
    (hz : IsZipS s.heap z TI TO .none) (hTI : IsPair s.heap TI (.ref i1) (.ref i2)) (hTO : IsPair s.heap TO a b)
    (h1 : s.heap.IsListIter i1 l1 k1) (h2 : s.heap.IsListIter i2 l2 k2) (hl1 : s.heap.IsList l1 xs) (hl2 : s.heap.IsList l2 ys) (hx : xs[k1]? = some x) (hy : ys[k2]? = some y)
    (hQ : ∀ h', IsZipS h' z TI TO (rawInt s.heap.objs.size) → IsPair h' TO x y → h'.IsListIter i1 l1 (k1 + 1) → h'.IsListIter i2 l2 (k2 + 1) → IsPair h' s.heap.objs.size x y → h'.objs.size = s.heap.objs.size + 1 →
      (∀ c o, c ≠ z → c ≠ TO → c ≠ i1 → c ≠ i2 → s.heap.get? c = some o → h'.get? c = some o) → Q (.ref s.heap.objs.size) { s with heap := h' }) :
    wpAny (model prog w) A (Builtin.«zip.__next__» ⟨[.ref z], []⟩) (fun fin s' => ∃ v, fin = .done (.ret v) ∧ Q v s') E s := by
  show wpAny _ _ (field (.ref z) 2 >>= _) _ _ _
  refine wpAny_bind (wpAny_field hz rfl (x := .bool true) rfl ?_)
  show wpAny _ _ (field (.ref z) 3 >>= _) _ _ _
  refine wpAny_bind (wpAny_field hz rfl (x := .ref TI) rfl ?_)
  refine wpAny_bind (wpAny_seqItems hTI rfl ?_)
  show wpAny _ _ (Builtin.SmallTypes.ownedTupleIsFree (.ref z) >>= _) _ _ _
  refine wpAny_bind ?_
  unfold Builtin.SmallTypes.ownedTupleIsFree
  refine wpAny_bind (wpAny_field hz rfl (x := .none) rfl (wpAny_pure ?_))
  simp only [if_true]
  refine wpAny_bind (wpAny_rule ?_)
  refine wpAny_bind (wpAny_field hz rfl (x := .ref TO) rfl ?_)
  refine wpAny_bind (wpAny_setField_rec hz (by simp) fun h₁ hz₁ hs₁ => ?_)
  replace hz₁ : IsZipS h₁ z TI TO .ellipsis := hz₁
  refine wpAny_bind ?_
  simp only [List.zipIdx_cons, List.zipIdx_nil, List.forIn_cons, List.forIn_nil]

  refine wpAny_bind (wpAny_bind (wpAny_onRaise ?_))
  show wpAny _ _ (Builtin.SmallTypes.nextOrEnd (.ref i1)) _ _ _
  refine nextOrEnd_item (s := { s with heap := h₁ }) (h1.extBut hs₁.extBut D.i1z) (hl1.extBut hs₁.extBut D.l1z) hx fun h₂ h1₂ hs₂ => ?_
  have hTO₂ : IsPair h₂ TO a b := hs₂.extBut _ _ D.TOi1 (hs₁.extBut _ _ D.TOz hTO)
  refine wpAny_bind (wpAny_seqItems hTO₂ rfl ?_)
  refine wpAny_bind (wpAny_updateSeq_pair hTO₂ fun h₃ hTO₃ hs₃ => ?_)
  replace hTO₃ : IsPair h₃ TO x b := hTO₃
  refine wpAny_bind (wpAny_letGo (wpAny_pure ?_))

  refine wpAny_bind (wpAny_bind (wpAny_onRaise ?_))
  show wpAny _ _ (Builtin.SmallTypes.nextOrEnd (.ref i2)) _ _ _
  refine nextOrEnd_item (s := { s with heap := h₃ }) (((h2.extBut hs₁.extBut D.i2z).extBut hs₂.extBut D.i12.symm).extBut hs₃.extBut D.TOi2.symm)
    (((hl2.extBut hs₁.extBut D.l2z).extBut hs₂.extBut D.l2i1).extBut hs₃.extBut D.l2TO) hy fun h₄ h2₄ hs₄ => ?_
  have hTO₄ : IsPair h₄ TO x b := hs₄.extBut _ _ D.TOi2 hTO₃
  refine wpAny_bind (wpAny_seqItems hTO₄ rfl ?_)
  refine wpAny_bind (wpAny_updateSeq_pair hTO₄ fun h₅ hTO₅ hs₅ => ?_)
  replace hTO₅ : IsPair h₅ TO x y := hTO₅
  refine wpAny_bind (wpAny_letGo (wpAny_pure (wpAny_pure ?_)))

  refine wpAny_bind (wpAny_seqItems hTO₅ rfl ?_)
  refine wpAny_bind (wpAny_newTuple ?_)
  have hsz : h₅.objs.size = s.heap.objs.size := by rw [hs₅.1, hs₄.1, hs₃.1, hs₂.1, hs₁.1]
  have hz₅ : IsZipS h₅ z TI TO .ellipsis := hs₅.extBut _ _ D.TOz.symm (hs₄.extBut _ _ D.i2z.symm (hs₃.extBut _ _ D.TOz.symm (hs₂.extBut _ _ D.i1z.symm hz₁)))
  have hk₅ : ∀ c o, c ≠ z → c ≠ TO → c ≠ i1 → c ≠ i2 → s.heap.get? c = some o → h₅.get? c = some o := fun c o c1 c2 c3 c4 e =>
    hs₅.extBut _ _ c2 (hs₄.extBut _ _ c4 (hs₃.extBut _ _ c2 (hs₂.extBut _ _ c3 (hs₁.extBut _ _ c1 e))))
  have h1₅ : h₅.IsListIter i1 l1 (k1 + 1) := ((h1₂.extBut hs₃.extBut D.TOi1.symm).extBut hs₄.extBut D.i12).extBut hs₅.extBut D.TOi1.symm
  have h2₅ : h₅.IsListIter i2 l2 (k2 + 1) := h2₄.extBut hs₅.extBut D.TOi2.symm
  have hzlt : z < h₅.objs.size := Heap.lt_size hz₅
  have hTOlt : TO < h₅.objs.size := Heap.lt_size hTO₅
  have hi1lt : i1 < h₅.objs.size := by obtain ⟨_, e, _⟩ := h1₅; exact Heap.lt_size e
  have hi2lt : i2 < h₅.objs.size := by obtain ⟨_, e, _⟩ := h2₅; exact Heap.lt_size e
  show wpAny _ _ (Builtin.SmallTypes.ownedTupleHandOut (.ref z) (.ref h₅.objs.size) >>= _) _ _ _
  refine wpAny_bind ?_
  unfold Builtin.SmallTypes.ownedTupleHandOut
  have hz₆ : IsZipS (h₅.push { cls := .type "tuple", data := .seq #[x, y] }) z TI TO .ellipsis := Heap.get?_push_of_some _ hz₅
  refine wpAny_bind (wpAny_setField_rec hz₆ (by simp) fun h₇ hz₇ hs₇ => ?_)
  replace hz₇ : IsZipS h₇ z TI TO (rawInt h₅.objs.size) := hz₇
  refine wpAny_setField_rec hz₇ (by simp) fun h₈ hz₈ hs₈ => ?_
  replace hz₈ : IsZipS h₈ z TI TO (rawInt h₅.objs.size) := hz₈
  have up : ∀ c o, c ≠ z → h₅.get? c = some o → h₈.get? c = some o := fun c o c1 e => hs₈.extBut _ _ c1 (hs₇.extBut _ _ c1 (Heap.get?_push_of_some _ e))
  have hT₈ : IsPair h₈ h₅.objs.size x y := hs₈.extBut _ _ (Nat.ne_of_gt hzlt) (hs₇.extBut _ _ (Nat.ne_of_gt hzlt) (Heap.get?_push_size _ rfl))
  have hz8 : h₈.objs.size = h₅.objs.size + 1 := by rw [hs₈.1, hs₇.1, Heap.size_push]
  rw [hsz] at hz₈ hT₈ hz8
  refine wpAny_pure ⟨_, rfl, ?_⟩
  show Q (.ref h₅.objs.size) _
  rw [hsz]
  exact hQ h₈ hz₈ (up _ _ D.TOz hTO₅) (h1₅.at fun o e => up _ o D.i1z e) (h2₅.at fun o e => up _ o D.i2z e) hT₈ hz8 fun c o c1 c2 c3 c4 e => up c o c1 (hk₅ c o c1 c2 c3 c4 e)

theorem zipS_next_end {z TI TO i1 i2 l1 l2 : Addr} {k1 k2 : Nat} {xs ys : Array Value} {a b : Value} {Q : Fin → Shared → Prop} (hh : A.handled = none) (D : ZipApart z TI TO i1 i2 l1 l2)
    (hz : IsZipS s.heap z TI TO .none) (hTI : IsPair s.heap TI (.ref i1) (.ref i2)) (hTO : IsPair s.heap TO a b)
    (h1 : s.heap.IsListIter i1 l1 k1) (h2 : s.heap.IsListIter i2 l2 k2) (hl1 : s.heap.IsList l1 xs) (hl2 : s.heap.IsList l2 ys) (hx : xs[k1]? = none) (hy : ys[k2]? = none)
    (hE : ∀ h' e, (∀ c o, c ≠ z → c ≠ TO → c ≠ i1 → c ≠ i2 → s.heap.get? c = some o → h'.get? c = some o) → (∃ o, h'.get? e = some o ∧ o.cls = .type "StopIteration") → E (.ref e) { s with heap := h' }) :
    wpAny (model prog w) A (Builtin.«zip.__next__» ⟨[.ref z], []⟩) Q E s := by
  show wpAny _ _ (field (.ref z) 2 >>= _) _ _ _
  refine wpAny_bind (wpAny_field hz rfl (x := .bool true) rfl ?_)
  show wpAny _ _ (field (.ref z) 3 >>= _) _ _ _
  refine wpAny_bind (wpAny_field hz rfl (x := .ref TI) rfl ?_)
  refine wpAny_bind (wpAny_seqItems hTI rfl ?_)
  show wpAny _ _ (Builtin.SmallTypes.ownedTupleIsFree (.ref z) >>= _) _ _ _
  refine wpAny_bind ?_
  unfold Builtin.SmallTypes.ownedTupleIsFree
  refine wpAny_bind (wpAny_field hz rfl (x := .none) rfl (wpAny_pure ?_))
  simp only [if_true]
  refine wpAny_bind (wpAny_rule ?_)
  refine wpAny_bind (wpAny_field hz rfl (x := .ref TO) rfl ?_)
  refine wpAny_bind (wpAny_setField_rec hz (by simp) fun h₁ hz₁ hs₁ => ?_)
  replace hz₁ : IsZipS h₁ z TI TO .ellipsis := hz₁
  refine wpAny_bind ?_
  simp only [List.zipIdx_cons, List.zipIdx_nil, List.forIn_cons, List.forIn_nil]
  refine wpAny_bind (wpAny_bind (wpAny_onRaise ?_))
  show wpAny _ _ (Builtin.SmallTypes.nextOrEnd (.ref i1)) _ _ _
  refine nextOrEnd_end (s := { s with heap := h₁ }) hh (h1.extBut hs₁.extBut D.i1z) (hl1.extBut hs₁.extBut D.l1z) hx fun h₂ hs₂ => ?_
  have hz₂ : IsZipS h₂ z TI TO .ellipsis := hs₂ _ _ D.i1z.symm hz₁
  refine wpAny_bind (wpAny_setField_rec hz₂ (by simp) fun h₃ _ hs₃ => ?_)
  refine wpAny_bind ?_
  show wpAny _ _ ((forIn (([Value.ref i1, Value.ref i2].drop 1).zipIdx 1) _ _) >>= _) _ _ _
  simp only [List.drop_succ_cons, List.drop_zero, List.zipIdx_cons, List.zipIdx_nil, List.forIn_cons, List.forIn_nil]
  have hs : ∀ c o, c ≠ z → c ≠ i1 → s.heap.get? c = some o → h₃.get? c = some o := fun c o c1 c3 x => hs₃.extBut _ _ c1 (hs₂ _ _ c3 (hs₁.extBut _ _ c1 x))
  refine wpAny_bind (wpAny_bind (wpAny_bind ?_))
  refine nextOrEnd_end (s := { s with heap := h₃ }) hh (h2.at fun o q => hs _ o D.i2z D.i12.symm q) (hl2.at fun o q => hs _ o D.l2z D.l2i1 q) hy fun h₄ hs₄ => ?_
  refine wpAny_pure (wpAny_pure ?_)
  refine wpAny_bind (wpAny_rule ?_)
  exact stop_raised (s := { s with heap := h₄ }) hh fun h₅ e hk he => hE h₅ e (fun c o c1 _ c3 c4 x => hk _ _ (hs₄ _ _ c4 (hs _ _ c1 c3 x))) he

theorem pyNext_zipS_item {z TI TO i1 i2 l1 l2 : Addr} {k1 k2 : Nat} {xs ys : Array Value} {x y a b : Value} {Q : Option Value → Shared → Prop} (D : ZipApart z TI TO i1 i2 l1 l2)
    (hz : IsZipS s.heap z TI TO .none) (hTI : IsPair s.heap TI (.ref i1) (.ref i2)) (hTO : IsPair s.heap TO a b)
    (h1 : s.heap.IsListIter i1 l1 k1) (h2 : s.heap.IsListIter i2 l2 k2) (hl1 : s.heap.IsList l1 xs) (hl2 : s.heap.IsList l2 ys) (hx : xs[k1]? = some x) (hy : ys[k2]? = some y)
    (hQ : ∀ h', IsZipS h' z TI TO (rawInt s.heap.objs.size) → IsPair h' TO x y → h'.IsListIter i1 l1 (k1 + 1) → h'.IsListIter i2 l2 (k2 + 1) → IsPair h' s.heap.objs.size x y → h'.objs.size = s.heap.objs.size + 1 →
      (∀ c o, c ≠ z → c ≠ TO → c ≠ i1 → c ≠ i2 → s.heap.get? c = some o → h'.get? c = some o) → Q (some (.ref s.heap.objs.size)) { s with heap := h' }) :
    wpAny (model prog w) A (pyNext (.ref z)) Q E s := by
  have hT : s.TypeIs (.ref z) "zip" := ⟨_, hz, rfl⟩
  unfold pyNext
  exact wpAny_bind (wpAny_attempt (wpAny_callSpecial?_slot (name := Str.ofString "__next__") hT F.slot_zip_next
    (wpAny_call_entry F.slot_zip_next hT F.entry_zip_next
      (zipS_next_item D hz hTI hTO h1 h2 hl1 hl2 hx hy fun h' a1 a2 a3 a4 a5 a6 a7 => wpAny_pure (hQ h' a1 a2 a3 a4 a5 a6 a7)) (F.args_zip_next_1 _))))
theorem pyNext_zipS_end {z TI TO i1 i2 l1 l2 : Addr} {k1 k2 : Nat} {xs ys : Array Value} {a b : Value} {Q : Option Value → Shared → Prop} (hh : A.handled = none) (D : ZipApart z TI TO i1 i2 l1 l2)
    (hz : IsZipS s.heap z TI TO .none) (hTI : IsPair s.heap TI (.ref i1) (.ref i2)) (hTO : IsPair s.heap TO a b)
    (h1 : s.heap.IsListIter i1 l1 k1) (h2 : s.heap.IsListIter i2 l2 k2) (hl1 : s.heap.IsList l1 xs) (hl2 : s.heap.IsList l2 ys) (hx : xs[k1]? = none) (hy : ys[k2]? = none)
    (hQ : ∀ h', (∀ c o, c ≠ z → c ≠ TO → c ≠ i1 → c ≠ i2 → s.heap.get? c = some o → h'.get? c = some o) → Q none { s with heap := h' }) : wpAny (model prog w) A (pyNext (.ref z)) Q E s := by
  have hT : s.TypeIs (.ref z) "zip" := ⟨_, hz, rfl⟩
  unfold pyNext
  refine wpAny_bind (wpAny_attempt (wpAny_callSpecial?_slot (name := Str.ofString "__next__") hT F.slot_zip_next
    (wpAny_call_entry F.slot_zip_next hT F.entry_zip_next (zipS_next_end hh D hz hTI hTO h1 h2 hl1 hl2 hx hy fun h' e hk he => ?_) (F.args_zip_next_1 _))))
  obtain ⟨o, ho, hc⟩ := he
  refine wpAny_bind (wpAny_isInstance (T := "StopIteration") (b := true) ⟨o, ho, hc⟩ isSubtype_stop ?_)
  exact wpAny_pure (hQ _ hk)
theorem letGo_zipS {elts : List Expr} {x1} {pos : Pos} {z TI TO T : Addr} {Q : Unit → Shared → Prop} (hz : IsZipS s.heap z TI TO (rawInt T))
    (hQ : ∀ h', IsZipS h' z TI TO .none → Heap.SameBut z s.heap h' → Q () { s with heap := h' }) :
    wpAny (model prog w) A (letOwnedTupleGo (.Tuple elts x1 pos) (.ref z) (.ref T)) Q E s := by
  unfold letOwnedTupleGo
  refine wpAny_bind (wpAny_load hz ?_)
  show wpAny _ _ (if (["enumerate", "zip", "dict_itemiterator", "dict_reverseitemiterator", "odict_iterator", "itertools.zip_longest", "itertools.pairwise"].contains "zip" &&
      (#[rawInt T, .bool false, .bool true, .ref TI, .ref TO] : Array Value)[0]? == some (rawInt T)) = true then _ else _) Q E s
  rw [if_pos (by simp)]
  refine wpAny_bind (wpAny_rule ?_)
  show wpAny _ _ (setField (.ref z) 0 .none) Q E s
  exact wpAny_setField_rec hz (by simp) fun h' hz' hs' => hQ h' hz' hs'
theorem pyIter_zipS {z TI TO : Addr} {f0 : Value} {Q : Value → Shared → Prop} (hz : IsZipS s.heap z TI TO f0) (h : Q (.ref z) s) : wpAny (model prog w) A (pyIter (.ref z)) Q E s := by
  have hT : s.TypeIs (.ref z) "zip" := ⟨_, hz, rfl⟩
  refine wpAny_pyIter_slot hT F.slot_zip_iter (wpAny_call_entry F.slot_zip_iter hT F.entry_zip_iter ?_ (F.args_zip_iter_1 _))
  show wpAny _ _ (ret (.ref z)) _ _ s
  exact wpAny_pure ⟨_, rfl, "zip", _, hT, F.slot_zip_next.lookup, h⟩
theorem callWith_typeK {env : Env} {pos : Pos} {T : String} {e : Expr} {rest : List Expr} {kws : List Keyword} {Q : Value → Shared → Prop}
    (h : wpAny (model prog w) A (spliced (backTo pos (starEach (e :: rest) env))) (fun vs s₁ => wpAny (model prog w) A (evalAll ((backToKw pos (keywordEach kws env)).map (·.2)))
      (fun kvs s₂ => wpAny (model prog w) A (call (.type T) vs (((backToKw pos (keywordEach kws env)).filterMap (·.1)).zip kvs)) Q E s₂) E s₁) E s)
    (he : backTo pos (starEach (e :: rest) env) = (false, eval e env) :: backTo pos (starEach rest env))
    (hplain : (backTo pos (starEach (e :: rest) env)).any (·.1) = false)
    (hall : (backToKw pos (keywordEach kws env)).all (·.1.isSome) = true)
    (hkw : (backToKw pos (keywordEach kws env)).any (·.1.isNone) = false) :
    wpAny (model prog w) A (callWith pos (.type T) [] (backTo pos (starEach (e :: rest) env)) (backToKw pos (keywordEach kws env))) Q E s := by
  unfold callWith
  rw [he] at h ⊢
  rw [he] at hplain
  refine wpAny_bind (wpAny_holding (wpAny_mono (PyProof.Rows.evalArgs_kwB (f := .type T) (Q := fun a s₁ => wpAny (model prog w) A (call (.type T) ([] ++ a.pos) a.kw) Q E s₁) hall h) (fun a s₁ h₁ => wpAny_bind (wpAny_standAt ?_)) fun _ _ x => x))
  simp only [hplain, hkw, Bool.or_false]
  refine wpAny_bind (wpAny_pure ?_)
  exact wpAny_bind (wpAny_mono h₁ (fun r s₂ hr => wpAny_bind (wpAny_holding (wpAny_point (wpAny_pure hr)))) fun _ _ x => x)
end
end PySem
namespace L2
open PySem PySem.Spec PyProof.Rows
def ItzS (K : PySem.W.Frag) (a b : Addr) : It :=
  ⟨fun i H => ∃ (xs ys : List V) (x y : V), SqL K H a xs ∧ SqL K H b ys ∧ xs[i]? = some x ∧ ys[i]? = some y,
    fun i H v H' => ∃ T x y, v = .ref T ∧ H T = none ∧ H' = upd H T (.tup [x, y]) ∧ (∀ xs, SqL K H a xs → xs[i]? = some x) ∧ ∀ ys, SqL K H b ys → ys[i]? = some y,
    fun i H => ∃ xs ys : List V, SqL K H a xs ∧ SqL K H b ys ∧ xs.length ≤ i ∧ ys.length ≤ i⟩
theorem turn_zipS {P : Program} {w : World} {K : PySem.W.Frag} {elts : List Expr} {kk : Nat} {tpos : Pos} {a b z TI TO i1 i2 : Addr} (D : ZipApart z TI TO i1 i2 a b) :
    Turn P w K (.Tuple elts kk tpos) (ItzS K a b) [z, TI, TO, i1, i2] z (fun i h => IsZipS h z TI TO .none ∧ IsPair h TI (.ref i1) (.ref i2) ∧ (∃ x y, IsPair h TO x y) ∧ h.IsListIter i1 a i ∧ h.IsListIter i2 b i) where
  mem := by simp
  obj := fun i h st c hc => by
    obtain ⟨hz, hTI, ⟨x, y, hTO⟩, ⟨o1, e1, _, d1⟩, ⟨o2, e2, _, d2⟩⟩ := st
    have e' : c = z ∨ c = TI ∨ c = TO ∨ c = i1 ∨ c = i2 := by simpa using hc
    rcases e' with q | q | q | q | q
    · rw [q]; exact ⟨_, hz, fun v q => nomatch q⟩
    · rw [q]; exact ⟨_, hTI, fun v q => nomatch q⟩
    · rw [q]; exact ⟨_, hTO, fun v q => nomatch q⟩
    · rw [q]; exact ⟨o1, e1, fun v q => by rw [d1] at q; cases q⟩
    · rw [q]; exact ⟨o2, e2, fun v q => by rw [d2] at q; cases q⟩
  keep := fun i h h' st k => by
    obtain ⟨hz, hTI, ⟨x, y, hTO⟩, h1, h2⟩ := st
    exact ⟨k z (by simp) _ hz, k TI (by simp) _ hTI, ⟨x, y, k TO (by simp) _ hTO⟩, h1.at fun o q => k i1 (by simp) o q, h2.at fun o q => k i2 (by simp) o q⟩
  item := by
    intro X hP hw hK hc i pins s σ H E I hf st hg
    subst hP hw hK
    obtain ⟨hz, hTI, ⟨x0, y0, hTO⟩, h1, h2⟩ := st
    obtain ⟨xs, ys, x, y, hqx, hqy, hx, hy⟩ := hg
    obtain ⟨its, rv, p, _⟩ := I.list hqx
    obtain ⟨its2, rv2, p2, _⟩ := I.list hqy
    obtain ⟨u, hu, ru⟩ := rv.get hx
    obtain ⟨u2, hu2, ru2⟩ := rv2.get hy
    have hzl : z < s.heap.objs.size := Heap.lt_size hz
    refine pyNext_zipS_item D hz hTI hTO h1 h2 p.isList p2.isList (x := u) (y := u2) (by simpa using hu) (by simpa using hu2) fun h' z' TO' h1' h2' hT hsz hk => ?_
    refine ⟨_, rfl, letGo_zipS (s := { s with heap := h' }) z' fun h'' z'' sb => ?_⟩
    have hT2 : h''.get? s.heap.objs.size = some { cls := .type "tuple", data := .seq #[u, u2] } := (sb.2 _ (Nat.ne_of_gt hzl)).trans hT
    have new : ObjOk X.prog X.w (upd H s.heap.objs.size (.tup [x, y])) h'' s.heap.objs.size (.tup [x, y]) :=
      ⟨by show 2 ≤ sizeLine; decide, [u, u2], .cons ru (.cons ru2 .nil), ⟨_, hT2, rfl, _, rfl⟩⟩
    have I1 : Inv X pins σ (upd H s.heap.objs.size (.tup [x, y])) { s with heap := h'' } :=
      I.turnedNew (t' := s.toks) (ch := [z, TI, TO, i1, i2]) (fun c o hb q => (sb.2 c (fun q' => hb (by simp [q']))).trans (hk c o (fun q' => hb (by simp [q'])) (fun q' => hb (by simp [q'])) (fun q' => hb (by simp [q'])) (fun q' => hb (by simp [q'])) q)) hf (Nat.le_refl _) new
    refine ⟨.ref s.heap.objs.size, _, I1, rfl, ⟨_, x, y, rfl, I.hok.fresh (Nat.le_refl _), rfl, fun l hl => by rw [I.list_inj hl hqx]; exact hx, fun l hl => by rw [I.list_inj hl hqy]; exact hy⟩, ⟨z'', ?_, ⟨u, u2, ?_⟩, ?_, ?_⟩, fun c hcm => ?_⟩
    · exact (sb.2 _ D.TIz).trans (hk _ _ D.TIz D.TITO D.TIi1 D.TIi2 hTI)
    · exact (sb.2 _ D.TOz).trans TO'
    · exact h1'.at fun o q => (sb.2 _ D.i1z).trans q
    · exact h2'.at fun o q => (sb.2 _ D.i2z).trans q
    · have hlt : c < s.heap.objs.size := by
        have e' : c = z ∨ c = TI ∨ c = TO ∨ c = i1 ∨ c = i2 := by simpa using hcm
        rcases e' with q | q | q | q | q
        · rw [q]; exact hzl
        · rw [q]; exact Heap.lt_size hTI
        · rw [q]; exact Heap.lt_size hTO
        · rw [q]; obtain ⟨_, e1, _⟩ := h1; exact Heap.lt_size e1
        · rw [q]; obtain ⟨_, e2, _⟩ := h2; exact Heap.lt_size e2
      rw [upd_ne (Nat.ne_of_lt hlt)]
      exact (hf c hcm).1
  done := by
    intro X hP hw hK hc i pins s σ H E I hf st hg
    subst hP hw hK
    obtain ⟨hz, hTI, ⟨x0, y0, hTO⟩, h1, h2⟩ := st
    obtain ⟨xs, ys, hqx, hqy, e1, e2⟩ := hg
    obtain ⟨its, rv, p, _⟩ := I.list hqx
    obtain ⟨its2, rv2, p2, _⟩ := I.list hqy
    have l1 := rv.length
    have l2 := rv2.length
    exact pyNext_zipS_end (I.ok.hd hc) D hz hTI hTO h1 h2 p.isList p2.isList (by simp; omega) (by simp; omega) fun h' hk => ⟨rfl, I.turnedL (t' := s.toks) (ch := [z, TI, TO, i1, i2]) (fun c o hb q =>
      hk c o (fun q' => hb (by simp [q'])) (fun q' => hb (by simp [q'])) (fun q' => hb (by simp [q'])) (fun q' => hb (by simp [q'])) q) hf⟩
  self := fun A i s Q E st h => pyIter_zipS st.1 h
def iZipS (K : PySem.W.Frag) (ta tk : TA) : TI := fun σ H R => ta σ H fun vs H1 => tk σ H1 fun zs H2 => zs = [.bl true] ∧ ∃ a b xs ys, vs = [.ref a, .ref b] ∧ SqL K H2 a xs ∧ SqL K H2 b ys ∧ R (ItzS K a b) H2
theorem pi_zipS {X : Cx} {e e2 : Expr} {ta tk : TA} {p pos tpos : Pos} {elts : List Expr} {kk : Nat} {kws : List Keyword} (hg : Gl X "zip") (hm : X.mg "zip" = none) (ha : PA X [e, e2] ta) (hk : PK X kws tk)
    (he : backTo pos (starEach [e, e2] X.env) = (false, eval e X.env) :: backTo pos (starEach [e2] X.env) := by rfl) (hpl : (backTo pos (starEach [e, e2] X.env)).any (·.1) = false := by rfl)
    (hall : (backToKw pos (keywordEach kws X.env)).all (·.1.isSome) = true := by rfl) (hnone : (backToKw pos (keywordEach kws X.env)).any (·.1.isNone) = false := by rfl) (hks : (backToKw pos (keywordEach kws X.env)).filterMap (·.1) = [Str.ofString "strict"] := by rfl) :
    PI X (.Tuple elts kk tpos) (.Call (.Name "zip" p) [e, e2] kws pos) (iZipS X.K ta tk) := by
  refine ⟨fun pins s σ H R I h => ?_⟩
  refine wpAny_Call_Name_kw (ld_blt I hg hm PyProof.Rows.boot_zip ?_)
  refine callWith_typeK (thn (ha.run pos pins s σ H _ I h) fun us s0 ⟨vs, H0, I0, r1, q0⟩ => thn (hk.run pos pins s0 σ H0 _ I0 q0) fun ws s1 ⟨zs, H1, I1, r2, q1⟩ => ?_) he hpl hall hnone
  rw [hks]
  obtain ⟨ez, a, b, xs, ys, ex, hqx, hqy, q⟩ := q1
  subst ez; subst ex
  cases r2 with
  | cons rz rr =>
    cases rr
    cases rz
    cases r1 with
    | cons r rr =>
      cases rr with
      | cons r' rr =>
        cases rr
        cases r
        cases r'
        obtain ⟨its, rv, p1, _⟩ := I1.list hqx
        obtain ⟨its2, rv2, p2, _⟩ := I1.list hqy
        have la : a < s1.heap.objs.size := p1.lt
        have lb : b < s1.heap.objs.size := p2.lt
        show wpAny _ _ (call (.type "zip") [.ref a, .ref b] [(Str.ofString "strict", .bool true)]) _ _ _
        refine call_zip_S p1.isList p2.isList fun h' hz hTI hTO h1 h2 hsz hk => pyIter_zipS hz ?_
        have I2 : Inv X pins σ H1 { s1 with heap := h' } := I1.kept (t' := s1.toks) hk
        refine ⟨s1.heap.objs.size + 4, [s1.heap.objs.size + 4, s1.heap.objs.size + 2, s1.heap.objs.size + 3, s1.heap.objs.size, s1.heap.objs.size + 1], _, _, H1, rfl, I2, turn_zipS (PySem.W.ktu_apart s1.heap.objs.size a b la lb), ⟨hz, hTI, ⟨_, _, hTO⟩, h1, h2⟩, fun c hcm => ?_, q⟩
        have e' : c = s1.heap.objs.size + 4 ∨ c = s1.heap.objs.size + 2 ∨ c = s1.heap.objs.size + 3 ∨ c = s1.heap.objs.size ∨ c = s1.heap.objs.size + 1 := by simpa using hcm
        have hle : s1.heap.objs.size ≤ c := by
          rcases e' with z | z | z | z | z
          · rw [z]; exact Nat.le_add_right _ _
          · rw [z]; exact Nat.le_add_right _ _
          · rw [z]; exact Nat.le_add_right _ _
          · rw [z]; exact Nat.le_refl _
          · rw [z]; exact Nat.le_add_right _ _
        exact I1.fpOk hle (I1.hok.fresh hle)
theorem walk_zipS {K : PySem.W.Frag} {a b : Addr} {xs ys : List V} {n : Nat} (hn : n = xs.length) (hm : n = ys.length) : Walk (ItzS K a b) n (fun H => SqL K H a xs ∧ SqL K H b ys) (YPair (fun i => xs[i]?) (fun i => ys[i]?)) := by
  refine ⟨fun i _ hi q => ?_, fun _ q => ⟨xs, ys, q.1, q.2, by omega, by omega⟩, fun i H v H' _ q y => ?_⟩
  · have h1 : i < xs.length := by omega
    have h2 : i < ys.length := by omega
    exact ⟨xs, ys, xs[i], ys[i], q.1, q.2, by simp [h1], by simp [h2]⟩
  · obtain ⟨T, x, z, h1, h2, h3, h4, h5⟩ := y
    exact ⟨T, x, z, h1, h2, h3, h4 xs q.1, h5 ys q.2⟩
end L2
namespace FG
open PySem.Spec PySem L2 PyProof.Rows
section
variable {X : Cx} {B : Base} {a b : Expr} {te : DTA} {n : Nat} {pos : Pos}
def iZipSD (te : DTA) : DTI := fun δ Q => te δ fun ds => match ds with
  | [.lst xs, .lst ys] => xs.length = ys.length ∧ Q (zipD xs ys)
  | _ => False
theorem di_zipS {elts : List Expr} {kk kc : Nat} {tpos p pc pk : Pos} (hg : Gl X "zip") (hm : X.mg "zip" = none) (ha : DA X B [a, b] n te)
    (he : backTo pos (starEach [a, b] X.env) = (false, eval a X.env) :: backTo pos (starEach [b] X.env) := by rfl) (hpl : (backTo pos (starEach [a, b] X.env)).any (·.1) = false := by rfl) :
    DI X B (.Tuple elts kk tpos) (.Call (.Name "zip" p) [a, b] [⟨some (Str.ofString "strict"), .Constant (.bool true) kc pc, pk⟩] pos) (iZipSD te) :=
  (pi_zipS hg hm ha (pk_cons pe_bl pk_nil) he hpl rfl rfl rfl).mono fun σ H R q => by
    obtain ⟨G, P, δ, Qi, w, q, k⟩ := q
    refine ⟨G, P, δ, _, w, q, fun vs G1 H1 P1 ds s1 ok1 r1 _ q1 => ?_⟩
    split at q1
    · rename_i xs ys _
      obtain ⟨hxy, q1⟩ := q1
      cases r1 with
      | cons c r =>
        cases r with
        | cons d r =>
          cases r
          cases c with
          | @lst p us ds h1 h2 h3 =>
            cases d with
            | @lst p' us' ds' h1' h2' h3' =>
              have hl := zipD_len xs ys
              refine ⟨rfl, p, p', us, us', rfl, .inl (.inl (ok1.gh _ _ h1)), .inl (.inl (ok1.gh _ _ h1')), k _ _ _ _ _ s1 ok1 ⟨⟨_, _, walk_zipS (xs := us) (ys := us') (by rw [hl, h2.length]; omega) (by rw [hl, h2'.length]; omega), fun G2 H2 P2 ok gg => ⟨Or.inl (Or.inl (ok.gh _ _ (gg _ _ h1))), Or.inl (Or.inl (ok.gh _ _ (gg _ _ h1')))⟩, fun i v H2 H3 G2 P2 hi ok gg pp y => ?_⟩, by rw [hl]; exact Nat.le_trans (Nat.min_le_left _ _) h3⟩ q1⟩
              obtain ⟨T, x, y, rfl, hT, rfl, e1, e2⟩ := y
              obtain ⟨d1, hd1, rd1⟩ := h2.get' e1
              obtain ⟨d2, hd2, rd2⟩ := h2'.get' e2
              obtain ⟨G3, s3, ok3, r3⟩ := FG.Rep.pair ok hT (rd1.mono gg pp) (rd2.mono gg pp)
              exact ⟨G3, _, s3, ok3, zipD_get _ _ _ _ _ hd1 hd2, r3⟩
    · exact q1.elim
end
end FG
namespace FG
open PySem.Spec PySem L2 PyProof.Rows
/-! ### the hook with the statics too (classmethods read them) -/
def obsFS (n : Nat) (ex : PySem.W.Frag → Bool) (fn : List DefP) (g : Addr → Option Obj) : AlF := obsF ex fn (He.frG g (lvQ g n [mainGlobals, cStatics]))
def hookS (n : Nat) (ex : PySem.W.Frag → Bool) (fn : List DefP) : PySem.W.Hook where
  α := AlF
  obs s := obsFS n ex fn s.heap.get?
  val _ := (true, fn.map DefP.val)
  says _ h := ∃ K : PySem.W.Frag, K.In h ∧ SaysF ex fn K
  of _ _ e := ⟨_, He.frG_in, e⟩
  keeps _ _ _ z k := let ⟨K, h1, h2⟩ := z; ⟨K, h1.keeps k, h2⟩
theorem obsFS_eq {n : Nat} {ex : PySem.W.Frag → Bool} {fn : List DefP} {g : Addr → Option Obj} {s : Shared} (h : ∀ a, g a = s.heap.get? a) : obsFS n ex fn g = (hookS n ex fn).obs s := by
  rw [show g = s.heap.get? from funext h]
  rfl
end FG

namespace K41
open PySem.Spec PySem L2 PyProof.Rows FG
open He (ga ma Fa Dv)
def top (i : Nat) : Stmt := PySem.Challenge.pw_finishgate_k41_whole_no_worse_at_all_lev.main.body.getD i (.Pass ⟨0, 0, 0, 0⟩)
def clsBody (s : Stmt) : List Stmt := match s with
  | .ClassDef _ _ _ b _ _ _ _ _ _ _ => b
  | _ => []
abbrev st_is_integer : Stmt := top 1
abbrev N_is_integer : List Str := ["value"]
theorem sc_is_integer : FnScope N_is_integer ["value"] (defScope st_is_integer) := ⟨rfl, rfl, rfl, by decide +kernel, rfl, by decide +kernel, by decide +kernel⟩
abbrev st_is_integer_from : Stmt := top 2
abbrev N_is_integer_from : List Str := ["value", "low", "high"]
theorem sc_is_integer_from : FnScope N_is_integer_from ["value", "low", "high"] (defScope st_is_integer_from) := ⟨rfl, rfl, rfl, by decide +kernel, rfl, by decide +kernel, by decide +kernel⟩
abbrev st_is_count : Stmt := top 31
abbrev N_is_count : List Str := ["value"]
theorem sc_is_count : FnScope N_is_count ["value"] (defScope st_is_count) := ⟨rfl, rfl, rfl, by decide +kernel, rfl, by decide +kernel, by decide +kernel⟩
abbrev st_is_part : Stmt := top 18
abbrev N_is_part : List Str := ["value", "depth", "rounds", "parts", "part"]
theorem sc_is_part : FnScope N_is_part ["value", "depth"] (defScope st_is_part) := ⟨rfl, rfl, rfl, by decide +kernel, rfl, by decide +kernel, by decide +kernel⟩
abbrev st_are_parts : Stmt := top 19
abbrev N_are_parts : List Str := ["value", "part"]
theorem sc_are_parts : FnScope N_are_parts ["value"] (defScope st_are_parts) := ⟨rfl, rfl, rfl, by decide +kernel, rfl, by decide +kernel, by decide +kernel⟩
abbrev st_size_of : Stmt := top 20
abbrev N_size_of : List Str := ["parts", "found", "part"]
theorem sc_size_of : FnScope N_size_of ["parts"] (defScope st_size_of) := ⟨rfl, rfl, rfl, by decide +kernel, rfl, by decide +kernel, by decide +kernel⟩
abbrev st_depth_of : Stmt := top 21
abbrev N_depth_of : List Str := ["parts", "found", "part"]
theorem sc_depth_of : FnScope N_depth_of ["parts"] (defScope st_depth_of) := ⟨rfl, rfl, rfl, by decide +kernel, rfl, by decide +kernel, by decide +kernel⟩
abbrev st_all_parts : Stmt := top 22
abbrev N_all_parts : List Str := ["parts", "found", "part"]
theorem sc_all_parts : FnScope N_all_parts ["parts"] (defScope st_all_parts) := ⟨rfl, rfl, rfl, by decide +kernel, rfl, by decide +kernel, by decide +kernel⟩
abbrev st_Script___init__ : Stmt := (clsBody (top 28)).getD 2 (.Pass ⟨0, 0, 0, 0⟩)
abbrev N_Script___init__ : List Str := ["self", "parts"]
theorem sc_Script___init__ : FnScope N_Script___init__ ["self", "parts"] (defScope st_Script___init__) := ⟨rfl, rfl, rfl, by decide +kernel, rfl, by decide +kernel, by decide +kernel⟩
abbrev st_Script_of : Stmt := (clsBody (top 28)).getD 3 (.Pass ⟨0, 0, 0, 0⟩)
abbrev N_Script_of : List Str := ["cls", "parts"]
theorem sc_Script_of : FnScope N_Script_of ["cls", "parts"] (defScope st_Script_of) := ⟨rfl, rfl, rfl, by decide +kernel, rfl, by decide +kernel, by decide +kernel⟩
abbrev st_Script_parts : Stmt := (clsBody (top 28)).getD 5 (.Pass ⟨0, 0, 0, 0⟩)
abbrev N_Script_parts : List Str := ["self"]
theorem sc_Script_parts : FnScope N_Script_parts ["self"] (defScope st_Script_parts) := ⟨rfl, rfl, rfl, by decide +kernel, rfl, by decide +kernel, by decide +kernel⟩
abbrev st_is_row : Stmt := top 32
abbrev N_is_row : List Str := ["value"]
theorem sc_is_row : FnScope N_is_row ["value"] (defScope st_is_row) := ⟨rfl, rfl, rfl, by decide +kernel, rfl, by decide +kernel, by decide +kernel⟩
abbrev st_are_rows : Stmt := top 33
abbrev N_are_rows : List Str := ["value", "level", "before", "row"]
theorem sc_are_rows : FnScope N_are_rows ["value", "level"] (defScope st_are_rows) := ⟨rfl, rfl, rfl, by decide +kernel, rfl, by decide +kernel, by decide +kernel⟩
abbrev st_last_valley : Stmt := top 34
abbrev N_last_valley : List Str := ["rows", "level"]
theorem sc_last_valley : FnScope N_last_valley ["rows", "level"] (defScope st_last_valley) := ⟨rfl, rfl, rfl, by decide +kernel, rfl, by decide +kernel, by decide +kernel⟩
abbrev st_greatest_peak : Stmt := top 35
abbrev N_greatest_peak : List Str := ["rows", "level"]
theorem sc_greatest_peak : FnScope N_greatest_peak ["rows", "level"] (defScope st_greatest_peak) := ⟨rfl, rfl, rfl, by decide +kernel, rfl, by decide +kernel, by decide +kernel⟩
abbrev st_problem_of : Stmt := top 36
abbrev N_problem_of : List Str := ["descent", "ascent", "end", "height"]
theorem sc_problem_of : FnScope N_problem_of ["descent", "ascent", "end", "height"] (defScope st_problem_of) := ⟨rfl, rfl, rfl, by decide +kernel, rfl, by decide +kernel, by decide +kernel⟩
abbrev st_fallen : Stmt := top 37
abbrev N_fallen : List Str := ["rows", "bound", "level", "found", "peak", "valley"]
theorem sc_fallen : FnScope N_fallen ["rows", "bound", "level"] (defScope st_fallen) := ⟨rfl, rfl, rfl, by decide +kernel, rfl, by decide +kernel, by decide +kernel⟩
abbrev st_Profile___init__ : Stmt := (clsBody (top 46)).getD 0 (.Pass ⟨0, 0, 0, 0⟩)
abbrev N_Profile___init__ : List Str := ["self", "descent", "ascent", "end", "height", "problem"]
theorem sc_Profile___init__ : FnScope N_Profile___init__ ["self", "descent", "ascent", "end", "height"] (defScope st_Profile___init__) := ⟨rfl, rfl, rfl, by decide +kernel, rfl, by decide +kernel, by decide +kernel⟩
abbrev st_Profile_end : Stmt := (clsBody (top 46)).getD 1 (.Pass ⟨0, 0, 0, 0⟩)
abbrev N_Profile_end : List Str := ["self"]
theorem sc_Profile_end : FnScope N_Profile_end ["self"] (defScope st_Profile_end) := ⟨rfl, rfl, rfl, by decide +kernel, rfl, by decide +kernel, by decide +kernel⟩
abbrev st_Profile_height : Stmt := (clsBody (top 46)).getD 2 (.Pass ⟨0, 0, 0, 0⟩)
abbrev N_Profile_height : List Str := ["self"]
theorem sc_Profile_height : FnScope N_Profile_height ["self"] (defScope st_Profile_height) := ⟨rfl, rfl, rfl, by decide +kernel, rfl, by decide +kernel, by decide +kernel⟩
abbrev st_Profile_descent : Stmt := (clsBody (top 46)).getD 4 (.Pass ⟨0, 0, 0, 0⟩)
abbrev N_Profile_descent : List Str := ["self"]
theorem sc_Profile_descent : FnScope N_Profile_descent ["self"] (defScope st_Profile_descent) := ⟨rfl, rfl, rfl, by decide +kernel, rfl, by decide +kernel, by decide +kernel⟩
abbrev st_Profile_ascent : Stmt := (clsBody (top 46)).getD 5 (.Pass ⟨0, 0, 0, 0⟩)
abbrev N_Profile_ascent : List Str := ["self"]
theorem sc_Profile_ascent : FnScope N_Profile_ascent ["self"] (defScope st_Profile_ascent) := ⟨rfl, rfl, rfl, by decide +kernel, rfl, by decide +kernel, by decide +kernel⟩
abbrev st_Profile_back : Stmt := (clsBody (top 46)).getD 6 (.Pass ⟨0, 0, 0, 0⟩)
abbrev N_Profile_back : List Str := ["self", "bound"]
theorem sc_Profile_back : FnScope N_Profile_back ["self", "bound"] (defScope st_Profile_back) := ⟨rfl, rfl, rfl, by decide +kernel, rfl, by decide +kernel, by decide +kernel⟩
abbrev st_Profile_is_no_worse : Stmt := (clsBody (top 46)).getD 8 (.Pass ⟨0, 0, 0, 0⟩)
abbrev N_Profile_is_no_worse : List Str := ["self", "other", "descent", "ascent", "end", "height", "other_descent", "other_ascent", "other_end", "other_height", "peak", "valley"]
theorem sc_Profile_is_no_worse : FnScope N_Profile_is_no_worse ["self", "other"] (defScope st_Profile_is_no_worse) := ⟨rfl, rfl, rfl, by decide +kernel, rfl, by decide +kernel, by decide +kernel⟩
abbrev st_Profile___call__ : Stmt := (clsBody (top 46)).getD 9 (.Pass ⟨0, 0, 0, 0⟩)
abbrev N_Profile___call__ : List Str := ["self", "headroom"]
theorem sc_Profile___call__ : FnScope N_Profile___call__ ["self", "headroom"] (defScope st_Profile___call__) := ⟨rfl, rfl, rfl, by decide +kernel, rfl, by decide +kernel, by decide +kernel⟩
abbrev st_Profile___eq__ : Stmt := (clsBody (top 46)).getD 12 (.Pass ⟨0, 0, 0, 0⟩)
abbrev N_Profile___eq__ : List Str := ["self", "other"]
theorem sc_Profile___eq__ : FnScope N_Profile___eq__ ["self", "other"] (defScope st_Profile___eq__) := ⟨rfl, rfl, rfl, by decide +kernel, rfl, by decide +kernel, by decide +kernel⟩
abbrev st_moved : Stmt := top 38
abbrev N_moved : List Str := ["rows", "change", "peak", "valley"]
theorem sc_moved : FnScope N_moved ["rows", "change"] (defScope st_moved) := ⟨rfl, rfl, rfl, by decide +kernel, rfl, by decide +kernel, by decide +kernel⟩
abbrev st_followed : Stmt := top 39
abbrev N_followed : List Str := ["near", "level", "top", "far", "far_level", "passed", "rows", "found", "row"]
theorem sc_followed : FnScope N_followed ["near", "level", "top", "far", "far_level"] (defScope st_followed) := ⟨rfl, rfl, rfl, by decide +kernel, rfl, by decide +kernel, by decide +kernel⟩
abbrev st_sum_of : Stmt := top 40
abbrev N_sum_of : List Str := ["one", "other", "top", "down", "back", "descent", "ascent", "end", "height", "later_descent", "later_ascent", "later_end", "later_height"]
theorem sc_sum_of : FnScope N_sum_of ["one", "other"] (defScope st_sum_of) := ⟨rfl, rfl, rfl, by decide +kernel, rfl, by decide +kernel, by decide +kernel⟩
abbrev st_times : Stmt := top 41
abbrev N_times : List Str := ["one", "rounds", "found", "power", "left"]
theorem sc_times : FnScope N_times ["one", "rounds"] (defScope st_times) := ⟨rfl, rfl, rfl, by decide +kernel, rfl, by decide +kernel, by decide +kernel⟩
abbrev st_profile_of_step : Stmt := top 42
abbrev N_profile_of_step : List Str := ["step"]
theorem sc_profile_of_step : FnScope N_profile_of_step ["step"] (defScope st_profile_of_step) := ⟨rfl, rfl, rfl, by decide +kernel, rfl, by decide +kernel, by decide +kernel⟩
abbrev st_profile_of_parts : Stmt := top 43
abbrev N_profile_of_parts : List Str := ["parts", "found", "part"]
theorem sc_profile_of_parts : FnScope N_profile_of_parts ["parts"] (defScope st_profile_of_parts) := ⟨rfl, rfl, rfl, by decide +kernel, rfl, by decide +kernel, by decide +kernel⟩
abbrev st_profile_of : Stmt := top 47
abbrev N_profile_of : List Str := ["script", "plain"]
theorem sc_profile_of : FnScope N_profile_of ["script"] (defScope st_profile_of) := ⟨rfl, rfl, rfl, by decide +kernel, rfl, by decide +kernel, by decide +kernel⟩
abbrev st_end_context : Stmt := top 49
abbrev N_end_context : List Str := ["end", "top"]
theorem sc_end_context : FnScope N_end_context ["end", "top"] (defScope st_end_context) := ⟨rfl, rfl, rfl, by decide +kernel, rfl, by decide +kernel, by decide +kernel⟩
abbrev st_height_context : Stmt := top 50
abbrev N_height_context : List Str := ["top"]
theorem sc_height_context : FnScope N_height_context ["top"] (defScope st_height_context) := ⟨rfl, rfl, rfl, by decide +kernel, rfl, by decide +kernel, by decide +kernel⟩
abbrev st_descent_context : Stmt := top 51
abbrev N_descent_context : List Str := ["row", "top", "peak", "valley"]
theorem sc_descent_context : FnScope N_descent_context ["row", "top"] (defScope st_descent_context) := ⟨rfl, rfl, rfl, by decide +kernel, rfl, by decide +kernel, by decide +kernel⟩
abbrev st_ascent_context : Stmt := top 52
abbrev N_ascent_context : List Str := ["row", "top", "peak", "valley"]
theorem sc_ascent_context : FnScope N_ascent_context ["row", "top"] (defScope st_ascent_context) := ⟨rfl, rfl, rfl, by decide +kernel, rfl, by decide +kernel, by decide +kernel⟩
abbrev st_worse_contexts : Stmt := top 53
abbrev N_worse_contexts : List Str := ["one", "other", "found", "top", "row"]
theorem sc_worse_contexts : FnScope N_worse_contexts ["one", "other"] (defScope st_worse_contexts) := ⟨rfl, rfl, rfl, by decide +kernel, rfl, by decide +kernel, by decide +kernel⟩
abbrev st_worse_context : Stmt := top 54
abbrev N_worse_context : List Str := ["one", "other", "found"]
theorem sc_worse_context : FnScope N_worse_context ["one", "other"] (defScope st_worse_context) := ⟨rfl, rfl, rfl, by decide +kernel, rfl, by decide +kernel, by decide +kernel⟩
abbrev st_are_exchangeable : Stmt := top 55
abbrev N_are_exchangeable : List Str := ["one", "other"]
theorem sc_are_exchangeable : FnScope N_are_exchangeable ["one", "other"] (defScope st_are_exchangeable) := ⟨rfl, rfl, rfl, by decide +kernel, rfl, by decide +kernel, by decide +kernel⟩
abbrev st__law_pot : Stmt := top 57
abbrev N__law_pot : List Str := ["_law_script", "_law_k", "_law_cell"]
theorem sc__law_pot : FnScope N__law_pot ["_law_script", "_law_k"] (defScope st__law_pot) := ⟨rfl, rfl, rfl, by decide +kernel, rfl, by decide +kernel, by decide +kernel⟩
abbrev st__law_draw : Stmt := top 58
abbrev N__law_draw : List Str := ["_law_pot_here", "_law_many", "_law_digit"]
theorem sc__law_draw : FnScope N__law_draw ["_law_pot_here", "_law_many"] (defScope st__law_draw) := ⟨rfl, rfl, rfl, by decide +kernel, rfl, by decide +kernel, by decide +kernel⟩
abbrev st__law_mixed : Stmt := top 59
abbrev N__law_mixed : List Str := ["_law_pot_here", "_law_some", "_law_left", "_law_k"]
theorem sc__law_mixed : FnScope N__law_mixed ["_law_pot_here", "_law_some"] (defScope st__law_mixed) := ⟨rfl, rfl, rfl, by decide +kernel, rfl, by decide +kernel, by decide +kernel⟩
abbrev st__law_step : Stmt := top 60
abbrev N__law_step : List Str := ["_law_pot_here", "_law_way", "_law_far"]
theorem sc__law_step : FnScope N__law_step ["_law_pot_here"] (defScope st__law_step) := ⟨rfl, rfl, rfl, by decide +kernel, rfl, by decide +kernel, by decide +kernel⟩
abbrev st__law_unrolled : Stmt := top 62
abbrev N__law_unrolled : List Str := ["_law_pieces", "_law_found", "_law_one"]
theorem sc__law_unrolled : FnScope N__law_unrolled ["_law_pieces"] (defScope st__law_unrolled) := ⟨rfl, rfl, rfl, by decide +kernel, rfl, by decide +kernel, by decide +kernel⟩
abbrev st__law_elements : Stmt := top 61
abbrev N__law_elements : List Str := ["_law_pot_here", "_law_top", "_law_deep", "_law_turn", "_law_found", "_law_left", "_law_inner", "_law_rounds", "_law_one"]
theorem sc__law_elements : FnScope N__law_elements ["_law_pot_here", "_law_top", "_law_deep"] (defScope st__law_elements) := ⟨rfl, rfl, rfl, by decide +kernel, rfl, by decide +kernel, by decide +kernel⟩
abbrev st__law_heights : Stmt := top 63
abbrev N__law_heights : List Str := ["_law_moves", "_law_begin", "_law_found", "_law_step_here"]
theorem sc__law_heights : FnScope N__law_heights ["_law_moves", "_law_begin"] (defScope st__law_heights) := ⟨rfl, rfl, rfl, by decide +kernel, rfl, by decide +kernel, by decide +kernel⟩
abbrev st__law_reach : Stmt := top 64
abbrev N__law_reach : List Str := ["_law_levels_here", "_law_top", "_law_found", "_law_here"]
theorem sc__law_reach : FnScope N__law_reach ["_law_levels_here", "_law_top"] (defScope st__law_reach) := ⟨rfl, rfl, rfl, by decide +kernel, rfl, by decide +kernel, by decide +kernel⟩
abbrev st__law_return : Stmt := top 65
abbrev N__law_return : List Str := ["_law_levels_here", "_law_top", "_law_found", "_law_here"]
theorem sc__law_return : FnScope N__law_return ["_law_levels_here", "_law_top"] (defScope st__law_return) := ⟨rfl, rfl, rfl, by decide +kernel, rfl, by decide +kernel, by decide +kernel⟩
abbrev st__law_marks : Stmt := top 66
abbrev N__law_marks : List Str := ["_law_levels_here", "_law_others"]
theorem sc__law_marks : FnScope N__law_marks ["_law_levels_here", "_law_others"] (defScope st__law_marks) := ⟨rfl, rfl, rfl, by decide +kernel, rfl, by decide +kernel, by decide +kernel⟩
abbrev st__law_is_no_worse : Stmt := top 67
abbrev N__law_is_no_worse : List Str := ["_law_levels_here", "_law_others", "_law_top"]
theorem sc__law_is_no_worse : FnScope N__law_is_no_worse ["_law_levels_here", "_law_others"] (defScope st__law_is_no_worse) := ⟨rfl, rfl, rfl, by decide +kernel, rfl, by decide +kernel, by decide +kernel⟩
abbrev st__law_levels : Stmt := top 68
abbrev N__law_levels : List Str := ["_law_body"]
theorem sc__law_levels : FnScope N__law_levels ["_law_body"] (defScope st__law_levels) := ⟨rfl, rfl, rfl, by decide +kernel, rfl, by decide +kernel, by decide +kernel⟩
abbrev st__law_near : Stmt := top 69
abbrev N__law_near : List Str := ["_law_pot_here", "_law_body", "_law_up", "_law_way", "_law_at"]
theorem sc__law_near : FnScope N__law_near ["_law_pot_here", "_law_body"] (defScope st__law_near) := ⟨rfl, rfl, rfl, by decide +kernel, rfl, by decide +kernel, by decide +kernel⟩
abbrev st__law_pair_right : Stmt := top 70
abbrev N__law_pair_right : List Str := ["_law_body", "_law_mates", "_law_told", "_law_levels_here", "_law_others", "_law_first", "_law_second", "_law_due", "_law_back"]
theorem sc__law_pair_right : FnScope N__law_pair_right ["_law_body", "_law_mates"] (defScope st__law_pair_right) := ⟨rfl, rfl, rfl, by decide +kernel, rfl, by decide +kernel, by decide +kernel⟩
abbrev st__law_right : Stmt := top 71
abbrev N__law_right : List Str := ["_law_pot_here", "_law_turn", "_law_body", "_law_mates", "_law_change"]
theorem sc__law_right : FnScope N__law_right ["_law_pot_here"] (defScope st__law_right) := ⟨rfl, rfl, rfl, by decide +kernel, rfl, by decide +kernel, by decide +kernel⟩
abbrev st_law : Stmt := top 72
abbrev N_law : List Str := ["_law_script", "_law_k"]
theorem sc_law : FnScope N_law ["_law_script"] (defScope st_law) := ⟨rfl, rfl, rfl, by decide +kernel, rfl, by decide +kernel, by decide +kernel⟩
end K41

namespace K41
open PySem.Spec PySem L2 PyProof.Rows FG
open He (ga ma Fa Dv)
def exs (K : PySem.W.Frag) : List Bool := [(Fa.glo "Profile").ok K, (Fa.glo "Script").ok K, (Fa.glo "_law_draw").ok K, (Fa.glo "_law_elements").ok K, (Fa.glo "_law_heights").ok K, (Fa.glo "_law_is_no_worse").ok K, (Fa.glo "_law_levels").ok K, (Fa.glo "_law_marks").ok K, (Fa.glo "_law_mixed").ok K, (Fa.glo "_law_near").ok K, (Fa.glo "_law_pair_right").ok K, (Fa.glo "_law_pot").ok K, (Fa.glo "_law_reach").ok K, (Fa.glo "_law_return").ok K, (Fa.glo "_law_right").ok K, (Fa.glo "_law_step").ok K, (Fa.glo "_law_unrolled").ok K, (Fa.glo "all_parts").ok K, (Fa.glo "are_exchangeable").ok K, (Fa.glo "are_parts").ok K, (Fa.glo "are_rows").ok K, (Fa.glo "ascent_context").ok K, (Fa.glo "depth_of").ok K, (Fa.glo "descent_context").ok K, (Fa.glo "end_context").ok K, (Fa.glo "fallen").ok K, (Fa.glo "followed").ok K, (Fa.glo "greatest_peak").ok K, (Fa.glo "height_context").ok K, (Fa.glo "is_count").ok K, (Fa.glo "is_integer").ok K, (Fa.glo "is_integer_from").ok K, (Fa.glo "is_part").ok K, (Fa.glo "is_row").ok K, (Fa.glo "last_valley").ok K, (Fa.glo "law").ok K, (Fa.glo "moved").ok K, (Fa.glo "problem_of").ok K, (Fa.glo "profile_of").ok K, (Fa.glo "profile_of_parts").ok K, (Fa.glo "profile_of_step").ok K, (Fa.glo "size_of").ok K, (Fa.glo "sum_of").ok K, (Fa.glo "times").ok K, (Fa.glo "worse_context").ok K, (Fa.glo "worse_contexts").ok K, (Fa.free "abs").ok K, (Fa.free "all").ok K, (Fa.free "bool").ok K, (Fa.free "divmod").ok K, (Fa.free "int").ok K, (Fa.free "isinstance").ok K, (Fa.free "len").ok K, (Fa.free "list").ok K, (Fa.free "max").ok K, (Fa.free "min").ok K, (Fa.free "range").ok K, (Fa.free "repr").ok K, (Fa.free "set").ok K, (Fa.free "sorted").ok K, (Fa.free "tuple").ok K, (Fa.cls "Profile").ok K, (Fa.cls "Script").ok K, eqB K "Profile", nilB K (He.dflAt ("Script", some "__init__") 0 K), isoB K "Profile", clsMB K "Script" "of", (Fa.mkr "Script").ok K, (Fa.mkr "Profile").ok K, (Fa.noat "Script" "own_depth").ok K, (Fa.noat "Script" "own_flat").ok K, (Fa.noat "Profile" "own_lowest").ok K, (Fa.noat "Script" "own_parts").ok K, (Fa.noat "Profile" "own_plain").ok K, (Fa.noat "Script" "own_size").ok K, propB K "Profile" "end", propB K "Profile" "height", (Fa.meth "Profile" "ascent").ok K, (Fa.meth "Profile" "back").ok K, (Fa.meth "Profile" "descent").ok K, (Fa.meth "Profile" "is_no_worse").ok K, (Fa.meth "Script" "parts").ok K, callB K "Profile", nil2B K "EMPTY_profiles" 0 0, (Fa.int "MAX_DEPTH" (6)).ok K, (Fa.int "MAX_ROUNDS" (1000000000000)).ok K]
def ex (K : PySem.W.Frag) : Bool := (exs K).all id
def defs : List DefP := [⟨.glo "is_integer", "is_integer", "is_integer", defArgs st_is_integer, defBody st_is_integer, defScope st_is_integer, [], []⟩,
  ⟨.glo "is_integer_from", "is_integer_from", "is_integer_from", defArgs st_is_integer_from, defBody st_is_integer_from, defScope st_is_integer_from, [], []⟩,
  ⟨.glo "is_count", "is_count", "is_count", defArgs st_is_count, defBody st_is_count, defScope st_is_count, [], []⟩,
  ⟨.glo "is_part", "is_part", "is_part", defArgs st_is_part, defBody st_is_part, defScope st_is_part, [], []⟩,
  ⟨.glo "are_parts", "are_parts", "are_parts", defArgs st_are_parts, defBody st_are_parts, defScope st_are_parts, [], []⟩,
  ⟨.glo "size_of", "size_of", "size_of", defArgs st_size_of, defBody st_size_of, defScope st_size_of, [], []⟩,
  ⟨.glo "depth_of", "depth_of", "depth_of", defArgs st_depth_of, defBody st_depth_of, defScope st_depth_of, [], []⟩,
  ⟨.glo "all_parts", "all_parts", "all_parts", defArgs st_all_parts, defBody st_all_parts, defScope st_all_parts, [], []⟩,
  ⟨.meth "Script" "__init__", "__init__", "Script.__init__", defArgs st_Script___init__, defBody st_Script___init__, defScope st_Script___init__, [.adr (He.dflAt ("Script", some "__init__") 0)], []⟩,
  ⟨.clm "Script" "of", "of", "Script.of", defArgs st_Script_of, defBody st_Script_of, defScope st_Script_of, [], []⟩,
  ⟨.meth "Script" "parts", "parts", "Script.parts", defArgs st_Script_parts, defBody st_Script_parts, defScope st_Script_parts, [], []⟩,
  ⟨.glo "is_row", "is_row", "is_row", defArgs st_is_row, defBody st_is_row, defScope st_is_row, [], []⟩,
  ⟨.glo "are_rows", "are_rows", "are_rows", defArgs st_are_rows, defBody st_are_rows, defScope st_are_rows, [], []⟩,
  ⟨.glo "last_valley", "last_valley", "last_valley", defArgs st_last_valley, defBody st_last_valley, defScope st_last_valley, [], []⟩,
  ⟨.glo "greatest_peak", "greatest_peak", "greatest_peak", defArgs st_greatest_peak, defBody st_greatest_peak, defScope st_greatest_peak, [], []⟩,
  ⟨.glo "problem_of", "problem_of", "problem_of", defArgs st_problem_of, defBody st_problem_of, defScope st_problem_of, [], []⟩,
  ⟨.glo "fallen", "fallen", "fallen", defArgs st_fallen, defBody st_fallen, defScope st_fallen, [], []⟩,
  ⟨.meth "Profile" "__init__", "__init__", "Profile.__init__", defArgs st_Profile___init__, defBody st_Profile___init__, defScope st_Profile___init__, [.adr (He.dflAt ("Profile", some "__init__") 0), .adr (He.dflAt ("Profile", some "__init__") 1), .int 0, .int 0], []⟩,
  ⟨.get "Profile" "end", "end", "Profile.end", defArgs st_Profile_end, defBody st_Profile_end, defScope st_Profile_end, [], []⟩,
  ⟨.get "Profile" "height", "height", "Profile.height", defArgs st_Profile_height, defBody st_Profile_height, defScope st_Profile_height, [], []⟩,
  ⟨.meth "Profile" "descent", "descent", "Profile.descent", defArgs st_Profile_descent, defBody st_Profile_descent, defScope st_Profile_descent, [], []⟩,
  ⟨.meth "Profile" "ascent", "ascent", "Profile.ascent", defArgs st_Profile_ascent, defBody st_Profile_ascent, defScope st_Profile_ascent, [], []⟩,
  ⟨.meth "Profile" "back", "back", "Profile.back", defArgs st_Profile_back, defBody st_Profile_back, defScope st_Profile_back, [], []⟩,
  ⟨.meth "Profile" "is_no_worse", "is_no_worse", "Profile.is_no_worse", defArgs st_Profile_is_no_worse, defBody st_Profile_is_no_worse, defScope st_Profile_is_no_worse, [], []⟩,
  ⟨.meth "Profile" "__call__", "__call__", "Profile.__call__", defArgs st_Profile___call__, defBody st_Profile___call__, defScope st_Profile___call__, [], []⟩,
  ⟨.meth "Profile" "__eq__", "__eq__", "Profile.__eq__", defArgs st_Profile___eq__, defBody st_Profile___eq__, defScope st_Profile___eq__, [], []⟩,
  ⟨.glo "moved", "moved", "moved", defArgs st_moved, defBody st_moved, defScope st_moved, [], []⟩,
  ⟨.glo "followed", "followed", "followed", defArgs st_followed, defBody st_followed, defScope st_followed, [], []⟩,
  ⟨.glo "sum_of", "sum_of", "sum_of", defArgs st_sum_of, defBody st_sum_of, defScope st_sum_of, [], []⟩,
  ⟨.glo "times", "times", "times", defArgs st_times, defBody st_times, defScope st_times, [], []⟩,
  ⟨.glo "profile_of_step", "profile_of_step", "profile_of_step", defArgs st_profile_of_step, defBody st_profile_of_step, defScope st_profile_of_step, [], []⟩,
  ⟨.glo "profile_of_parts", "profile_of_parts", "profile_of_parts", defArgs st_profile_of_parts, defBody st_profile_of_parts, defScope st_profile_of_parts, [], []⟩,
  ⟨.glo "profile_of", "profile_of", "profile_of", defArgs st_profile_of, defBody st_profile_of, defScope st_profile_of, [], []⟩,
  ⟨.glo "end_context", "end_context", "end_context", defArgs st_end_context, defBody st_end_context, defScope st_end_context, [], []⟩,
  ⟨.glo "height_context", "height_context", "height_context", defArgs st_height_context, defBody st_height_context, defScope st_height_context, [], []⟩,
  ⟨.glo "descent_context", "descent_context", "descent_context", defArgs st_descent_context, defBody st_descent_context, defScope st_descent_context, [], []⟩,
  ⟨.glo "ascent_context", "ascent_context", "ascent_context", defArgs st_ascent_context, defBody st_ascent_context, defScope st_ascent_context, [], []⟩,
  ⟨.glo "worse_contexts", "worse_contexts", "worse_contexts", defArgs st_worse_contexts, defBody st_worse_contexts, defScope st_worse_contexts, [], []⟩,
  ⟨.glo "worse_context", "worse_context", "worse_context", defArgs st_worse_context, defBody st_worse_context, defScope st_worse_context, [], []⟩,
  ⟨.glo "are_exchangeable", "are_exchangeable", "are_exchangeable", defArgs st_are_exchangeable, defBody st_are_exchangeable, defScope st_are_exchangeable, [], []⟩,
  ⟨.glo "_law_pot", "_law_pot", "_law_pot", defArgs st__law_pot, defBody st__law_pot, defScope st__law_pot, [], []⟩,
  ⟨.glo "_law_draw", "_law_draw", "_law_draw", defArgs st__law_draw, defBody st__law_draw, defScope st__law_draw, [], []⟩,
  ⟨.glo "_law_mixed", "_law_mixed", "_law_mixed", defArgs st__law_mixed, defBody st__law_mixed, defScope st__law_mixed, [], []⟩,
  ⟨.glo "_law_step", "_law_step", "_law_step", defArgs st__law_step, defBody st__law_step, defScope st__law_step, [], []⟩,
  ⟨.glo "_law_unrolled", "_law_unrolled", "_law_unrolled", defArgs st__law_unrolled, defBody st__law_unrolled, defScope st__law_unrolled, [], []⟩,
  ⟨.glo "_law_elements", "_law_elements", "_law_elements", defArgs st__law_elements, defBody st__law_elements, defScope st__law_elements, [], []⟩,
  ⟨.glo "_law_heights", "_law_heights", "_law_heights", defArgs st__law_heights, defBody st__law_heights, defScope st__law_heights, [], []⟩,
  ⟨.glo "_law_reach", "_law_reach", "_law_reach", defArgs st__law_reach, defBody st__law_reach, defScope st__law_reach, [], []⟩,
  ⟨.glo "_law_return", "_law_return", "_law_return", defArgs st__law_return, defBody st__law_return, defScope st__law_return, [], []⟩,
  ⟨.glo "_law_marks", "_law_marks", "_law_marks", defArgs st__law_marks, defBody st__law_marks, defScope st__law_marks, [], []⟩,
  ⟨.glo "_law_is_no_worse", "_law_is_no_worse", "_law_is_no_worse", defArgs st__law_is_no_worse, defBody st__law_is_no_worse, defScope st__law_is_no_worse, [], []⟩,
  ⟨.glo "_law_levels", "_law_levels", "_law_levels", defArgs st__law_levels, defBody st__law_levels, defScope st__law_levels, [], []⟩,
  ⟨.glo "_law_near", "_law_near", "_law_near", defArgs st__law_near, defBody st__law_near, defScope st__law_near, [], []⟩,
  ⟨.glo "_law_pair_right", "_law_pair_right", "_law_pair_right", defArgs st__law_pair_right, defBody st__law_pair_right, defScope st__law_pair_right, [], []⟩,
  ⟨.glo "_law_right", "_law_right", "_law_right", defArgs st__law_right, defBody st__law_right, defScope st__law_right, [], []⟩,
  ⟨.glo "law", "law", "law", defArgs st_law, defBody st_law, defScope st_law, [], []⟩]
end K41

namespace K41
open PySem.Spec PySem L2 PyProof.Rows FG
open He (ga ma Fa Dv)
def loose0 : List Str := ["is_integer", "is_integer_from", "GateError", "InvalidParts", "InvalidLevel", "InvalidCount", "InvalidProfile", "InvalidText", "LimitError", "TooMany", "MAX_ROUNDS", "MAX_DEPTH", "EMPTY_scripts", "DIGITS", "MAX_WORD_LENGTH", "is_part", "are_parts", "size_of", "depth_of", "all_parts", "part_text", "parts_text", "number_in", "parsed_parts", "parts_in", "Script", "EMPTY_profiles", "is_count", "is_row", "are_rows"]
def loose1 : List Str := ["last_valley", "greatest_peak", "problem_of", "fallen", "moved", "followed", "sum_of", "times", "profile_of_step", "profile_of_parts", "shortest_levels", "steps_between", "Profile", "profile_of", "end_context", "height_context", "descent_context", "ascent_context", "worse_contexts", "worse_context", "are_exchangeable", "_law_pot", "_law_draw", "_law_mixed", "_law_step", "_law_elements", "_law_unrolled", "_law_heights", "_law_reach", "_law_return"]
def loose2 : List Str := ["_law_marks", "_law_is_no_worse", "_law_levels", "_law_near", "_law_pair_right", "_law_right"]
def loose : List Str := loose0 ++ loose1 ++ loose2
abbrev Rw : PySem.W.OpenRow := PySem.W.OpenLaw.row PySem.Challenge.rw_finishgate_k41_whole_no_worse_at_all_lev
abbrev hk : PySem.W.Hook := hookS 5 ex defs
def ob (s : PySem.W.SharedT) : AlF := obsFS 5 ex defs (HandSHeadRun.getT s)
theorem ob_eq (s : PySem.W.SharedT) : ob s = hk.obs s.abs := obsFS_eq (HandSHeadRun.getT_eq s)
theorem run (w : World) : HandSHeadRun.RunEq Rw (PySem.W.view Rw.prog [72]) hk ob 12000 loose w := by
  intro os
  kernel_rfl
end K41

/-! the plain law of parts: no program in sight -/
namespace K41
/-- a part of a script -/
inductive Pt where
  | step (i : Int) | loop (r : Int) (ps : List Pt)
mutual
def Pt.unroll : Pt → List Int
  | .step i => [i]
  | .loop r ps => (List.replicate r.toNat (unrollL ps)).flatten
def unrollL : List Pt → List Int
  | [] => []
  | p :: ps => Pt.unroll p ++ unrollL ps
end
mutual
def Pt.dep : Pt → Nat
  | .step _ => 0
  | .loop _ ps => depL ps + 1
def depL : List Pt → Nat
  | [] => 0
  | p :: ps => max (Pt.dep p) (depL ps)
end
theorem unrollL_append : ∀ ps qs : List Pt, unrollL (ps ++ qs) = unrollL ps ++ unrollL qs
  | [], _ => rfl
  | p :: ps, qs => by
    have e : ∀ xs : List Pt, unrollL (p :: xs) = Pt.unroll p ++ unrollL xs := fun _ => by rw [unrollL]
    rw [List.cons_append, e, e, unrollL_append ps qs, List.append_assoc]
/-- the heights a walk goes through -/
def heights (b : Int) : List Int → List Int
  | [] => [b]
  | x :: xs => b :: heights (b + x) xs
theorem heights_len : ∀ (xs : List Int) (b : Int), (heights b xs).length = xs.length + 1
  | [], _ => rfl
  | x :: xs, b => by
    unfold heights
    rw [List.length_cons, heights_len xs, List.length_cons]
theorem heights_get : ∀ (xs : List Int) (b : Int) (n : Nat), n ≤ xs.length → (heights b xs)[n]? = some (b + (xs.take n).sum)
  | [], b, n, h => by
    have : n = 0 := by simpa using h
    subst this
    simp [heights]
  | x :: xs, b, 0, _ => by simp [heights]
  | x :: xs, b, n + 1, h => by
    unfold heights
    rw [List.getElem?_cons_succ, heights_get xs (b + x) n (by simpa using h), List.take_succ_cons, List.sum_cons, Int.add_assoc]
/-- the highest, the lowest height of a walk from 0 -/
def hiW : List Int → Int
  | [] => 0
  | x :: xs => max 0 (x + hiW xs)
def loW : List Int → Int
  | [] => 0
  | x :: xs => min 0 (x + loW xs)
theorem hiW_nonneg : ∀ xs : List Int, 0 ≤ hiW xs
  | [] => Int.le_refl _
  | x :: xs => by unfold hiW; omega
theorem loW_nonpos : ∀ xs : List Int, loW xs ≤ 0
  | [] => Int.le_refl _
  | x :: xs => by unfold loW; omega
theorem hiW_append : ∀ xs ys : List Int, hiW (xs ++ ys) = max (hiW xs) (xs.sum + hiW ys)
  | [], ys => by
    have := hiW_nonneg ys
    simp only [List.nil_append, hiW, List.sum_nil]
    omega
  | x :: xs, ys => by
    simp only [List.cons_append, hiW, List.sum_cons, hiW_append xs ys]
    omega
theorem loW_append : ∀ xs ys : List Int, loW (xs ++ ys) = min (loW xs) (xs.sum + loW ys)
  | [], ys => by
    have := loW_nonpos ys
    simp only [List.nil_append, loW, List.sum_nil]
    omega
  | x :: xs, ys => by
    simp only [List.cons_append, loW, List.sum_cons, loW_append xs ys]
    omega
/-- the last place of the lowest height -/
def laW : List Int → Int
  | [] => 0
  | x :: xs => if x + loW xs ≤ 0 then 1 + laW xs else 0
theorem laW_append : ∀ xs ys : List Int, laW (xs ++ ys) = if xs.sum + loW ys ≤ loW xs then xs.length + laW ys else laW xs
  | [], ys => by
    have := loW_nonpos ys
    show laW ys = if ([] : List Int).sum + loW ys ≤ loW [] then _ else _
    rw [if_pos (by simp [loW]; omega)]
    simp
  | x :: xs, ys => by
    simp only [List.cons_append, laW, loW, List.sum_cons, loW_append xs ys, laW_append xs ys, List.length_cons]
    have h1 := loW_nonpos xs
    have h2 := loW_nonpos ys
    repeat' split
    all_goals omega
end K41
namespace K41
/-- those at the places a, .., b - 1 -/
def sl (a b : Int) : List Int → List Int
  | [] => []
  | x :: xs => if a ≤ 0 ∧ 0 < b then x :: sl (a - 1) (b - 1) xs else sl (a - 1) (b - 1) xs
theorem sl_cons (a b x : Int) (xs : List Int) : sl a b (x :: xs) = if a ≤ 0 ∧ 0 < b then x :: sl (a - 1) (b - 1) xs else sl (a - 1) (b - 1) xs := rfl
theorem sl_app : ∀ (xs ys : List Int) (a b : Int), sl a b (xs ++ ys) = sl a b xs ++ sl (a - xs.length) (b - xs.length) ys
  | [], ys, a, b => by simp [sl]
  | x :: xs, ys, a, b => by
    have e1 : a - 1 - (xs.length : Int) = a - ((x :: xs).length : Int) := by simp only [List.length_cons]; omega
    have e2 : b - 1 - (xs.length : Int) = b - ((x :: xs).length : Int) := by simp only [List.length_cons]; omega
    rw [List.cons_append, sl_cons a b x (xs ++ ys), sl_cons a b x xs, sl_app xs ys, e1, e2]
    split <;> rfl
/-- nothing between -/
theorem sl_none : ∀ (xs : List Int) (a b : Int), (b ≤ a ∨ b ≤ 0 ∨ (xs.length : Int) ≤ a) → sl a b xs = []
  | [], _, _, _ => rfl
  | x :: xs, a, b, h => by
    simp only [List.length_cons] at h
    unfold sl
    rw [if_neg (by omega)]
    exact sl_none xs _ _ (by omega)
/-- all -/
theorem sl_all : ∀ (xs : List Int) (a b : Int), a ≤ 0 → (xs.length : Int) ≤ b → sl a b xs = xs
  | [], _, _, _, _ => rfl
  | x :: xs, a, b, h1, h2 => by
    simp only [List.length_cons] at h2
    unfold sl
    rw [if_pos (by omega), sl_all xs _ _ (by omega) (by omega)]
/-- only what is inside counts -/
theorem sl_clamp : ∀ (xs : List Int) (a b c d : Int), max a 0 = max c 0 → min b xs.length = min d xs.length → sl a b xs = sl c d xs
  | [], _, _, _, _, _, _ => rfl
  | x :: xs, a, b, c, d, h1, h2 => by
    simp only [List.length_cons] at h2
    unfold sl
    rw [sl_clamp xs (a - 1) (b - 1) (c - 1) (d - 1) (by omega) (by omega)]
    by_cases h : a ≤ 0 ∧ 0 < b
    · rw [if_pos h, if_pos (by omega)]
    · rw [if_neg h, if_neg (by omega)]
theorem sl_split : ∀ (xs : List Int) (a c b : Int), a ≤ c → c ≤ b → sl a b xs = sl a c xs ++ sl c b xs
  | [], _, _, _, _, _ => rfl
  | x :: xs, a, c, b, h1, h2 => by
    unfold sl
    rw [sl_split xs (a - 1) (c - 1) (b - 1) (by omega) (by omega)]
    by_cases hc : 0 < c
    · by_cases ha : a ≤ 0
      · rw [if_pos (by omega), if_pos (by omega), if_neg (by omega)]; rfl
      · rw [if_neg (by omega), if_neg (by omega), if_neg (by omega)]
    · rw [if_neg (show ¬ (a ≤ 0 ∧ 0 < c) by omega), sl_none xs (a - 1) (c - 1) (by omega)]
      by_cases hb : 0 < b
      · rw [if_pos (by omega), if_pos (by omega)]; rfl
      · rw [if_neg (by omega), if_neg (by omega), List.nil_append]
theorem sl_sub : ∀ (xs : List Int) (a b : Int) (x : Int), x ∈ sl a b xs → x ∈ xs
  | [], _, _, _, h => h
  | y :: ys, a, b, x, h => by
    unfold sl at h
    split at h
    · rcases List.mem_cons.mp h with rfl | h
      · exact List.mem_cons_self
      · exact List.mem_cons_of_mem _ (sl_sub ys _ _ x h)
    · exact List.mem_cons_of_mem _ (sl_sub ys _ _ x h)
theorem sl_len : ∀ (xs : List Int) (a b : Int), (sl a b xs).length ≤ xs.length
  | [], _, _ => Nat.le_refl _
  | y :: ys, a, b => by
    have := sl_len ys (a - 1) (b - 1)
    unfold sl
    split <;> simp only [List.length_cons] <;> omega
/-- the first n -/
theorem sl_take : ∀ (xs : List Int) (n : Nat), sl 0 n xs = xs.take n
  | [], _ => by simp [sl]
  | x :: xs, 0 => sl_none _ _ _ (by omega)
  | x :: xs, n + 1 => by
    unfold sl
    rw [if_pos (by omega), List.take_succ_cons, sl_clamp xs (0 - 1) ((n + 1 : Nat) - 1) 0 n (by omega) (by omega), sl_take xs n]
/-- r times -/
def rep (r : Nat) (ys : List Int) : List Int := (List.replicate r ys).flatten
theorem rep_succ (r : Nat) (ys : List Int) : rep (r + 1) ys = ys ++ rep r ys := by
  unfold rep
  rw [List.replicate_succ, List.flatten_cons]
theorem rep_zero (ys : List Int) : rep 0 ys = [] := rfl
theorem rep_one (ys : List Int) : rep 1 ys = ys := by rw [rep_succ, rep_zero, List.append_nil]
theorem rep_add (ys : List Int) : ∀ r s : Nat, rep (r + s) ys = rep r ys ++ rep s ys
  | 0, s => by rw [Nat.zero_add, rep_zero, List.nil_append]
  | r + 1, s => by rw [show r + 1 + s = (r + s) + 1 by omega, rep_succ, rep_succ, rep_add ys r s, List.append_assoc]
theorem rep_len (ys : List Int) : ∀ r : Nat, (rep r ys).length = r * ys.length
  | 0 => by rw [rep_zero]; simp
  | r + 1 => by rw [rep_succ, List.length_append, rep_len ys r, Nat.add_mul, Nat.one_mul, Nat.add_comm]
theorem rep_lenZ (ys : List Int) (r : Nat) : ((rep r ys).length : Int) = r * ys.length := by rw [rep_len]; exact Int.natCast_mul _ _
theorem rep_nil : ∀ r : Nat, rep r [] = []
  | 0 => rfl
  | r + 1 => by rw [rep_succ, rep_nil r, List.append_nil]
theorem rep_mem {ys : List Int} {x : Int} : ∀ {r : Nat}, x ∈ rep r ys → x ∈ ys
  | 0, h => nomatch h
  | r + 1, h => by
    rw [rep_succ] at h
    rcases List.mem_append.mp h with h | h
    · exact h
    · exact rep_mem h
/-- within one round -/
theorem sl_round {ys : List Int} {r k : Nat} {u v : Int} (hk : k < r) (h1 : (k : Int) * ys.length ≤ u) (h2 : v ≤ ((k : Int) + 1) * ys.length) : sl u v (rep r ys) = sl (u - k * ys.length) (v - k * ys.length) ys := by
  obtain ⟨m, rfl⟩ : ∃ m, r = k + (1 + m) := ⟨r - k - 1, by omega⟩
  rw [Int.add_mul, Int.one_mul] at h2
  rw [rep_add, rep_add, rep_one, sl_app, sl_app, rep_lenZ, sl_none (rep k ys) _ _ (.inr (.inr (by rw [rep_lenZ]; exact h1))), List.nil_append, sl_none (rep m ys) _ _ (.inr (.inl (by omega))), List.append_nil]
/-- some whole rounds -/
theorem sl_rounds {ys : List Int} {r i j : Nat} (hij : i ≤ j) (hj : j ≤ r) : sl ((i : Int) * ys.length) ((j : Int) * ys.length) (rep r ys) = rep (j - i) ys := by
  obtain ⟨m, rfl⟩ : ∃ m, j = i + m := ⟨j - i, by omega⟩
  obtain ⟨n, rfl⟩ : ∃ n, r = i + (m + n) := ⟨r - i - m, by omega⟩
  rw [Nat.add_sub_cancel_left, rep_add, rep_add, sl_app, sl_app, sl_none (rep i ys) _ _ (.inr (.inr (by rw [rep_lenZ]; exact Int.le_refl _))), List.nil_append, rep_lenZ, rep_lenZ, Int.sub_self, Int.natCast_add, Int.add_mul, Int.add_comm ((i : Int) * ys.length), Int.add_sub_cancel, Int.zero_sub, sl_none (rep n ys) _ _ (.inr (.inl (by omega))), List.append_nil]
  exact sl_all _ _ _ (Int.le_refl _) (by rw [rep_lenZ]; exact Int.le_refl _)
/-- what cut_loop puts together -/
theorem sl_loop {ys : List Int} {r : Nat} {a b : Int} (hs : 0 < ys.length) (ha : 0 ≤ a) (hab : a < b) (hb : b ≤ (r : Int) * ys.length) :
    (a / ys.length = b / ys.length → sl a b (rep r ys) = sl (a - a / ys.length * ys.length) (b - a / ys.length * ys.length) ys) ∧
    (a / ys.length ≠ b / ys.length → sl a b (rep r ys) = (if a = a / ys.length * ys.length then [] else sl (a - a / ys.length * ys.length) ys.length ys) ++ rep (b / ys.length - a / ys.length - (if a = a / ys.length * ys.length then 0 else 1)).toNat ys ++ sl 0 (b - b / ys.length * ys.length) ys) := by
  have hsz : (0 : Int) < ys.length := by omega
  have d1 := Int.emod_add_mul_ediv a ys.length
  have d2 := Int.emod_add_mul_ediv b ys.length
  have m1 := Int.emod_nonneg a (show (ys.length : Int) ≠ 0 by omega)
  have m2 := Int.emod_lt_of_pos a hsz
  have m3 := Int.emod_nonneg b (show (ys.length : Int) ≠ 0 by omega)
  have m4 := Int.emod_lt_of_pos b hsz
  have hh : 0 ≤ a / ys.length := Int.ediv_nonneg ha (by omega)
  have ht : a / ys.length ≤ b / ys.length := Int.ediv_le_ediv hsz (Int.le_of_lt hab)
  have htr : b / ys.length ≤ r := by
    have := Int.ediv_le_ediv hsz hb
    rwa [Int.mul_ediv_cancel _ (by omega)] at this
  rw [Int.mul_comm] at d1 d2
  generalize hA : a / (ys.length : Int) = h at *
  generalize hB : b / (ys.length : Int) = t at *
  obtain ⟨i, rfl⟩ := Int.eq_ofNat_of_zero_le hh
  obtain ⟨j, rfl⟩ := Int.eq_ofNat_of_zero_le (show 0 ≤ t by omega)
  have hij : i ≤ j := by omega
  have hjr : j ≤ r := by omega
  have s1 : ((i : Int) + 1) * ys.length = i * ys.length + ys.length := by rw [Int.add_mul, Int.one_mul]
  have s2 : ((j : Int) + 1) * ys.length = j * ys.length + ys.length := by rw [Int.add_mul, Int.one_mul]
  have s3 : i < j → ((i : Int) + 1) * ys.length ≤ j * ys.length := fun h => Int.mul_le_mul_of_nonneg_right (by omega) (by omega)
  have s4 : j = r → (j : Int) * ys.length = r * ys.length := fun h => by rw [h]
  constructor
  · intro e
    have e : i = j := by omega
    subst e
    by_cases hr : i < r
    · exact sl_round hr (by omega) (by omega)
    · have := s4 (by omega)
      omega
  · intro e
    have hlt : i < j := by omega
    have k1 := s3 hlt
    have last : sl ((j : Int) * ys.length) b (rep r ys) = sl 0 (b - (j : Int) * ys.length) ys := by
      by_cases hr : j < r
      · rw [sl_round hr (Int.le_refl _) (by omega), Int.sub_self]
      · have := s4 (by omega)
        rw [sl_none _ _ _ (.inl (by omega)), sl_none _ _ _ (.inr (.inl (by omega)))]
    rw [sl_split _ a ((j : Int) * ys.length) b (by omega) (by omega), last]
    congr 1
    by_cases ha0 : a = (i : Int) * ys.length
    · rw [if_pos ha0, if_pos ha0, List.nil_append, ha0, sl_rounds hij hjr]
      congr 1
      omega
    · rw [if_neg ha0, if_neg ha0, sl_split _ a (((i : Int) + 1) * ys.length) _ (by omega) k1]
      have := sl_rounds (ys := ys) (r := r) (i := i + 1) (j := j) (by omega) hjr
      rw [show (((i + 1 : Nat) : Int)) = (i : Int) + 1 by omega] at this
      rw [this, sl_round (k := i) (by omega) (by omega) (Int.le_refl _), s1, Int.add_comm ((i : Int) * ys.length), Int.add_sub_cancel]
      congr 2
      omega
end K41
namespace K41
theorem hiW_rep (xs : List Int) : ∀ r : Nat, hiW (rep (r + 1) xs) = hiW xs + max ((r : Int) * xs.sum) 0
  | 0 => by
    rw [show 0 + 1 = 1 from rfl, rep_one]
    simp
  | r + 1 => by
    have h := hiW_rep xs r
    have h0 := hiW_nonneg xs
    rw [rep_succ, hiW_append, h, Int.natCast_add, Int.add_mul, show ((1 : Nat) : Int) = 1 from rfl, Int.one_mul]
    rcases Int.le_total 0 xs.sum with hs | hs
    · have : 0 ≤ (r : Int) * xs.sum := Int.mul_nonneg (by omega) hs
      omega
    · have : (r : Int) * xs.sum ≤ 0 := Int.mul_nonpos_of_nonneg_of_nonpos (by omega) hs
      omega
theorem loW_rep (xs : List Int) : ∀ r : Nat, loW (rep (r + 1) xs) = loW xs + min ((r : Int) * xs.sum) 0
  | 0 => by
    rw [show 0 + 1 = 1 from rfl, rep_one]
    simp
  | r + 1 => by
    have h := loW_rep xs r
    have h0 := loW_nonpos xs
    rw [rep_succ, loW_append, h, Int.natCast_add, Int.add_mul, show ((1 : Nat) : Int) = 1 from rfl, Int.one_mul]
    rcases Int.le_total 0 xs.sum with hs | hs
    · have : 0 ≤ (r : Int) * xs.sum := Int.mul_nonneg (by omega) hs
      omega
    · have : (r : Int) * xs.sum ≤ 0 := Int.mul_nonpos_of_nonneg_of_nonpos (by omega) hs
      omega
theorem sum_rep (xs : List Int) : ∀ r : Nat, (rep r xs).sum = (r : Int) * xs.sum
  | 0 => by rw [rep_zero]; simp
  | r + 1 => by rw [rep_succ, List.sum_append, sum_rep xs r, Int.natCast_add, Int.add_mul, show ((1 : Nat) : Int) = 1 from rfl, Int.one_mul, Int.add_comm]
theorem laW_rep (xs : List Int) : ∀ r : Nat, laW (rep (r + 1) xs) = if xs.sum ≤ 0 then laW xs + (r : Int) * xs.length else laW xs
  | 0 => by
    rw [show 0 + 1 = 1 from rfl, rep_one]
    simp
  | r + 1 => by
    have h := laW_rep xs r
    rw [rep_succ, laW_append, h, loW_rep, Int.natCast_add, Int.add_mul, show ((1 : Nat) : Int) = 1 from rfl, Int.one_mul]
    rcases Int.lt_or_le 0 xs.sum with hs | hs
    · have : 0 ≤ (r : Int) * xs.sum := Int.mul_nonneg (by omega) (by omega)
      rw [if_neg (by omega), if_neg (by omega)]
    · have : (r : Int) * xs.sum ≤ 0 := Int.mul_nonpos_of_nonneg_of_nonpos (by omega) hs
      rw [if_pos (by omega), if_pos hs, if_pos hs]
      omega
theorem unrollL_cons (p : Pt) (ps : List Pt) : unrollL (p :: ps) = p.unroll ++ unrollL ps := by rw [unrollL]
theorem unrollL_nil : unrollL [] = [] := by rw [unrollL]
theorem unroll_step (i : Int) : (Pt.step i).unroll = [i] := by rw [Pt.unroll]
theorem unroll_loop (r : Int) (ps : List Pt) : (Pt.loop r ps).unroll = rep r.toNat (unrollL ps) := by rw [Pt.unroll]; rfl
theorem depL_cons (p : Pt) (ps : List Pt) : depL (p :: ps) = max p.dep (depL ps) := by rw [depL]
theorem depL_nil : depL [] = 0 := by rw [depL]
theorem dep_step (i : Int) : (Pt.step i).dep = 0 := by rw [Pt.dep]
theorem dep_loop (r : Int) (ps : List Pt) : (Pt.loop r ps).dep = depL ps + 1 := by rw [Pt.dep]
theorem depL_app : ∀ ps qs : List Pt, depL (ps ++ qs) = max (depL ps) (depL qs)
  | [], qs => by rw [List.nil_append, depL_nil]; omega
  | p :: ps, qs => by rw [List.cons_append, depL_cons, depL_cons, depL_app ps qs]; omega
mutual
/-- rounds are counts of at most 10 ^ 12 -/
def Pt.ok : Pt → Prop
  | .step _ => True
  | .loop r ps => 0 ≤ r ∧ r ≤ 1000000000000 ∧ okL ps
def okL : List Pt → Prop
  | [] => True
  | p :: ps => Pt.ok p ∧ okL ps
end
theorem okL_cons (p : Pt) (ps : List Pt) : okL (p :: ps) = (p.ok ∧ okL ps) := by rw [okL]
theorem okL_nil : okL [] = True := by rw [okL]
theorem ok_step (i : Int) : (Pt.step i).ok = True := by rw [Pt.ok]
theorem ok_loop (r : Int) (ps : List Pt) : (Pt.loop r ps).ok = (0 ≤ r ∧ r ≤ 1000000000000 ∧ okL ps) := by rw [Pt.ok]
theorem okL_app : ∀ ps qs : List Pt, okL ps → okL qs → okL (ps ++ qs)
  | [], _, _, h => h
  | p :: ps, qs, h1, h2 => by
    rw [okL_cons] at h1
    rw [List.cons_append, okL_cons]
    exact ⟨h1.1, okL_app ps qs h1.2 h2⟩
mutual
/-- how many parts there may be when it is cut -/
def Pt.cl : Pt → Nat
  | .step _ => 1
  | .loop _ ps => 2 * clL ps + ps.length + 1
def clL : List Pt → Nat
  | [] => 0
  | p :: ps => Pt.cl p + clL ps
end
theorem clL_cons (p : Pt) (ps : List Pt) : clL (p :: ps) = p.cl + clL ps := by rw [clL]
theorem clL_nil : clL [] = 0 := by rw [clL]
theorem cl_step (i : Int) : (Pt.step i).cl = 1 := by rw [Pt.cl]
theorem cl_loop (r : Int) (ps : List Pt) : (Pt.loop r ps).cl = 2 * clL ps + ps.length + 1 := by rw [Pt.cl]
theorem cl_pos : ∀ p : Pt, 1 ≤ p.cl
  | .step _ => by rw [cl_step]; exact Nat.le_refl _
  | .loop _ _ => by rw [cl_loop]; omega
theorem len_cl : ∀ ps : List Pt, ps.length ≤ clL ps
  | [] => Nat.zero_le _
  | p :: ps => by
    have := len_cl ps
    have := cl_pos p
    rw [List.length_cons, clL_cons]
    omega
mutual
/-- all parts, the inner ones too -/
def Pt.flat : Pt → List Pt
  | .step i => [.step i]
  | .loop r ps => .loop r ps :: flatL ps
def flatL : List Pt → List Pt
  | [] => []
  | p :: ps => Pt.flat p ++ flatL ps
end
theorem flatL_cons (p : Pt) (ps : List Pt) : flatL (p :: ps) = p.flat ++ flatL ps := by rw [flatL]
theorem flatL_nil : flatL [] = [] := by rw [flatL]
theorem flat_step (i : Int) : (Pt.step i).flat = [.step i] := by rw [Pt.flat]
theorem flat_loop (r : Int) (ps : List Pt) : (Pt.loop r ps).flat = .loop r ps :: flatL ps := by rw [Pt.flat]
mutual
theorem flat_cl : ∀ p : Pt, p.flat.length ≤ p.cl
  | .step _ => by rw [flat_step, cl_step]; exact Nat.le_refl _
  | .loop _ ps => by
    have := flatL_cl ps
    rw [flat_loop, cl_loop, List.length_cons]
    omega
theorem flatL_cl : ∀ ps : List Pt, (flatL ps).length ≤ clL ps
  | [] => by rw [flatL_nil]; exact Nat.zero_le _
  | p :: ps => by
    have h1 := flat_cl p
    have h2 := flatL_cl ps
    rw [flatL_cons, clL_cons, List.length_append]
    omega
end
mutual
/-- how long it can be -/
theorem unroll_len : ∀ p : Pt, p.ok → p.unroll.length ≤ p.cl * 1000000000000 ^ p.dep
  | .step _, _ => by rw [unroll_step, cl_step, dep_step, List.length_singleton]; decide
  | .loop r ps, h => by
    rw [ok_loop] at h
    have k := unrollL_len ps h.2.2
    rw [unroll_loop, rep_len, cl_loop, dep_loop, Nat.pow_succ, Nat.mul_comm (1000000000000 ^ depL ps), ← Nat.mul_assoc, Nat.mul_comm _ 1000000000000, Nat.mul_assoc]
    refine Nat.mul_le_mul (by omega) (Nat.le_trans k (Nat.mul_le_mul_right _ (by omega)))
theorem unrollL_len : ∀ ps : List Pt, okL ps → (unrollL ps).length ≤ clL ps * 1000000000000 ^ depL ps
  | [], _ => by rw [unrollL_nil]; exact Nat.zero_le _
  | p :: ps, h => by
    rw [okL_cons] at h
    have h1 := unroll_len p h.1
    have h2 := unrollL_len ps h.2
    have e1 : 1000000000000 ^ p.dep ≤ 1000000000000 ^ depL (p :: ps) := Nat.pow_le_pow_right (by decide) (by rw [depL_cons]; omega)
    have e2 : 1000000000000 ^ depL ps ≤ 1000000000000 ^ depL (p :: ps) := Nat.pow_le_pow_right (by decide) (by rw [depL_cons]; omega)
    rw [unrollL_cons, clL_cons, List.length_append, Nat.add_mul]
    exact Nat.add_le_add (Nat.le_trans h1 (Nat.mul_le_mul_left _ e1)) (Nat.le_trans h2 (Nat.mul_le_mul_left _ e2))
end
theorem unrollL_79 {ps : List Pt} (h : okL ps) (hd : depL ps ≤ 6) (hc : clL ps ≤ 10000000) : (unrollL ps).length ≤ 10 ^ 80 := by
  refine Nat.le_trans (unrollL_len ps h) (Nat.le_trans (Nat.mul_le_mul hc (Nat.pow_le_pow_right (by decide) hd)) ?_)
  decide +kernel
/-- numbers of moderate size -/
structure Bd (xs : List Int) : Prop where
  len : xs.length ≤ 10 ^ 80
  all : ∀ x ∈ xs, x.natAbs ≤ 10 ^ 40
theorem Bd.left {xs ys : List Int} (h : Bd (xs ++ ys)) : Bd xs := ⟨by have := h.len; rw [List.length_append] at this; omega, fun x hx => h.all x (List.mem_append_left _ hx)⟩
theorem Bd.right {xs ys : List Int} (h : Bd (xs ++ ys)) : Bd ys := ⟨by have := h.len; rw [List.length_append] at this; omega, fun x hx => h.all x (List.mem_append_right _ hx)⟩
theorem Bd.rep {xs : List Int} {r : Nat} (h : Bd (rep r xs)) (hr : 0 < r) : Bd xs := by
  obtain ⟨m, rfl⟩ : ∃ m, r = m + 1 := ⟨r - 1, by omega⟩
  rw [rep_succ] at h
  exact h.left
theorem Bd.sl {xs : List Int} (h : Bd xs) (a b : Int) : Bd (sl a b xs) := ⟨Nat.le_trans (sl_len xs a b) h.len, fun x hx => h.all x (sl_sub xs a b x hx)⟩
theorem sum_le (M : Nat) : ∀ xs : List Int, (∀ x ∈ xs, x.natAbs ≤ M) → xs.sum.natAbs ≤ xs.length * M
  | [], _ => by simp
  | x :: xs, h => by
    have h1 := h x List.mem_cons_self
    have h2 := sum_le M xs fun y hy => h y (List.mem_cons_of_mem _ hy)
    rw [List.sum_cons, List.length_cons, Nat.add_mul, Nat.one_mul]
    omega
theorem Bd.sum {xs : List Int} (h : Bd xs) : xs.sum.natAbs < 2 ^ 400 := by
  refine Nat.lt_of_le_of_lt (Nat.le_trans (sum_le _ xs h.all) (Nat.mul_le_mul_right _ h.len)) ?_
  decide +kernel
theorem Bd.size {xs : List Int} (h : Bd xs) : ((xs.length : Int)).natAbs < 2 ^ 270 := by
  rw [Int.natAbs_natCast]
  exact Nat.lt_of_le_of_lt h.len (by decide +kernel)
theorem hi_one (i : Int) : hiW [i] = if 0 > i then 0 else i := by
  unfold hiW hiW
  split <;> omega
theorem lo_one (i : Int) : loW [i] = if 0 < i then 0 else i := by
  unfold loW loW
  split <;> omega
theorem la_one (i : Int) : laW [i] = if i ≤ 0 then 1 else 0 := by
  unfold laW laW loW
  rw [Int.add_zero]
  split <;> rfl
end K41


namespace K41
theorem sl_mid (xs : List Int) {a b : Nat} (h1 : a ≤ b) (h2 : b ≤ xs.length) : sl a b xs = (xs.drop a).take (b - a) := by
  have e : xs = xs.take a ++ xs.drop a := (List.take_append_drop a xs).symm
  have l1 : (xs.take a).length = a := by rw [List.length_take]; omega
  rw [show sl a b xs = sl a b (xs.take a ++ xs.drop a) by rw [← e], sl_app, sl_none _ _ _ (.inr (.inr (by rw [l1]; exact Int.le_refl _))), List.nil_append, l1, Int.sub_self, show (b : Int) - a = ((b - a : Nat) : Int) by omega, sl_take]
/-- the heights' greatest, least, and the last place of the least -/
theorem heights_hi : ∀ (ys : List Int) (b : Int), b + hiW ys ∈ heights b ys ∧ ∀ z ∈ heights b ys, z ≤ b + hiW ys
  | [], b => by
    show b + 0 ∈ [b] ∧ ∀ z ∈ [b], z ≤ b + 0
    rw [Int.add_zero]
    exact ⟨List.mem_singleton.mpr rfl, fun z hz => by rw [List.mem_singleton.mp hz]; exact Int.le_refl _⟩
  | y :: ys, b => by
    obtain ⟨h1, h2⟩ := heights_hi ys (b + y)
    have e : hiW (y :: ys) = max 0 (y + hiW ys) := rfl
    have f : heights b (y :: ys) = b :: heights (b + y) ys := rfl
    rw [e, f]
    refine ⟨?_, fun z hz => ?_⟩
    · by_cases h : 0 ≤ y + hiW ys
      · rw [show b + max 0 (y + hiW ys) = b + y + hiW ys by omega]
        exact List.mem_cons_of_mem _ h1
      · rw [show b + max 0 (y + hiW ys) = b by omega]
        exact List.mem_cons_self
    · rcases List.mem_cons.mp hz with rfl | hz
      · omega
      · have := h2 z hz
        omega
theorem heights_lo : ∀ (ys : List Int) (b : Int), b + loW ys ∈ heights b ys ∧ ∀ z ∈ heights b ys, b + loW ys ≤ z
  | [], b => by
    show b + 0 ∈ [b] ∧ ∀ z ∈ [b], b + 0 ≤ z
    rw [Int.add_zero]
    exact ⟨List.mem_singleton.mpr rfl, fun z hz => by rw [List.mem_singleton.mp hz]; exact Int.le_refl _⟩
  | y :: ys, b => by
    obtain ⟨h1, h2⟩ := heights_lo ys (b + y)
    have e : loW (y :: ys) = min 0 (y + loW ys) := rfl
    have f : heights b (y :: ys) = b :: heights (b + y) ys := rfl
    rw [e, f]
    refine ⟨?_, fun z hz => ?_⟩
    · by_cases h : y + loW ys ≤ 0
      · rw [show b + min 0 (y + loW ys) = b + y + loW ys by omega]
        exact List.mem_cons_of_mem _ h1
      · rw [show b + min 0 (y + loW ys) = b by omega]
        exact List.mem_cons_self
    · rcases List.mem_cons.mp hz with rfl | hz
      · omega
      · have := h2 z hz
        omega
theorem heights_la : ∀ (ys : List Int) (b : Int), ∃ k : Nat, laW ys = k ∧ (heights b ys)[k]? = some (b + loW ys) ∧ ∀ n : Nat, (heights b ys)[n]? = some (b + loW ys) → n ≤ k
  | [], b => by
    refine ⟨0, rfl, by show some b = some (b + 0); rw [Int.add_zero], fun n h => ?_⟩
    cases n with
    | zero => exact Nat.le_refl _
    | succ n => simp [heights] at h
  | y :: ys, b => by
    obtain ⟨k, h1, h2, h3⟩ := heights_la ys (b + y)
    have e : loW (y :: ys) = min 0 (y + loW ys) := rfl
    have e2 : laW (y :: ys) = if y + loW ys ≤ 0 then 1 + laW ys else 0 := rfl
    have f : heights b (y :: ys) = b :: heights (b + y) ys := rfl
    rw [e, e2, f]
    by_cases h : y + loW ys ≤ 0
    · rw [if_pos h, show b + min 0 (y + loW ys) = b + y + loW ys by omega]
      refine ⟨k + 1, by omega, by rw [List.getElem?_cons_succ]; exact h2, fun n hn => ?_⟩
      cases n with
      | zero => omega
      | succ n =>
        rw [List.getElem?_cons_succ] at hn
        have := h3 n hn
        omega
    · rw [if_neg h, show b + min 0 (y + loW ys) = b by omega]
      refine ⟨0, rfl, rfl, fun n hn => ?_⟩
      cases n with
      | zero => exact Nat.le_refl _
      | succ n =>
        rw [List.getElem?_cons_succ] at hn
        have hm := (heights_lo ys (b + y)).2 b (List.mem_of_getElem? hn)
        omega
/-- a part of the heights -/
theorem heights_part (xs : List Int) {a b : Nat} (h1 : a ≤ b) (h2 : b ≤ xs.length) : ((heights 0 xs).drop a).take (b + 1 - a) = heights (xs.take a).sum ((xs.drop a).take (b - a)) := by
  refine List.ext_getElem? fun i => ?_
  have l1 : ((xs.drop a).take (b - a)).length = b - a := by rw [List.length_take, List.length_drop]; omega
  by_cases h : i ≤ b - a
  · rw [List.getElem?_take, if_pos (by omega), List.getElem?_drop, heights_get xs 0 (a + i) (by omega), heights_get _ _ i (by omega), Int.zero_add, List.take_add, List.sum_append, List.take_take]
    congr 4
    omega
  · rw [List.getElem?_take, if_neg (by omega), List.getElem?_eq_none (by rw [heights_len]; omega)]
end K41


/-! the plain law of profiles: rows of peaks and valleys tell the lowest reach by headroom -/
namespace K41
/-- the lowest reach from 0 with headroom b -/
def dn : List Int → Int → Int
  | [], _ => 0
  | x :: xs, b => if b < x then 0 else min 0 (x + dn xs (b - x))
theorem dn_cons (x : Int) (xs : List Int) (b : Int) : dn (x :: xs) b = if b < x then 0 else min 0 (x + dn xs (b - x)) := rfl
theorem dn_le : ∀ (xs : List Int) (b : Int), dn xs b ≤ 0
  | [], _ => Int.le_refl _
  | x :: xs, b => by
    rw [dn_cons]
    split <;> omega
/-- above the height nothing changes -/
theorem dn_high : ∀ (xs : List Int) (b : Int), hiW xs ≤ b → dn xs b = loW xs
  | [], _, _ => rfl
  | x :: xs, b, h => by
    have e : hiW (x :: xs) = max 0 (x + hiW xs) := rfl
    have e2 : loW (x :: xs) = min 0 (x + loW xs) := rfl
    have h0 := hiW_nonneg xs
    rw [dn_cons, if_neg (by omega), dn_high xs (b - x) (by omega), e2]
theorem dn_append : ∀ (xs ys : List Int) (b : Int), 0 ≤ b → dn (xs ++ ys) b = if hiW xs ≤ b then min (dn xs b) (xs.sum + dn ys (b - xs.sum)) else dn xs b
  | [], ys, b, h => by
    have := dn_le ys b
    rw [List.nil_append, if_pos (show hiW [] ≤ b from h), List.sum_nil, Int.sub_zero, Int.zero_add]
    show dn ys b = min 0 (dn ys b)
    omega
  | x :: xs, ys, b, h => by
    have e : hiW (x :: xs) = max 0 (x + hiW xs) := rfl
    rw [List.cons_append, dn_cons, dn_cons]
    by_cases c : b < x
    · have h0 := hiW_nonneg xs
      rw [if_pos c, if_pos c, if_neg (by omega)]
    · rw [if_neg c, if_neg c, dn_append xs ys (b - x) (by omega), List.sum_cons]
      by_cases g : hiW xs ≤ b - x
      · rw [if_pos g, if_pos (by omega), show b - x - xs.sum = b - (x + xs.sum) by omega]
        omega
      · rw [if_neg g, if_neg (by omega)]
/-! ### rows -/
abbrev Rows := List (Int × Int)
def okFrom : Int → Int → Rows → Prop
  | _, _, [] => True
  | p, v, r :: rs => p < r.1 ∧ r.2 < v ∧ okFrom r.1 r.2 rs
def fall (rs : Rows) (b l : Int) : Int := rs.foldl (fun f r => if r.1 ≤ b then r.2 else f) l
theorem fall_cons (r : Int × Int) (rs : Rows) (b l : Int) : fall (r :: rs) b l = fall rs b (if r.1 ≤ b then r.2 else l) := rfl
theorem fall_before : ∀ (rs : Rows) (p v b l : Int), okFrom p v rs → b ≤ p → fall rs b l = l
  | [], _, _, _, _, _, _ => rfl
  | r :: rs, p, v, b, l, ⟨h1, _, h3⟩, h => by
    rw [fall_cons, if_neg (by omega)]
    exact fall_before rs r.1 r.2 b l h3 (by omega)
theorem fall_le : ∀ (rs : Rows) (p v b : Int), okFrom p v rs → fall rs b v ≤ v
  | [], _, _, _, _ => Int.le_refl _
  | r :: rs, p, v, b, ⟨h1, h2, h3⟩ => by
    rw [fall_cons]
    by_cases c : r.1 ≤ b
    · rw [if_pos c]
      have := fall_le rs r.1 r.2 b h3
      omega
    · rw [if_neg c, fall_before rs r.1 r.2 b v h3 (by omega)]
      exact Int.le_refl _
/-- rows are told by the reach -/
theorem rows_one : ∀ (r1 r2 : Rows) (p v : Int), okFrom p v r1 → okFrom p v r2 → (∀ b, p < b → fall r1 b v = fall r2 b v) → r1 = r2
  | [], [], _, _, _, _, _ => rfl
  | [], s :: ss, p, v, _, ⟨a, b, c⟩, h => by
    have e := h s.1 a
    rw [fall_cons, if_pos (Int.le_refl _), fall_before ss s.1 s.2 s.1 s.2 c (Int.le_refl _)] at e
    have e : v = s.2 := e
    omega
  | r :: rs, [], p, v, ⟨a, b, c⟩, _, h => by
    have e := h r.1 a
    rw [fall_cons, if_pos (Int.le_refl _), fall_before rs r.1 r.2 r.1 r.2 c (Int.le_refl _)] at e
    have e : r.2 = v := e
    omega
  | r :: rs, s :: ss, p, v, ⟨a1, b1, c1⟩, ⟨a2, b2, c2⟩, h => by
    have e1 := h r.1 a1
    have e2 := h s.1 a2
    rw [fall_cons, fall_cons, if_pos (Int.le_refl _), fall_before rs r.1 r.2 r.1 r.2 c1 (Int.le_refl _)] at e1
    rw [fall_cons, fall_cons s, if_pos (show s.1 ≤ s.1 from Int.le_refl _), fall_before ss s.1 s.2 s.1 s.2 c2 (Int.le_refl _)] at e2
    have hp : r.1 = s.1 := by
      rcases Int.lt_trichotomy r.1 s.1 with g | g | g
      · rw [if_neg (by omega), fall_before ss s.1 s.2 r.1 v c2 (by omega)] at e1
        omega
      · exact g
      · rw [if_neg (by omega), fall_before rs r.1 r.2 s.1 v c1 (by omega)] at e2
        omega
    rw [if_pos (by omega), hp, fall_before ss s.1 s.2 s.1 s.2 c2 (Int.le_refl _)] at e1
    have hr : r = s := Prod.ext hp e1
    subst hr
    rw [rows_one rs ss r.1 r.2 c1 c2 fun b hb => by
      have := h b (by omega)
      rwa [fall_cons, fall_cons, if_pos (by omega)] at this]
/-- peaks that rise -/
def incP : Int → Rows → Prop
  | _, [] => True
  | p, r :: rs => p < r.1 ∧ incP r.1 rs
theorem inc_of : ∀ (rs : Rows) (p v : Int), okFrom p v rs → incP p rs
  | [], _, _, _ => trivial
  | r :: rs, p, v, ⟨a, _, c⟩ => ⟨a, inc_of rs r.1 r.2 c⟩
theorem inc_le : ∀ (rs : Rows) {p q : Int}, q ≤ p → incP p rs → incP q rs
  | [], _, _, _, _ => trivial
  | r :: rs, p, q, h, ⟨a, b⟩ => ⟨by omega, b⟩
theorem inc_mem : ∀ (rs : Rows) {p : Int}, incP p rs → ∀ r ∈ rs, p < r.1
  | r :: rs, p, ⟨a, b⟩, x, hx => by
    rcases List.mem_cons.mp hx with rfl | hx
    · exact a
    · have := inc_mem rs b x hx
      omega
theorem inc_app : ∀ (rs ss : Rows) (p t : Int), incP p rs → p ≤ t → (∀ r ∈ rs, r.1 ≤ t) → incP t ss → incP p (rs ++ ss)
  | [], ss, p, t, _, h, _, h2 => inc_le ss h h2
  | r :: rs, ss, p, t, ⟨a, b⟩, h, h1, h2 => ⟨a, inc_app rs ss r.1 t b (h1 r List.mem_cons_self) (fun x hx => h1 x (List.mem_cons_of_mem _ hx)) h2⟩
theorem inc_fil (P : Int × Int → Bool) : ∀ (rs : Rows) (p : Int), incP p rs → incP p (rs.filter P)
  | [], _, _ => trivial
  | r :: rs, p, ⟨a, b⟩ => by
    by_cases c : P r = true
    · rw [List.filter_cons_of_pos c]
      exact ⟨a, inc_fil P rs r.1 b⟩
    · rw [List.filter_cons_of_neg c]
      exact inc_le _ (by omega) (inc_fil P rs r.1 b)
/-- only rows that go lower -/
def filt : Int → Rows → Rows
  | _, [] => []
  | l, r :: rs => if r.2 < l then r :: filt r.2 rs else filt l rs
theorem filt_ok : ∀ (rs : Rows) (p l : Int), incP p rs → okFrom p l (filt l rs)
  | [], _, _, _ => trivial
  | r :: rs, p, l, ⟨a, b⟩ => by
    unfold filt
    split
    · exact ⟨a, by assumption, filt_ok rs r.1 r.2 b⟩
    · have h := filt_ok rs r.1 l b
      cases e : filt l rs with
      | nil => trivial
      | cons s ss =>
        rw [e] at h
        exact ⟨by have := h.1; omega, h.2⟩
def mfall (rs : Rows) (b l : Int) : Int := rs.foldl (fun f r => if r.1 ≤ b then min f r.2 else f) l
theorem mfall_cons (r : Int × Int) (rs : Rows) (b l : Int) : mfall (r :: rs) b l = mfall rs b (if r.1 ≤ b then min l r.2 else l) := rfl
theorem mfall_app (rs ss : Rows) (b l : Int) : mfall (rs ++ ss) b l = mfall ss b (mfall rs b l) := List.foldl_append
theorem mfall_before : ∀ (rs : Rows) (p b l : Int), incP p rs → b ≤ p → mfall rs b l = l
  | [], _, _, _, _, _ => rfl
  | r :: rs, p, b, l, ⟨a, c⟩, h => by
    rw [mfall_cons, if_neg (by omega)]
    exact mfall_before rs r.1 b l c (by omega)
theorem fall_filt : ∀ (rs : Rows) (p b l : Int), incP p rs → fall (filt l rs) b l = mfall rs b l
  | [], _, _, _, _ => rfl
  | r :: rs, p, b, l, ⟨a, c⟩ => by
    rw [mfall_cons]
    unfold filt
    by_cases h : r.2 < l
    · rw [if_pos h, fall_cons]
      by_cases g : r.1 ≤ b
      · rw [if_pos g, if_pos g, show min l r.2 = r.2 by omega]
        exact fall_filt rs r.1 b r.2 c
      · rw [if_neg g, if_neg g, fall_before _ r.1 r.2 b l (filt_ok rs r.1 r.2 c) (by omega), mfall_before rs r.1 b l c (by omega)]
    · rw [if_neg h, fall_filt rs r.1 b l c]
      by_cases g : r.1 ≤ b
      · rw [if_pos g, show min l r.2 = l by omega]
      · rw [if_neg g]
/-- min of reaches -/
theorem mfall_min : ∀ (rs : Rows) (b l m : Int), mfall rs b (min l m) = min l (mfall rs b m)
  | [], _, _, _ => rfl
  | r :: rs, b, l, m => by
    rw [mfall_cons, mfall_cons]
    by_cases g : r.1 ≤ b
    · rw [if_pos g, if_pos g, show min (min l m) r.2 = min l (min m r.2) by omega]
      exact mfall_min rs b l _
    · rw [if_neg g, if_neg g]
      exact mfall_min rs b l m
theorem mfall_fall : ∀ (rs : Rows) (p v b : Int), okFrom p v rs → mfall rs b v = fall rs b v
  | [], _, _, _, _ => rfl
  | r :: rs, p, v, b, ⟨h1, h2, h3⟩ => by
    rw [mfall_cons, fall_cons]
    by_cases g : r.1 ≤ b
    · rw [if_pos g, if_pos g, show min v r.2 = r.2 by omega]
      exact mfall_fall rs r.1 r.2 b h3
    · rw [if_neg g, if_neg g, mfall_before rs r.1 b v (inc_of rs _ _ h3) (by omega), fall_before rs r.1 r.2 b v h3 (by omega)]
/-- the rows behind a peak, on what the rows up to it reach -/
theorem mfall_behind : ∀ (rs : Rows) (p v t b : Int), okFrom p v rs → t ≤ b → mfall (rs.filter fun r => decide (t < r.1)) b (fall rs t v) = fall rs b v
  | [], _, _, _, _, _, _ => rfl
  | r :: rs, p, v, t, b, ⟨h1, h2, h3⟩, h => by
    rw [fall_cons, fall_cons]
    by_cases g : r.1 ≤ t
    · rw [List.filter_cons_of_neg (by rw [decide_eq_true_iff]; omega), if_pos g, if_pos (by omega)]
      exact mfall_behind rs r.1 r.2 t b h3 h
    · have all : (r :: rs).filter (fun r => decide (t < r.1)) = r :: rs := List.filter_eq_self.mpr fun x hx => by
        rcases List.mem_cons.mp hx with rfl | hx
        · exact decide_eq_true (by omega)
        · have := inc_mem rs (inc_of rs _ _ h3) x hx
          exact decide_eq_true (by omega)
      rw [all, if_neg g, fall_before rs r.1 r.2 t v h3 (by omega), mfall_cons]
      by_cases c : r.1 ≤ b
      · rw [if_pos c, if_pos c, show min v r.2 = r.2 by omega]
        exact mfall_fall rs r.1 r.2 b h3
      · rw [if_neg c, if_neg c, mfall_before rs r.1 b v (inc_of rs _ _ h3) (by omega), fall_before rs r.1 r.2 b v h3 (by omega)]
/-- the rows ahead of a peak -/
theorem mfall_ahead : ∀ (rs : Rows) (p v t b : Int), okFrom p v rs → b < t → mfall (rs.filter fun r => decide (r.1 < t)) b v = fall rs b v
  | [], _, _, _, _, _, _ => rfl
  | r :: rs, p, v, t, b, ⟨h1, h2, h3⟩, h => by
    by_cases g : r.1 < t
    · rw [List.filter_cons_of_pos (by exact decide_eq_true g), mfall_cons, fall_cons]
      by_cases c : r.1 ≤ b
      · rw [if_pos c, if_pos c, show min v r.2 = r.2 by omega]
        exact mfall_ahead rs r.1 r.2 t b h3 h
      · rw [if_neg c, if_neg c, mfall_before _ r.1 b v (inc_fil _ rs r.1 (inc_of rs _ _ h3)) (by omega), fall_before rs r.1 r.2 b v h3 (by omega)]
    · rw [List.filter_cons_of_neg (by rw [decide_eq_true_iff]; exact g), fall_cons, if_neg (by omega), fall_before rs r.1 r.2 b v h3 (by omega)]
      exact mfall_before _ r.1 b v (inc_fil _ rs r.1 (inc_of rs _ _ h3)) (by omega)
/-- what those ahead reach is no lower than what all up to it reach -/
theorem mfall_part : ∀ (rs : Rows) (p v t b : Int), okFrom p v rs → t ≤ b → fall rs t v ≤ mfall (rs.filter fun r => decide (r.1 < t)) b v
  | [], _, _, _, _, _, _ => Int.le_refl _
  | r :: rs, p, v, t, b, ⟨h1, h2, h3⟩, h => by
    rw [fall_cons]
    by_cases g : r.1 < t
    · rw [List.filter_cons_of_pos (by exact decide_eq_true g), mfall_cons, if_pos (by omega), if_pos (by omega), show min v r.2 = r.2 by omega]
      exact mfall_part rs r.1 r.2 t b h3 h
    · have none : rs.filter (fun r => decide (r.1 < t)) = [] := List.filter_eq_nil_iff.mpr fun x hx => by
        have := inc_mem rs (inc_of rs _ _ h3) x hx
        rw [decide_eq_true_iff]
        omega
      rw [List.filter_cons_of_neg (by rw [decide_eq_true_iff]; exact g), none]
      show fall rs t (if r.1 ≤ t then r.2 else v) ≤ v
      by_cases c : r.1 ≤ t
      · rw [if_pos c]
        have := fall_le rs r.1 r.2 t h3
        omega
      · rw [if_neg c, fall_before rs r.1 r.2 t v h3 (by omega)]
        exact Int.le_refl _
/-- one walk behind another -/
def foll (near : Rows) (l top : Int) (far : Rows) (fl : Int) : Rows := filt l (near.filter (fun r => decide (r.1 < top)) ++ [(top, min (fall near top l) (fall far top fl))] ++ far.filter (fun r => decide (top < r.1)))
theorem foll_inc {near far : Rows} {p q l fl top : Int} (h1 : okFrom p l near) (h2 : okFrom q fl far) (hp : p < top) : incP p (near.filter (fun r => decide (r.1 < top)) ++ [(top, min (fall near top l) (fall far top fl))] ++ far.filter (fun r => decide (top < r.1))) := by
  have i1 := inc_fil (fun r => decide (r.1 < top)) near p (inc_of near p l h1)
  have i2 : incP top (far.filter fun r => decide (top < r.1)) := by
    have := inc_fil (fun r => decide (top < r.1)) far q (inc_of far q fl h2)
    cases e : far.filter (fun r => decide (top < r.1)) with
    | nil => trivial
    | cons s ss =>
      rw [e] at this
      have hs : s ∈ far.filter (fun r => decide (top < r.1)) := by rw [e]; exact List.mem_cons_self
      exact ⟨of_decide_eq_true (List.mem_filter.mp hs).2, this.2⟩
  refine inc_app _ _ p top ?_ (by omega) (fun r hr => ?_) i2
  · refine inc_app _ _ p (top - 1) i1 (by omega) (fun r hr => ?_) ⟨by show top - 1 < top; omega, trivial⟩
    have := of_decide_eq_true (List.mem_filter.mp hr).2
    omega
  · rcases List.mem_append.mp hr with hr | hr
    · have := of_decide_eq_true (List.mem_filter.mp hr).2
      omega
    · rw [List.mem_singleton.mp hr]
      exact Int.le_refl _
theorem foll_ok {near far : Rows} {p q l fl top : Int} (h1 : okFrom p l near) (h2 : okFrom q fl far) (hp : p < top) : okFrom p l (foll near l top far fl) := filt_ok _ p l (foll_inc h1 h2 hp)
theorem foll_fall {near far : Rows} {p q l fl top b : Int} (h1 : okFrom p l near) (h2 : okFrom q fl far) (hp : p < top) : fall (foll near l top far fl) b l = if b < top then fall near b l else min (fall near top l) (fall far b fl) := by
  unfold foll
  rw [fall_filt _ p b l (foll_inc h1 h2 hp), mfall_app, mfall_app]
  by_cases c : b < top
  · rw [if_pos c, mfall_ahead near p l top b h1 c, mfall_cons, if_neg (by show ¬ top ≤ b; omega)]
    have i2 : incP top (far.filter fun r => decide (top < r.1)) := by
      have := inc_fil (fun r => decide (top < r.1)) far q (inc_of far q fl h2)
      cases e : far.filter (fun r => decide (top < r.1)) with
      | nil => trivial
      | cons s ss =>
        rw [e] at this
        have hs : s ∈ far.filter (fun r => decide (top < r.1)) := by rw [e]; exact List.mem_cons_self
        exact ⟨of_decide_eq_true (List.mem_filter.mp hs).2, this.2⟩
    exact mfall_before _ top b _ i2 (by omega)
  · rw [if_neg c, mfall_cons, if_pos (by show top ≤ b; omega)]
    have k1 := mfall_part near p l top b h1 (by omega)
    show mfall (far.filter fun r => decide (top < r.1)) b (min (mfall (near.filter fun r => decide (r.1 < top)) b l) (min (fall near top l) (fall far top fl))) = _
    rw [show min (mfall (near.filter fun r => decide (r.1 < top)) b l) (min (fall near top l) (fall far top fl)) = min (fall near top l) (fall far top fl) by omega, mfall_min, mfall_behind far q fl top b h2 (by omega)]
/-- rows that tell a reach from a level on -/
structure Can (rs : Rows) (l : Int) (f : Int → Int) : Prop where
  ok : okFrom (l - 1) l rs
  all : ∀ b, l ≤ b → fall rs b l = f b
theorem Can.one {r1 r2 : Rows} {l : Int} {f g : Int → Int} (h1 : Can r1 l f) (h2 : Can r2 l g) (h : ∀ b, l ≤ b → f b = g b) : r1 = r2 :=
  rows_one r1 r2 (l - 1) l h1.ok h2.ok fun b hb => by rw [h1.all b (by omega), h2.all b (by omega), h b (by omega)]
end K41
namespace K41
/-! ### walks backward, sums of profiles -/
/-- the walk backward -/
def rw (xs : List Int) : List Int := (xs.map Neg.neg).reverse
theorem rw_app (xs ys : List Int) : rw (xs ++ ys) = rw ys ++ rw xs := by
  unfold rw
  rw [List.map_append, List.reverse_append]
theorem rw_cons (x : Int) (xs : List Int) : rw (x :: xs) = rw xs ++ [-x] := by
  unfold rw
  rw [List.map_cons, List.reverse_cons]
theorem rw_sum : ∀ xs : List Int, (rw xs).sum = -xs.sum
  | [] => rfl
  | x :: xs => by
    rw [rw_cons, List.sum_append, rw_sum xs, List.sum_cons, List.sum_cons, List.sum_nil]
    omega
theorem sum_hi : ∀ xs : List Int, xs.sum ≤ hiW xs
  | [] => Int.le_refl _
  | x :: xs => by
    have := sum_hi xs
    have e : hiW (x :: xs) = max 0 (x + hiW xs) := rfl
    rw [List.sum_cons]
    omega
theorem rw_hi : ∀ xs : List Int, hiW (rw xs) = hiW xs - xs.sum
  | [] => rfl
  | x :: xs => by
    have h0 := hiW_nonneg xs
    have e : hiW (x :: xs) = max 0 (x + hiW xs) := rfl
    have e1 : hiW [-x] = max 0 (-x + 0) := rfl
    rw [rw_cons, hiW_append, rw_hi xs, rw_sum, e, e1, List.sum_cons]
    omega
def mov (rs : Rows) (c : Int) : Rows := rs.map fun r => (r.1 + c, r.2 + c)
theorem mov_ok : ∀ (rs : Rows) (p v c : Int), okFrom p v rs → okFrom (p + c) (v + c) (mov rs c)
  | [], _, _, _, _ => trivial
  | r :: rs, p, v, c, ⟨h1, h2, h3⟩ => ⟨by show p + c < r.1 + c; omega, by show r.2 + c < v + c; omega, mov_ok rs r.1 r.2 c h3⟩
theorem mov_fall : ∀ (rs : Rows) (b l c : Int), fall (mov rs c) b (l + c) = fall rs (b - c) l + c
  | [], _, _, _ => rfl
  | r :: rs, b, l, c => by
    show fall (mov rs c) b (if r.1 + c ≤ b then r.2 + c else l + c) = _
    rw [fall_cons]
    by_cases h : r.1 ≤ b - c
    · rw [if_pos h, if_pos (by omega)]
      exact mov_fall rs b r.2 c
    · rw [if_neg h, if_neg (by omega)]
      exact mov_fall rs b l c
/-- the profile of a walk -/
structure Prof (xs : List Int) (d u : Rows) (e h : Int) : Prop where
  dn : Can d 0 (dn xs)
  up : Can u xs.sum fun b => xs.sum + K41.dn (rw xs) (b - xs.sum)
  en : e = xs.sum
  hi : h = hiW xs
theorem Prof.one {xs ys : List Int} {d u d' u' : Rows} {e h e' h' : Int} (p : Prof xs d u e h) (q : Prof ys d' u' e' h') (s : xs.sum = ys.sum) (t : hiW xs = hiW ys) (f : ∀ b, 0 ≤ b → K41.dn xs b = K41.dn ys b) (g : ∀ b, 0 ≤ b → K41.dn (rw xs) b = K41.dn (rw ys) b) : d = d' ∧ u = u' ∧ e = e' ∧ h = h' := by
  refine ⟨p.dn.one q.dn f, ?_, by rw [p.en, q.en, s], by rw [p.hi, q.hi, t]⟩
  have qu := q.up
  rw [← s] at qu
  exact p.up.one qu fun b hb => by rw [g _ (by omega)]
theorem prof_nil : Prof [] [] [] 0 0 := ⟨⟨trivial, fun _ _ => rfl⟩, ⟨trivial, fun b _ => rfl⟩, rfl, rfl⟩
theorem prof_neg {s : Int} (h : s < 0) : Prof [s] [(0, s)] [] s 0 := by
  refine ⟨⟨⟨by show (0 : Int) - 1 < 0; decide, h, trivial⟩, fun b hb => ?_⟩, ⟨trivial, fun b hb => ?_⟩, by simp, ?_⟩
  · rw [fall_cons, if_pos (by show (0 : Int) ≤ b; exact hb), dn_cons, if_neg (by omega)]
    show s = min 0 (s + 0)
    omega
  · have e : [s].sum = s := by simp
    rw [e] at hb ⊢
    show s = s + dn [-s] (b - s)
    rw [dn_cons]
    show s = s + if b - s < -s then 0 else min 0 (-s + 0)
    split <;> omega
  · show (0 : Int) = max 0 (s + 0)
    omega
theorem prof_pos {s : Int} (h : 0 < s) : Prof [s] [] [(s, 0)] s s := by
  have e : [s].sum = s := by simp
  refine ⟨⟨trivial, fun b hb => ?_⟩, ⟨?_, fun b hb => ?_⟩, e.symm, ?_⟩
  · show (0 : Int) = dn [s] b
    rw [dn_cons]
    show (0 : Int) = if b < s then 0 else min 0 (s + 0)
    split <;> omega
  · rw [e]
    exact ⟨by show s - 1 < s; omega, h, trivial⟩
  · rw [e] at hb ⊢
    rw [fall_cons, if_pos hb]
    show (0 : Int) = s + dn [-s] (b - s)
    rw [dn_cons]
    show (0 : Int) = s + if b - s < -s then 0 else min 0 (-s + 0)
    rw [if_neg (by omega)]
    omega
  · show s = max 0 (s + 0)
    omega
/-- the sum of two profiles is that of both walks -/
theorem prof_sum {xs ys : List Int} {d1 u1 d2 u2 : Rows} {e1 h1 e2 h2 : Int} (p : Prof xs d1 u1 e1 h1) (q : Prof ys d2 u2 e2 h2) : Prof (xs ++ ys) (foll d1 0 h1 (mov d2 e1) e1) (foll (mov u2 e1) (e1 + e2) (e1 + h2) u1 e1) (e1 + e2) (max h1 (e1 + h2)) := by
  obtain ⟨⟨a1, b1⟩, ⟨a2, b2⟩, rfl, rfl⟩ := p
  obtain ⟨⟨c1, d1'⟩, ⟨c2, d2'⟩, rfl, rfl⟩ := q
  have n1 := hiW_nonneg xs
  have n2 := hiW_nonneg ys
  have s1 := sum_hi xs
  have s2 := sum_hi ys
  have m1 := mov_ok d2 (0 - 1) 0 xs.sum c1
  rw [Int.zero_add] at m1
  have m2 := mov_ok u2 (ys.sum - 1) ys.sum xs.sum c2
  have esum : (xs ++ ys).sum = xs.sum + ys.sum := List.sum_append
  refine ⟨⟨foll_ok a1 m1 (by omega), fun b hb => ?_⟩, ⟨?_, fun b hb => ?_⟩, esum.symm, (hiW_append xs ys).symm⟩
  · rw [foll_fall a1 m1 (by omega), dn_append xs ys b hb]
    by_cases c : b < hiW xs
    · rw [if_pos c, if_neg (by omega), b1 b hb]
    · have mf := mov_fall d2 b 0 xs.sum
      rw [Int.zero_add] at mf
      rw [if_neg c, if_pos (by omega), b1 _ n1, mf, d1' (b - xs.sum) (by omega), dn_high xs (hiW xs) (Int.le_refl _), dn_high xs b (by omega), Int.add_comm (dn ys (b - xs.sum))]
  · rw [esum, show xs.sum + ys.sum - 1 = ys.sum - 1 + xs.sum by omega, show xs.sum + ys.sum = ys.sum + xs.sum by omega]
    exact foll_ok m2 a2 (by omega)
  · rw [esum] at hb ⊢
    have mz : okFrom (ys.sum - 1 + xs.sum) (xs.sum + ys.sum) (mov u2 xs.sum) := by rw [Int.add_comm xs.sum]; exact m2
    have mf : ∀ z, fall (mov u2 xs.sum) z (xs.sum + ys.sum) = fall u2 (z - xs.sum) ys.sum + xs.sum := fun z => by rw [Int.add_comm xs.sum]; exact mov_fall u2 z ys.sum xs.sum
    have da := dn_append (rw ys) (rw xs) (b - (xs.sum + ys.sum)) (by omega)
    rw [foll_fall mz a2 (by omega), rw_app, da, rw_hi, rw_sum, mf, mf, d2' _ (by omega)]
    by_cases c : b < xs.sum + hiW ys
    · rw [if_pos c, if_neg (by omega), show b - xs.sum - ys.sum = b - (xs.sum + ys.sum) by omega]
      omega
    · rw [if_neg c, if_pos (by omega), d2' (xs.sum + hiW ys - xs.sum) (by omega), b2 b (by omega), show b - (xs.sum + ys.sum) - -ys.sum = b - xs.sum by omega, dn_high (rw ys) (xs.sum + hiW ys - xs.sum - ys.sum) (by rw [rw_hi]; omega), dn_high (rw ys) (b - (xs.sum + ys.sum)) (by rw [rw_hi]; omega)]
      omega
/-! ### rows found by looking at all headrooms -/
/-- the lowest of some heights until one is above the cap -/
def lf : Int → List Int → Int → Int
  | low, [], _ => low
  | low, x :: xs, cap => if cap < x then low else lf (min low x) xs cap
theorem lf_heights : ∀ (xs : List Int) (c low cap : Int), c ≤ cap → lf low (heights c xs) cap = min low (c + dn xs (cap - c))
  | [], c, low, cap, h => by
    show (if cap < c then low else min low c) = min low (c + 0)
    rw [if_neg (by omega)]
    omega
  | x :: xs, c, low, cap, h => by
    show (if cap < c then low else lf (min low c) (heights (c + x) xs) cap) = _
    rw [if_neg (by omega), dn_cons]
    by_cases g : cap - c < x
    · rw [if_pos g]
      have : lf (min low c) (heights (c + x) xs) cap = min low c := by
        cases xs with
        | nil => show (if cap < c + x then min low c else _) = _; rw [if_pos (by omega)]
        | cons y ys => show (if cap < c + x then min low c else _) = _; rw [if_pos (by omega)]
      rw [this]
      omega
    · rw [if_neg g, lf_heights xs (c + x) (min low c) cap (by omega), show cap - (c + x) = cap - c - x by omega]
      omega
/-- rows at rising caps -/
def rowsAt (F : Int → Int) : List Int → Int → Rows
  | [], _ => []
  | c :: cs, l => if F c < l then (c, F c) :: rowsAt F cs (F c) else rowsAt F cs l
theorem rowsAt_ok (F : Int → Int) : ∀ (cs : List Int) (p l : Int), cs.Pairwise (· ≤ ·) → (∀ c ∈ cs, p < c ∨ (c = p ∧ l ≤ F c)) → okFrom p l (rowsAt F cs l)
  | [], _, _, _, _ => trivial
  | c :: cs, p, l, h1, h2 => by
    obtain ⟨q1, q2⟩ := List.pairwise_cons.mp h1
    have hc := h2 c List.mem_cons_self
    unfold rowsAt
    by_cases g : F c < l
    · rw [if_pos g]
      refine ⟨by show p < c; omega, g, rowsAt_ok F cs c (F c) q2 fun z hz => ?_⟩
      have := q1 z hz
      by_cases e : z = c
      · rw [e]; exact .inr ⟨rfl, Int.le_refl _⟩
      · exact .inl (by omega)
    · rw [if_neg g]
      exact rowsAt_ok F cs p l q2 fun z hz => h2 z (List.mem_cons_of_mem _ hz)
theorem rowsAt_fall (F : Int → Int) : ∀ (cs : List Int) (b l : Int), cs.Pairwise (· ≤ ·) → (fall (rowsAt F cs l) b l ≤ l ∧ ∀ c ∈ cs, c ≤ b → fall (rowsAt F cs l) b l ≤ F c) ∧ (fall (rowsAt F cs l) b l = l ∨ ∃ c ∈ cs, c ≤ b ∧ fall (rowsAt F cs l) b l = F c)
  | [], b, l, _ => ⟨⟨Int.le_refl _, fun _ h => nomatch h⟩, .inl rfl⟩
  | c :: cs, b, l, h1 => by
    obtain ⟨q1, q2⟩ := List.pairwise_cons.mp h1
    by_cases g : F c < l
    · have e : rowsAt F (c :: cs) l = (c, F c) :: rowsAt F cs (F c) := by rw [rowsAt, if_pos g]
      rw [e, fall_cons]
      by_cases k : c ≤ b
      · rw [if_pos k]
        obtain ⟨⟨i1, i2⟩, i3⟩ := rowsAt_fall F cs b (F c) q2
        show (fall (rowsAt F cs (F c)) b (F c) ≤ l ∧ _) ∧ _
        refine ⟨⟨by omega, fun z hz hzb => ?_⟩, ?_⟩
        · rcases List.mem_cons.mp hz with rfl | hz
          · exact i1
          · exact i2 z hz hzb
        · rcases i3 with i3 | ⟨z, z1, z2, z3⟩
          · exact .inr ⟨c, List.mem_cons_self, k, i3⟩
          · exact .inr ⟨z, List.mem_cons_of_mem _ z1, z2, z3⟩
      · rw [if_neg k]
        have ok := rowsAt_ok F cs c (F c) q2 fun z hz => by
          have := q1 z hz
          by_cases e : z = c
          · rw [e]; exact .inr ⟨rfl, Int.le_refl _⟩
          · exact .inl (by omega)
        rw [fall_before _ c (F c) b l ok (by omega)]
        refine ⟨⟨Int.le_refl _, fun z hz hzb => ?_⟩, .inl rfl⟩
        rcases List.mem_cons.mp hz with rfl | hz
        · omega
        · have := q1 z hz
          omega
    · have e : rowsAt F (c :: cs) l = rowsAt F cs l := by rw [rowsAt, if_neg g]
      rw [e]
      obtain ⟨⟨i1, i2⟩, i3⟩ := rowsAt_fall F cs b l q2
      refine ⟨⟨i1, fun z hz hzb => ?_⟩, ?_⟩
      · rcases List.mem_cons.mp hz with rfl | hz
        · omega
        · exact i2 z hz hzb
      · rcases i3 with i3 | ⟨z, z1, z2, z3⟩
        · exact .inl i3
        · exact .inr ⟨z, List.mem_cons_of_mem _ z1, z2, z3⟩
/-- all headrooms that matter: the rows tell the reach -/
theorem rowsAt_can {F : Int → Int} {cs : List Int} {l : Int} (h1 : cs.Pairwise (· ≤ ·)) (h2 : ∀ c ∈ cs, l ≤ c) (mono : ∀ a b, l ≤ a → a ≤ b → F b ≤ F a) (top : ∀ a, l ≤ a → F a ≤ l) (cap : ∀ b, l ≤ b → ∃ c ∈ cs, c ≤ b ∧ F c = F b) : Can (rowsAt F cs l) l F := by
  refine ⟨rowsAt_ok F cs (l - 1) l h1 fun c hc => .inl (by have := h2 c hc; omega), fun b hb => ?_⟩
  obtain ⟨⟨i1, i2⟩, i3⟩ := rowsAt_fall F cs b l h1
  obtain ⟨c, c1, c2, c3⟩ := cap b hb
  have k1 := i2 c c1 c2
  have k2 := top b hb
  rcases i3 with i3 | ⟨z, z1, z2, z3⟩
  · omega
  · have := mono z b (h2 z z1) z2
    omega
theorem dn_mono : ∀ (xs : List Int) (a b : Int), a ≤ b → dn xs b ≤ dn xs a
  | [], _, _, _ => Int.le_refl _
  | x :: xs, a, b, h => by
    have k := dn_mono xs (a - x) (b - x) (by omega)
    have k2 := dn_le xs (b - x)
    rw [dn_cons, dn_cons]
    by_cases c : b < x
    · rw [if_pos c, if_pos (by omega)]
      exact Int.le_refl _
    · rw [if_neg c]
      split <;> omega
/-- only the heights matter -/
theorem dn_at : ∀ (xs : List Int) (c a b : Int), (∀ h ∈ heights c xs, a < h ↔ b < h) → dn xs (a - c) = dn xs (b - c)
  | [], _, _, _, _ => rfl
  | x :: xs, c, a, b, h => by
    have f : heights c (x :: xs) = c :: heights (c + x) xs := rfl
    rw [f] at h
    have hx : c + x ∈ heights (c + x) xs := by cases xs <;> exact List.mem_cons_self
    have h1 := h _ (List.mem_cons_of_mem _ hx)
    have k := dn_at xs (c + x) a b fun z hz => h z (List.mem_cons_of_mem _ hz)
    rw [show a - (c + x) = a - c - x by omega, show b - (c + x) = b - c - x by omega] at k
    rw [dn_cons, dn_cons, k]
    by_cases g : a < c + x
    · rw [if_pos (by omega), if_pos (by omega)]
    · rw [if_neg (by omega), if_neg (by omega)]
/-- the greatest of some that is no greater than b -/
theorem best_below (b : Int) : ∀ (hs : List Int), (∃ c ∈ hs, c ≤ b) → ∃ c ∈ hs, c ≤ b ∧ ∀ z ∈ hs, z ≤ b → z ≤ c
  | [], ⟨_, h, _⟩ => nomatch h
  | x :: xs, h => by
    by_cases g : ∃ c ∈ xs, c ≤ b
    · obtain ⟨c, c1, c2, c3⟩ := best_below b xs g
      by_cases k : x ≤ b ∧ c < x
      · exact ⟨x, List.mem_cons_self, k.1, fun z hz hzb => by
          rcases List.mem_cons.mp hz with rfl | hz
          · exact Int.le_refl _
          · have := c3 z hz hzb
            omega⟩
      · exact ⟨c, List.mem_cons_of_mem _ c1, c2, fun z hz hzb => by
          rcases List.mem_cons.mp hz with rfl | hz
          · omega
          · exact c3 z hz hzb⟩
    · obtain ⟨c, c1, c2⟩ := h
      rcases List.mem_cons.mp c1 with rfl | c1
      · exact ⟨c, List.mem_cons_self, c2, fun z hz hzb => by
          rcases List.mem_cons.mp hz with rfl | hz
          · exact Int.le_refl _
          · exact absurd ⟨z, hz, hzb⟩ g⟩
      · exact absurd ⟨c, c1, c2⟩ g
/-- the rows at a walk's heights -/
theorem falls_can {xs : List Int} {l : Int} {cs : List Int} (h1 : cs.Pairwise (· ≤ ·)) (h2 : ∀ c, c ∈ cs ↔ c ∈ heights l xs ∧ l ≤ c) : Can (rowsAt (fun b => l + dn xs (b - l)) cs l) l fun b => l + dn xs (b - l) := by
  have hl : l ∈ heights l xs := by cases xs <;> exact List.mem_cons_self
  refine rowsAt_can h1 (fun c hc => ((h2 c).mp hc).2) (fun a b _ h => ?_) (fun a h => ?_) fun b hb => ?_
  · have := dn_mono xs (a - l) (b - l) (by omega)
    show l + dn xs (b - l) ≤ l + dn xs (a - l)
    omega
  · have := dn_le xs (a - l)
    show l + dn xs (a - l) ≤ l
    omega
  · obtain ⟨c, c1, c2, c3⟩ := best_below b (heights l xs) ⟨l, hl, hb⟩
    have hlc := c3 l hl hb
    refine ⟨c, (h2 c).mpr ⟨c1, hlc⟩, c2, ?_⟩
    show l + dn xs (c - l) = l + dn xs (b - l)
    rw [dn_at xs l c b fun z hz => ⟨fun h => ?_, fun h => by omega⟩]
    by_cases g : b < z
    · exact g
    · have := c3 z hz (by omega)
      omega
/-- heights seen from the end -/
theorem heights_rw : ∀ (xs : List Int) (c : Int), (heights c xs).reverse = heights (c + xs.sum) (rw xs)
  | [], c => by simp [heights, rw]
  | x :: xs, c => by
    have app : ∀ (ys : List Int) (b z : Int), heights b (ys ++ [z]) = heights b ys ++ [b + ys.sum + z] := by
      intro ys
      induction ys with
      | nil => intro b z; simp [heights]
      | cons y ys ih =>
        intro b z
        show b :: heights (b + y) (ys ++ [z]) = (b :: heights (b + y) ys) ++ _
        rw [ih, List.cons_append, List.sum_cons, ← Int.add_assoc b]
    show (c :: heights (c + x) xs).reverse = _
    rw [List.reverse_cons, heights_rw xs (c + x), rw_cons, app, rw_sum, List.sum_cons, show c + x + xs.sum = c + (x + xs.sum) by omega]
    congr 2
    omega
end K41
namespace K41
/-! ### how many rows, how great; walks again and again -/
theorem dn_ge : ∀ (xs : List Int) (b : Int), loW xs ≤ dn xs b
  | [], _ => Int.le_refl _
  | x :: xs, b => by
    have e : loW (x :: xs) = min 0 (x + loW xs) := rfl
    have := dn_ge xs (b - x)
    rw [dn_cons]
    split <;> omega
/-- a row of such rows: it is told there, and not ahead -/
theorem fall_at : ∀ (rs : Rows) (p v : Int), okFrom p v rs → ∀ r ∈ rs, p < r.1 ∧ fall rs r.1 v = r.2 ∧ r.2 < fall rs (r.1 - 1) v
  | r :: rs, p, v, ⟨h1, h2, h3⟩, s, hs => by
    rcases List.mem_cons.mp hs with rfl | hs
    · refine ⟨h1, ?_, ?_⟩
      · rw [fall_cons, if_pos (Int.le_refl _)]
        exact fall_before rs s.1 s.2 s.1 s.2 h3 (Int.le_refl _)
      · rw [fall_cons, if_neg (by omega), fall_before rs s.1 s.2 (s.1 - 1) v h3 (by omega)]
        exact h2
    · obtain ⟨a, b, c⟩ := fall_at rs r.1 r.2 h3 s hs
      refine ⟨by omega, ?_, ?_⟩
      · rw [fall_cons, if_pos (by omega)]
        exact b
      · rw [fall_cons, if_pos (by omega)]
        exact c
/-- rows of a walk stand between its bounds -/
theorem can_bounds {rs : Rows} {l : Int} {xs : List Int} (h : Can rs l fun b => l + dn xs (b - l)) : ∀ r ∈ rs, l ≤ r.1 ∧ r.1 ≤ l + hiW xs ∧ l + loW xs ≤ r.2 ∧ r.2 < l := by
  intro r hr
  obtain ⟨a, b, c⟩ := fall_at rs (l - 1) l h.ok r hr
  have hl : l ≤ r.1 := by omega
  rw [h.all r.1 hl] at b
  have g := dn_ge xs (r.1 - l)
  have g2 := dn_le xs (r.1 - l)
  have h0 := hiW_nonneg xs
  refine ⟨hl, ?_, by omega, ?_⟩
  · by_cases q : r.1 ≤ l + hiW xs
    · exact q
    · rw [h.all (r.1 - 1) (by omega), dn_high xs (r.1 - 1 - l) (by omega), ← b, dn_high xs (r.1 - l) (by omega)] at c
      omega
  · by_cases q : l ≤ r.1 - 1
    · rw [h.all (r.1 - 1) q] at c
      have := dn_le xs (r.1 - 1 - l)
      omega
    · rw [fall_before rs (l - 1) l (r.1 - 1) l h.ok (by omega)] at c
      exact c
theorem dn_can {rs : Rows} {xs : List Int} (h : Can rs 0 (dn xs)) : Can rs 0 fun b => 0 + dn xs (b - 0) := ⟨h.ok, fun b hb => by rw [h.all b hb, Int.zero_add, Int.sub_zero]⟩
theorem Prof.bounds {xs : List Int} {d u : Rows} {e h : Int} (p : Prof xs d u e h) : (∀ r ∈ d, 0 ≤ r.1 ∧ r.1 ≤ h ∧ loW xs ≤ r.2 ∧ r.2 < 0) ∧ ∀ r ∈ u, e ≤ r.1 ∧ r.1 ≤ h ∧ e + loW (rw xs) ≤ r.2 ∧ r.2 < e := by
  have a := can_bounds (dn_can p.dn)
  have b := can_bounds p.up
  have hh := rw_hi xs
  rw [p.en, p.hi]
  exact ⟨fun r hr => by have := a r hr; omega, fun r hr => by have := b r hr; omega⟩
/-- the last row's valley -/
def lastV (rs : Rows) (l : Int) : Int := match rs.getLast? with
  | some r => r.2
  | none => l
def lastP (rs : Rows) (l : Int) : Int := match rs.getLast? with
  | some r => r.1
  | none => l
theorem fall_last : ∀ (rs : Rows) (p v b : Int), okFrom p v rs → (∀ r ∈ rs, r.1 ≤ b) → fall rs b v = lastV rs v
  | [], _, _, _, _, _ => rfl
  | [r], _, _, b, _, h => by
    rw [fall_cons, if_pos (h r List.mem_cons_self)]
    rfl
  | r :: s :: rs, p, v, b, ⟨_, _, h3⟩, h => by
    rw [fall_cons, if_pos (h r List.mem_cons_self), fall_last (s :: rs) r.1 r.2 b h3 fun z hz => h z (List.mem_cons_of_mem _ hz)]
    unfold lastV
    rw [List.getLast?_cons_cons]
    cases e : (s :: rs).getLast? with
    | none => simp at e
    | some z => rfl
theorem rw_lo : ∀ xs : List Int, loW (rw xs) = loW xs - xs.sum
  | [] => rfl
  | x :: xs => by
    have h := loW_nonpos xs
    have h1 : loW (x :: xs) = min 0 (x + loW xs) := rfl
    have h2 : loW [-x] = min 0 (-x + 0) := rfl
    have s := rw_sum xs
    rw [rw_cons, loW_append, rw_lo xs, s, h1, h2, List.sum_cons]
    omega
theorem Prof.last {xs : List Int} {d u : Rows} {e h : Int} (p : Prof xs d u e h) : lastV d 0 = loW xs ∧ lastV u e = loW xs := by
  have b := p.bounds
  have hh := rw_hi xs
  have hl := rw_lo xs
  have h0 := hiW_nonneg xs
  have hs := sum_hi xs
  have ph := p.hi
  have pe := p.en
  constructor
  · rw [← fall_last d (0 - 1) 0 h p.dn.ok fun r hr => (b.1 r hr).2.1, p.dn.all h (by omega), dn_high xs h (by omega)]
  · subst pe
    rw [← fall_last u (xs.sum - 1) xs.sum h p.up.ok fun r hr => (b.2 r hr).2.1, p.up.all h (by omega), dn_high (rw xs) _ (by omega), hl]
    omega
theorem lastP_le {rs : Rows} {l h : Int} (hl : l ≤ h) (b : ∀ r ∈ rs, r.1 ≤ h) : lastP rs l ≤ h := by
  unfold lastP
  cases e : rs.getLast? with
  | none => exact hl
  | some r => exact b r (List.mem_of_getLast? e)
theorem filt_len : ∀ (rs : Rows) (l : Int), (filt l rs).length ≤ rs.length
  | [], _ => Nat.le_refl _
  | r :: rs, l => by
    unfold filt
    split
    · have := filt_len rs r.2
      rw [List.length_cons, List.length_cons]
      omega
    · have := filt_len rs l
      rw [List.length_cons]
      omega
theorem foll_len (near far : Rows) (l top fl : Int) : (foll near l top far fl).length ≤ near.length + 1 + far.length := by
  unfold foll
  refine Nat.le_trans (filt_len _ _) ?_
  rw [List.length_append, List.length_append, List.length_singleton]
  have a := List.length_filter_le (fun r : Int × Int => decide (r.1 < top)) near
  have b := List.length_filter_le (fun r : Int × Int => decide (top < r.1)) far
  omega
theorem mov_len (rs : Rows) (c : Int) : (mov rs c).length = rs.length := by
  unfold mov
  rw [List.length_map]
/-- the reach of a walk made again and again -/
theorem dn_rep (xs : List Int) (m : Nat) {b : Int} (hb : 0 ≤ b) : dn (rep (m + 1) xs) b = if b < hiW xs then dn xs b else loW (rep (m + 1) xs) := by
  rw [rep_succ, dn_append _ _ _ hb]
  by_cases c : b < hiW xs
  · rw [if_neg (by omega), if_pos c]
  · rw [if_pos (by omega), if_neg c, dn_high xs b (by omega), loW_append]
    have lo := loW_rep xs m
    rw [rep_succ, loW_append] at lo
    by_cases s : 0 ≤ xs.sum
    · have p : 0 ≤ (m : Int) * xs.sum := Int.mul_nonneg (by omega) s
      have g := dn_ge (rep m xs) (b - xs.sum)
      omega
    · cases m with
      | zero => rfl
      | succ k =>
        have hk := hiW_rep xs k
        have p : (k : Int) * xs.sum ≤ 0 := Int.mul_nonpos_of_nonneg_of_nonpos (by omega) (by omega)
        rw [dn_high (rep (k + 1) xs) (b - xs.sum) (by omega)]
theorem can_rep {xs : List Int} {d0 d : Rows} {m : Nat} (h0 : Can d0 0 (dn xs)) (h : Can d 0 (dn (rep (m + 1) xs))) : d.length ≤ d0.length + 1 := by
  have hp : (0 : Int) - 1 < hiW xs := by
    have := hiW_nonneg xs
    omega
  have hn := hiW_nonneg xs
  have lo := loW_rep xs m
  have c : Can (foll d0 0 (hiW xs) [] (loW (rep (m + 1) xs))) 0 (dn (rep (m + 1) xs)) := by
    refine ⟨foll_ok (q := 0) h0.ok (show okFrom 0 (loW (rep (m + 1) xs)) [] from trivial) hp, fun b hb => ?_⟩
    rw [foll_fall (q := 0) h0.ok (show okFrom 0 (loW (rep (m + 1) xs)) [] from trivial) hp, dn_rep xs m hb]
    by_cases q : b < hiW xs
    · rw [if_pos q, if_pos q, h0.all b hb]
    · rw [if_neg q, if_neg q, h0.all _ hn, dn_high xs _ (Int.le_refl _)]
      show min (loW xs) (loW (rep (m + 1) xs)) = _
      omega
  have e := h.one c fun b _ => rfl
  have l := foll_len d0 [] 0 (hiW xs) (loW (rep (m + 1) xs))
  rw [e]
  simpa using l
theorem rw_rep (xs : List Int) : ∀ r : Nat, rw (rep r xs) = rep r (rw xs)
  | 0 => rfl
  | r + 1 => by
    have h : rep (r + 1) (rw xs) = rep r (rw xs) ++ rw xs := by rw [rep_add, rep_one]
    rw [rep_succ, rw_app, rw_rep xs r, h]
theorem can_mov {rs : Rows} {l : Int} {xs : List Int} (c : Int) (h : Can rs l fun b => l + dn xs (b - l)) : Can (mov rs c) (l + c) fun b => l + c + dn xs (b - (l + c)) := by
  refine ⟨?_, fun b hb => ?_⟩
  · have := mov_ok rs (l - 1) l c h.ok
    rwa [show l - 1 + c = l + c - 1 by omega] at this
  · rw [mov_fall, h.all (b - c) (by omega), show b - c - l = b - (l + c) by omega]
    omega
theorem prof_rep_len {xs : List Int} {d u d0 u0 : Rows} {e h e0 h0 : Int} {n : Nat} (p : Prof (rep n xs) d u e h) (q : Prof xs d0 u0 e0 h0) : d.length ≤ d0.length + 1 ∧ u.length ≤ u0.length + 1 := by
  cases n with
  | zero =>
    rw [rep_zero] at p
    obtain ⟨a, b, _, _⟩ := p.one prof_nil rfl rfl (fun _ _ => rfl) fun _ _ => rfl
    rw [a, b]
    exact ⟨Nat.zero_le _, Nat.zero_le _⟩
  | succ m =>
    refine ⟨can_rep q.dn p.dn, ?_⟩
    have a : Can (mov u0 (-xs.sum)) 0 (dn (rw xs)) := by
      have := can_mov (-xs.sum) q.up
      rw [show xs.sum + -xs.sum = 0 by omega] at this
      exact ⟨this.ok, fun b hb => by rw [this.all b hb, Int.zero_add, Int.sub_zero]⟩
    have b : Can (mov u (-(rep (m + 1) xs).sum)) 0 (dn (rep (m + 1) (rw xs))) := by
      have := can_mov (-(rep (m + 1) xs).sum) p.up
      rw [show (rep (m + 1) xs).sum + -(rep (m + 1) xs).sum = 0 by omega, rw_rep] at this
      exact ⟨this.ok, fun b hb => by rw [this.all b hb, Int.zero_add, Int.sub_zero]⟩
    have := can_rep a b
    rwa [mov_len, mov_len] at this
theorem Prof.uniq {xs : List Int} {d u d' u' : Rows} {e h e' h' : Int} (p : Prof xs d u e h) (q : Prof xs d' u' e' h') : d = d' ∧ u = u' ∧ e = e' ∧ h = h' := p.one q rfl rfl (fun _ _ => rfl) fun _ _ => rfl
end K41
namespace K41
theorem heights_max : ∀ (xs : List Int) (c : Int), (∀ y ∈ heights c xs, y ≤ c + hiW xs) ∧ c + hiW xs ∈ heights c xs
  | [], c => by
    have e : hiW [] = 0 := rfl
    rw [e]
    refine ⟨fun y hy => ?_, ?_⟩
    · have := List.mem_singleton.mp (show y ∈ [c] from hy)
      omega
    · show c + 0 ∈ [c]
      rw [Int.add_zero]
      exact List.mem_singleton.mpr rfl
  | x :: xs, c => by
    have e : hiW (x :: xs) = max 0 (x + hiW xs) := rfl
    have h0 := hiW_nonneg xs
    obtain ⟨h1, h2⟩ := heights_max xs (c + x)
    refine ⟨fun y hy => ?_, ?_⟩
    · rcases List.mem_cons.mp (show y ∈ c :: heights (c + x) xs from hy) with rfl | hy
      · omega
      · have := h1 y hy
        omega
    · show c + hiW (x :: xs) ∈ c :: heights (c + x) xs
      by_cases q : 0 ≤ x + hiW xs
      · rw [e, show max 0 (x + hiW xs) = x + hiW xs by omega, ← Int.add_assoc]
        exact List.mem_cons_of_mem _ h2
      · rw [e, show max 0 (x + hiW xs) = 0 by omega, Int.add_zero]
        exact List.mem_cons_self
theorem prof_zero' : Prof [0] [] [] 0 0 := by
  refine ⟨⟨trivial, fun b hb => ?_⟩, ⟨trivial, fun b hb => ?_⟩, rfl, rfl⟩
  · rw [dn_cons, if_neg (by omega)]
    show (0 : Int) = min 0 (0 + 0)
    rfl
  · have e : [(0 : Int)].sum = 0 := rfl
    rw [e] at hb ⊢
    show (0 : Int) = 0 + dn [-0] (b - 0)
    rw [dn_cons, if_neg (by omega)]
    show (0 : Int) = 0 + min 0 (-0 + 0)
    rfl
/-- each walk has a profile, with not too many rows -/
theorem prof_ex : ∀ xs : List Int, ∃ d u e h, Prof xs d u e h ∧ d.length ≤ 2 * xs.length ∧ u.length ≤ 2 * xs.length
  | [] => ⟨[], [], 0, 0, prof_nil, Nat.le_refl _, Nat.le_refl _⟩
  | x :: xs => by
    obtain ⟨d, u, e, h, p, n1, n2⟩ := prof_ex xs
    have one : ∃ d1 u1 e1 h1, Prof [x] d1 u1 e1 h1 ∧ d1.length ≤ 1 ∧ u1.length ≤ 1 := by
      rcases Int.lt_trichotomy x 0 with g | g | g
      · exact ⟨_, _, _, _, prof_neg g, Nat.le_refl _, Nat.zero_le _⟩
      · subst g
        exact ⟨_, _, _, _, prof_zero', Nat.zero_le _, Nat.zero_le _⟩
      · exact ⟨_, _, _, _, prof_pos g, Nat.zero_le _, Nat.le_refl _⟩
    obtain ⟨d1, u1, e1, h1, q, m1, m2⟩ := one
    have s := prof_sum q p
    have l1 := foll_len d1 (mov d e1) 0 h1 e1
    have l2 := foll_len (mov u e1) u1 (e1 + e) (e1 + h) e1
    rw [mov_len] at l1 l2
    rw [List.singleton_append] at s
    exact ⟨_, _, _, _, s, by rw [List.length_cons]; omega, by rw [List.length_cons]; omega⟩
theorem hi_le (M : Nat) : ∀ xs : List Int, (∀ x ∈ xs, x.natAbs ≤ M) → hiW xs ≤ xs.length * M ∧ -(xs.length * M : Int) ≤ loW xs ∧ xs.sum ≤ xs.length * M ∧ -(xs.length * M : Int) ≤ xs.sum
  | [], _ => by
    have e1 : hiW [] = 0 := rfl
    have e2 : loW [] = 0 := rfl
    simp [e1, e2]
  | x :: xs, h => by
    have e1 : hiW (x :: xs) = max 0 (x + hiW xs) := rfl
    have e2 : loW (x :: xs) = min 0 (x + loW xs) := rfl
    have hx := h x List.mem_cons_self
    obtain ⟨a, b, c, d⟩ := hi_le M xs fun y hy => h y (List.mem_cons_of_mem _ hy)
    have n : (0 : Int) ≤ (xs.length : Int) * M := Int.mul_nonneg (by omega) (by omega)
    have e : (((x :: xs).length : Nat) : Int) * M = (xs.length : Int) * M + M := by
      rw [List.length_cons, Int.natCast_add, Int.add_mul, show ((1 : Nat) : Int) = 1 from rfl, Int.one_mul]
    rw [e, e1, e2, List.sum_cons]
    omega
/-- the rows of a short walk are moderate numbers -/
theorem Prof.small {xs : List Int} {d u : Rows} {e h : Int} {B : Nat} (p : Prof xs d u e h) (b1 : hiW xs ≤ B) (b2 : -(B : Int) ≤ loW xs) (b3 : xs.sum ≤ B) (b4 : -(B : Int) ≤ xs.sum) : e.natAbs ≤ 3 * B ∧ h.natAbs ≤ 3 * B ∧ (∀ r ∈ d, r.1.natAbs ≤ 3 * B ∧ r.2.natAbs ≤ 3 * B) ∧ ∀ r ∈ u, r.1.natAbs ≤ 3 * B ∧ r.2.natAbs ≤ 3 * B := by
  obtain ⟨q1, q2⟩ := p.bounds
  have h0 := hiW_nonneg xs
  have l0 := loW_nonpos xs
  have lo := rw_lo xs
  have pe := p.en
  have ph := p.hi
  exact ⟨by omega, by omega, fun r hr => by have := q1 r hr; omega, fun r hr => by have := q2 r hr; omega⟩
end K41
namespace K41
/-! ### walks that have the same profile -/
structure Eqv (xs ys : List Int) : Prop where
  su : xs.sum = ys.sum
  hi : hiW xs = hiW ys
  dn : ∀ b, 0 ≤ b → K41.dn xs b = K41.dn ys b
  up : ∀ b, 0 ≤ b → K41.dn (rw xs) b = K41.dn (rw ys) b
theorem Eqv.refl (xs : List Int) : Eqv xs xs := ⟨rfl, rfl, fun _ _ => rfl, fun _ _ => rfl⟩
theorem Eqv.symm {xs ys : List Int} (h : Eqv xs ys) : Eqv ys xs := ⟨h.su.symm, h.hi.symm, fun b hb => (h.dn b hb).symm, fun b hb => (h.up b hb).symm⟩
theorem Eqv.trans {xs ys zs : List Int} (h : Eqv xs ys) (g : Eqv ys zs) : Eqv xs zs := ⟨h.su.trans g.su, h.hi.trans g.hi, fun b hb => (h.dn b hb).trans (g.dn b hb), fun b hb => (h.up b hb).trans (g.up b hb)⟩
theorem Eqv.prof {xs ys : List Int} {d u d' u' : Rows} {e h e' h' : Int} (v : Eqv xs ys) (p : Prof xs d u e h) (q : Prof ys d' u' e' h') : d = d' ∧ u = u' ∧ e = e' ∧ h = h' := p.one q v.su v.hi v.dn v.up
/-- profiles tell whether walks are alike -/
theorem Eqv.of {xs ys : List Int} {d u : Rows} {e h : Int} (p : Prof xs d u e h) (q : Prof ys d u e h) : Eqv xs ys := by
  have s : xs.sum = ys.sum := p.en.symm.trans q.en
  refine ⟨s, p.hi.symm.trans q.hi, fun b hb => by rw [← p.dn.all b hb, ← q.dn.all b hb], fun b hb => ?_⟩
  have a := p.up.all (b + xs.sum) (by omega)
  have c := q.up.all (b + xs.sum) (by omega)
  rw [← s] at c
  rw [a] at c
  have c : xs.sum + K41.dn (rw xs) (b + xs.sum - xs.sum) = xs.sum + K41.dn (rw ys) (b + xs.sum - xs.sum) := c
  rw [show b + xs.sum - xs.sum = b by omega] at c
  omega
theorem Eqv.app {xs xs' ys ys' : List Int} (h : Eqv xs xs') (g : Eqv ys ys') : Eqv (xs ++ ys) (xs' ++ ys') := by
  obtain ⟨d1, u1, e1, h1, p1, _, _⟩ := prof_ex xs
  obtain ⟨d2, u2, e2, h2, p2, _, _⟩ := prof_ex ys
  obtain ⟨d3, u3, e3, h3, p3, _, _⟩ := prof_ex xs'
  obtain ⟨d4, u4, e4, h4, p4, _, _⟩ := prof_ex ys'
  obtain ⟨rfl, rfl, rfl, rfl⟩ := h.prof p1 p3
  obtain ⟨rfl, rfl, rfl, rfl⟩ := g.prof p2 p4
  exact Eqv.of (prof_sum p1 p2) (prof_sum p3 p4)
theorem Eqv.rep {xs ys : List Int} (h : Eqv xs ys) : ∀ r : Nat, Eqv (rep r xs) (rep r ys)
  | 0 => Eqv.refl _
  | r + 1 => by
    rw [rep_succ, rep_succ]
    exact h.app (h.rep r)
/-- many rounds as two, and one step between them -/
theorem dn_short (xs : List Int) (m : Nat) {b : Int} (hb : 0 ≤ b) : dn (rep (m + 2) xs) b = dn (xs ++ ((m : Int) * xs.sum :: xs)) b := by
  rw [dn_rep xs (m + 1) hb, dn_append _ _ _ hb, loW_rep]
  have h0 := hiW_nonneg xs
  have hs := sum_hi xs
  have l0 := loW_nonpos xs
  have em : ((m + 1 : Nat) : Int) * xs.sum = (m : Int) * xs.sum + xs.sum := by rw [Int.natCast_add, Int.add_mul, show ((1 : Nat) : Int) = 1 from rfl, Int.one_mul]
  rw [em]
  by_cases c : b < hiW xs
  · rw [if_pos c, if_neg (by omega)]
  · rw [if_neg c, if_pos (by omega), dn_high xs b (by omega), dn_cons]
    by_cases s : 0 ≤ xs.sum
    · have p : 0 ≤ (m : Int) * xs.sum := Int.mul_nonneg (by omega) s
      have g := dn_ge xs (b - xs.sum - (m : Int) * xs.sum)
      split <;> omega
    · have p : (m : Int) * xs.sum ≤ 0 := Int.mul_nonpos_of_nonneg_of_nonpos (by omega) (by omega)
      rw [if_neg (by omega), dn_high xs _ (by omega)]
      omega
theorem short (xs : List Int) (m : Nat) : Eqv (rep (m + 2) xs) (xs ++ ((m : Int) * xs.sum :: xs)) := by
  have h0 := hiW_nonneg xs
  have hs := sum_hi xs
  have em : ((m + 1 : Nat) : Int) * xs.sum = (m : Int) * xs.sum + xs.sum := by rw [Int.natCast_add, Int.add_mul, show ((1 : Nat) : Int) = 1 from rfl, Int.one_mul]
  refine ⟨?_, ?_, fun b hb => dn_short xs m hb, fun b hb => ?_⟩
  · rw [sum_rep, List.sum_append, List.sum_cons, Int.natCast_add, Int.add_mul]
    show (m : Int) * xs.sum + 2 * xs.sum = _
    omega
  · rw [hiW_rep, hiW_append, em]
    have e : hiW ((m : Int) * xs.sum :: xs) = max 0 ((m : Int) * xs.sum + hiW xs) := rfl
    rw [e]
    by_cases s : 0 ≤ xs.sum
    · have p : 0 ≤ (m : Int) * xs.sum := Int.mul_nonneg (by omega) s
      omega
    · have p : (m : Int) * xs.sum ≤ 0 := Int.mul_nonpos_of_nonneg_of_nonpos (by omega) (by omega)
      omega
  · rw [rw_rep, dn_short (rw xs) m hb, rw_sum]
    congr 1
    rw [rw_app, rw_cons, List.append_assoc, Int.mul_neg]
    rfl
end K41
namespace K41
/-- what the document calls no worse, told of walks -/
structure NW (xs ys : List Int) : Prop where
  su : xs.sum ≤ ys.sum
  hi : hiW xs ≤ hiW ys
  dn : ∀ b, 0 ≤ b → K41.dn xs b ≤ K41.dn ys b
  up : ∀ b, ys.sum ≤ b → xs.sum + K41.dn (rw xs) (b - xs.sum) ≤ ys.sum + K41.dn (rw ys) (b - ys.sum)
theorem NW.refl (xs : List Int) : NW xs xs := ⟨Int.le_refl _, Int.le_refl _, fun _ _ => Int.le_refl _, fun _ _ => Int.le_refl _⟩
theorem NW.trans {xs ys zs : List Int} (h : NW xs ys) (g : NW ys zs) : NW xs zs := ⟨Int.le_trans h.su g.su, Int.le_trans h.hi g.hi, fun b hb => Int.le_trans (h.dn b hb) (g.dn b hb), fun b hb => Int.le_trans (h.up b (Int.le_trans g.su hb)) (g.up b hb)⟩
theorem NW.eqv {xs ys : List Int} (h : NW xs ys) (g : NW ys xs) : Eqv xs ys := by
  have s := Int.le_antisymm h.su g.su
  refine ⟨s, Int.le_antisymm h.hi g.hi, fun b hb => Int.le_antisymm (h.dn b hb) (g.dn b hb), fun b hb => ?_⟩
  have a := h.up (b + ys.sum) (by omega)
  have c := g.up (b + xs.sum) (by omega)
  rw [s] at a c
  rw [show b + ys.sum - ys.sum = b by omega] at a c
  omega
theorem Eqv.nw {xs ys : List Int} (h : Eqv xs ys) : NW xs ys := ⟨Int.le_of_eq h.su, Int.le_of_eq h.hi, fun b hb => Int.le_of_eq (h.dn b hb), fun b hb => by
  rw [h.su, h.up _ (by omega)]
  exact Int.le_refl _⟩
/-- the test by rows -/
theorem fall_cases : ∀ (rs : Rows) (p v b : Int), okFrom p v rs → fall rs b v = v ∨ ∃ r ∈ rs, r.1 ≤ b ∧ fall rs b v = r.2
  | [], _, _, _, _ => .inl rfl
  | r :: rs, p, v, b, h => by
    rw [fall_cons]
    obtain ⟨h1, h2, h3⟩ := h
    by_cases hb : r.1 ≤ b
    · rw [if_pos hb]
      rcases fall_cases rs r.1 r.2 b h3 with e | ⟨q, hq, q1, q2⟩
      · exact .inr ⟨r, List.mem_cons_self, hb, e⟩
      · exact .inr ⟨q, List.mem_cons_of_mem _ hq, q1, q2⟩
    · rw [if_neg hb]
      exact .inl (fall_before rs r.1 r.2 b v h3 (Int.le_of_lt (Int.not_le.mp hb)))
theorem can_row {rs : Rows} {l : Int} {f : Int → Int} (h : Can rs l f) {r : Int × Int} (hr : r ∈ rs) : l ≤ r.1 ∧ f r.1 = r.2 := by
  obtain ⟨a, b, _⟩ := fall_at rs _ _ h.ok r hr
  exact ⟨by omega, by rw [← h.all r.1 (by omega)]; exact b⟩
/-- all rows of the other are passed -/
theorem can_le {rs ss : Rows} {l m : Int} {f g : Int → Int} (h : Can rs l f) (k : Can ss m g) (lm : l ≤ m) (mono : ∀ a b, l ≤ a → a ≤ b → f b ≤ f a) (top : ∀ a, l ≤ a → f a ≤ l) :
    (∀ r ∈ ss, fall rs r.1 l ≤ r.2) ↔ ∀ b, m ≤ b → f b ≤ g b := by
  constructor
  · intro q b hb
    rw [← k.all b hb]
    rcases fall_cases ss _ _ b k.ok with e | ⟨r, hr, r1, r2⟩
    · rw [e]
      exact Int.le_trans (top b (by omega)) lm
    · rw [r2]
      obtain ⟨a, _⟩ := can_row k hr
      have := q r hr
      rw [h.all r.1 (by omega)] at this
      exact Int.le_trans (mono r.1 b (by omega) r1) this
  · intro q r hr
    obtain ⟨a, e⟩ := can_row k hr
    rw [h.all r.1 (by omega), ← e]
    exact q r.1 a
theorem nw_rows {xs ys : List Int} {d u d' u' : Rows} {e h e' h' : Int} (p : Prof xs d u e h) (q : Prof ys d' u' e' h') : NW xs ys ↔ e ≤ e' ∧ h ≤ h' ∧ (∀ r ∈ d', fall d r.1 0 ≤ r.2) ∧ ∀ r ∈ u', fall u r.1 e ≤ r.2 := by
  obtain ⟨pd, pu, rfl, rfl⟩ := p
  obtain ⟨qd, qu, rfl, rfl⟩ := q
  have A := can_le pd qd (Int.le_refl 0) (fun a b _ h => dn_mono xs a b h) fun a _ => dn_le xs a
  have Bd : xs.sum ≤ ys.sum → ((∀ r ∈ u', fall u r.1 xs.sum ≤ r.2) ↔ ∀ b, ys.sum ≤ b → xs.sum + K41.dn (rw xs) (b - xs.sum) ≤ ys.sum + K41.dn (rw ys) (b - ys.sum)) := fun hs => can_le pu qu hs (fun a b _ h => by
    have := dn_mono (rw xs) (a - xs.sum) (b - xs.sum) (by omega)
    show xs.sum + K41.dn (rw xs) (b - xs.sum) ≤ xs.sum + K41.dn (rw xs) (a - xs.sum)
    omega) fun a _ => by
    have := dn_le (rw xs) (a - xs.sum)
    show xs.sum + K41.dn (rw xs) (a - xs.sum) ≤ xs.sum
    omega
  constructor
  · intro n
    exact ⟨n.su, n.hi, A.mpr n.dn, (Bd n.su).mpr n.up⟩
  · rintro ⟨a, b, c, d⟩
    exact ⟨a, b, A.mp c, (Bd a).mp d⟩
/-- what is no worse stays so with the same behind it -/
theorem NW.app {xs ys : List Int} (n : NW xs ys) (zs : List Int) : NW (xs ++ zs) (ys ++ zs) := by
  have s := n.su
  have hx := sum_hi xs
  have hy := sum_hi ys
  refine ⟨by rw [List.sum_append, List.sum_append]; omega, by rw [hiW_append, hiW_append]; have := n.hi; omega, fun b hb => ?_, fun b hb => ?_⟩
  · have d := n.dn b hb
    have h := n.hi
    rw [dn_append _ _ _ hb, dn_append _ _ _ hb]
    have k := dn_mono zs (b - ys.sum) (b - xs.sum) (by omega)
    split <;> split <;> omega
  · rw [List.sum_append] at hb
    rw [rw_app, rw_app, List.sum_append, List.sum_append]
    have hz := rw_hi zs
    have hs := sum_hi zs
    have hh := sum_hi (rw zs)
    rw [rw_sum] at hh
    rw [dn_append _ _ _ (by omega), dn_append _ _ _ (by omega), rw_sum]
    have k1 := dn_mono (rw zs) (b - (ys.sum + zs.sum)) (b - (xs.sum + zs.sum)) (by omega)
    rw [show b - (xs.sum + zs.sum) - -zs.sum = b - xs.sum by omega, show b - (ys.sum + zs.sum) - -zs.sum = b - ys.sum by omega]
    by_cases c : hiW (rw zs) ≤ b - (ys.sum + zs.sum)
    · have := n.up b (by omega)
      rw [if_pos c, if_pos (by omega)]
      omega
    · rw [if_neg c]
      split <;> omega
/-- .. ahead of it -/
theorem NW.pre {xs ys : List Int} (n : NW xs ys) (zs : List Int) : NW (zs ++ xs) (zs ++ ys) := by
  have s := n.su
  have hx := sum_hi xs
  have hy := sum_hi ys
  refine ⟨by rw [List.sum_append, List.sum_append]; omega, by rw [hiW_append, hiW_append]; have := n.hi; omega, fun b hb => ?_, fun b hb => ?_⟩
  · have hz := sum_hi zs
    rw [dn_append _ _ _ hb, dn_append _ _ _ hb]
    by_cases c : hiW zs ≤ b
    · have := n.dn (b - zs.sum) (by omega)
      rw [if_pos c, if_pos c]
      omega
    · rw [if_neg c, if_neg c]
      exact Int.le_refl _
  · rw [List.sum_append] at hb
    rw [rw_app, rw_app, List.sum_append, List.sum_append]
    have k1 := rw_hi xs
    have k2 := rw_hi ys
    have h := n.hi
    rw [dn_append _ _ _ (by omega), dn_append _ _ _ (by omega), rw_sum, rw_sum]
    rw [show b - (zs.sum + xs.sum) - -xs.sum = b - zs.sum by omega, show b - (zs.sum + ys.sum) - -ys.sum = b - zs.sum by omega]
    have g := n.up (b - zs.sum) (by omega)
    rw [show b - zs.sum - xs.sum = b - (zs.sum + xs.sum) by omega, show b - zs.sum - ys.sum = b - (zs.sum + ys.sum) by omega] at g
    by_cases c : hiW (rw ys) ≤ b - (zs.sum + ys.sum)
    · rw [if_pos c, if_pos (by omega)]
      omega
    · rw [if_neg c]
      split <;> omega
theorem rep_snoc (xs : List Int) (n : Nat) : rep (n + 1) xs = rep n xs ++ xs := by rw [rep_add, rep_one]
theorem rep_more (xs : List Int) (n : Nat) : rep (n + 1) xs = xs ++ rep n xs := by rw [rep_succ]
theorem dn_app_le (xs ys : List Int) {b : Int} (hb : 0 ≤ b) : dn (xs ++ ys) b ≤ dn xs b := by
  rw [dn_append _ _ _ hb]
  split <;> omega
theorem sum_rep' (xs : List Int) (n : Nat) : (rep n xs).sum = (n : Int) * xs.sum := sum_rep xs n
/-- one round more: no worse if the end is not above 0 -/
theorem more_nw {xs : List Int} {n : Nat} (h : xs.sum ≤ 0) : NW (rep (n + 1 + 1) xs) (rep (n + 1) xs) := by
  have e1 : rep (n + 1 + 1) xs = rep (n + 1) xs ++ xs := rep_snoc xs _
  have e2 : rep (n + 1 + 1) xs = xs ++ rep (n + 1) xs := rep_more xs _
  have e3 : rep (n + 1) xs = xs ++ rep n xs := rep_more xs _
  have s : (rep (n + 1 + 1) xs).sum = (rep (n + 1) xs).sum + xs.sum := by rw [e1, List.sum_append]
  have neg : (rep (n + 1) xs).sum ≤ 0 := by
    rw [sum_rep']
    exact Int.mul_nonpos_of_nonneg_of_nonpos (by omega) h
  refine ⟨by omega, ?_, fun b hb => ?_, fun b hb => ?_⟩
  · have a : hiW xs ≤ hiW (rep (n + 1) xs) := by rw [e3, hiW_append]; omega
    rw [e1, hiW_append]
    omega
  · rw [e1]
    exact dn_app_le _ _ hb
  · have hsum := s
    rw [s, e2, rw_app]
    have k1 := dn_app_le (rw (rep (n + 1) xs)) (rw xs) (b := b - ((rep (n + 1) xs).sum + xs.sum)) (by omega)
    have k2 := dn_mono (rw (rep (n + 1) xs)) (b - (rep (n + 1) xs).sum) (b - ((rep (n + 1) xs).sum + xs.sum)) (by omega)
    omega
theorem few_nw {xs : List Int} {n : Nat} (h : 0 ≤ xs.sum) : NW (rep (n + 1) xs) (rep (n + 1 + 1) xs) := by
  have e1 : rep (n + 1 + 1) xs = rep (n + 1) xs ++ xs := rep_snoc xs _
  have e2 : rep (n + 1 + 1) xs = xs ++ rep (n + 1) xs := rep_more xs _
  have e3 : rep (n + 1) xs = xs ++ rep n xs := rep_more xs _
  have s : (rep (n + 1 + 1) xs).sum = (rep (n + 1) xs).sum + xs.sum := by rw [e1, List.sum_append]
  have s3 : (rep (n + 1) xs).sum = xs.sum + (rep n xs).sum := by rw [e3, List.sum_append]
  have pos : 0 ≤ (rep (n + 1) xs).sum := by
    rw [sum_rep']
    exact Int.mul_nonneg (by omega) h
  refine ⟨by omega, ?_, fun b hb => ?_, fun b hb => ?_⟩
  · rw [e1, hiW_append]
    omega
  · have hh := sum_hi (rep (n + 1) xs)
    rw [e1, dn_append _ _ _ hb]
    have k1 : dn (rep (n + 1) xs) b ≤ dn xs b := by rw [e3]; exact dn_app_le _ _ hb
    have k2 := dn_mono xs (b - (rep (n + 1) xs).sum) b (by omega)
    split <;> omega
  · have rwf : rw (rep (n + 1) xs) = rw (rep n xs) ++ rw xs := by rw [e3, rw_app]
    have hb' := hb
    rw [s] at hb'
    rw [s, e2, rw_app]
    have k2 := dn_mono (rw (rep (n + 1) xs)) (b - ((rep (n + 1) xs).sum + xs.sum)) (b - (rep (n + 1) xs).sum) (by omega)
    rw [dn_append _ _ _ (by omega), rw_sum]
    rw [show b - ((rep (n + 1) xs).sum + xs.sum) - -(rep (n + 1) xs).sum = b - xs.sum by omega]
    split
    · rename_i c
      have k3 : (rep (n + 1) xs).sum + dn (rw (rep (n + 1) xs)) (b - (rep (n + 1) xs).sum) ≤ xs.sum + dn (rw xs) (b - xs.sum) := by
        have h1 : hiW (rw (rep n xs)) ≤ hiW (rw (rep (n + 1) xs)) := by rw [rwf, hiW_append]; omega
        have ex : dn (rw (rep (n + 1) xs)) (b - (rep (n + 1) xs).sum) ≤ -(rep n xs).sum + dn (rw xs) (b - xs.sum) := by
          rw [rwf, dn_append _ _ _ (by omega), rw_sum, if_pos (by omega)]
          rw [show b - (rep (n + 1) xs).sum - -(rep n xs).sum = b - xs.sum by omega]
          omega
        omega
      omega
    · omega
end K41
namespace K41
/-! ### no worse, asked at some levels alone -/
theorem nw_marks {xs ys ms : List Int} (hm : ∀ m, m ∈ ms ↔ m ∈ heights 0 xs ∨ m ∈ heights 0 ys ∨ m = 0) : NW xs ys ↔ xs.sum ≤ ys.sum ∧ hiW xs ≤ hiW ys ∧ ∀ t ∈ ms, (0 ≤ t → dn xs t ≤ dn ys t) ∧ (ys.sum ≤ t → xs.sum + K41.dn (rw xs) (t - xs.sum) ≤ ys.sum + K41.dn (rw ys) (t - ys.sum)) := by
  constructor
  · intro n
    exact ⟨n.su, n.hi, fun t _ => ⟨n.dn t, n.up t⟩⟩
  · rintro ⟨a, b, h⟩
    have mx : ∀ z ∈ heights 0 xs, z ∈ ms := fun z hz => (hm z).mpr (.inl hz)
    have my : ∀ z ∈ heights 0 ys, z ∈ ms := fun z hz => (hm z).mpr (.inr (.inl hz))
    have m0 : (0 : Int) ∈ ms := (hm 0).mpr (.inr (.inr rfl))
    have rx : ∀ z, z ∈ heights xs.sum (rw xs) ↔ z ∈ heights 0 xs := fun z => by
      have e := heights_rw xs 0
      rw [Int.zero_add] at e
      rw [← e, List.mem_reverse]
    have ry : ∀ z, z ∈ heights ys.sum (rw ys) ↔ z ∈ heights 0 ys := fun z => by
      have e := heights_rw ys 0
      rw [Int.zero_add] at e
      rw [← e, List.mem_reverse]
    have ey : ys.sum ∈ heights 0 ys := (ry _).mp (by cases rw ys <;> exact List.mem_cons_self)
    have same : ∀ (c b : Int) (hs : List Int), c ≤ b → (∀ z ∈ ms, z ≤ b → z ≤ c) → (∀ z ∈ hs, z ∈ ms) → ∀ z ∈ hs, c < z ↔ b < z := fun c b hs h1 h2 h3 z hz => ⟨fun q => by
      have := h2 z (h3 z hz)
      omega, fun q => by omega⟩
    refine ⟨a, b, fun b hb => ?_, fun b hb => ?_⟩
    · obtain ⟨c, hc, c1, c2⟩ := best_below b ms ⟨0, m0, hb⟩
      have c0 := c2 0 m0 hb
      have e1 := dn_at xs 0 c b (same c b _ c1 c2 mx)
      have e2 := dn_at ys 0 c b (same c b _ c1 c2 my)
      rw [Int.sub_zero, Int.sub_zero] at e1 e2
      rw [← e1, ← e2]
      exact (h c hc).1 c0
    · obtain ⟨c, hc, c1, c2⟩ := best_below b ms ⟨ys.sum, my _ ey, hb⟩
      have c0 := c2 _ (my _ ey) hb
      have e1 := dn_at (rw xs) xs.sum c b (same c b _ c1 c2 fun z hz => mx z ((rx z).mp hz))
      have e2 := dn_at (rw ys) ys.sum c b (same c b _ c1 c2 fun z hz => my z ((ry z).mp hz))
      rw [← e1, ← e2]
      exact (h c hc).2 c0
theorem reach_is (xs : List Int) {t : Int} (h : 0 ≤ t) : lf 0 (heights 0 xs) t = dn xs t := by
  have := dn_le xs t
  rw [lf_heights xs 0 0 t h, Int.zero_add, Int.sub_zero]
  omega
theorem return_is (xs : List Int) {t : Int} (h : xs.sum ≤ t) : lf xs.sum (heights xs.sum (rw xs)) t = xs.sum + dn (rw xs) (t - xs.sum) := by
  have := dn_le (rw xs) (t - xs.sum)
  rw [lf_heights (rw xs) xs.sum xs.sum t h]
  omega
end K41

namespace K41
open PySem.Spec PySem L2 PyProof.Rows FG
open He (ga ma Fa Dv)
/-! what the defs promise -/
mutual
def dPt : Pt → D
  | .step i => .int i
  | .loop r ps => .tup [.int r, .tup (dPts ps)]
def dPts : List Pt → List D
  | [] => []
  | p :: ps => dPt p :: dPts ps
end
/-- as a list or as a tuple -/
def As (x : D) (ps : List Pt) : Prop := x = .lst (dPts ps) ∨ x = .tup (dPts ps)
def isI : D → Bool
  | .int _ => true
  | _ => false
/-- what a script may be -/
structure Fit (ps : List Pt) : Prop where
  ok : okL ps
  dep : depL ps ≤ 6
  cl : clL ps ≤ 10000000
  bd : ∀ x ∈ unrollL ps, x.natAbs ≤ 10 ^ 40
/-- outline: size, end, highest, lowest, last place of the lowest -/
def outD (xs : List Int) : D := .tup [.int xs.length, .int xs.sum, .int (hiW xs), .int (loW xs), .int (laW xs)]
def scrI (K : PySem.W.Frag) (ps : List Pt) : D := .ins (ga K "Script") [("own_parts", .tup (dPts ps)), ("own_size", .int (unrollL ps).length), ("own_depth", .int (depL ps)), ("own_flat", .lst (dPts (flatL ps)))]
def T_is_integer (K : PySem.W.Frag) : DSp := fun ds Q _ => ∃ d t, ds = [d] ∧ d.tyn = some t ∧ Q (.bl (isI d))
def T_is_integer_from (K : PySem.W.Frag) : DSp := fun ds Q _ => ∃ v a b : Int, ds = [.int v, .int a, .int b] ∧ Q (.bl (decide (a ≤ v ∧ v ≤ b)))
def T_is_part (K : PySem.W.Frag) (n : Nat) : DSp := fun ds Q _ => ∃ (p : Pt) (d : Nat), ds = [dPt p, .int d] ∧ p.dep ≤ d ∧ p.dep < n ∧ p.ok ∧ Q (.bl true)
def T_are_parts (K : PySem.W.Frag) : DSp := fun ds Q _ => ∃ x ps, ds = [x] ∧ As x ps ∧ depL ps ≤ 6 ∧ okL ps ∧ Q (.bl true)
def T_size_of (K : PySem.W.Frag) (n : Nat) : DSp := fun ds Q _ => ∃ ps : List Pt, ds = [.tup (dPts ps)] ∧ depL ps < n ∧ depL ps ≤ 6 ∧ clL ps ≤ 10000000 ∧ okL ps ∧ Q (.int (unrollL ps).length)
def T_depth_of (K : PySem.W.Frag) (n : Nat) : DSp := fun ds Q _ => ∃ ps : List Pt, ds = [.tup (dPts ps)] ∧ depL ps < n ∧ Q (.int (depL ps))
def T_all_parts (K : PySem.W.Frag) (n : Nat) : DSp := fun ds Q _ => ∃ ps : List Pt, ds = [.tup (dPts ps)] ∧ depL ps < n ∧ clL ps ≤ 10000000 ∧ Q (.lst (dPts (flatL ps)))
def T_Script___init__ (K : PySem.W.Frag) : DSp := fun ds Q _ => ∃ x ps, ds = [x] ∧ As x ps ∧ depL ps ≤ 6 ∧ clL ps ≤ 10000000 ∧ okL ps ∧ Q (scrI K ps)
def T_Script_parts (K : PySem.W.Frag) : DSp := fun ds Q _ => ∃ ps, ds = [scrI K ps] ∧ Q (.tup (dPts ps))
def T_Script_size (K : PySem.W.Frag) : DSp := fun ds Q _ => ∃ ps, ds = [scrI K ps] ∧ Q (.int (unrollL ps).length)
def T_require_place (K : PySem.W.Frag) : DSp := fun ds Q _ => ∃ ps v, ds = [scrI K ps, .int v] ∧ 0 ≤ v ∧ v ≤ (unrollL ps).length ∧ Q .non
def T_require_range (K : PySem.W.Frag) : DSp := fun ds Q _ => ∃ ps v w, ds = [scrI K ps, .int v, .int w] ∧ 0 ≤ v ∧ v ≤ w ∧ w ≤ (unrollL ps).length ∧ Q .non
def T_followed_by (K : PySem.W.Frag) : DSp := fun ds Q _ => ∃ xs ys : List Int, ds = [outD xs, outD ys] ∧ Q (outD (xs ++ ys))
def T_repeated (K : PySem.W.Frag) : DSp := fun ds Q _ => ∃ (xs : List Int) (r : Int), ds = [outD xs, .int r] ∧ 0 < r ∧ r ≤ 1000000000000 ∧ Bd xs ∧ Q (outD (rep r.toNat xs))
def T_loop_part (K : PySem.W.Frag) : DSp := fun ds Q _ => ∃ (ps : List Pt) (r : Int), ds = [.int r, .tup (dPts ps)] ∧ okL ps ∧ r ≤ 1000000000000 ∧ ∀ qs, okL qs → depL qs ≤ depL ps + 1 → qs.length ≤ ps.length + 1 → unrollL qs = rep r.toNat (unrollL ps) → Q (.lst (dPts qs))
def T_outline_of_element (K : PySem.W.Frag) (n : Nat) : DSp := fun ds Q _ => ∃ p, ds = [dPt p] ∧ p.ok ∧ Bd p.unroll ∧ 2 * p.dep + 1 ≤ n ∧ Q (outD p.unroll)
def T_outline (K : PySem.W.Frag) (n : Nat) : DSp := fun ds Q _ => ∃ x ps, ds = [x] ∧ As x ps ∧ okL ps ∧ Bd (unrollL ps) ∧ 2 * depL ps + 2 ≤ n ∧ Q (outD (unrollL ps))
def T_cut (K : PySem.W.Frag) (n : Nat) : DSp := fun ds Q _ => ∃ (ps : List Pt) (a b : Int), ds = [.tup (dPts ps), .int a, .int b] ∧ Fit ps ∧ 2 * depL ps + 1 ≤ n ∧ ∀ qs, okL qs → depL qs ≤ depL ps → qs.length ≤ clL ps → unrollL qs = sl a b (unrollL ps) → Q (.lst (dPts qs))
def T_cut_loop (K : PySem.W.Frag) (n : Nat) : DSp := fun ds Q _ => ∃ (ps : List Pt) (r a b : Int), ds = [.tup (dPts ps), .int (unrollL ps).length, .int a, .int b] ∧ Fit ps ∧ 0 < (unrollL ps).length ∧ 2 * depL ps + 2 ≤ n ∧ depL ps ≤ 5 ∧ 2 * clL ps + ps.length + 1 ≤ 10000000 ∧ 0 ≤ r ∧ r ≤ 1000000000000 ∧ 0 ≤ a ∧ a < b ∧ b ≤ r * (unrollL ps).length ∧ ∀ qs, okL qs → depL qs ≤ depL ps + 1 → qs.length ≤ 2 * clL ps + ps.length + 1 → unrollL qs = sl a b (rep r.toNat (unrollL ps)) → Q (.lst (dPts qs))
def T_outline_between (K : PySem.W.Frag) : DSp := fun ds Q _ => ∃ ps a b, ds = [scrI K ps, .int a, .int b] ∧ Fit ps ∧ Q (.tup [outD (sl a b (unrollL ps)), .int (sl 0 a (unrollL ps)).sum])
def T_level (K : PySem.W.Frag) : DSp := fun ds Q _ => ∃ ps a, ds = [scrI K ps, .int a] ∧ Fit ps ∧ 0 ≤ a ∧ a ≤ (unrollL ps).length ∧ Q (.int (sl 0 a (unrollL ps)).sum)
def T_highest (K : PySem.W.Frag) : DSp := fun ds Q _ => ∃ ps a b, ds = [scrI K ps, .int a, .int b] ∧ Fit ps ∧ 0 ≤ a ∧ a ≤ b ∧ b ≤ (unrollL ps).length ∧ Q (.int ((sl 0 a (unrollL ps)).sum + hiW (sl a b (unrollL ps))))
def T_lowest (K : PySem.W.Frag) : DSp := fun ds Q _ => ∃ ps a b, ds = [scrI K ps, .int a, .int b] ∧ Fit ps ∧ 0 ≤ a ∧ a ≤ b ∧ b ≤ (unrollL ps).length ∧ Q (.int ((sl 0 a (unrollL ps)).sum + loW (sl a b (unrollL ps))))
def T__law_pot (K : PySem.W.Frag) : DSp := fun ds Q _ => ∃ (ns : List Int) (k : Nat), ds = [.scr ns, .int k] ∧ k < 100 ∧ Q .pot
def T__law_draw (K : PySem.W.Frag) : DSp := T_draw
def T__law_step (K : PySem.W.Frag) : DSp := fun ds Q _ => ds = [.pot] ∧ ∀ i : Int, i.natAbs ≤ 10 ^ 29 → Q (.int i)
def T__law_heights (K : PySem.W.Frag) : DSp := fun ds Q _ => ∃ (xs : List Int) (b : Int), ds = [.lst (xs.map D.int), .int b] ∧ xs.length ≤ 1000 ∧ Q (.lst ((heights b xs).map D.int))

mutual
/-- what the law draws -/
def Pt.gen : Pt → Prop
  | .step i => i.natAbs ≤ 10 ^ 29
  | .loop r ps => 0 ≤ r ∧ r ≤ 3 ∧ ps.length ≤ 4 ∧ (unrollL ps).length ≤ 4 ∧ genL ps
def genL : List Pt → Prop
  | [] => True
  | p :: ps => Pt.gen p ∧ genL ps
end
end K41


namespace K41
open PySem.Spec PySem L2 PyProof.Rows FG
open He (ga ma Fa Dv)
def dRow (r : Int × Int) : D := .tup [.int r.1, .int r.2]
def dRows (rs : Rows) : List D := rs.map dRow
/-- rows as a list or as a tuple -/
def AsR (x : D) (rs : Rows) : Prop := x = .lst (dRows rs) ∨ x = .tup (dRows rs)
def plainD (d u : Rows) (e h : Int) : D := .tup [.tup (dRows d), .tup (dRows u), .int e, .int h]
def prI (K : PySem.W.Frag) (d u : Rows) (e h : Int) : D := .ins (ga K "Profile") [("own_plain", plainD d u e h), ("own_lowest", .int (lastV d 0))]
/-- the profile of a walk, not many rows -/
structure PP (xs : List Int) (N : Nat) (d u : Rows) (e h : Int) : Prop where
  p : Prof xs d u e h
  nd : d.length ≤ N
  nu : u.length ≤ N
/-- what a profile's four values must be -/
structure Val (d u : Rows) (e h : Int) : Prop where
  okd : okFrom (0 - 1) 0 d
  oku : okFrom (e - 1) e u
  lo : lastV d 0 = lastV u e
  pd : lastP d 0 ≤ h
  pu : lastP u e ≤ h
  h0 : 0 ≤ h
  he : e ≤ h
  sd : d.length ≤ 16777216
  su : u.length ≤ 16777216
def T_is_row (K : PySem.W.Frag) : DSp := fun ds Q _ => ∃ r, ds = [dRow r] ∧ Q (.bl true)
def T_are_rows (K : PySem.W.Frag) : DSp := fun ds Q _ => ∃ x rs l, ds = [x, .int l] ∧ AsR x rs ∧ okFrom (l - 1) l rs ∧ Q (.bl true)
def T_last_valley (K : PySem.W.Frag) : DSp := fun ds Q _ => ∃ x rs l, ds = [x, .int l] ∧ AsR x rs ∧ Q (.int (lastV rs l))
def T_greatest_peak (K : PySem.W.Frag) : DSp := fun ds Q _ => ∃ x rs l, ds = [x, .int l] ∧ AsR x rs ∧ Q (.int (lastP rs l))
def T_problem_of (K : PySem.W.Frag) : DSp := fun ds Q _ => ∃ x y d u e h, ds = [x, y, .int e, .int h] ∧ AsR x d ∧ AsR y u ∧ Val d u e h ∧ Q .non
def T_fallen (K : PySem.W.Frag) : DSp := fun ds Q _ => ∃ rs b l, ds = [.tup (dRows rs), .int b, .int l] ∧ Q (.int (fall rs b l))
def T_Profile___init__ (K : PySem.W.Frag) : DSp := fun ds Q _ => ∃ x y d u e h, ds = [x, y, .int e, .int h] ∧ AsR x d ∧ AsR y u ∧ Val d u e h ∧ Q (prI K d u e h)
def T0_Profile___init__ (K : PySem.W.Frag) : DSp := fun ds Q E => ds = [] ∧ T_Profile___init__ K [.tup [], .tup [], .int 0, .int 0] Q E
def T_Profile_end (K : PySem.W.Frag) : DSp := fun ds Q _ => ∃ d u e h, ds = [prI K d u e h] ∧ Q (.int e)
def T_Profile_height (K : PySem.W.Frag) : DSp := fun ds Q _ => ∃ d u e h, ds = [prI K d u e h] ∧ Q (.int h)
def T_Profile_descent (K : PySem.W.Frag) : DSp := fun ds Q _ => ∃ d u e h, ds = [prI K d u e h] ∧ Q (.lst (dRows d))
def T_Profile_ascent (K : PySem.W.Frag) : DSp := fun ds Q _ => ∃ d u e h, ds = [prI K d u e h] ∧ Q (.lst (dRows u))
def T_moved (K : PySem.W.Frag) : DSp := fun ds Q _ => ∃ rs c, ds = [.tup (dRows rs), .int c] ∧ Q (.tup (dRows (mov rs c)))
def T_followed (K : PySem.W.Frag) : DSp := fun ds Q _ => ∃ near l top far fl, ds = [.tup (dRows near), .int l, .int top, .tup (dRows far), .int fl] ∧ near.length + far.length ≤ 10000000 ∧ Q (.tup (dRows (foll near l top far fl)))
def T_sum_of (K : PySem.W.Frag) : DSp := fun ds Q _ => ∃ xs ys N M d1 u1 e1 h1 d2 u2 e2 h2, ds = [plainD d1 u1 e1 h1, plainD d2 u2 e2 h2] ∧ PP xs N d1 u1 e1 h1 ∧ PP ys M d2 u2 e2 h2 ∧ N + M ≤ 10000000 ∧ ∀ d u e h, PP (xs ++ ys) (N + M + 1) d u e h → Q (plainD d u e h)
def T_times (K : PySem.W.Frag) : DSp := fun ds Q _ => ∃ xs N d u e h, ∃ r : Nat, ds = [plainD d u e h, .int r] ∧ PP xs N d u e h ∧ N ≤ 4000000 ∧ r ≤ 1000000000000 ∧ ∀ d' u' e' h', PP (rep r xs) (N + 1) d' u' e' h' → Q (plainD d' u' e' h')
def T_profile_of_step (K : PySem.W.Frag) : DSp := fun ds Q _ => ∃ i, ds = [.int i] ∧ ∀ d u e h, PP [i] 1 d u e h → Q (plainD d u e h)
def T_profile_of_parts (K : PySem.W.Frag) (n : Nat) : DSp := fun ds Q _ => ∃ ps, ds = [.tup (dPts ps)] ∧ okL ps ∧ depL ps < n ∧ clL ps ≤ 1000000 ∧ ∀ d u e h, PP (unrollL ps) (2 * clL ps) d u e h → Q (plainD d u e h)
def T_profile_of (K : PySem.W.Frag) : DSp := fun ds Q _ => ∃ ps, ds = [scrI K ps] ∧ Fit ps ∧ clL ps ≤ 1000000 ∧ ∀ d u e h, PP (unrollL ps) (2 * clL ps) d u e h → Q (prI K d u e h)
mutual
/-- loops of few rounds, not long -/
def Pt.wd : Pt → Prop
  | .step i => i.natAbs ≤ 10 ^ 29
  | .loop r ps => 0 ≤ r ∧ r ≤ 3 ∧ (unrollL ps).length ≤ 100 ∧ wdL ps
def wdL : List Pt → Prop
  | [] => True
  | p :: ps => Pt.wd p ∧ wdL ps
end
/-- a profile and its walk -/
structure Pf where
  xs : List Int
  d : Rows
  u : Rows
  e : Int
  h : Int
def Pf.D (K : PySem.W.Frag) (t : Pf) : D := prI K t.d t.u t.e t.h
def Pf.ok (N : Nat) (t : Pf) : Prop := PP t.xs N t.d t.u t.e t.h
def T_is_count (K : PySem.W.Frag) : DSp := fun ds Q _ => ∃ i, ds = [.int i] ∧ Q (.bl (decide (0 ≤ i)))
def T_Profile_back (K : PySem.W.Frag) : DSp := fun ds Q _ => ∃ d u e h b, ds = [prI K d u e h, .int b] ∧ e ≤ b ∧ Q (.int (fall u b e))
def T_Profile___call__ (K : PySem.W.Frag) : DSp := fun ds Q _ => ∃ d u e h b, ds = [prI K d u e h, .int b] ∧ 0 ≤ b ∧ Q (.int (fall d b 0))
def T_Profile_is_no_worse (K : PySem.W.Frag) : DSp := fun ds Q _ => ∃ d u e h d' u' e' h', ds = [prI K d u e h, prI K d' u' e' h'] ∧ d'.length ≤ 10000000 ∧ u'.length ≤ 10000000 ∧ ∀ c : Bool, (c = true ↔ e ≤ e' ∧ h ≤ h' ∧ (∀ r ∈ d', fall d r.1 0 ≤ r.2) ∧ ∀ r ∈ u', fall u r.1 e ≤ r.2) → Q (.bl c)
def T_Profile___eq__ (K : PySem.W.Frag) : DSp := fun ds Q _ => ∃ d u e h d' u' e' h', ds = [prI K d u e h, prI K d' u' e' h'] ∧ ∀ c : Bool, (c = true ↔ d = d' ∧ u = u' ∧ e = e' ∧ h = h') → Q (.bl c)
def T__law_mixed (K : PySem.W.Frag) : DSp := fun ds Q _ => ∃ xs : List D, ds = [.pot, .tup xs] ∧ xs.length ≤ 10000 ∧ ∀ ys : List D, ys.Perm xs → Q (.lst ys)
def T__law_unrolled (K : PySem.W.Frag) (n : Nat) : DSp := fun ds Q _ => ∃ ps : List Pt, ds = [.tup (dPts ps)] ∧ depL ps < n ∧ (unrollL ps).length ≤ 400 ∧ wdL ps ∧ Q (.lst ((unrollL ps).map D.int))
def T__law_elements (K : PySem.W.Frag) (n : Nat) : DSp := fun ds Q _ => ∃ t d : Nat, ds = [.pot, .int t, .int d] ∧ t ≤ 12 ∧ d < n ∧ d ≤ 6 ∧ ∀ ps, genL ps → ps.length ≤ t → (unrollL ps).length ≤ t → depL ps ≤ d → Q (.tup (dPts ps))
def T_Script_of (K : PySem.W.Frag) : DSp := fun ds Q _ => ∃ xs : List Int, ds = xs.map D.int ∧ xs.length ≤ 10 ∧ ∀ v, v.isN = false → Q v
def T0_Script___init__ (K : PySem.W.Frag) : DSp := fun ds Q E => ds = [] ∧ T_Script___init__ K [.tup []] Q E
def T_end_context (K : PySem.W.Frag) : DSp := fun ds Q _ => ∃ a b : Int, ds = [.int a, .int b] ∧ ∀ v, v.isN = false → Q v
def T_height_context (K : PySem.W.Frag) : DSp := fun ds Q _ => ∃ a : Int, ds = [.int a] ∧ ∀ v, v.isN = false → Q v
def T_descent_context (K : PySem.W.Frag) : DSp := fun ds Q _ => ∃ r b, ds = [dRow r, .int b] ∧ ∀ v, v.isN = false → Q v
def T_ascent_context (K : PySem.W.Frag) : DSp := fun ds Q _ => ∃ r b, ds = [dRow r, .int b] ∧ ∀ v, v.isN = false → Q v
def T_worse_contexts (K : PySem.W.Frag) : DSp := fun ds Q _ => ∃ t s : Pf, ds = [t.D K, s.D K] ∧ t.ok 10000000 ∧ s.ok 8000000 ∧ ∀ es : List D, (∀ x ∈ es, x.isN = false) → (es = [] ↔ NW t.xs s.xs) → Q (.lst es)
def T_worse_context (K : PySem.W.Frag) : DSp := fun ds Q _ => ∃ t s : Pf, ds = [t.D K, s.D K] ∧ t.ok 10000000 ∧ s.ok 8000000 ∧ ∀ v : D, (v.isN = true ↔ NW t.xs s.xs) → Q v
def T_are_exchangeable (K : PySem.W.Frag) : DSp := fun ds Q _ => ∃ ps qs, ds = [scrI K ps, scrI K qs] ∧ Fit ps ∧ Fit qs ∧ clL ps ≤ 1000000 ∧ clL qs ≤ 1000000 ∧ ∀ c : Bool, (c = true ↔ Eqv (unrollL ps) (unrollL qs)) → Q (.bl c)
def T__law_reach (K : PySem.W.Frag) : DSp := fun ds Q _ => ∃ hs t, ds = [.lst (hs.map D.int), .int t] ∧ Q (.int (lf 0 hs t))
def T__law_return (K : PySem.W.Frag) : DSp := fun ds Q _ => ∃ xs t, ds = [.lst ((heights 0 xs).map D.int), .int t] ∧ Q (.int (lf xs.sum (heights xs.sum (rw xs)) t))
def T__law_marks (K : PySem.W.Frag) : DSp := fun ds Q _ => ∃ a b : List Int, ds = [.lst (a.map D.int), .lst (b.map D.int)] ∧ a.length ≤ 1000 ∧ b.length ≤ 1000 ∧ ∀ ms : List Int, (∀ m, m ∈ ms ↔ m ∈ a ∨ m ∈ b ∨ m = 0) → Q (.lst (ms.map D.int))
def T__law_is_no_worse (K : PySem.W.Frag) : DSp := fun ds Q _ => ∃ xs ys : List Int, ds = [.lst ((heights 0 xs).map D.int), .lst ((heights 0 ys).map D.int)] ∧ xs.length ≤ 900 ∧ ys.length ≤ 900 ∧ ∀ c : Bool, (c = true ↔ NW xs ys) → Q (.bl c)
def T__law_levels (K : PySem.W.Frag) : DSp := fun ds Q _ => ∃ ps, ds = [.tup (dPts ps)] ∧ wdL ps ∧ depL ps ≤ 6 ∧ (unrollL ps).length ≤ 400 ∧ Q (.lst ((heights 0 (unrollL ps)).map D.int))
/-- what drawn bodies may be -/
structure Bo (ps : List Pt) (U L D C : Nat) : Prop where
  wd : wdL ps
  un : (unrollL ps).length ≤ U
  len : ps.length ≤ L
  de : depL ps ≤ D
  cl : clL ps ≤ C
def T__law_near (K : PySem.W.Frag) : DSp := fun ds Q _ => ∃ ps U L D C, ds = [.pot, .tup (dPts ps)] ∧ Bo ps U L D C ∧ U ≤ 60 ∧ L ≤ 200 ∧ ∀ qs, Bo qs (2 * U + 2) (2 * L + 2) (D + 1) (4 * C + 2 * L + 4) → Q (.tup (dPts qs))
def T__law_pair_right (K : PySem.W.Frag) : DSp := fun ds Q _ => ∃ ps qs, ds = [.tup (dPts ps), .tup (dPts qs)] ∧ Bo ps 120 120 6 1000000 ∧ Bo qs 120 120 6 1000000 ∧ Q (.bl true)
def T__law_right (K : PySem.W.Frag) : DSp := fun ds Q _ => ds = [.pot] ∧ Q (.bl true)
def T_law (K : PySem.W.Frag) : DSp := fun ds Q _ => ∃ ns : List Int, ds = [.scr ns] ∧ Q (.bl true)
end K41

namespace K41
open PySem.Spec PySem L2 PyProof.Rows FG
open He (ga ma Fa Dv)
/-- slots: 0 value -/
def t_is_integer (K : PySem.W.Frag) : (Exn → Prop) → DTS := fun Ed => dRet (dAndV (dCB fIsi (dCons (dVar 0) (dCons (dC (.ty "int")) dNil))) (dNotV (dCB fIsi (dCons (dVar 0) (dCons (dC (.ty "bool")) dNil)))))
/-- slots: 0 value, 1 low, 2 high -/
def t_is_integer_from (K : PySem.W.Frag) : (Exn → Prop) → DTS := fun Ed => dRet (dAndV (dCall (T_is_integer K) (fun e _ => Ed e) (dCons (dVar 0) dNil)) (dChain fLe fLe (dVar 1) (dVar 0) (dVar 2)))
/-- slots: 0 value -/
def t_is_count (K : PySem.W.Frag) : (Exn → Prop) → DTS := fun Ed => dRet (dAndV (dCall (T_is_integer K) (fun e _ => Ed e) (dCons (dVar 0) dNil)) (dOp fGe (dVar 0) (dC (.int 0))))
def e_is_part_1 (K : PySem.W.Frag) (n : Nat) (Ed : Exn → Prop) : DT := dStay (fLc (iSeq (dVar 3)) (.nm 4) dYes (dCall (T_is_part K n) wNo (dCons (dVar 4) (dCons (dOp fSub (dVar 1) (dC (.int 1))) dNil))) [4])
/-- slots: 0 value, 1 depth, 2 rounds, 3 parts, 4 part -/
def t_is_part (K : PySem.W.Frag) (n : Nat) : (Exn → Prop) → DTS := fun Ed => dSeq (dIf (dTest (dCall (T_is_integer K) (fun e _ => Ed e) (dCons (dVar 0) dNil))) (dRet (dC (.bl true))) dNext) (dSeq (dIf (dOr (dTest (dOp fEq (dVar 1) (dC (.int 0)))) (dOr (dNot (dTest (dCB fIsi (dCons (dVar 0) (dCons (dC (.ty "tuple")) dNil))))) (dTest (dOp fNe (dCB fLen (dCons (dVar 0) dNil)) (dC (.int 2)))))) (dRet (dC (.bl false))) dNext) (dSeq (dAsg (dVar 0) (.tp [(.nm 2), (.nm 3)])) (dSeq (dIf (dOr (dNot (dTest (dCall (T_is_integer_from K) (fun e _ => Ed e) (dCons (dVar 2) (dCons (dC (.int 0)) (dCons (dC (.int (1000000000000))) dNil)))))) (dNot (dTest (dCB fIsi (dCons (dVar 3) (dCons (dC (.ty "tuple")) dNil)))))) (dRet (dC (.bl false))) dNext) (dRet (dCB fAll (dCons (e_is_part_1 K n Ed) dNil))))))
def e_are_parts_1 (K : PySem.W.Frag) (Ed : Exn → Prop) : DT := dStay (fLc (iSeq (dVar 0)) (.nm 1) dYes (dCall (T_is_part K 7) wNo (dCons (dVar 1) (dCons (dC (.int (6))) dNil))) [1])
/-- slots: 0 value, 1 part -/
def t_are_parts (K : PySem.W.Frag) : (Exn → Prop) → DTS := fun Ed => dRet (dAndV (dIsiT (["list", "tuple"]) (dVar 0)) (dCB fAll (dCons (e_are_parts_1 K Ed) dNil)))
def b_size_of_1 (K : PySem.W.Frag) (n : Nat) (Ed : Exn → Prop) : DTS := dAsg (dOp fAdd (dVar 1) (dIfE (dTest (dCB fIsi (dCons (dVar 2) (dCons (dC (.ty "tuple")) dNil)))) (dOp fMul (dOp fIx (dVar 2) (dC (.int 0))) (dCall (T_size_of K n) (fun e _ => Ed e) (dCons (dOp fIx (dVar 2) (dC (.int 1))) dNil))) (dC (.int 1)))) (.nm 1)
/-- slots: 0 parts, 1 found, 2 part -/
def t_size_of (K : PySem.W.Frag) (n : Nat) : (Exn → Prop) → DTS := fun Ed => dSeq (dAsg (dC (.int 0)) (.nm 1)) (dSeq (dFor (iSeq (dVar 0)) (.nm 2) (b_size_of_1 K n Ed)) (dRet (dVar 1)))
def b_depth_of_1 (K : PySem.W.Frag) (n : Nat) (Ed : Exn → Prop) : DTS := dAsg (dCB fMax2 (dCons (dVar 1) (dCons (dOp fAdd (dC (.int 1)) (dCall (T_depth_of K n) (fun e _ => Ed e) (dCons (dOp fIx (dVar 2) (dC (.int 1))) dNil))) dNil))) (.nm 1)
def b_depth_of_2 (K : PySem.W.Frag) (n : Nat) (Ed : Exn → Prop) : DTS := dIf (dTest (dCB fIsi (dCons (dVar 2) (dCons (dC (.ty "tuple")) dNil)))) (b_depth_of_1 K n Ed) dNext
/-- slots: 0 parts, 1 found, 2 part -/
def t_depth_of (K : PySem.W.Frag) (n : Nat) : (Exn → Prop) → DTS := fun Ed => dSeq (dAsg (dC (.int 0)) (.nm 1)) (dSeq (dFor (iSeq (dVar 0)) (.nm 2) (b_depth_of_2 K n Ed)) (dRet (dVar 1)))
def b_all_parts_1 (K : PySem.W.Frag) (n : Nat) (Ed : Exn → Prop) : DTS := dAsg (dStay (fLstS (dStar (dVar 1) (dCons (dVar 2) (dStar (dIfE (dTest (dCB fIsi (dCons (dVar 2) (dCons (dC (.ty "tuple")) dNil)))) (dCall (T_all_parts K n) (fun e _ => Ed e) (dCons (dOp fIx (dVar 2) (dC (.int 1))) dNil)) (dLst dNil)) dNil))))) (.nm 1)
/-- slots: 0 parts, 1 found, 2 part -/
def t_all_parts (K : PySem.W.Frag) (n : Nat) : (Exn → Prop) → DTS := fun Ed => dSeq (dAsg (dLst dNil) (.nm 1)) (dSeq (dFor (iSeq (dVar 0)) (.nm 2) (b_all_parts_1 K n Ed)) (dRet (dVar 1)))
/-- slots: 0 self, 1 parts -/
def t_Script___init__ (K : PySem.W.Frag) : (Exn → Prop) → DTS := fun Ed => dSeq (dIf (dNot (dTest (dCall (T_are_parts K) (fun e _ => Ed e) (dCons (dVar 1) dNil)))) dNever dNext) (dSeq (dSetF 0 (ga K "Script") "own_parts" (dCB fTuple (dCons (dVar 1) dNil))) (dSeq (dSetF 0 (ga K "Script") "own_size" (dCall (T_size_of K 7) (fun e _ => Ed e) (dCons (dFldI 0 (ga K "Script") "own_parts") dNil))) (dSeq (dSetF 0 (ga K "Script") "own_depth" (dCall (T_depth_of K 7) (fun e _ => Ed e) (dCons (dFldI 0 (ga K "Script") "own_parts") dNil))) (dSetF 0 (ga K "Script") "own_flat" (dCall (T_all_parts K 7) (fun e _ => Ed e) (dCons (dFldI 0 (ga K "Script") "own_parts") dNil))))))
/-- slots: 0 cls, 1 parts -/
def t_Script_of (K : PySem.W.Frag) : (Exn → Prop) → DTS := fun Ed => dRet (dMakeV 0 (ga K "Script") (T_Script___init__ K) (fun e _ => Ed e) (dCons (dVar 1) dNil))
/-- slots: 0 self -/
def t_Script_parts (K : PySem.W.Frag) : (Exn → Prop) → DTS := fun Ed => dRet (dFld (ga K "Script") "own_parts" (dVar 0))
/-- slots: 0 value -/
def t_is_row (K : PySem.W.Frag) : (Exn → Prop) → DTS := fun Ed => dRet (dAndV (dCB fIsi (dCons (dVar 0) (dCons (dC (.ty "tuple")) dNil))) (dAndV (dOp fEq (dCB fLen (dCons (dVar 0) dNil)) (dC (.int 2))) (dAndV (dCall (T_is_integer K) (fun e _ => Ed e) (dCons (dOp fIx (dVar 0) (dC (.int 0))) dNil)) (dCall (T_is_integer K) (fun e _ => Ed e) (dCons (dOp fIx (dVar 0) (dC (.int 1))) dNil)))))
def e_are_rows_1 (K : PySem.W.Frag) (Ed : Exn → Prop) : DT := dStay (fLc (iSeq (dVar 0)) (.nm 3) dYes (dCall (T_is_row K) wNo (dCons (dVar 3) dNil)) [3])
def b_are_rows_2 (K : PySem.W.Frag) (Ed : Exn → Prop) : DTS := dSeq (dIf (dOr (dTest (dOp fLe (dOp fIx (dVar 3) (dC (.int 0))) (dOp fIx (dVar 2) (dC (.int 0))))) (dTest (dOp fGe (dOp fIx (dVar 3) (dC (.int 1))) (dOp fIx (dVar 2) (dC (.int 1)))))) (dRet (dC (.bl false))) dNext) (dAsg (dVar 3) (.nm 2))
/-- slots: 0 value, 1 level, 2 before, 3 row -/
def t_are_rows (K : PySem.W.Frag) : (Exn → Prop) → DTS := fun Ed => dSeq (dIf (dOr (dNot (dTest (dIsiT (["list", "tuple"]) (dVar 0)))) (dNot (dTest (dCB fAll (dCons (e_are_rows_1 K Ed) dNil))))) (dRet (dC (.bl false))) dNext) (dSeq (dAsg (dTup (dCons (dOp fSub (dVar 1) (dC (.int 1))) (dCons (dVar 1) dNil))) (.nm 2)) (dSeq (dFor (iSeq (dVar 0)) (.nm 3) (b_are_rows_2 K Ed)) (dRet (dC (.bl true)))))
/-- slots: 0 rows, 1 level -/
def t_last_valley (K : PySem.W.Frag) : (Exn → Prop) → DTS := fun Ed => dRet (dIfE (dTest (dOp fGt (dCB fLen (dCons (dVar 0) dNil)) (dC (.int 0)))) (dOp fIx (dOp fIx (dVar 0) (dNeg (dC (.int 1)))) (dC (.int 1))) (dVar 1))
/-- slots: 0 rows, 1 level -/
def t_greatest_peak (K : PySem.W.Frag) : (Exn → Prop) → DTS := fun Ed => dRet (dIfE (dTest (dOp fGt (dCB fLen (dCons (dVar 0) dNil)) (dC (.int 0)))) (dOp fIx (dOp fIx (dVar 0) (dNeg (dC (.int 1)))) (dC (.int 0))) (dVar 1))
/-- slots: 0 descent, 1 ascent, 2 end, 3 height -/
def t_problem_of (K : PySem.W.Frag) : (Exn → Prop) → DTS := fun Ed => dSeq (dIf (dNot (dTest (dCall (T_are_rows K) (fun e _ => Ed e) (dCons (dVar 0) (dCons (dC (.int 0)) dNil))))) (dRet (dC (.str "descent"))) dNext) (dSeq (dIf (dNot (dTest (dCall (T_is_integer K) (fun e _ => Ed e) (dCons (dVar 2) dNil)))) (dRet (dC (.str "end"))) dNext) (dSeq (dIf (dNot (dTest (dCall (T_are_rows K) (fun e _ => Ed e) (dCons (dVar 1) (dCons (dVar 2) dNil))))) (dRet (dC (.str "ascent"))) dNext) (dSeq (dIf (dTest (dOp fNe (dCall (T_last_valley K) (fun e _ => Ed e) (dCons (dVar 0) (dCons (dC (.int 0)) dNil))) (dCall (T_last_valley K) (fun e _ => Ed e) (dCons (dVar 1) (dCons (dVar 2) dNil))))) (dRet (dC (.str "lowest"))) dNext) (dSeq (dIf (dOr (dNot (dTest (dCall (T_is_integer K) (fun e _ => Ed e) (dCons (dVar 3) dNil)))) (dTest (dOp fLt (dVar 3) (dCB fMax4 (dCons (dCall (T_greatest_peak K) (fun e _ => Ed e) (dCons (dVar 0) (dCons (dC (.int 0)) dNil))) (dCons (dCall (T_greatest_peak K) (fun e _ => Ed e) (dCons (dVar 1) (dCons (dVar 2) dNil))) (dCons (dC (.int 0)) (dCons (dVar 2) dNil)))))))) (dRet (dC (.str "height"))) dNext) (dRet (dC .non))))))
def b_fallen_1 (K : PySem.W.Frag) (Ed : Exn → Prop) : DTS := dIf (dTest (dOp fLe (dVar 4) (dVar 1))) (dAsg (dVar 5) (.nm 3)) dNext
/-- slots: 0 rows, 1 bound, 2 level, 3 found, 4 peak, 5 valley -/
def t_fallen (K : PySem.W.Frag) : (Exn → Prop) → DTS := fun Ed => dSeq (dAsg (dVar 2) (.nm 3)) (dSeq (dFor (iSeq (dVar 0)) (.tp [(.nm 4), (.nm 5)]) (b_fallen_1 K Ed)) (dRet (dVar 3)))
/-- slots: 0 self, 1 descent, 2 ascent, 3 end, 4 height, 5 problem -/
def t_Profile___init__ (K : PySem.W.Frag) : (Exn → Prop) → DTS := fun Ed => dSeq (dAsg (dCall (T_problem_of K) (fun e _ => Ed e) (dCons (dVar 1) (dCons (dVar 2) (dCons (dVar 3) (dCons (dVar 4) dNil))))) (.nm 5)) (dSeq (dIf (dTest (dOp fNotN (dVar 5) (dC .non))) dNever dNext) (dSeq (dSetF 0 (ga K "Profile") "own_plain" (dTup (dCons (dCB fTuple (dCons (dVar 1) dNil)) (dCons (dCB fTuple (dCons (dVar 2) dNil)) (dCons (dVar 3) (dCons (dVar 4) dNil)))))) (dSetF 0 (ga K "Profile") "own_lowest" (dCall (T_last_valley K) (fun e _ => Ed e) (dCons (dVar 1) (dCons (dC (.int 0)) dNil))))))
/-- slots: 0 self -/
def t_Profile_end (K : PySem.W.Frag) : (Exn → Prop) → DTS := fun Ed => dRet (dOp fIx (dFld (ga K "Profile") "own_plain" (dVar 0)) (dC (.int 2)))
/-- slots: 0 self -/
def t_Profile_height (K : PySem.W.Frag) : (Exn → Prop) → DTS := fun Ed => dRet (dOp fIx (dFld (ga K "Profile") "own_plain" (dVar 0)) (dC (.int 3)))
/-- slots: 0 self -/
def t_Profile_descent (K : PySem.W.Frag) : (Exn → Prop) → DTS := fun Ed => dRet (dCB fList (dCons (dOp fIx (dFld (ga K "Profile") "own_plain" (dVar 0)) (dC (.int 0))) dNil))
/-- slots: 0 self -/
def t_Profile_ascent (K : PySem.W.Frag) : (Exn → Prop) → DTS := fun Ed => dRet (dCB fList (dCons (dOp fIx (dFld (ga K "Profile") "own_plain" (dVar 0)) (dC (.int 1))) dNil))
/-- slots: 0 self, 1 bound -/
def t_Profile_back (K : PySem.W.Frag) : (Exn → Prop) → DTS := fun Ed => dSeq (dIf (dOr (dNot (dTest (dCall (T_is_integer K) (fun e _ => Ed e) (dCons (dVar 1) dNil)))) (dTest (dOp fLt (dVar 1) (dOp fIx (dFld (ga K "Profile") "own_plain" (dVar 0)) (dC (.int 2)))))) dNever dNext) (dRet (dCall (T_fallen K) (fun e _ => Ed e) (dCons (dOp fIx (dFld (ga K "Profile") "own_plain" (dVar 0)) (dC (.int 1))) (dCons (dVar 1) (dCons (dOp fIx (dFld (ga K "Profile") "own_plain" (dVar 0)) (dC (.int 2))) dNil)))))
def e_Profile_is_no_worse_1 (K : PySem.W.Frag) (Ed : Exn → Prop) : DT := dOp fLe (dCall (T_fallen K) wNo (dCons (dVar 2) (dCons (dVar 10) (dCons (dC (.int 0)) dNil)))) (dVar 11)
def e_Profile_is_no_worse_2 (K : PySem.W.Frag) (Ed : Exn → Prop) : DT := dStay (fLc (iSeq (dVar 6)) (.tp [(.nm 10), (.nm 11)]) dYes (e_Profile_is_no_worse_1 K Ed) ([10, 11]))
def e_Profile_is_no_worse_3 (K : PySem.W.Frag) (Ed : Exn → Prop) : DT := dStay (fLc (iSeq (dVar 7)) (.tp [(.nm 10), (.nm 11)]) dYes (dOp fLe (dCall (T_fallen K) wNo (dCons (dVar 3) (dCons (dVar 10) (dCons (dVar 4) dNil)))) (dVar 11)) ([10, 11]))
/-- slots: 0 self, 1 other, 2 descent, 3 ascent, 4 end, 5 height, 6 other_descent, 7 other_ascent, 8 other_end, 9 other_height, 10 peak, 11 valley -/
def t_Profile_is_no_worse (K : PySem.W.Frag) : (Exn → Prop) → DTS := fun Ed => dSeq (dAsg (dFld (ga K "Profile") "own_plain" (dVar 0)) (.tp [(.nm 2), (.nm 3), (.nm 4), (.nm 5)])) (dSeq (dAsg (dFld (ga K "Profile") "own_plain" (dVar 1)) (.tp [(.nm 6), (.nm 7), (.nm 8), (.nm 9)])) (dSeq (dIf (dOr (dTest (dOp fGt (dVar 4) (dVar 8))) (dTest (dOp fGt (dVar 5) (dVar 9)))) (dRet (dC (.bl false))) dNext) (dSeq (dIf (dNot (dTest (dCB fAll (dCons (e_Profile_is_no_worse_2 K Ed) dNil)))) (dRet (dC (.bl false))) dNext) (dRet (dCB fAll (dCons (e_Profile_is_no_worse_3 K Ed) dNil))))))
/-- slots: 0 self, 1 headroom -/
def t_Profile___call__ (K : PySem.W.Frag) : (Exn → Prop) → DTS := fun Ed => dSeq (dIf (dNot (dTest (dCall (T_is_count K) (fun e _ => Ed e) (dCons (dVar 1) dNil)))) dNever dNext) (dRet (dCall (T_fallen K) (fun e _ => Ed e) (dCons (dOp fIx (dFld (ga K "Profile") "own_plain" (dVar 0)) (dC (.int 0))) (dCons (dVar 1) (dCons (dC (.int 0)) dNil)))))
/-- slots: 0 self, 1 other -/
def t_Profile___eq__ (K : PySem.W.Frag) : (Exn → Prop) → DTS := fun Ed => dRet (dAndV (dCB (fIsC (ga K "Profile")) (dCons (dVar 1) (dCons (dC (.cls (ga K "Profile"))) dNil))) (dOp fEq (dFld (ga K "Profile") "own_plain" (dVar 0)) (dFld (ga K "Profile") "own_plain" (dVar 1))))
def e_moved_1 (K : PySem.W.Frag) (Ed : Exn → Prop) : DT := dStay (fLc (iSeq (dVar 0)) (.tp [(.nm 2), (.nm 3)]) dYes (dTup (dCons (dOp fAdd (dVar 2) (dVar 1)) (dCons (dOp fAdd (dVar 3) (dVar 1)) dNil))) ([2, 3]))
/-- slots: 0 rows, 1 change, 2 peak, 3 valley -/
def t_moved (K : PySem.W.Frag) : (Exn → Prop) → DTS := fun Ed => dRet (dCB fTuple (dCons (e_moved_1 K Ed) dNil))
def e_followed_1 (K : PySem.W.Frag) (Ed : Exn → Prop) : DT := dStay (fLc (iSeq (dVar 0)) (.nm 8) (dTest (dOp fLt (dOp fIx (dVar 8) (dC (.int 0))) (dVar 2))) (dVar 8) [8])
def e_followed_2 (K : PySem.W.Frag) (Ed : Exn → Prop) : DT := dStay (fLc (iSeq (dVar 3)) (.nm 8) (dTest (dOp fGt (dOp fIx (dVar 8) (dC (.int 0))) (dVar 2))) (dVar 8) [8])
def b_followed_3 (K : PySem.W.Frag) (Ed : Exn → Prop) : DTS := dIf (dTest (dOp fLt (dOp fIx (dVar 8) (dC (.int 1))) (dCall (T_last_valley K) (fun e _ => Ed e) (dCons (dVar 7) (dCons (dVar 1) dNil))))) (dApp 7 (dVar 8)) dNext
/-- slots: 0 near, 1 level, 2 top, 3 far, 4 far_level, 5 passed, 6 rows, 7 found, 8 row -/
def t_followed (K : PySem.W.Frag) : (Exn → Prop) → DTS := fun Ed => dSeq (dAsg (dTup (dCons (dVar 2) (dCons (dCB fMin2 (dCons (dCall (T_fallen K) (fun e _ => Ed e) (dCons (dVar 0) (dCons (dVar 2) (dCons (dVar 1) dNil)))) (dCons (dCall (T_fallen K) (fun e _ => Ed e) (dCons (dVar 3) (dCons (dVar 2) (dCons (dVar 4) dNil)))) dNil))) dNil))) (.nm 5)) (dSeq (dAsg (dOp fAdd (dOp fAdd (e_followed_1 K Ed) (dLst (dCons (dVar 5) dNil))) (e_followed_2 K Ed)) (.nm 6)) (dSeq (dAsgO (fLst dNil) 7) (dSeq (dFor (iSeq (dVar 6)) (.nm 8) (b_followed_3 K Ed)) (dRet (dCB fTuple (dCons (dVar 7) dNil))))))
/-- slots: 0 one, 1 other, 2 top, 3 down, 4 back, 5 descent, 6 ascent, 7 end, 8 height, 9 later_descent, 10 later_ascent, 11 later_end, 12 later_height -/
def t_sum_of (K : PySem.W.Frag) : (Exn → Prop) → DTS := fun Ed => dSeq (dAsg (dVar 0) (.tp [(.nm 5), (.nm 6), (.nm 7), (.nm 8)])) (dSeq (dAsg (dVar 1) (.tp [(.nm 9), (.nm 10), (.nm 11), (.nm 12)])) (dSeq (dAsg (dOp fAdd (dVar 7) (dVar 12)) (.nm 2)) (dSeq (dAsg (dCall (T_followed K) (fun e _ => Ed e) (dCons (dVar 5) (dCons (dC (.int 0)) (dCons (dVar 8) (dCons (dCall (T_moved K) (fun e _ => Ed e) (dCons (dVar 9) (dCons (dVar 7) dNil))) (dCons (dVar 7) dNil)))))) (.nm 3)) (dSeq (dAsg (dCall (T_followed K) (fun e _ => Ed e) (dCons (dCall (T_moved K) (fun e _ => Ed e) (dCons (dVar 10) (dCons (dVar 7) dNil))) (dCons (dOp fAdd (dVar 7) (dVar 11)) (dCons (dVar 2) (dCons (dVar 6) (dCons (dVar 7) dNil)))))) (.nm 4)) (dRet (dTup (dCons (dVar 3) (dCons (dVar 4) (dCons (dOp fAdd (dVar 7) (dVar 11)) (dCons (dCB fMax2 (dCons (dVar 8) (dCons (dVar 2) dNil))) dNil))))))))))
def b_times_1 (K : PySem.W.Frag) (Ed : Exn → Prop) : DTS := dSeq (dIf (dTest (dOp fEq (dOp fMod (dVar 4) (dC (.int 2))) (dC (.int 1)))) (dAsg (dCall (T_sum_of K) (fun e _ => Ed e) (dCons (dVar 2) (dCons (dVar 3) dNil))) (.nm 2)) dNext) (dPar2 3 4 (dCall (T_sum_of K) (fun e _ => Ed e) (dCons (dVar 3) (dCons (dVar 3) dNil))) (dOp fFdiv (dVar 4) (dC (.int 2))))
/-- slots: 0 one, 1 rounds, 2 found, 3 power, 4 left -/
def t_times (K : PySem.W.Frag) : (Exn → Prop) → DTS := fun Ed => dSeq (dPar3 2 3 4 (dC (.tup [.tup [], .tup [], .int 0, .int 0])) (dVar 0) (dVar 1)) (dSeq (dWhile (dTest (dOp fGt (dVar 4) (dC (.int 0)))) (b_times_1 K Ed)) (dRet (dVar 2)))
/-- slots: 0 step -/
def t_profile_of_step (K : PySem.W.Frag) : (Exn → Prop) → DTS := fun Ed => dSeq (dIf (dTest (dOp fLt (dVar 0) (dC (.int 0)))) (dRet (dTup (dCons (dTup (dCons (dTup (dCons (dC (.int 0)) (dCons (dVar 0) dNil))) dNil)) (dCons (dTup dNil) (dCons (dVar 0) (dCons (dC (.int 0)) dNil)))))) dNext) (dRet (dIfE (dTest (dOp fGt (dVar 0) (dC (.int 0)))) (dTup (dCons (dTup dNil) (dCons (dTup (dCons (dTup (dCons (dVar 0) (dCons (dC (.int 0)) dNil))) dNil)) (dCons (dVar 0) (dCons (dVar 0) dNil))))) (dC (.tup [.tup [], .tup [], .int 0, .int 0]))))
def b_profile_of_parts_1 (K : PySem.W.Frag) (n : Nat) (Ed : Exn → Prop) : DTS := dAsg (dCall (T_sum_of K) (fun e _ => Ed e) (dCons (dVar 1) (dCons (dCall (T_times K) (fun e _ => Ed e) (dCons (dCall (T_profile_of_parts K n) (fun e _ => Ed e) (dCons (dOp fIx (dVar 2) (dC (.int 1))) dNil)) (dCons (dOp fIx (dVar 2) (dC (.int 0))) dNil))) dNil))) (.nm 1)
def b_profile_of_parts_2 (K : PySem.W.Frag) (n : Nat) (Ed : Exn → Prop) : DTS := dIf (dTest (dCB fIsi (dCons (dVar 2) (dCons (dC (.ty "tuple")) dNil)))) (b_profile_of_parts_1 K n Ed) (dAsg (dCall (T_sum_of K) (fun e _ => Ed e) (dCons (dVar 1) (dCons (dCall (T_profile_of_step K) (fun e _ => Ed e) (dCons (dVar 2) dNil)) dNil))) (.nm 1))
/-- slots: 0 parts, 1 found, 2 part -/
def t_profile_of_parts (K : PySem.W.Frag) (n : Nat) : (Exn → Prop) → DTS := fun Ed => dSeq (dAsg (dC (.tup [.tup [], .tup [], .int 0, .int 0])) (.nm 1)) (dSeq (dFor (iSeq (dVar 0)) (.nm 2) (b_profile_of_parts_2 K n Ed)) (dRet (dVar 1)))
/-- slots: 0 script, 1 plain -/
def t_profile_of (K : PySem.W.Frag) : (Exn → Prop) → DTS := fun Ed => dSeq (dAsg (dCall (T_profile_of_parts K 8) (fun e _ => Ed e) (dCons (dMeth (ga K "Script") "parts" (T_Script_parts K) (fun e _ => Ed e) (dVar 0) dNil) dNil)) (.nm 1)) (dRet (dMakeS (T_Profile___init__ K) (fun e _ => Ed e) (dVar 1)))
/-- slots: 0 end, 1 top -/
def t_end_context (K : PySem.W.Frag) : (Exn → Prop) → DTS := fun Ed => dRet (dTup (dCons (dCMeth (ga K "Script") (T_Script_of K) (dC (.cls (ga K "Script"))) (dCons (dOp fSub (dVar 1) (dVar 0)) dNil)) (dCons (dC (.int 0)) (dCons (dVar 1) dNil))))
/-- slots: 0 top -/
def t_height_context (K : PySem.W.Frag) : (Exn → Prop) → DTS := fun Ed => dRet (dTup (dCons (dCall (T0_Script___init__ K) (fun e _ => Ed e) dNil) (dCons (dC (.int 0)) (dCons (dVar 0) dNil))))
/-- slots: 0 row, 1 top, 2 peak, 3 valley -/
def t_descent_context (K : PySem.W.Frag) : (Exn → Prop) → DTS := fun Ed => dSeq (dAsg (dVar 0) (.tp [(.nm 2), (.nm 3)])) (dRet (dTup (dCons (dCMeth (ga K "Script") (T_Script_of K) (dC (.cls (ga K "Script"))) (dCons (dOp fSub (dVar 2) (dVar 3)) (dCons (dOp fSub (dVar 3) (dVar 1)) dNil))) (dCons (dOp fSub (dVar 1) (dVar 2)) (dCons (dVar 1) dNil)))))
/-- slots: 0 row, 1 top, 2 peak, 3 valley -/
def t_ascent_context (K : PySem.W.Frag) : (Exn → Prop) → DTS := fun Ed => dSeq (dAsg (dVar 0) (.tp [(.nm 2), (.nm 3)])) (dRet (dTup (dCons (dCMeth (ga K "Script") (T_Script_of K) (dC (.cls (ga K "Script"))) (dCons (dOp fSub (dVar 1) (dVar 3)) (dCons (dOp fSub (dVar 3) (dVar 2)) dNil))) (dCons (dC (.int 0)) (dCons (dVar 1) dNil)))))
def e_worse_contexts_1 (K : PySem.W.Frag) (Ed : Exn → Prop) : DT := dStay (fLc (iSeq (dMeth (ga K "Profile") "descent" (T_Profile_descent K) (fun e _ => Ed e) (dVar 1) dNil)) (.nm 4) (dTest (dOp fGt (dCallO (ga K "Profile") (T_Profile___call__ K) (dVar 0) (dCons (dOp fIx (dVar 4) (dC (.int 0))) dNil)) (dOp fIx (dVar 4) (dC (.int 1))))) (dCall (T_descent_context K) wNo (dCons (dVar 4) (dCons (dVar 3) dNil))) [4])
def e_worse_contexts_2 (K : PySem.W.Frag) (Ed : Exn → Prop) : DT := dStay (fLc (iSeq (dMeth (ga K "Profile") "ascent" (T_Profile_ascent K) (fun e _ => Ed e) (dVar 1) dNil)) (.nm 4) (dTest (dOp fGt (dMeth (ga K "Profile") "back" (T_Profile_back K) wNo (dVar 0) (dCons (dOp fIx (dVar 4) (dC (.int 0))) dNil)) (dOp fIx (dVar 4) (dC (.int 1))))) (dCall (T_ascent_context K) wNo (dCons (dVar 4) (dCons (dVar 3) dNil))) [4])
/-- slots: 0 one, 1 other, 2 found, 3 top, 4 row -/
def t_worse_contexts (K : PySem.W.Frag) : (Exn → Prop) → DTS := fun Ed => dSeq (dParO 2 3 (fLst dNil) (dProp (ga K "Profile") (T_Profile_height K) (dVar 1))) (dSeq (dIf (dTest (dOp fGt (dProp (ga K "Profile") (T_Profile_end K) (dVar 0)) (dProp (ga K "Profile") (T_Profile_end K) (dVar 1)))) (dRet (dLst (dCons (dCall (T_end_context K) (fun e _ => Ed e) (dCons (dProp (ga K "Profile") (T_Profile_end K) (dVar 1)) (dCons (dVar 3) dNil))) dNil))) dNext) (dSeq (dIf (dTest (dOp fGt (dProp (ga K "Profile") (T_Profile_height K) (dVar 0)) (dVar 3))) (dApp 2 (dCall (T_height_context K) (fun e _ => Ed e) (dCons (dVar 3) dNil))) dNext) (dSeq (dExt 2 (e_worse_contexts_1 K Ed)) (dSeq (dExt 2 (e_worse_contexts_2 K Ed)) (dRet (dVar 2))))))
/-- slots: 0 one, 1 other, 2 found -/
def t_worse_context (K : PySem.W.Frag) : (Exn → Prop) → DTS := fun Ed => dSeq (dAsg (dCall (T_worse_contexts K) (fun e _ => Ed e) (dCons (dVar 0) (dCons (dVar 1) dNil))) (.nm 2)) (dRet (dIfE (dTest (dOp fGt (dCB fLen (dCons (dVar 2) dNil)) (dC (.int 0)))) (dOp fIx (dVar 2) (dC (.int 0))) (dC .non)))
/-- slots: 0 one, 1 other -/
def t_are_exchangeable (K : PySem.W.Frag) : (Exn → Prop) → DTS := fun Ed => dRet (dOp (fEqO (ga K "Profile") (T_Profile___eq__ K)) (dCall (T_profile_of K) (fun e _ => Ed e) (dCons (dVar 0) dNil)) (dCall (T_profile_of K) (fun e _ => Ed e) (dCons (dVar 1) dNil)))
/-- slots: 0 _law_script, 1 _law_k, 2 _law_cell -/
def t__law_pot (K : PySem.W.Frag) : (Exn → Prop) → DTS := fun Ed => dSeq (dAsg (dIfE (dTest (dOp fLt (dVar 1) (dCB fLen (dCons (dVar 0) dNil)))) (dCB fAbs (dCons (dOp fIx (dVar 0) (dVar 1)) dNil)) (dC (.int 0))) (.nm 2)) (dRetPot (fLst (dCons (dCB fMax2 (dCons (dC (.int 0)) (dCons (dOp fSub (dVar 2) (dOp fPow (dC (.int 10)) (dC (.int 18)))) dNil))) (dCons (dOp fMod (dOp fAdd (dOp fAdd (dOp fMul (dOp fMod (dVar 2) (dC (.int 2147483587))) (dC (.int 48271))) (dOp fMul (dC (.int 60013)) (dVar 1))) (dC (.int 29))) (dC (.int 2147483647))) dNil))))
def e__law_mixed_1 (K : PySem.W.Frag) (Ed : Exn → Prop) : DT := dCall (T__law_draw K) wNo (dCons (dVar 0) (dCons (dCB fLen (dCons (dVar 2) dNil)) dNil))
/-- slots: 0 _law_pot_here, 1 _law_some, 2 _law_left, 3 _law_k -/
def t__law_mixed (K : PySem.W.Frag) : (Exn → Prop) → DTS := fun Ed => dSeq (dAsgO (fListOf (dCons (dVar 1) dNil)) 2) (dRetPops (iRange1 (dCons (dCB fLen (dCons (dVar 1) dNil)) dNil)) 2 3 (e__law_mixed_1 K Ed))
def e__law_step_1 (K : PySem.W.Frag) (Ed : Exn → Prop) : DT := dOp fIx (dLst (dCons (dC (.int 0)) (dCons (dC (.int 1)) (dCons (dC (.int 1)) (dCons (dNeg (dC (.int 1))) (dCons (dNeg (dC (.int 1))) (dCons (dC (.int 2)) (dCons (dNeg (dC (.int 2))) (dCons (dC (.int 3)) (dCons (dNeg (dC (.int 3))) (dCons (dC (.int 4)) (dCons (dNeg (dC (.int 4))) (dCons (dC (.int 5)) (dCons (dNeg (dC (.int 5))) (dCons (dNeg (dC (.int 6))) dNil))))))))))))))) (dVar 1)
def e__law_step_2 (K : PySem.W.Frag) (Ed : Exn → Prop) : DT := dOp fIx (dLst (dCons (dC (.int 1)) (dCons (dNeg (dC (.int 1))) dNil))) (dCall (T__law_draw K) (fun e _ => Ed e) (dCons (dVar 0) (dCons (dC (.int 2)) dNil)))
/-- slots: 0 _law_pot_here, 1 _law_way, 2 _law_far -/
def t__law_step (K : PySem.W.Frag) : (Exn → Prop) → DTS := fun Ed => dSeq (dAsg (dCall (T__law_draw K) (fun e _ => Ed e) (dCons (dVar 0) (dCons (dC (.int 16)) dNil))) (.nm 1)) (dSeq (dIf (dTest (dOp fLt (dVar 1) (dC (.int 14)))) (dRet (e__law_step_1 K Ed)) dNext) (dSeq (dAsg (dLst (dCons (dOp fSub (dCall (T__law_draw K) (fun e _ => Ed e) (dCons (dVar 0) (dCons (dC (.int 2001)) dNil))) (dC (.int 1000))) (dCons (dOp fAdd (dOp fPow (dC (.int 10)) (dC (.int 28))) (dCall (T__law_draw K) (fun e _ => Ed e) (dCons (dVar 0) (dCons (dC (.int 9)) dNil)))) dNil))) (.nm 2)) (dRet (dOp fMul (dOp fIx (dVar 2) (dOp fSub (dVar 1) (dC (.int 14)))) (e__law_step_2 K Ed)))))
def b__law_unrolled_1 (K : PySem.W.Frag) (n : Nat) (Ed : Exn → Prop) : DTS := dAsg (dOp fAdd (dVar 1) (dIfE (dTest (dCB fIsi (dCons (dVar 2) (dCons (dC (.ty "tuple")) dNil)))) (dOp fMul (dCall (T__law_unrolled K n) (fun e _ => Ed e) (dCons (dOp fIx (dVar 2) (dC (.int 1))) dNil)) (dOp fIx (dVar 2) (dC (.int 0)))) (dLst (dCons (dVar 2) dNil)))) (.nm 1)
/-- slots: 0 _law_pieces, 1 _law_found, 2 _law_one -/
def t__law_unrolled (K : PySem.W.Frag) (n : Nat) : (Exn → Prop) → DTS := fun Ed => dSeq (dAsg (dLst dNil) (.nm 1)) (dSeq (dFor (iSeq (dVar 0)) (.nm 2) (b__law_unrolled_1 K n Ed)) (dRet (dVar 1)))
def b__law_elements_1 (K : PySem.W.Frag) (n : Nat) (Ed : Exn → Prop) : DTS := dSeq (dApp 4 (dVar 8)) (dAsg (dOp fSub (dVar 5) (dOp fMul (dVar 7) (dCB fLen (dCons (dCall (T__law_unrolled K 7) (fun e _ => Ed e) (dCons (dVar 6) dNil)) dNil)))) (.nm 5))
def b__law_elements_2 (K : PySem.W.Frag) (n : Nat) (Ed : Exn → Prop) : DTS := dSeq (dAsg (dCall (T__law_elements K n) (fun e _ => Ed e) (dCons (dVar 0) (dCons (dCB fMin2 (dCons (dVar 5) (dCons (dC (.int 4)) dNil))) (dCons (dOp fSub (dVar 2) (dC (.int 1))) dNil)))) (.nm 6)) (dSeq (dAsg (dCall (T__law_draw K) (fun e _ => Ed e) (dCons (dVar 0) (dCons (dC (.int 4)) dNil))) (.nm 7)) (dSeq (dAsg (dTup (dCons (dVar 7) (dCons (dVar 6) dNil))) (.nm 8)) (dIf (dTest (dOp fLe (dOp fMul (dVar 7) (dCB fLen (dCons (dCall (T__law_unrolled K 7) (fun e _ => Ed e) (dCons (dVar 6) dNil)) dNil))) (dVar 5))) (b__law_elements_1 K n Ed) dNext)))
def b__law_elements_3 (K : PySem.W.Frag) (n : Nat) (Ed : Exn → Prop) : DTS := dIf (dTest (dOp fGt (dVar 5) (dC (.int 0)))) (dSeq (dApp 4 (dCall (T__law_step K) (fun e _ => Ed e) (dCons (dVar 0) dNil))) (dAsg (dOp fSub (dVar 5) (dC (.int 1))) (.nm 5))) dNext
def b__law_elements_4 (K : PySem.W.Frag) (n : Nat) (Ed : Exn → Prop) : DTS := dIf (dAnd (dTest (dOp fGt (dVar 2) (dC (.int 0)))) (dAnd (dTest (dOp fGt (dVar 5) (dC (.int 0)))) (dTest (dOp fEq (dCall (T__law_draw K) (fun e _ => Ed e) (dCons (dVar 0) (dCons (dC (.int 4)) dNil))) (dC (.int 0)))))) (b__law_elements_2 K n Ed) (b__law_elements_3 K n Ed)
/-- slots: 0 _law_pot_here, 1 _law_top, 2 _law_deep, 3 _law_turn, 4 _law_found, 5 _law_left, 6 _law_inner, 7 _law_rounds, 8 _law_one -/
def t__law_elements (K : PySem.W.Frag) (n : Nat) : (Exn → Prop) → DTS := fun Ed => dSeq (dParO 4 5 (fLst dNil) (dVar 1)) (dSeq (dFor (iRange1 (dCons (dCall (T__law_draw K) (fun e _ => Ed e) (dCons (dVar 0) (dCons (dOp fAdd (dVar 1) (dC (.int 1))) dNil))) dNil)) (.nm 3) (b__law_elements_4 K n Ed)) (dRet (dCB fTuple (dCons (dVar 4) dNil))))
def b__law_heights_1 (K : PySem.W.Frag) (Ed : Exn → Prop) : DTS := dAppV 2 (dOp fAdd (dOp fIx (dVar 2) (dNeg (dC (.int 1)))) (dVar 3))
/-- slots: 0 _law_moves, 1 _law_begin, 2 _law_found, 3 _law_step_here -/
def t__law_heights (K : PySem.W.Frag) : (Exn → Prop) → DTS := fun Ed => dSeq (dAsgO (fLst (dCons (dVar 1) dNil)) 2) (dSeq (dFor (iSeq (dVar 0)) (.nm 3) (b__law_heights_1 K Ed)) (dRet (dVar 2)))
def b__law_reach_1 (K : PySem.W.Frag) (Ed : Exn → Prop) : DTS := dSeq (dIf (dTest (dOp fGt (dVar 3) (dVar 1))) (dRet (dVar 2)) dNext) (dAsg (dCB fMin2 (dCons (dVar 2) (dCons (dVar 3) dNil))) (.nm 2))
/-- slots: 0 _law_levels_here, 1 _law_top, 2 _law_found, 3 _law_here -/
def t__law_reach (K : PySem.W.Frag) : (Exn → Prop) → DTS := fun Ed => dSeq (dAsg (dC (.int 0)) (.nm 2)) (dSeq (dFor (iSeq (dVar 0)) (.nm 3) (b__law_reach_1 K Ed)) (dRet (dVar 2)))
def b__law_return_1 (K : PySem.W.Frag) (Ed : Exn → Prop) : DTS := dSeq (dIf (dTest (dOp fGt (dVar 3) (dVar 1))) (dRet (dVar 2)) dNext) (dAsg (dCB fMin2 (dCons (dVar 2) (dCons (dVar 3) dNil))) (.nm 2))
/-- slots: 0 _law_levels_here, 1 _law_top, 2 _law_found, 3 _law_here -/
def t__law_return (K : PySem.W.Frag) : (Exn → Prop) → DTS := fun Ed => dSeq (dAsg (dOp fIx (dVar 0) (dNeg (dC (.int 1)))) (.nm 2)) (dSeq (dFor (iSeq (dStay (dRev (dVar 0)))) (.nm 3) (b__law_return_1 K Ed)) (dRet (dVar 2)))
/-- slots: 0 _law_levels_here, 1 _law_others -/
def t__law_marks (K : PySem.W.Frag) : (Exn → Prop) → DTS := fun Ed => dRet (dSortSetB (dOp fAdd (dOp fAdd (dVar 0) (dVar 1)) (dLst (dCons (dC (.int 0)) dNil))))
def b__law_is_no_worse_1 (K : PySem.W.Frag) (Ed : Exn → Prop) : DTS := dSeq (dIf (dAnd (dTest (dOp fGe (dVar 2) (dC (.int 0)))) (dTest (dOp fGt (dCall (T__law_reach K) (fun e _ => Ed e) (dCons (dVar 0) (dCons (dVar 2) dNil))) (dCall (T__law_reach K) (fun e _ => Ed e) (dCons (dVar 1) (dCons (dVar 2) dNil)))))) (dRet (dC (.bl false))) dNext) (dIf (dAnd (dTest (dOp fGe (dVar 2) (dOp fIx (dVar 1) (dNeg (dC (.int 1)))))) (dTest (dOp fGt (dCall (T__law_return K) (fun e _ => Ed e) (dCons (dVar 0) (dCons (dVar 2) dNil))) (dCall (T__law_return K) (fun e _ => Ed e) (dCons (dVar 1) (dCons (dVar 2) dNil)))))) (dRet (dC (.bl false))) dNext)
/-- slots: 0 _law_levels_here, 1 _law_others, 2 _law_top -/
def t__law_is_no_worse (K : PySem.W.Frag) : (Exn → Prop) → DTS := fun Ed => dSeq (dIf (dOr (dTest (dOp fGt (dOp fIx (dVar 0) (dNeg (dC (.int 1)))) (dOp fIx (dVar 1) (dNeg (dC (.int 1)))))) (dTest (dOp fGt (dCB (fL gMax) (dCons (dVar 0) dNil)) (dCB (fL gMax) (dCons (dVar 1) dNil))))) (dRet (dC (.bl false))) dNext) (dSeq (dFor (iSeq (dCall (T__law_marks K) (fun e _ => Ed e) (dCons (dVar 0) (dCons (dVar 1) dNil)))) (.nm 2) (b__law_is_no_worse_1 K Ed)) (dRet (dC (.bl true))))
/-- slots: 0 _law_body -/
def t__law_levels (K : PySem.W.Frag) : (Exn → Prop) → DTS := fun Ed => dRet (dCall (T__law_heights K) (fun e _ => Ed e) (dCons (dCall (T__law_unrolled K 7) (fun e _ => Ed e) (dCons (dVar 0) dNil)) (dCons (dC (.int 0)) dNil)))
def e__law_near_1 (K : PySem.W.Frag) (Ed : Exn → Prop) : DT := dOp fIx (dLst (dCons (dVar 2) (dCons (dNeg (dVar 2)) dNil))) (dCall (T__law_draw K) (fun e _ => Ed e) (dCons (dVar 0) (dCons (dC (.int 2)) dNil)))
def b__law_near_2 (K : PySem.W.Frag) (Ed : Exn → Prop) : DTS := dRet (dOp fAdd (dOp fAdd (dTup (dCons (dTup (dCons (dC (.int 1)) (dCons (dSl (dVar 1) dNo (dPart (dVar 4))) dNil))) dNil)) (dSl (dVar 1) (dPart (dVar 4)) dNo)) (dTup (dCons (dTup (dCons (dC (.int 0)) (dCons (dVar 1) dNil))) dNil)))
/-- slots: 0 _law_pot_here, 1 _law_body, 2 _law_up, 3 _law_way, 4 _law_at -/
def t__law_near (K : PySem.W.Frag) : (Exn → Prop) → DTS := fun Ed => dSeq (dPar2 3 4 (dCall (T__law_draw K) (fun e _ => Ed e) (dCons (dVar 0) (dCons (dC (.int 8)) dNil))) (dCall (T__law_draw K) (fun e _ => Ed e) (dCons (dVar 0) (dCons (dOp fAdd (dCB fLen (dCons (dVar 1) dNil)) (dC (.int 1))) dNil)))) (dSeq (dAsg (dOp fAdd (dC (.int 1)) (dCall (T__law_draw K) (fun e _ => Ed e) (dCons (dVar 0) (dCons (dC (.int 3)) dNil)))) (.nm 2)) (dSeq (dIf (dTest (dOp fEq (dVar 3) (dC (.int 0)))) (dRet (dOp fAdd (dOp fAdd (dSl (dVar 1) dNo (dPart (dVar 4))) (dTup (dCons (dVar 2) (dCons (dNeg (dVar 2)) dNil)))) (dSl (dVar 1) (dPart (dVar 4)) dNo))) dNext) (dSeq (dIf (dTest (dOp fEq (dVar 3) (dC (.int 1)))) (dRet (dOp fAdd (dOp fAdd (dSl (dVar 1) dNo (dPart (dVar 4))) (dTup (dCons (dNeg (dVar 2)) (dCons (dVar 2) dNil)))) (dSl (dVar 1) (dPart (dVar 4)) dNo))) dNext) (dSeq (dIf (dTest (dOp fEq (dVar 3) (dC (.int 2)))) (dRet (dOp fAdd (dSl (dVar 1) dNo (dPart (dVar 4))) (dSl (dVar 1) (dPart (dOp fAdd (dVar 4) (dC (.int 1)))) dNo))) dNext) (dSeq (dIf (dTest (dOp fEq (dVar 3) (dC (.int 3)))) (dRet (dOp fAdd (dOp fAdd (dSl (dVar 1) dNo (dPart (dVar 4))) (dTup (dCons (e__law_near_1 K Ed) dNil))) (dSl (dVar 1) (dPart (dVar 4)) dNo))) dNext) (dSeq (dIf (dTest (dOp fEq (dVar 3) (dC (.int 4)))) (dRet (dOp fAdd (dVar 1) (dSl (dVar 1) dNo (dPart (dVar 4))))) dNext) (dSeq (dIf (dTest (dOp fEq (dVar 3) (dC (.int 5)))) (b__law_near_2 K Ed) dNext) (dRet (dIfE (dTest (dOp fEq (dVar 3) (dC (.int 6)))) (dVar 1) (dCB fTuple (dCons (dCall (T__law_mixed K) (fun e _ => Ed e) (dCons (dVar 0) (dCons (dVar 1) dNil))) dNil)))))))))))
/-- slots: 0 _law_body, 1 _law_mates, 2 _law_told, 3 _law_levels_here, 4 _law_others, 5 _law_first, 6 _law_second, 7 _law_due, 8 _law_back -/
def t__law_pair_right (K : PySem.W.Frag) : (Exn → Prop) → DTS := fun Ed => dSeq (dPar2 3 4 (dCall (T__law_levels K) (fun e _ => Ed e) (dCons (dVar 0) dNil)) (dCall (T__law_levels K) (fun e _ => Ed e) (dCons (dVar 1) dNil))) (dSeq (dPar2 5 6 (dCall (T_profile_of K) (fun e _ => Ed e) (dCons (dCall (T_Script___init__ K) (fun e _ => Ed e) (dCons (dVar 0) dNil)) dNil)) (dCall (T_profile_of K) (fun e _ => Ed e) (dCons (dCall (T_Script___init__ K) (fun e _ => Ed e) (dCons (dVar 1) dNil)) dNil))) (dSeq (dPar2 7 8 (dCall (T__law_is_no_worse K) (fun e _ => Ed e) (dCons (dVar 3) (dCons (dVar 4) dNil))) (dCall (T__law_is_no_worse K) (fun e _ => Ed e) (dCons (dVar 4) (dCons (dVar 3) dNil)))) (dSeq (dIf (dTest (dOp fNe (dCB fReprA (dCons (dLst (dCons (dMeth (ga K "Profile") "is_no_worse" (T_Profile_is_no_worse K) (fun e _ => Ed e) (dVar 5) (dCons (dVar 6) dNil)) (dCons (dMeth (ga K "Profile") "is_no_worse" (T_Profile_is_no_worse K) (fun e _ => Ed e) (dVar 6) (dCons (dVar 5) dNil)) dNil))) dNil)) (dCB fReprA (dCons (dLst (dCons (dVar 7) (dCons (dVar 8) dNil))) dNil)))) (dRet (dC (.bl false))) dNext) (dSeq (dAsg (dLst (dCons (dOp fIsN (dCall (T_worse_context K) (fun e _ => Ed e) (dCons (dVar 5) (dCons (dVar 6) dNil))) (dC .non)) (dCons (dOp fIsN (dCall (T_worse_context K) (fun e _ => Ed e) (dCons (dVar 6) (dCons (dVar 5) dNil))) (dC .non)) dNil))) (.nm 2)) (dSeq (dIf (dOr (dTest (dOp fNe (dVar 2) (dLst (dCons (dVar 7) (dCons (dVar 8) dNil))))) (dTest (dOp fNe (dCB fReprA (dCons (dOp (fEqO (ga K "Profile") (T_Profile___eq__ K)) (dVar 5) (dVar 6)) dNil)) (dCB fReprA (dCons (dAndV (dVar 7) (dVar 8)) dNil))))) (dRet (dC (.bl false))) dNext) (dSeq (dAsg (dLst (dCons (dCall (T_are_exchangeable K) (fun e _ => Ed e) (dCons (dCall (T_Script___init__ K) (fun e _ => Ed e) (dCons (dVar 0) dNil)) (dCons (dCall (T_Script___init__ K) (fun e _ => Ed e) (dCons (dVar 1) dNil)) dNil))) (dCons (dCall (T_are_exchangeable K) (fun e _ => Ed e) (dCons (dCall (T_Script___init__ K) (fun e _ => Ed e) (dCons (dVar 1) dNil)) (dCons (dCall (T_Script___init__ K) (fun e _ => Ed e) (dCons (dVar 0) dNil)) dNil))) dNil))) (.nm 2)) (dRet (dOp fEq (dCB fReprA (dCons (dVar 2) dNil)) (dCB fReprA (dCons (dOp fMul (dLst (dCons (dAndV (dVar 7) (dVar 8)) dNil)) (dC (.int 2))) dNil))))))))))
def b__law_right_1 (K : PySem.W.Frag) (Ed : Exn → Prop) : DTS := dAsg (dCall (T__law_near K) (fun e _ => Ed e) (dCons (dVar 0) (dCons (dVar 3) dNil))) (.nm 3)
def b__law_right_2 (K : PySem.W.Frag) (Ed : Exn → Prop) : DTS := dSeq (dAsg (dCall (T__law_elements K 5) (fun e _ => Ed e) (dCons (dVar 0) (dCons (dC (.int 12)) (dCons (dC (.int 3)) dNil)))) (.nm 2)) (dSeq (dAsg (dIfE (dTest (dOp fGt (dCall (T__law_draw K) (fun e _ => Ed e) (dCons (dVar 0) (dCons (dC (.int 5)) dNil))) (dC (.int 0)))) (dVar 2) (dCall (T__law_elements K 5) (fun e _ => Ed e) (dCons (dVar 0) (dCons (dC (.int 12)) (dCons (dC (.int 3)) dNil))))) (.nm 3)) (dSeq (dFor (iRange1 (dCons (dCall (T__law_draw K) (fun e _ => Ed e) (dCons (dVar 0) (dCons (dC (.int 4)) dNil))) dNil)) (.nm 4) (b__law_right_1 K Ed)) (dIf (dNot (dTest (dCall (T__law_pair_right K) (fun e _ => Ed e) (dCons (dVar 2) (dCons (dVar 3) dNil))))) (dRet (dC (.bl false))) dNext)))
/-- slots: 0 _law_pot_here, 1 _law_turn, 2 _law_body, 3 _law_mates, 4 _law_change -/
def t__law_right (K : PySem.W.Frag) : (Exn → Prop) → DTS := fun Ed => dSeq (dFor (iRange1 (dCons (dC (.int 4)) dNil)) (.nm 1) (b__law_right_2 K Ed)) (dRet (dC (.bl true)))
def e_law_1 (K : PySem.W.Frag) (Ed : Exn → Prop) : DT := dCall (T__law_right K) wNo (dCons (dCall (T__law_pot K) wNo (dCons (dVar 0) (dCons (dVar 1) dNil))) dNil)
def e_law_2 (K : PySem.W.Frag) (Ed : Exn → Prop) : DT := dStay (fLc (iRange1 (dCons (dCB fMax2 (dCons (dC (.int 1)) (dCons (dCB fMin2 (dCons (dCB fLen (dCons (dVar 0) dNil)) (dCons (dC (.int 5)) dNil))) dNil))) dNil)) (.nm 1) dYes (e_law_1 K Ed) [1])
/-- slots: 0 _law_script, 1 _law_k -/
def t_law (K : PySem.W.Frag) : (Exn → Prop) → DTS := fun Ed => dRet (dCB fAll (dCons (e_law_2 K Ed) dNil))
end K41

namespace K41
open PySem.Spec PySem L2 PyProof.Rows FG
open He (ga ma Fa Dv)
@[local simp] theorem isI_i {i : Int} : isI (.int i) = true := rfl
@[local simp] theorem isI_b {b : Bool} : isI (.bl b) = false := rfl
@[local simp] theorem isI_n : isI .non = false := rfl
@[local simp] theorem isI_s {s : Str} : isI (.str s) = false := rfl
@[local simp] theorem isI_t {xs : List D} : isI (.tup xs) = false := rfl
@[local simp] theorem isI_l {xs : List D} : isI (.lst xs) = false := rfl
@[local simp] theorem isI_r {xs : List Int} : isI (.scr xs) = false := rfl
@[local simp] theorem cpow_ok {i j : Int} : CPow i j = (0 ≤ j ∧ j ≤ 1000000 ∧ i.natAbs < 2 ^ 64) := rfl
theorem dPts_cons (p : Pt) (ps : List Pt) : dPts (p :: ps) = dPt p :: dPts ps := by rw [dPts]
theorem dPts_nil : dPts [] = [] := by rw [dPts]
theorem dPt_step (i : Int) : dPt (.step i) = .int i := by rw [dPt]
theorem dPt_loop (r : Int) (ps : List Pt) : dPt (.loop r ps) = .tup [.int r, .tup (dPts ps)] := by rw [dPt]
theorem dPts_map : ∀ ps : List Pt, dPts ps = ps.map dPt
  | [] => dPts_nil
  | p :: ps => by rw [dPts_cons, dPts_map ps, List.map_cons]
theorem dPts_app (ps qs : List Pt) : dPts (ps ++ qs) = dPts ps ++ dPts qs := by rw [dPts_map, dPts_map, dPts_map, List.map_append]
theorem dPts_len (ps : List Pt) : (dPts ps).length = ps.length := by rw [dPts_map, List.length_map]
theorem mem_dPts {x : D} {ps : List Pt} (h : x ∈ dPts ps) : ∃ p ∈ ps, x = dPt p := by
  rw [dPts_map] at h
  obtain ⟨p, hp, rfl⟩ := List.mem_map.mp h
  exact ⟨p, hp, rfl⟩
theorem dep_mem : ∀ {ps : List Pt} {p : Pt}, p ∈ ps → p.dep ≤ depL ps
  | q :: qs, p, h => by
    rw [depL_cons]
    rcases List.mem_cons.mp h with rfl | h
    · omega
    · have := dep_mem h
      omega
theorem ok_mem : ∀ {ps : List Pt} {p : Pt}, p ∈ ps → okL ps → p.ok
  | q :: qs, p, h, k => by
    rw [okL_cons] at k
    rcases List.mem_cons.mp h with rfl | h
    · exact k.1
    · exact ok_mem h k.2
section
variable {K : PySem.W.Frag} {ds : List D} {Q : D → Prop} {Ed : Exn → Prop}
theorem gs_tp {ts : List Tgt} {t : DT} {b : DTS} {De : DEnds} {δ : DSt} (es : List D) (h : ∀ k : D → Prop, k (.tup es) → t δ k) (q : gTs ts es δ (b De)) : dSeq (dAsg t (.tp ts)) b De δ := h _ (by rw [gT_t]; exact q)
/-- the slots of a def's start -/
abbrev st0 (N : List Str) (ds : List D) : DSt := ds.map (fun d => some (.val d)) ++ List.replicate (N.length - ds.length) none
abbrev en (Q : D → Prop) : DEnds := { nx := fun _ => Q .non, rt := Q }
theorem rd_is_integer (h : T_is_integer K ds Q Ed) : t_is_integer K Ed (en Q) (st0 N_is_integer ds) := by
  obtain ⟨d, t, rfl, h, q⟩ := h
  unfold t_is_integer
  cases d <;> simp at h <;> subst h <;> simp <;> simpa using q
theorem rd_is_integer_from (h : T_is_integer_from K ds Q Ed) : t_is_integer_from K Ed (en Q) (st0 N_is_integer_from ds) := by
  obtain ⟨v, a, b, rfl, q⟩ := h
  unfold t_is_integer_from
  simp
  refine ⟨_, _, rfl, rfl, ?_⟩
  by_cases h1 : a ≤ v
  · simpa [h1] using q
  · simpa [h1] using q
theorem ev_is_part {n : Nat} {r : Int} {ps : List Pt} {d : Nat} {Q : D → Prop} {x0 : Option SV} (hd : depL ps ≤ d) (hn : depL ps < n) (ho : okL ps) (q : Q (.bl true)) : dCB fAll (dCons (e_is_part_1 K n Ed) dNil) [x0, some (.val (.int ((d + 1 : Nat) : Int))), some (.val (.int r)), some (.val (.tup (dPts ps))), none] Q := by
  unfold e_is_part_1
  simp
  refine lcl_map (fun _ => .bl true) (fun x hx R hR => ?_) ?_
  · obtain ⟨p, hp, rfl⟩ := mem_dPts hx
    have h1 := dep_mem hp
    have h2 := ok_mem hp ho
    simp [wipeD]
    exact ⟨p, d, rfl, by omega, by omega, h2, hR⟩
  · refine ⟨(dPts ps).map fun _ => true, ?_, ?_⟩
    · have := asBls_map ((dPts ps).map fun _ => true)
      rwa [List.map_map] at this
    · have : ((dPts ps).map fun _ => true).all id = true := by simp
      rw [this]
      exact q
theorem rd_is_part {n : Nat} (h : T_is_part K (n + 1) ds Q Ed) : t_is_part K n Ed (en Q) (st0 N_is_part ds) := by
  obtain ⟨p, d, rfl, h1, h2, h3, q⟩ := h
  unfold t_is_part
  cases p with
  | step i =>
    rw [dPt_step]
    show dSeq _ _ _ [some (.val (.int i)), some (.val (.int d)), none, none, none]
    refine go_seq (go_if_t (fun k hk => ?_) q)
    simp
    exact ⟨_, _, rfl, rfl, hk⟩
  | loop r ps =>
    rw [dep_loop] at h1 h2
    rw [ok_loop] at h3
    obtain ⟨e, rfl⟩ : ∃ e, d = e + 1 := ⟨d - 1, by omega⟩
    rw [dPt_loop]
    show dSeq _ _ _ [some (.val (.tup [.int r, .tup (dPts ps)])), some (.val (.int (e + 1 : Nat))), none, none, none]
    refine gs_next (fun k hk => ?_) ?_
    · simp
      exact ⟨_, _, rfl, rfl, hk⟩
    refine gs_next (fun k hk => ?_) ?_
    · have e0 : ((e : Int) + 1 = 0) = False := by simp; omega
      simp [e0]
      exact hk
    refine gs_tp [.int r, .tup (dPts ps)] (fun k hk => go_var rfl hk) ?_
    simp only [gTs_c, gTs_n, gT_n]
    show dSeq _ _ _ [some (.val (.tup [.int r, .tup (dPts ps)])), some (.val (.int (e + 1 : Nat))), some (.val (.int r)), some (.val (.tup (dPts ps))), none]
    refine gs_next (fun k hk => ?_) ?_
    · simp
      refine ⟨_, _, _, rfl, ?_⟩
      simp [h3.1, h3.2.1]
      exact hk
    exact ev_is_part (by omega) (by omega) h3.2.2 q
theorem ev_are_parts {ps : List Pt} {x : D} {Q : D → Prop} (hx : As x ps) (hn : depL ps ≤ 6) (ho : okL ps) (q : Q (.bl true)) : dCB fAll (dCons (e_are_parts_1 K Ed) dNil) [some (.val x), none] Q := by
  unfold e_are_parts_1
  rcases hx with rfl | rfl <;>
  · simp
    refine lcl_map (fun _ => .bl true) (fun x hx R hR => ?_) ?_
    · obtain ⟨p, hp, rfl⟩ := mem_dPts hx
      have h1 := dep_mem hp
      have h2 := ok_mem hp ho
      simp [wipeD]
      exact ⟨p, 6, rfl, by omega, by omega, h2, hR⟩
    · refine ⟨(dPts ps).map fun _ => true, ?_, ?_⟩
      · have := asBls_map ((dPts ps).map fun _ => true)
        rwa [List.map_map] at this
      · have : ((dPts ps).map fun _ => true).all id = true := by simp
        rw [this]
        exact q
theorem rd_are_parts (h : T_are_parts K ds Q Ed) : t_are_parts K Ed (en Q) (st0 N_are_parts ds) := by
  obtain ⟨x, ps, rfl, hx, h1, h2, q⟩ := h
  unfold t_are_parts
  show dAndV _ _ [some (.val x), none] Q
  have e := ev_are_parts (K := K) (Ed := Ed) hx h1 h2 q
  generalize dCB fAll (dCons (e_are_parts_1 K Ed) dNil) = t at e ⊢
  rcases hx with rfl | rfl <;>
  · simp
    exact e
/-! sizes -/
theorem Fit.tail {p : Pt} {ps : List Pt} (h : Fit (p :: ps)) : Fit ps := by
  obtain ⟨a, b, c, d⟩ := h
  rw [okL_cons] at a
  rw [depL_cons] at b
  rw [clL_cons] at c
  rw [unrollL_cons] at d
  exact ⟨a.2, by omega, by omega, fun x hx => d x (List.mem_append_right _ hx)⟩
theorem Fit.bds {ps : List Pt} (h : Fit ps) : Bd (unrollL ps) := ⟨unrollL_79 h.ok h.dep h.cl, h.bd⟩
theorem mul_size {r : Int} {ps : List Pt} (h0 : 0 ≤ r) (h1 : r ≤ 1000000000000) (ho : okL ps) (hd : depL ps ≤ 6) (hc : clL ps ≤ 10000000) : CMulX r (unrollL ps).length := by
  refine cmulx 40 270 (by omega) ?_ (by decide)
  rw [Int.natAbs_natCast]
  exact Nat.lt_of_le_of_lt (unrollL_79 ho hd hc) (by decide +kernel)
theorem len_loop {r : Int} {ps : List Pt} (h0 : 0 ≤ r) : (((Pt.loop r ps).unroll.length : Nat) : Int) = r * (unrollL ps).length := by
  rw [unroll_loop, rep_lenZ, Int.toNat_of_nonneg h0]
theorem rd_size_of {n : Nat} (h : T_size_of K (n + 1) ds Q Ed) : t_size_of K n Ed (en Q) (st0 N_size_of ds) := by
  obtain ⟨ps, rfl, h1, h2, h3, h4, q⟩ := h
  unfold t_size_of
  have loop : ∀ (qs : List Pt) (f : Int) (o : Option SV), depL qs < n + 1 → depL qs ≤ 6 → clL qs ≤ 10000000 → okL qs → Q (.int (f + (unrollL qs).length)) → dLoop (.nm 2) (b_size_of_1 K n Ed) { nx := dRet (dVar 1) (en Q), rt := Q } (dPts qs) [some (.val (.tup (dPts ps))), some (.val (.int f)), o] := by
    intro qs
    induction qs with
    | nil =>
      intro f o _ _ _ _ q
      rw [unrollL_nil] at q
      simp [dPts_nil, dLoop]
      simpa using q
    | cons p qs ih =>
      intro f o k1 k2 k3 k4 q
      rw [depL_cons] at k1 k2
      rw [clL_cons] at k3
      rw [okL_cons] at k4
      rw [dPts_cons]
      rw [unrollL_cons, List.length_append] at q
      cases p with
      | step i =>
        rw [unroll_step] at q
        have := ih (f + 1) (some (.val (.int i))) (by omega) (by omega) (by omega) k4.2 (by
          rw [show f + 1 + ((unrollL qs).length : Int) = f + (([i].length + (unrollL qs).length : Nat) : Int) by simp only [List.length_singleton]; omega]
          exact q)
        simp [dLoop, b_size_of_1, dPt_step] at this ⊢
        exact this
      | loop r rs =>
        rw [ok_loop] at k4
        rw [dep_loop] at k1 k2
        rw [cl_loop] at k3
        have lr := len_loop (ps := rs) k4.1.1
        have := ih (f + r * (unrollL rs).length) (some (.val (.tup [.int r, .tup (dPts rs)]))) (by omega) (by omega) (by omega) k4.2 (by
          rw [Int.natCast_add, lr, ← Int.add_assoc] at q
          exact q)
        simp [dLoop, b_size_of_1, dPt_loop] at this ⊢
        exact ⟨rs, rfl, by omega, by omega, by omega, k4.1.2.2, mul_size k4.1.1 k4.1.2.1 k4.1.2.2 (by omega) (by omega), this⟩
  show dSeq _ _ _ [some (.val (.tup (dPts ps))), none, none]
  refine gs_asg (.int 0) (fun k hk => hk) ?_
  refine go_seq ?_
  simp only [dFor, iSeq]
  exact go_var (d := .tup (dPts ps)) rfl (loop ps 0 none h1 h2 h3 h4 (by rwa [Int.zero_add]))
theorem rd_depth_of {n : Nat} (h : T_depth_of K (n + 1) ds Q Ed) : t_depth_of K n Ed (en Q) (st0 N_depth_of ds) := by
  obtain ⟨ps, rfl, h1, q⟩ := h
  unfold t_depth_of
  have loop : ∀ (qs : List Pt) (f : Nat) (o : Option SV), depL qs < n + 1 → Q (.int (max f (depL qs) : Nat)) → dLoop (.nm 2) (b_depth_of_2 K n Ed) { nx := dRet (dVar 1) (en Q), rt := Q } (dPts qs) [some (.val (.tup (dPts ps))), some (.val (.int f)), o] := by
    intro qs
    induction qs with
    | nil =>
      intro f o _ q
      rw [depL_nil] at q
      simp [dPts_nil, dLoop]
      simpa using q
    | cons p qs ih =>
      intro f o k1 q
      rw [depL_cons] at k1 q
      rw [dPts_cons]
      cases p with
      | step i =>
        rw [dep_step] at q
        have := ih f (some (.val (.int i))) (by omega) (by
          rw [show max f (depL qs) = max f (max 0 (depL qs)) by omega]
          exact q)
        simp [dLoop, b_depth_of_2, dPt_step] at this ⊢
        exact this
      | loop r rs =>
        rw [dep_loop] at k1 q
        have := ih (max f (depL rs + 1)) (some (.val (.tup [.int r, .tup (dPts rs)]))) (by omega) (by
          rw [show max (max f (depL rs + 1)) (depL qs) = max f (max (depL rs + 1) (depL qs)) by omega]
          exact q)
        simp only [dLoop, dPt_loop, gT_n]
        unfold b_depth_of_2
        refine go_if_t (fun k hk => by simpa using hk) ?_
        unfold b_depth_of_1
        refine go_asg (.int (max f (depL rs + 1) : Nat)) (fun k hk => ?_) this
        simp
        refine ⟨rs, rfl, by omega, ?_⟩
        have e : (if (f : Int) < 1 + (depL rs : Int) then 1 + (depL rs : Int) else (f : Int)) = ((max f (depL rs + 1) : Nat) : Int) := by split <;> omega
        show k (.int (if (1 + (depL rs : Int)) > (f : Int) then 1 + (depL rs : Int) else (f : Int)))
        rw [show (if (1 + (depL rs : Int)) > (f : Int) then 1 + (depL rs : Int) else (f : Int)) = ((max f (depL rs + 1) : Nat) : Int) from e]
        exact hk
  show dSeq _ _ _ [some (.val (.tup (dPts ps))), none, none]
  refine gs_asg (.int 0) (fun k hk => hk) ?_
  refine go_seq ?_
  simp only [dFor, iSeq]
  exact go_var (d := .tup (dPts ps)) rfl (loop ps 0 none h1 (by rwa [Nat.zero_max]))
theorem rd_all_parts {n : Nat} (h : T_all_parts K (n + 1) ds Q Ed) : t_all_parts K n Ed (en Q) (st0 N_all_parts ds) := by
  obtain ⟨ps, rfl, h1, h2, q⟩ := h
  unfold t_all_parts
  have loop : ∀ (qs fs : List Pt) (o : Option SV), depL qs < n + 1 → fs.length + clL qs ≤ 10000000 → Q (.lst (dPts (fs ++ flatL qs))) → dLoop (.nm 2) (b_all_parts_1 K n Ed) { nx := dRet (dVar 1) (en Q), rt := Q } (dPts qs) [some (.val (.tup (dPts ps))), some (.val (.lst (dPts fs))), o] := by
    intro qs
    induction qs with
    | nil =>
      intro fs o _ _ q
      rw [flatL_nil, List.append_nil] at q
      simp [dPts_nil, dLoop]
      exact q
    | cons p qs ih =>
      intro fs o k1 k2 q
      rw [depL_cons] at k1
      rw [clL_cons] at k2
      rw [flatL_cons, ← List.append_assoc] at q
      rw [dPts_cons]
      cases p with
      | step i =>
        rw [flat_step] at q
        rw [cl_step] at k2
        have := ih (fs ++ [.step i]) (some (.val (.int i))) (by omega) (by rw [List.length_append, List.length_singleton]; omega) q
        rw [dPts_app, dPts_cons, dPts_nil, dPt_step] at this
        simp [dLoop, b_all_parts_1, dPt_step, dStar, fLstS] at this ⊢
        exact ⟨by rw [sizeLine_eq, dPts_len]; omega, this⟩
      | loop r rs =>
        rw [dep_loop] at k1
        rw [cl_loop] at k2
        rw [flat_loop] at q
        have fl := flatL_cl rs
        have := ih (fs ++ .loop r rs :: flatL rs) (some (.val (.tup [.int r, .tup (dPts rs)]))) (by omega) (by rw [List.length_append, List.length_cons]; omega) q
        rw [dPts_app, dPts_cons, dPt_loop] at this
        simp [dLoop, b_all_parts_1, dPt_loop, dStar, fLstS] at this ⊢
        exact ⟨rs, rfl, by omega, by omega, by rw [sizeLine_eq, dPts_len, dPts_len]; omega, this⟩
  show dSeq _ _ _ [some (.val (.tup (dPts ps))), none, none]
  refine gs_asg (.lst (dPts [])) (fun k hk => by rw [dPts_nil] at hk; exact hk) ?_
  refine go_seq ?_
  simp only [dFor, iSeq]
  exact go_var (d := .tup (dPts ps)) rfl (loop ps [] none h1 (by simpa using h2) q)
end
end K41

namespace K41
open PySem.Spec PySem L2 PyProof.Rows FG
open He (ga ma Fa Dv)
section
variable {K : PySem.W.Frag} {ds : List D} {Q : D → Prop} {Ed : Exn → Prop}
@[local simp] theorem ne_ps : (Str.ofString "own_parts" = Str.ofString "own_size") = False := by decide +kernel
@[local simp] theorem ne_pd : (Str.ofString "own_parts" = Str.ofString "own_depth") = False := by decide +kernel
@[local simp] theorem ne_pf : (Str.ofString "own_parts" = Str.ofString "own_flat") = False := by decide +kernel
@[local simp] theorem ne_sd : (Str.ofString "own_size" = Str.ofString "own_depth") = False := by decide +kernel
@[local simp] theorem ne_sf : (Str.ofString "own_size" = Str.ofString "own_flat") = False := by decide +kernel
@[local simp] theorem ne_df : (Str.ofString "own_depth" = Str.ofString "own_flat") = False := by decide +kernel
@[local simp] theorem nb_sp : (Str.ofString "own_size" == Str.ofString "own_parts") = false := by decide +kernel
@[local simp] theorem nb_pp : (Str.ofString "parts" == Str.ofString "own_parts") = false := by decide +kernel
@[local simp] theorem nb_ps : (Str.ofString "parts" == Str.ofString "own_size") = false := by decide +kernel
@[local simp] theorem nb_pd : (Str.ofString "parts" == Str.ofString "own_depth") = false := by decide +kernel
@[local simp] theorem nb_pf : (Str.ofString "parts" == Str.ofString "own_flat") = false := by decide +kernel
theorem go_setF {C : Addr} {f : Str} {i : Nat} {t : DT} {De : DEnds} {δ : DSt} {fs : List (Str × D)} (d : D) (h : ∀ k : D → Prop, k d → t δ k) (e : δ[i]? = some (some (.inst C fs))) (l : fs.length < 1000) (q : De.nx (δ.set i (some (.inst C (putD f d fs))))) : dSetF i C f t De δ := h _ (by rw [e]; exact ⟨rfl, l, q⟩)
theorem gs_setF {C : Addr} {f : Str} {i : Nat} {t : DT} {b : DTS} {De : DEnds} {δ : DSt} {fs : List (Str × D)} (d : D) (h : ∀ k : D → Prop, k d → t δ k) (e : δ[i]? = some (some (.inst C fs))) (l : fs.length < 1000) (q : b De (δ.set i (some (.inst C (putD f d fs))))) : dSeq (dSetF i C f t) b De δ := h _ (by rw [e]; exact ⟨rfl, l, q⟩)
theorem gs_drop {t : DT} {b : DTS} {De : DEnds} {δ : DSt} (d : D) (h : ∀ k : D → Prop, k d → t δ k) (q : b De δ) : dSeq (dDrop t) b De δ := h _ q
theorem gs_if_t {c : DTT} {a a' b : DTS} {De : DEnds} {δ : DSt} (h : ∀ k : Bool → Prop, k true → c (FG.view δ) k) (q : a { De with nx := b De } δ) : dSeq (dIf c a a') b De δ := h _ (by rw [if_pos rfl]; exact q)
theorem As.tuple {x : D} {ps : List Pt} {R : D → Prop} (h : As x ps) (q : R (.tup (dPts ps))) : fTuple [x] R := by
  rcases h with rfl | rfl <;> exact q
theorem rd_Script___init__ (h : T_Script___init__ K ds Q Ed) : t_Script___init__ K Ed { nx := endI (ga K "Script") Q, rt := fun _ => False } (some (.inst (ga K "Script") []) :: (ds.map (fun d => some (.val d)) ++ List.replicate (N_Script___init__.length - (ds.length + 1)) none)) := by
  obtain ⟨x, ps, rfl, hx, h1, h2, h3, q⟩ := h
  unfold t_Script___init__
  show dSeq _ _ _ [some (.inst (ga K "Script") []), some (.val x)]
  refine gs_next (fun k hk => ⟨x, ps, rfl, hx, h1, h3, hk⟩) ?_
  refine gs_setF (.tup (dPts ps)) (fun k hk => hx.tuple hk) rfl (by simp) ?_
  show dSeq _ _ _ [some (.inst (ga K "Script") [("own_parts", .tup (dPts ps))]), some (.val x)]
  refine gs_setF (.int (unrollL ps).length) (fun k hk => ⟨rfl, ps, rfl, by omega, h1, h2, h3, hk⟩) rfl (by simp) ?_
  simp only [putD_c, putD_n, ne_ps, if_false]
  show dSeq _ _ _ [some (.inst (ga K "Script") [("own_parts", .tup (dPts ps)), ("own_size", .int (unrollL ps).length)]), some (.val x)]
  refine gs_setF (.int (depL ps)) (fun k hk => ⟨rfl, ps, rfl, by omega, hk⟩) rfl (by simp) ?_
  simp only [putD_c, putD_n, ne_pd, ne_sd, if_false]
  show dSetF _ _ _ _ _ [some (.inst (ga K "Script") [("own_parts", .tup (dPts ps)), ("own_size", .int (unrollL ps).length), ("own_depth", .int (depL ps))]), some (.val x)]
  refine go_setF (.lst (dPts (flatL ps))) (fun k hk => ⟨rfl, ps, rfl, by omega, h2, hk⟩) rfl (by simp) ?_
  simp only [putD_c, putD_n, ne_pf, ne_sf, ne_df, if_false]
  exact ⟨rfl, q⟩
theorem rd_Script_parts (h : T_Script_parts K ds Q Ed) : t_Script_parts K Ed (en Q) (st0 N_Script_parts ds) := by
  obtain ⟨ps, rfl, q⟩ := h
  exact ⟨rfl, q⟩
end
end K41

namespace K41
open PySem.Spec PySem L2 PyProof.Rows FG
open He (ga ma Fa Dv)
section
variable {K : PySem.W.Frag} {ds : List D} {Q : D → Prop} {Ed : Exn → Prop}
theorem gs_par2 {i j : Nat} {ta tb : DT} {b : DTS} {De : DEnds} {δ : DSt} (u v : D) (h1 : ∀ k : D → Prop, k u → ta δ k) (h2 : ∀ k : D → Prop, k v → tb δ k) (q : b De ((δ.set i (some (.val u))).set j (some (.val v)))) : dSeq (dPar2 i j ta tb) b De δ := h1 _ (h2 _ q)
theorem gs_if_f {c : DTT} {a a' b : DTS} {De : DEnds} {δ : DSt} (h : ∀ k : Bool → Prop, k false → c (FG.view δ) k) (q : a' { De with nx := b De } δ) : dSeq (dIf c a a') b De δ := h _ (by rw [if_neg Bool.false_ne_true]; exact q)
/-! expressions, one by one -/
theorem t_and_t {t u : DTT} {δ : DSt} {k : Bool → Prop} (h : ∀ k : Bool → Prop, k true → t δ k) (q : u δ k) : dAnd t u δ k := h _ (by rw [if_pos rfl]; exact q)
theorem t_and_f {t u : DTT} {δ : DSt} {k : Bool → Prop} (h : ∀ k : Bool → Prop, k false → t δ k) (q : k false) : dAnd t u δ k := h _ (by rw [if_neg Bool.false_ne_true]; exact q)
theorem ife_t {c : DTT} {ta tb : DT} {δ : DSt} {k : D → Prop} (h : ∀ k : Bool → Prop, k true → c (FG.view δ) k) (q : ta δ k) : dIfE c ta tb δ k := h _ (by rw [if_pos rfl]; exact q)
theorem ife_f {c : DTT} {ta tb : DT} {δ : DSt} {k : D → Prop} (h : ∀ k : Bool → Prop, k false → c (FG.view δ) k) (q : tb δ k) : dIfE c ta tb δ k := h _ (by rw [if_neg Bool.false_ne_true]; exact q)
theorem cons_v {ta : DT} {tr : DTA} {δ : DSt} {k : List D → Prop} (v : D) (h : ∀ k : D → Prop, k v → ta δ k) (q : tr δ fun xs => k (v :: xs)) : dCons ta tr δ k := h _ q
theorem call_v {T : DSp} {W : XW} {te : DTA} {δ : DSt} {k : D → Prop} (es : List D) (h : ∀ k : List D → Prop, k es → te δ k) (q : T es k fun e => W e δ) : dCall T W te δ k := h _ q
theorem op_v {f : F2} {ta tb : DT} {δ : DSt} {k : D → Prop} (u v : D) (h1 : ∀ k : D → Prop, k u → ta δ k) (h2 : ∀ k : D → Prop, k v → tb δ k) (q : f u v k) : dOp f ta tb δ k := h1 _ (h2 _ q)
theorem lt_v {i j : Int} {b : Bool} {δ : DSt} {ta tb : DT} {k : Bool → Prop} (h1 : ∀ k : D → Prop, k (.int i) → ta δ k) (h2 : ∀ k : D → Prop, k (.int j) → tb δ k) (e : decide (i < j) = b) (q : k b) : dTest (dOp fLt ta tb) δ k := h1 _ (h2 _ (by subst e; exact q))
theorem gt_v {i j : Int} {b : Bool} {δ : DSt} {ta tb : DT} {k : Bool → Prop} (h1 : ∀ k : D → Prop, k (.int i) → ta δ k) (h2 : ∀ k : D → Prop, k (.int j) → tb δ k) (e : decide (j < i) = b) (q : k b) : dTest (dOp fGt ta tb) δ k := h1 _ (h2 _ (by subst e; exact q))
theorem ix_v {xs : List D} {i : Int} {d : D} {R : D → Prop} (h : L2.atI xs i = some d) (q : R d) : fIx (.tup xs) (.int i) R := by rw [fIx_t, h]; exact q
theorem ixl_v {xs : List D} {i : Int} {d : D} {R : D → Prop} (h : L2.atI xs i = some d) (q : R d) : fIx (.lst xs) (.int i) R := by rw [fIx_l, h]; exact q
theorem outD_nil : outD [] = .tup ([0, 0, 0, 0, 0].map D.int) := rfl
theorem outD_one (i : Int) : outD [i] = .tup [.int 1, .int i, .int (if 0 > i then 0 else i), .int (if 0 < i then 0 else i), .int (if i ≤ 0 then 1 else 0)] := by
  unfold outD
  rw [hi_one, lo_one, la_one, List.sum_cons, List.sum_nil, Int.add_zero]
  rfl
theorem out_0 {xs : List Int} {R : D → Prop} (q : R (.int xs.length)) : fIx (outD xs) (.int 0) R := by
  unfold outD
  rw [fIx_t, atI_0]
  exact q
theorem out_1 {xs : List Int} {R : D → Prop} (q : R (.int xs.sum)) : fIx (outD xs) (.int 1) R := by
  unfold outD
  rw [fIx_t, atI_1]
  exact q
theorem out_2 {xs : List Int} {R : D → Prop} (q : R (.int (hiW xs))) : fIx (outD xs) (.int 2) R := by
  unfold outD
  rw [fIx_t, atI_2]
  exact q
theorem out_3 {xs : List Int} {R : D → Prop} (q : R (.int (loW xs))) : fIx (outD xs) (.int 3) R := by
  unfold outD
  rw [fIx_t, atI_3]
  exact q
theorem Fit.head {p : Pt} {ps : List Pt} (h : Fit (p :: ps)) : p.ok ∧ p.dep ≤ 6 ∧ p.cl ≤ 10000000 ∧ Bd p.unroll := by
  have hb := h.bds
  obtain ⟨a, b, c, d⟩ := h
  rw [okL_cons] at a
  rw [depL_cons] at b
  rw [clL_cons] at c
  rw [unrollL_cons] at hb
  exact ⟨a.1, by omega, by omega, hb.left⟩
theorem cdivw {i : Int} {n : Nat} (h0 : 0 < n) (h : n ≤ 10 ^ 80) : CDivW i (n : Int) := by
  refine wide_div (b := 270) (by omega) ?_ (by decide) (by decide)
  rw [Int.natAbs_natCast]
  exact Nat.lt_of_le_of_lt h (by decide +kernel)
theorem cdivr {i r : Int} (h0 : 0 < r) (h : r ≤ 1000000000000) : CDivW i r := wide_div (b := 40) h0 (by omega) (by decide) (by decide)
theorem ext_ok {i : Nat} {t : DT} {De : DEnds} {δ : DSt} {fs : List D} (Y : List D → Prop) (e : δ[i]? = some (some (.own fs))) (h : ∀ k : D → Prop, (∀ gs, Y gs → k (.lst gs)) → t δ k) (q : ∀ gs, Y gs → fs.length + gs.length ≤ sizeLine ∧ De.nx (δ.set i (some (.own (fs ++ gs))))) : dExt i t De δ := by
  unfold dExt
  rw [e]
  exact h _ fun gs hg => q gs hg
theorem app_ok {i : Nat} {t : DT} {De : DEnds} {δ : DSt} {fs : List D} (d : D) (e : δ[i]? = some (some (.own fs))) (h : ∀ k : D → Prop, k d → t δ k) (q : fs.length < sizeLine ∧ De.nx (δ.set i (some (.own (fs ++ [d]))))) : dApp i t De δ := by
  unfold dApp
  rw [e]
  exact h _ q
end
end K41

namespace K41
open PySem.Spec PySem L2 PyProof.Rows FG
open He (ga ma Fa Dv)
section
variable {K : PySem.W.Frag} {ds : List D} {Q : D → Prop} {Ed : Exn → Prop}
theorem go_ret' {t : DT} {De : DEnds} {δ : DSt} (h : t (FG.view δ) De.rt) : dRet t De δ := h
theorem op_v' {f : F2} {ta tb : DT} {δ : DSt} {k : D → Prop} (Y Z : D → Prop) (h1 : ∀ k : D → Prop, (∀ v, Y v → k v) → ta δ k) (h2 : ∀ k : D → Prop, (∀ v, Z v → k v) → tb δ k) (q : ∀ u v, Y u → Z v → f u v k) : dOp f ta tb δ k := h1 _ fun u hu => h2 _ fun v hv => q u v hu hv
theorem tup_v {te : DTA} {δ : DSt} {k : D → Prop} (es : List D) (h : ∀ k : List D → Prop, k es → te δ k) (q : k (.tup es)) : dTup te δ k := h _ q
theorem ite_no (P : Prop) [Decidable P] : (if (!decide P) = true then (1 : Int) else 0) = if P then 0 else 1 := by by_cases h : P <;> simp [h]
theorem eq_v {i j : Int} {b : Bool} {δ : DSt} {ta tb : DT} {k : Bool → Prop} (h1 : ∀ k : D → Prop, k (.int i) → ta δ k) (h2 : ∀ k : D → Prop, k (.int j) → tb δ k) (e : decide (i = j) = b) (q : k b) : dTest (dOp fEq ta tb) δ k := h1 _ (h2 _ (by subst e; exact q))
theorem mul_v {i j m : Int} {δ : DSt} {ta tb : DT} {k : D → Prop} (h1 : ∀ k : D → Prop, k (.int i) → ta δ k) (h2 : ∀ k : D → Prop, k (.int j) → tb δ k) (c : CMulX i j) (e : i * j = m) (q : k (.int m)) : dOp fMul ta tb δ k := h1 _ (h2 _ ⟨c, by subst e; exact q⟩)
theorem sub_v {i j m : Int} {δ : DSt} {ta tb : DT} {k : D → Prop} (h1 : ∀ k : D → Prop, k (.int i) → ta δ k) (h2 : ∀ k : D → Prop, k (.int j) → tb δ k) (e : i - j = m) (q : k (.int m)) : dOp fSub ta tb δ k := h1 _ (h2 _ (by subst e; exact q))
theorem add_v {i j m : Int} {δ : DSt} {ta tb : DT} {k : D → Prop} (h1 : ∀ k : D → Prop, k (.int i) → ta δ k) (h2 : ∀ k : D → Prop, k (.int j) → tb δ k) (e : i + j = m) (q : k (.int m)) : dOp fAdd ta tb δ k := h1 _ (h2 _ (by subst e; exact q))
end
end K41

namespace K41
open PySem.Spec PySem L2 PyProof.Rows FG
open He (ga ma Fa Dv)
section
variable {K : PySem.W.Frag} {ds : List D} {Q : D → Prop} {Ed : Exn → Prop}
@[local simp] theorem cpow_ok' {i j : Int} : CPow i j = (0 ≤ j ∧ j ≤ 1000000 ∧ i.natAbs < 2 ^ 64) := rfl
theorem draw_ok {n : Int} {R : D → Prop} {E : Exn → Prop} (h0 : 0 < n) (h1 : n ≤ 10 ^ 100) (h : ∀ d : Int, 0 ≤ d → d < n → R (.int d)) : T_draw [.pot, .int n] R E := by
  refine ⟨n, rfl, h0, ?_, h⟩
  have : n.natAbs < 2 ^ 400 := by
    have : (10 : Int) ^ 100 < 2 ^ 400 := by decide +kernel
    omega
  by_cases z : n.natAbs = 0
  · rw [z]; decide
  · exact Nat.lt_trans ((Nat.log2_lt z).mpr this) (by decide)
theorem rd__law_pot (h : T__law_pot K ds Q Ed) : t__law_pot K Ed (en Q) (st0 N__law_pot ds) := by
  obtain ⟨ns, k, rfl, hk, q⟩ := h
  unfold t__law_pot
  simp
  have c2 : CMulX 60013 (k : Int) := cmulx 17 10 (by decide) (by omega) (by decide)
  have hb : ∀ c : Int, 0 ≤ c → ((c % 2147483587 * 48271 + 60013 * (k : Int) + 29) % 2147483647) ≥ 0 ∧ ((c % 2147483587 * 48271 + 60013 * (k : Int) + 29) % 2147483647) < 2147483648 := fun c _ => ⟨Int.emod_nonneg _ (by decide), Int.lt_trans (Int.emod_lt_of_pos _ (by decide)) (by decide)⟩
  split
  · rename_i hl
    rw [atI_n, List.getElem?_eq_getElem hl]
    show CMulX _ _ ∧ _
    generalize hn : ns[k] = n
    have c0 : 0 ≤ (if n < 0 then -n else n) := by split <;> omega
    generalize (if n < 0 then -n else n) = c at *
    have r0 := Int.emod_nonneg c (show (2147483587 : Int) ≠ 0 by decide)
    have r1 := Int.emod_lt_of_pos c (show (0 : Int) < 2147483587 by decide)
    refine ⟨cmulx 31 16 (by omega) (by decide) (by decide), c2, _, _, ⟨rfl, rfl⟩, ⟨?_, (hb c c0).1, (hb c c0).2⟩, q⟩
    split <;> omega
  · have := hb 0 (by decide)
    simp at this
    exact ⟨cmulx 0 16 (by decide) (by decide) (by decide), c2, _, _, ⟨rfl, rfl⟩, ⟨by decide, this.1, this.2⟩, q⟩

theorem pick_mem {xs : List Int} {d : Int} (h0 : 0 ≤ d) (h1 : d < xs.length) : ∃ x ∈ xs, L2.atI (xs.map D.int) d = some (.int x) := by
  obtain ⟨n, rfl⟩ := (Int.eq_ofNat_of_zero_le h0)
  have hn : n < xs.length := by omega
  refine ⟨xs[n], List.getElem_mem hn, ?_⟩
  rw [atI_n, List.getElem?_map, List.getElem?_eq_getElem hn]
  rfl
theorem t_or_f {t u : DTT} {δ : DSt} {k : Bool → Prop} (h : ∀ k : Bool → Prop, k false → t δ k) (q : u δ k) : dOr t u δ k := h _ (by rw [if_neg Bool.false_ne_true]; exact q)
theorem lst_v {te : DTA} {δ : DSt} {k : D → Prop} (es : List D) (h : ∀ k : List D → Prop, k es → te δ k) (q : k (.lst es)) : dLst te δ k := h _ q
theorem h1_op {f : F2} {ta tb : DT} {δ : DSt} {k : D → Prop} (u : D) (h1 : ∀ k : D → Prop, k u → ta δ k) (Z : D → Prop) (h2 : ∀ k : D → Prop, (∀ v, Z v → k v) → tb δ k) (q : ∀ v, Z v → f u v k) : dOp f ta tb δ k := h1 _ (h2 _ fun v hv => q v hv)
theorem app_okY {i : Nat} {t : DT} {De : DEnds} {δ : DSt} {fs : List D} (Y : D → Prop) (e : δ[i]? = some (some (.own fs))) (h : ∀ k : D → Prop, (∀ v, Y v → k v) → t δ k) (q : ∀ v, Y v → fs.length < sizeLine ∧ De.nx (δ.set i (some (.own (fs ++ [v]))))) : dApp i t De δ := by
  unfold dApp
  rw [e]
  exact h _ q
theorem ev_step1 {o0 o2 : Option SV} {d : Int} {R : D → Prop} (h0 : 0 ≤ d) (h1 : d < 14) (q : ∀ i : Int, i.natAbs ≤ 6 → R (.int i)) : e__law_step_1 K Ed [o0, some (.val (.int d)), o2] R := by
  obtain ⟨x, hx, e⟩ := pick_mem (xs := [0, 1, 1, -1, -1, 2, -2, 3, -3, 4, -4, 5, -5, -6]) h0 h1
  unfold e__law_step_1
  refine op_v (.lst ([0, 1, 1, -1, -1, 2, -2, 3, -3, 4, -4, 5, -5, -6].map D.int)) (.int d) (fun k hk => hk) (fun k hk => go_var rfl hk) (ixl_v e (q x ?_))
  simp at hx
  omega
theorem ev_step2 {o1 o2 : Option SV} {R : D → Prop} (q : ∀ i : Int, i.natAbs ≤ 1 → R (.int i)) : e__law_step_2 K Ed [some (.val .pot), o1, o2] R := by
  unfold e__law_step_2
  refine h1_op (.lst ([1, -1].map D.int)) (fun k hk => hk) (fun v => ∃ d : Int, v = .int d ∧ 0 ≤ d ∧ d < 2) (fun k hk => ?_) ?_
  · exact draw_ok (by decide) (by decide +kernel) fun d a1 b1 => hk _ ⟨d, rfl, a1, b1⟩
  rintro _ ⟨d, rfl, a1, b1⟩
  obtain ⟨x, hx, e⟩ := pick_mem (xs := [1, -1]) a1 b1
  refine ixl_v e (q x ?_)
  simp at hx
  omega
theorem rd__law_step (h : T__law_step K ds Q Ed) : t__law_step K Ed (en Q) (st0 N__law_step ds) := by
  obtain ⟨rfl, q⟩ := h
  have big : (10 : Nat) ^ 28 + 10000 ≤ 10 ^ 29 := by decide +kernel
  have b28 : (((10 ^ 28 : Nat)) : Int) = 10 ^ 28 := by norm_cast
  unfold t__law_step
  show dSeq _ _ _ [some (.val .pot), none, none]
  refine gs_asgY (fun v => ∃ d : Int, v = .int d ∧ 0 ≤ d ∧ d < 16) (fun k hk => draw_ok (by decide) (by decide +kernel) fun d a1 b1 => hk _ ⟨d, rfl, a1, b1⟩) ?_
  rintro _ ⟨d, rfl, a1, b1⟩
  show dSeq _ _ _ [some (.val .pot), some (.val (.int d)), none]
  by_cases hd : d < 14
  · refine gs_if_t (fun k hk => lt_v (i := d) (j := 14) (fun k hk => hk) (fun k hk => hk) (decide_eq_true hd) hk) ?_
    exact ev_step1 a1 hd fun i hi => q i (by omega)
  · refine gs_next (fun k hk => lt_v (i := d) (j := 14) (fun k hk => hk) (fun k hk => hk) (decide_eq_false hd) hk) ?_
    refine gs_asgY (fun v => ∃ x y : Int, v = .lst ([x, y].map D.int) ∧ x.natAbs ≤ 1000 ∧ y.natAbs ≤ 10 ^ 28 + 9) (fun k hk => ?_) ?_
    · refine draw_ok (by decide) (by decide +kernel) fun x a2 b2 => ?_
      show CPow 10 28 ∧ _
      refine ⟨⟨by decide, by decide, by decide⟩, ?_⟩
      refine draw_ok (by decide) (by decide +kernel) fun y a3 b3 => ?_
      refine hk _ ⟨x - 1000, 10 ^ 28 + y, rfl, by omega, ?_⟩
      rw [← b28]
      omega
    rintro _ ⟨x, y, rfl, hx, hy⟩
    show dRet _ _ [some (.val .pot), some (.val (.int d)), some (.val (.lst ([x, y].map D.int)))]
    have hp : ∃ z : Int, L2.atI ([x, y].map D.int) (d - 14) = some (.int z) ∧ z.natAbs ≤ 10 ^ 28 + 1000 := by
      obtain ⟨z, hz, e⟩ := pick_mem (xs := [x, y]) (d := d - 14) (by omega) (by show d - 14 < 2; omega)
      refine ⟨z, e, ?_⟩
      simp at hz
      omega
    obtain ⟨z, e, hz⟩ := hp
    refine go_ret' (op_v' (fun v => v = .int z) (fun v => ∃ i : Int, v = .int i ∧ i.natAbs ≤ 1) (fun k hk => ?_) (fun k hk => ?_) ?_)
    · exact op_v (.lst ([x, y].map D.int)) (.int (d - 14)) (fun k hk => go_var rfl hk) (fun k hk => hk) (ixl_v e (hk _ rfl))
    · exact ev_step2 fun i hi => hk _ ⟨i, rfl, hi⟩
    · rintro _ _ rfl ⟨i, rfl, hi⟩
      have h29 : z.natAbs < 2 ^ 100 := Nat.lt_of_le_of_lt hz (by decide +kernel)
      refine ⟨cmulx 100 1 h29 (by omega) (by decide), q _ ?_⟩
      rw [Int.natAbs_mul]
      have : z.natAbs * i.natAbs ≤ (10 ^ 28 + 1000) * 1 := Nat.mul_le_mul hz hi
      omega
theorem heights_snoc : ∀ (xs : List Int) (b x : Int), heights b (xs ++ [x]) = heights b xs ++ [b + xs.sum + x]
  | [], b, x => by simp [heights]
  | y :: ys, b, x => by
    rw [List.cons_append]
    show b :: heights (b + y) (ys ++ [x]) = (b :: heights (b + y) ys) ++ _
    rw [heights_snoc ys (b + y) x, List.cons_append, List.sum_cons, Int.add_assoc b y]
theorem heights_last (xs : List Int) (b : Int) : (heights b xs).getLast? = some (b + xs.sum) := by
  rw [List.getLast?_eq_getElem?, heights_len, Nat.add_sub_cancel, heights_get xs b xs.length (Nat.le_refl _), List.take_length]
theorem appV_ok {i : Nat} {t : DT} {De : DEnds} {δ : DSt} {fs : List D} (d : D) (e : δ[i]? = some (some (.own fs))) (h : ∀ k : D → Prop, k d → t (FG.view δ) k) (s : d.scal = true) (q : fs.length < sizeLine ∧ De.nx (δ.set i (some (.own (fs ++ [d]))))) : dAppV i t De δ := by
  unfold dAppV
  rw [e]
  exact h _ ⟨s, q⟩
theorem rd__law_heights (h : T__law_heights K ds Q Ed) : t__law_heights K Ed (en Q) (st0 N__law_heights ds) := by
  obtain ⟨xs, b, rfl, hl, q⟩ := h
  unfold t__law_heights
  have loop : ∀ (rest pre : List Int) (o : Option SV), xs = pre ++ rest → dLoop (.nm 3) (b__law_heights_1 K Ed) { nx := dRet (dVar 2) (en Q), rt := Q } (rest.map D.int) [some (.val (.lst (xs.map D.int))), some (.val (.int b)), some (.own ((heights b pre).map D.int)), o] := by
    intro rest
    induction rest with
    | nil =>
      intro pre o e
      rw [List.append_nil] at e
      subst e
      exact q
    | cons x rest ih =>
      intro pre o e
      have hp : (heights b pre).length ≤ 1001 := by
        rw [heights_len]
        rw [e, List.length_append] at hl
        omega
      rw [List.map_cons]
      unfold dLoop b__law_heights_1
      simp only [gT_n]
      refine appV_ok (.int (b + pre.sum + x)) rfl (fun k hk => ?_) rfl ⟨by rw [sizeLine_eq, List.length_map]; omega, ?_⟩
      · refine add_v (i := b + pre.sum) (j := x) (fun k hk => op_v (.lst ((heights b pre).map D.int)) (.int (-1)) (fun k hk => go_var rfl hk) (fun k hk => hk) (ixl_v ?_ hk)) (fun k hk => go_var rfl hk) rfl hk
        rw [atI_end, List.getLast?_map, heights_last]
        rfl
      · have := ih (pre ++ [x]) (some (.val (.int x))) (by rw [e, List.append_assoc]; rfl)
        rw [heights_snoc, List.map_append] at this
        exact this
  show dSeq _ _ _ [some (.val (.lst (xs.map D.int))), some (.val (.int b)), none, none]
  exact loop xs [] none rfl
theorem genL_cons (p : Pt) (ps : List Pt) : genL (p :: ps) = (p.gen ∧ genL ps) := by rw [genL]
theorem genL_nil : genL [] = True := by rw [genL]
theorem gen_step (i : Int) : (Pt.step i).gen = (i.natAbs ≤ 10 ^ 29) := by rw [Pt.gen]
theorem gen_loop (r : Int) (ps : List Pt) : (Pt.loop r ps).gen = (0 ≤ r ∧ r ≤ 3 ∧ ps.length ≤ 4 ∧ (unrollL ps).length ≤ 4 ∧ genL ps) := by rw [Pt.gen]
theorem genL_app : ∀ ps qs : List Pt, genL ps → genL qs → genL (ps ++ qs)
  | [], _, _, h => h
  | p :: ps, qs, h1, h2 => by
    rw [genL_cons] at h1
    rw [List.cons_append, genL_cons]
    exact ⟨h1.1, genL_app ps qs h1.2 h2⟩
theorem go_if_Y {c : DTT} {a b : DTS} {De : DEnds} {δ : DSt} (Y : Bool → Prop) (h : ∀ k : Bool → Prop, (∀ v, Y v → k v) → c (FG.view δ) k) (q1 : Y true → a De δ) (q2 : Y false → b De δ) : dIf c a b De δ := h _ fun v hv => by
  cases v
  · rw [if_neg Bool.false_ne_true]; exact q2 hv
  · rw [if_pos rfl]; exact q1 hv
end
end K41

namespace K41
open PySem.Spec PySem L2 PyProof.Rows FG
open He (ga ma Fa Dv)
section
variable {K : PySem.W.Frag} {ds : List D} {Q : D → Prop} {Ed : Exn → Prop}
/-! the plain end: levels told by the drawn parts -/
mutual
theorem gen_fit : ∀ p : Pt, p.gen → p.ok ∧ 7 * p.cl + 5 ≤ 12 * 8 ^ p.dep ∧ (∀ x ∈ p.unroll, x.natAbs ≤ 10 ^ 40)
  | .step i, h => by
    rw [gen_step] at h
    have big : (10 : Nat) ^ 29 ≤ 10 ^ 40 := by decide +kernel
    rw [ok_step, cl_step, dep_step, unroll_step]
    refine ⟨trivial, by decide, fun x hx => ?_⟩
    rw [List.mem_singleton.mp hx]
    omega
  | .loop r ps, h => by
    rw [gen_loop] at h
    obtain ⟨a, b, c⟩ := genL_fit ps h.2.2.2.2
    rw [ok_loop, cl_loop, dep_loop, unroll_loop]
    refine ⟨⟨h.1, by omega, a⟩, ?_, fun x hx => c x (rep_mem hx)⟩
    have h4 : ps.length ≤ 4 := h.2.2.1
    have h1 : 1 ≤ 8 ^ depL ps := Nat.pos_of_ne_zero (by simp)
    have hX : 12 ≤ 12 * 8 ^ depL ps := Nat.mul_le_mul_left 12 h1
    rw [Nat.pow_succ, ← Nat.mul_assoc]
    generalize 12 * 8 ^ depL ps = X at *
    have k1 : (4 - ps.length) * 12 ≤ (4 - ps.length) * X := Nat.mul_le_mul_left _ hX
    have k2 : (4 - ps.length) * X + ps.length * X = 4 * X := by rw [← Nat.add_mul, Nat.sub_add_cancel h4]
    omega
theorem genL_fit : ∀ ps : List Pt, genL ps → okL ps ∧ 7 * clL ps + 5 * ps.length ≤ ps.length * (12 * 8 ^ depL ps) ∧ (∀ x ∈ unrollL ps, x.natAbs ≤ 10 ^ 40)
  | [], _ => by rw [okL_nil, clL_nil, unrollL_nil]; exact ⟨trivial, Nat.zero_le _, fun _ h => nomatch h⟩
  | p :: ps, h => by
    rw [genL_cons] at h
    obtain ⟨a, b, c⟩ := gen_fit p h.1
    obtain ⟨d, e, f⟩ := genL_fit ps h.2
    rw [okL_cons, clL_cons, unrollL_cons, List.length_cons, depL_cons]
    refine ⟨⟨a, d⟩, ?_, fun x hx => ?_⟩
    · have e1 : 12 * 8 ^ p.dep ≤ 12 * 8 ^ (max p.dep (depL ps)) := Nat.mul_le_mul_left _ (Nat.pow_le_pow_right (by decide) (by omega))
      have e2 : ps.length * (12 * 8 ^ depL ps) ≤ ps.length * (12 * 8 ^ (max p.dep (depL ps))) := Nat.mul_le_mul_left _ (Nat.mul_le_mul_left _ (Nat.pow_le_pow_right (by decide) (by omega)))
      rw [Nat.add_mul, Nat.one_mul]
      omega
    · rcases List.mem_append.mp hx with hx | hx
      · exact c x hx
      · exact f x hx
end
theorem gen_Fit {ps : List Pt} (h : genL ps) (hl : ps.length ≤ 12) (hd : depL ps ≤ 6) : Fit ps ∧ ∀ x ∈ unrollL ps, x.natAbs ≤ 10 ^ 40 := by
  obtain ⟨a, b, c⟩ := genL_fit ps h
  have k : ps.length * (12 * 8 ^ depL ps) ≤ 12 * (12 * 8 ^ 6) := Nat.mul_le_mul hl (Nat.mul_le_mul_left _ (Nat.pow_le_pow_right (by decide) hd))
  exact ⟨⟨a, hd, by omega, c⟩, c⟩
theorem natAbs_500 {i : Int} (h : i.natAbs ≤ 10 ^ 42) : i.natAbs < 10 ^ 500 := Nat.lt_of_le_of_lt h (by decide +kernel)
mutual
theorem nice_pt : ∀ p : Pt, p.gen → (dPt p).nice = true ∧ (dPt p).dep ≤ 2 * p.dep
  | .step i, h => by
    rw [gen_step] at h
    have big : (10 : Nat) ^ 29 ≤ 10 ^ 42 := by decide +kernel
    rw [dPt_step]
    unfold D.nice D.dep
    exact ⟨decide_eq_true (natAbs_500 (by omega)), Nat.zero_le _⟩
  | .loop r ps, h => by
    rw [gen_loop] at h
    have big : (3 : Nat) ≤ 10 ^ 42 := by decide +kernel
    obtain ⟨a, b⟩ := nice_pts ps h.2.2.2.2
    rw [dPt_loop, dep_loop]
    simp only [D.nice, D.niceL, D.dep, D.depL, a, Bool.and_true]
    exact ⟨decide_eq_true (natAbs_500 (by omega)), by omega⟩
theorem nice_pts : ∀ ps : List Pt, genL ps → D.niceL (dPts ps) = true ∧ D.depL (dPts ps) ≤ 2 * depL ps
  | [], _ => by rw [dPts_nil]; unfold D.niceL D.depL; exact ⟨rfl, Nat.zero_le _⟩
  | p :: ps, h => by
    rw [genL_cons] at h
    obtain ⟨a, b⟩ := nice_pt p h.1
    obtain ⟨c, d⟩ := nice_pts ps h.2
    rw [dPts_cons, depL_cons]
    unfold D.niceL D.depL
    rw [a, c]
    exact ⟨rfl, by omega⟩
end
theorem nice_ints : ∀ {xs : List Int}, (∀ x ∈ xs, x.natAbs ≤ 10 ^ 42) → D.niceL (xs.map D.int) = true ∧ D.depL (xs.map D.int) = 0 ∧ D.wtL (xs.map D.int) = 504 * xs.length
  | [], _ => by simp [D.niceL, D.depL, D.wtL]
  | x :: xs, h => by
    obtain ⟨a, b, c⟩ := nice_ints (xs := xs) fun z hz => h z (List.mem_cons_of_mem _ hz)
    have h1 := natAbs_500 (h x List.mem_cons_self)
    simp only [List.map_cons, D.niceL, D.nice, D.depL, D.dep, D.wtL, D.wt, a, b, c, h1, List.length_cons, decide_true, Bool.and_true]
    refine ⟨trivial, by omega, by omega⟩
theorem andv_t {ta tb : DT} {δ : DSt} {k : D → Prop} (h : ∀ k : D → Prop, k (.bl true) → ta δ k) (q : tb δ k) : dAndV ta tb δ k := h _ (show (if (true : Bool) = true then tb δ k else _) by rw [if_pos rfl]; exact q)
/-- two things that are the same and nice -/
theorem eqq_same {d : D} (h : d.nice = true) : d.eqq d = true := SeqAt.eqv_refl _ (nice_lay d h)
theorem eq_same_t {xs : List D} {R : D → Prop} (h : D.niceL xs = true) (hd : D.depL xs ≤ 63) (q : R (.bl true)) : fEq (.tup xs) (.tup xs) R := by
  have hn : D.nice (.tup xs) = true := by unfold D.nice; exact h
  have ok := nice_okEq hn (by unfold D.dep; omega)
  show D.okEq (.tup xs) = true ∧ D.okEq (.tup xs) = true ∧ R (.bl (D.eqq (.tup xs) (.tup xs)))
  rw [eqq_same hn]
  exact ⟨ok, ok, q⟩
theorem ne_same_l {xs : List D} {R : D → Prop} (h : D.niceL xs = true) (hd : D.depL xs ≤ 63) (q : R (.bl false)) : fNe (.lst xs) (.lst xs) R := by
  have hn : D.nice (.lst xs) = true := by unfold D.nice; exact h
  have ok := nice_okEq hn (by unfold D.dep; omega)
  show D.okEq (.lst xs) = true ∧ D.okEq (.lst xs) = true ∧ R (.bl (!D.eqq (.lst xs) (.lst xs)))
  rw [eqq_same hn]
  exact ⟨ok, ok, q⟩
theorem take_sum_le (xs : List Int) (n : Nat) (hl : xs.length ≤ 12) (h : ∀ x ∈ xs, x.natAbs ≤ 10 ^ 40) : (xs.take n).sum.natAbs ≤ 10 ^ 42 := by
  have h1 := sum_le (10 ^ 40) (xs.take n) fun x hx => h x (List.mem_of_mem_take hx)
  have h2 : (xs.take n).length ≤ 12 := by rw [List.length_take]; omega
  refine Nat.le_trans h1 (Nat.le_trans (Nat.mul_le_mul_right _ h2) (by decide +kernel))
theorem heights_map (xs : List Int) : heights 0 xs = (List.range (xs.length + 1)).map fun (k : Nat) => (xs.take k).sum := by
  refine List.ext_getElem? fun i => ?_
  by_cases h : i ≤ xs.length
  · rw [heights_get xs 0 i h, List.getElem?_map, List.getElem?_range (by omega), Int.zero_add]
    rfl
  · rw [List.getElem?_eq_none (by rw [heights_len]; omega), List.getElem?_eq_none (by rw [List.length_map, List.length_range]; omega)]
theorem heights_le {xs : List Int} (hl : xs.length ≤ 12) (h : ∀ x ∈ xs, x.natAbs ≤ 10 ^ 40) : ∀ z ∈ heights 0 xs, z.natAbs ≤ 10 ^ 42 := by
  intro z hz
  rw [heights_map] at hz
  obtain ⟨k, _, rfl⟩ := List.mem_map.mp hz
  exact take_sum_le xs k hl h
theorem heights_rev (xs : List Int) : (heights 0 xs).reverse = (List.range (xs.length + 1)).map fun (k : Nat) => (xs.take (xs.length - k)).sum := by
  rw [heights_map]
  refine List.ext_getElem? fun i => ?_
  by_cases h : i < xs.length + 1
  · rw [List.getElem?_reverse (by rw [List.length_map, List.length_range]; exact h), List.length_map, List.length_range, List.getElem?_map, List.getElem?_map, List.getElem?_range (by omega), List.getElem?_range h]
    simp only [Option.map]
    congr 3
  · rw [List.getElem?_eq_none (by rw [List.length_reverse, List.length_map, List.length_range]; omega), List.getElem?_eq_none (by rw [List.length_map, List.length_range]; omega)]
/-- level of a place -/
def lv (xs : List Int) : D → D
  | .int i => .int (xs.take i.toNat).sum
  | _ => .non
theorem lv_up (xs : List Int) : (steps 0 1 (xs.length + 1)).map (lv xs) = (heights 0 xs).map D.int := by
  rw [heights_map]
  unfold steps
  rw [List.map_map, List.map_map]
  refine List.map_congr_left fun k _ => ?_
  show D.int (xs.take (0 + (k : Int) * 1).toNat).sum = _
  rw [show (0 + (k : Int) * 1).toNat = k by omega]
  rfl
theorem lv_down (xs : List Int) : (steps xs.length (-1) (xs.length + 1)).map (lv xs) = (heights 0 xs).reverse.map D.int := by
  rw [heights_rev]
  unfold steps
  rw [List.map_map, List.map_map]
  refine List.map_congr_left fun k _ => ?_
  show D.int (xs.take ((xs.length : Int) + (k : Int) * -1).toNat).sum = _
  rw [show ((xs.length : Int) + (k : Int) * -1).toNat = xs.length - k by omega]
  rfl
end
end K41

namespace K41
open PySem.Spec PySem L2 PyProof.Rows FG
open He (ga ma Fa Dv)
section
variable {K : PySem.W.Frag} {ds : List D} {Q : D → Prop} {Ed : Exn → Prop}
/-! ### lengths -/
theorem len_is_integer (h : T_is_integer K ds Q Ed) : ds.length = 1 := by obtain ⟨_, _, rfl, _⟩ := h; rfl
theorem len_is_integer_from (h : T_is_integer_from K ds Q Ed) : ds.length = 3 := by obtain ⟨_, _, _, rfl, _⟩ := h; rfl
theorem len_is_part {n : Nat} (h : T_is_part K n ds Q Ed) : ds.length = 2 := by obtain ⟨_, _, rfl, _⟩ := h; rfl
theorem len_are_parts (h : T_are_parts K ds Q Ed) : ds.length = 1 := by obtain ⟨_, _, rfl, _⟩ := h; rfl
theorem len_size_of {n : Nat} (h : T_size_of K n ds Q Ed) : ds.length = 1 := by obtain ⟨_, rfl, _⟩ := h; rfl
theorem len_depth_of {n : Nat} (h : T_depth_of K n ds Q Ed) : ds.length = 1 := by obtain ⟨_, rfl, _⟩ := h; rfl
theorem len_all_parts {n : Nat} (h : T_all_parts K n ds Q Ed) : ds.length = 1 := by obtain ⟨_, rfl, _⟩ := h; rfl
theorem len_Script___init__ (h : T_Script___init__ K ds Q Ed) : (ds ++ []).length + 1 = 2 := by obtain ⟨_, _, rfl, _⟩ := h; rfl
theorem len_Script_parts (h : T_Script_parts K ds Q Ed) : ds.length = 1 := by obtain ⟨_, rfl, _⟩ := h; rfl
theorem len_Script_size (h : T_Script_size K ds Q Ed) : ds.length = 1 := by obtain ⟨_, rfl, _⟩ := h; rfl
theorem len_require_place (h : T_require_place K ds Q Ed) : ds.length = 2 := by obtain ⟨_, _, rfl, _⟩ := h; rfl
theorem len_require_range (h : T_require_range K ds Q Ed) : ds.length = 3 := by obtain ⟨_, _, _, rfl, _⟩ := h; rfl
theorem len_followed_by (h : T_followed_by K ds Q Ed) : ds.length = 2 := by obtain ⟨_, _, rfl, _⟩ := h; rfl
theorem len_repeated (h : T_repeated K ds Q Ed) : ds.length = 2 := by obtain ⟨_, _, rfl, _⟩ := h; rfl
theorem len_loop_part (h : T_loop_part K ds Q Ed) : ds.length = 2 := by obtain ⟨_, _, rfl, _⟩ := h; rfl
theorem len_outline_of_element {n : Nat} (h : T_outline_of_element K n ds Q Ed) : ds.length = 1 := by obtain ⟨_, rfl, _⟩ := h; rfl
theorem len_outline {n : Nat} (h : T_outline K n ds Q Ed) : ds.length = 1 := by obtain ⟨_, _, rfl, _⟩ := h; rfl
theorem len_cut {n : Nat} (h : T_cut K n ds Q Ed) : ds.length = 3 := by obtain ⟨_, _, _, rfl, _⟩ := h; rfl
theorem len_cut_loop {n : Nat} (h : T_cut_loop K n ds Q Ed) : ds.length = 4 := by obtain ⟨_, _, _, _, rfl, _⟩ := h; rfl
theorem len_outline_between (h : T_outline_between K ds Q Ed) : ds.length = 3 := by obtain ⟨_, _, _, rfl, _⟩ := h; rfl
theorem len_level (h : T_level K ds Q Ed) : ds.length = 2 := by obtain ⟨_, _, rfl, _⟩ := h; rfl
theorem len_highest (h : T_highest K ds Q Ed) : ds.length = 3 := by obtain ⟨_, _, _, rfl, _⟩ := h; rfl
theorem len_lowest (h : T_lowest K ds Q Ed) : ds.length = 3 := by obtain ⟨_, _, _, rfl, _⟩ := h; rfl
theorem len__law_pot (h : T__law_pot K ds Q Ed) : ds.length = 2 := by obtain ⟨_, _, rfl, _⟩ := h; rfl
theorem len__law_step (h : T__law_step K ds Q Ed) : ds.length = 1 := by obtain ⟨rfl, _⟩ := h; rfl
theorem len__law_heights (h : T__law_heights K ds Q Ed) : ds.length = 2 := by obtain ⟨_, _, rfl, _⟩ := h; rfl
theorem zero_is_part (h : T_is_part K 0 ds Q Ed) : False := by obtain ⟨_, _, _, _, h, _⟩ := h; omega
theorem zero_size_of (h : T_size_of K 0 ds Q Ed) : False := by obtain ⟨_, _, h, _⟩ := h; omega
theorem zero_depth_of (h : T_depth_of K 0 ds Q Ed) : False := by obtain ⟨_, _, h, _⟩ := h; omega
theorem zero_all_parts (h : T_all_parts K 0 ds Q Ed) : False := by obtain ⟨_, _, h, _⟩ := h; omega
theorem zero_outline_of_element (h : T_outline_of_element K 0 ds Q Ed) : False := by obtain ⟨_, _, _, _, h, _⟩ := h; omega
theorem zero_outline (h : T_outline K 0 ds Q Ed) : False := by obtain ⟨_, _, _, _, _, _, h, _⟩ := h; omega
theorem zero_cut (h : T_cut K 0 ds Q Ed) : False := by obtain ⟨_, _, _, _, _, h, _⟩ := h; omega
theorem zero_cut_loop (h : T_cut_loop K 0 ds Q Ed) : False := by obtain ⟨_, _, _, _, _, _, _, h, _⟩ := h; omega
end
end K41


namespace K41
open PySem.Spec PySem L2 PyProof.Rows FG
open He (ga ma Fa Dv)
section
variable {K : PySem.W.Frag} {ds : List D} {Q : D → Prop} {Ed : Exn → Prop}
theorem le_v {i j : Int} {b : Bool} {δ : DSt} {ta tb : DT} {k : Bool → Prop} (h1 : ∀ k : D → Prop, k (.int i) → ta δ k) (h2 : ∀ k : D → Prop, k (.int j) → tb δ k) (e : decide (i ≤ j) = b) (q : k b) : dTest (dOp fLe ta tb) δ k := h1 _ (h2 _ (by subst e; exact q))
theorem gs_app {i : Nat} {t : DT} {b : DTS} {De : DEnds} {δ : DSt} {fs : List D} (d : D) (e : δ[i]? = some (some (.own fs))) (h : ∀ k : D → Prop, k d → t δ k) (l : fs.length < sizeLine) (q : b De (δ.set i (some (.own (fs ++ [d]))))) : dSeq (dApp i t) b De δ := by
  unfold dSeq dApp
  rw [e]
  exact h _ ⟨l, q⟩
theorem gs_appY {i : Nat} {t : DT} {b : DTS} {De : DEnds} {δ : DSt} {fs : List D} (Y : D → Prop) (e : δ[i]? = some (some (.own fs))) (h : ∀ k : D → Prop, (∀ v, Y v → k v) → t δ k) (l : fs.length < sizeLine) (q : ∀ v, Y v → b De (δ.set i (some (.own (fs ++ [v]))))) : dSeq (dApp i t) b De δ := by
  unfold dSeq dApp
  rw [e]
  exact h _ fun v hv => ⟨l, q v hv⟩
theorem go_augI {i : Nat} {f : Int → Int → Int} {t : DT} {De : DEnds} {δ : DSt} {u : Int} (v : Int) (e : δ[i]? = some (some (.val (.int u)))) (h : ∀ k : D → Prop, k (.int v) → t δ k) (q : De.nx (δ.set i (some (.val (.int (f u v)))))) : dAugI i f t De δ := by
  unfold dAugI
  rw [e]
  exact h _ q
theorem gs_augI {i : Nat} {f : Int → Int → Int} {t : DT} {b : DTS} {De : DEnds} {δ : DSt} {u : Int} (v : Int) (e : δ[i]? = some (some (.val (.int u)))) (h : ∀ k : D → Prop, k (.int v) → t δ k) (q : b De (δ.set i (some (.val (.int (f u v)))))) : dSeq (dAugI i f t) b De δ := by
  unfold dSeq dAugI
  rw [e]
  exact h _ q
theorem cb_v {f : List D → (D → Prop) → Prop} {te : DTA} {δ : DSt} {k : D → Prop} (es : List D) (h : ∀ k : List D → Prop, k es → te δ k) (q : f es k) : dCB f te δ k := h _ q
theorem gs_tp2 {i j : Nat} {ta tb : DT} {b : DTS} {De : DEnds} {δ : DSt} (u v : D) (h1 : ∀ k : D → Prop, k u → ta δ k) (h2 : ∀ k : D → Prop, k v → tb δ k) (q : b De ((δ.set i (some (.val u))).set j (some (.val v)))) : dSeq (dAsg (dTup (dCons ta (dCons tb dNil))) (.tp [.nm i, .nm j])) b De δ := by
  refine gs_tp [u, v] (fun k hk => h1 _ (h2 _ hk)) ?_
  simp only [gTs_c, gTs_n, gT_n]
  exact q
theorem gs_asgO {tf : DTF} {i : Nat} {b : DTS} {De : DEnds} {δ : DSt} (es : List D) (h : ∀ k : List D → Prop, k es → tf δ k) (q : b De (δ.set i (some (.own es)))) : dSeq (dAsgO tf i) b De δ := h _ q
theorem retPops_ok {ti : DTI} {j k : Nat} {te : DT} {De : DEnds} {δ : DSt} {es : List D} (e : δ[j]? = some (some (.own es))) (items : List D) (h : ∀ k : List D → Prop, k items → ti δ k) (q : dPops j k te (δ.set k none) items es [] fun r => De.rt (.lst r)) : dRetPops ti j k te De δ := by
  unfold dRetPops
  rw [e]
  exact h _ q
theorem erase_perm {α : Type} : ∀ (es : List α) (i : Nat) (h : i < es.length), (es[i] :: es.eraseIdx i).Perm es
  | x :: xs, 0, _ => .refl _
  | x :: xs, i + 1, h =>
    have h' : i < xs.length := by simpa using h
    ((List.Perm.swap x (xs[i]'h') (xs.eraseIdx i))).trans ((erase_perm xs i h').cons x)
theorem all_v {t : DT} {δ : DSt} {k : D → Prop} (h : ∀ k : D → Prop, (∀ bs : List Bool, bs.all id = true → k (.lst (bs.map D.bl))) → t δ k) (q : k (.bl true)) : dCB fAll (dCons t dNil) δ k := h _ fun bs hb => ⟨bs, asBls_map _, by rw [hb]; exact q⟩
theorem call_vY {T : DSp} {W : XW} {te : DTA} {δ : DSt} {k : D → Prop} (Y : List D → Prop) (h : ∀ k : List D → Prop, (∀ es, Y es → k es) → te δ k) (q : ∀ es, Y es → T es k fun e => W e δ) : dCall T W te δ k := h _ q
theorem clL_app : ∀ ps qs : List Pt, clL (ps ++ qs) = clL ps + clL qs
  | [], qs => by rw [List.nil_append, clL_nil, Nat.zero_add]
  | p :: ps, qs => by rw [List.cons_append, clL_cons, clL_cons, clL_app ps qs, Nat.add_assoc]
theorem cons_vY {ta : DT} {tr : DTA} {δ : DSt} {k : List D → Prop} (Y : D → Prop) (h : ∀ k : D → Prop, (∀ v, Y v → k v) → ta δ k) (q : ∀ v, Y v → tr δ fun xs => k (v :: xs)) : dCons ta tr δ k := h _ q
theorem cons_vY' {f : List D → (D → Prop) → Prop} {te : DTA} {δ : DSt} {k : D → Prop} (Y : List D → Prop) (h : ∀ k : List D → Prop, (∀ es, Y es → k es) → te δ k) (q : ∀ es, Y es → f [.lst es] k) : dCB f (dCons (dLst te) dNil) δ k := h _ q
theorem gs_tpY {ts : List Tgt} {t : DT} {b : DTS} {De : DEnds} {δ : DSt} (Y : List D → Prop) (h : ∀ k : D → Prop, (∀ es, Y es → k (.lst es)) → t δ k) (q : ∀ es, Y es → gTs ts es δ (b De)) : dSeq (dAsg t (.tp ts)) b De δ := h _ fun es hes => by rw [gT_l]; exact q es hes
theorem not_v {t : DTT} {δ : DSt} {k : Bool → Prop} {b : Bool} (h : ∀ k : Bool → Prop, k b → t δ k) (q : k (!b)) : dNot t δ k := h _ q
theorem test_v {t : DT} {δ : DSt} {k : Bool → Prop} {b : Bool} (h : ∀ k : D → Prop, k (.bl b) → t δ k) (q : k b) : dTest t δ k := h _ q
theorem ne_textA {x : D} {s : Str} {ta tb : DT} {δ : DSt} {k : Bool → Prop} (ha : ∀ k : D → Prop, k x → ta δ k) (hb : ∀ k : D → Prop, k x → tb δ k) (hx : ∀ k : D → Prop, k (.str s) → fReprA [x] k) (q : k false) : dTest (dOp fNe (dCB fReprA (dCons ta dNil)) (dCB fReprA (dCons tb dNil))) δ k := by
  refine op_v (.str s) (.str s) (fun k hk => ha _ (hx _ hk)) (fun k hk => hb _ (hx _ hk)) ?_
  rw [fNe_s, decide_eq_true rfl]
  exact q
theorem ge_v {i j : Int} {b : Bool} {δ : DSt} {ta tb : DT} {k : Bool → Prop} (h1 : ∀ k : D → Prop, k (.int i) → ta δ k) (h2 : ∀ k : D → Prop, k (.int j) → tb δ k) (e : decide (j ≤ i) = b) (q : k b) : dTest (dOp fGe ta tb) δ k := h1 _ (h2 _ (by subst e; exact q))
theorem cons_it {te : DTA} {tg : Tgt} {tb : DTS} {De : DEnds} {δ : DSt} {es : List D} (h : ∀ k : List D → Prop, k es → te δ k) (q : dLoop tg tb De es δ) : dFor (iSeq (dTup te)) tg tb De δ := h _ q
theorem len_v {xs : List Int} {δ : DSt} {t : DT} {R : D → Prop} (h : ∀ k : D → Prop, k (.lst (xs.map D.int)) → t δ k) (q : R (.int xs.length)) : dCB fLen (dCons t dNil) δ R := h _ (by
  show R (.int ((xs.map D.int).length : Nat))
  rw [List.length_map]
  exact q)
theorem cut_to (xs : List Int) {n : Nat} (h : n ≤ xs.length) : cutL (xs.map D.int) none (some (n : Int)) = (xs.take n).map D.int := by
  unfold cutL
  rw [HT.sIx_none, HT.sIx_nat, List.length_map, Nat.min_eq_left h, List.drop_zero, Nat.sub_zero, List.map_take]
theorem go_par2 {i j : Nat} {ta tb : DT} {De : DEnds} {δ : DSt} (u v : D) (h1 : ∀ k : D → Prop, k u → ta δ k) (h2 : ∀ k : D → Prop, k v → tb δ k) (q : De.nx ((δ.set i (some (.val u))).set j (some (.val v)))) : dPar2 i j ta tb De δ := h1 _ (h2 _ q)
theorem go_par3 {i j l : Nat} {ta tb tc : DT} {De : DEnds} {δ : DSt} (u v w : D) (h1 : ∀ k : D → Prop, k u → ta δ k) (h2 : ∀ k : D → Prop, k v → tb δ k) (h3 : ∀ k : D → Prop, k w → tc δ k) (q : De.nx (((δ.set i (some (.val u))).set j (some (.val v))).set l (some (.val w)))) : dPar3 i j l ta tb tc De δ := h1 _ (h2 _ (h3 _ q))
theorem go_tp {ts : List Tgt} {t : DT} {De : DEnds} {δ : DSt} (es : List D) (h : ∀ k : D → Prop, k (.tup es) → t δ k) (q : gTs ts es δ De.nx) : dAsg t (.tp ts) De δ := h _ (by simp only [gT]; exact q)
theorem min_v {i j m : Int} {δ : DSt} {ta tb : DT} {k : D → Prop} (h1 : ∀ k : D → Prop, k (.int i) → ta δ k) (h2 : ∀ k : D → Prop, k (.int j) → tb δ k) (e : min i j = m) (q : k (.int m)) : dCB fMin2 (dCons ta (dCons tb dNil)) δ k := h1 _ (h2 _ (by
  show k (.int (if j < i then j else i))
  rw [show (if j < i then j else i) = m by split <;> omega]
  exact q))
theorem max_v {i j m : Int} {δ : DSt} {ta tb : DT} {k : D → Prop} (h1 : ∀ k : D → Prop, k (.int i) → ta δ k) (h2 : ∀ k : D → Prop, k (.int j) → tb δ k) (e : max i j = m) (q : k (.int m)) : dCB fMax2 (dCons ta (dCons tb dNil)) δ k := h1 _ (h2 _ (by
  show k (.int (if j > i then j else i))
  rw [show (if j > i then j else i) = m by split <;> omega]
  exact q))
theorem un_one (p : Pt) : unrollL [p] = p.unroll := by rw [unrollL_cons, unrollL_nil, List.append_nil]
theorem okL_app2 : ∀ ps qs : List Pt, okL (ps ++ qs) ↔ okL ps ∧ okL qs
  | [], qs => by rw [List.nil_append, okL_nil]; exact ⟨fun h => ⟨trivial, h⟩, fun h => h.2⟩
  | p :: ps, qs => by
    rw [List.cons_append, okL_cons, okL_cons, okL_app2 ps qs]
    exact ⟨fun ⟨a, b, c⟩ => ⟨⟨a, b⟩, c⟩, fun ⟨⟨a, b⟩, c⟩ => ⟨a, b, c⟩⟩
theorem big100 : (4 : Int) ≤ 10 ^ 100 := by decide +kernel
theorem ten12 : ((10 : Int) ^ (12 : Int).toNat) = 1000000000000 := by decide +kernel
theorem tup_v' {te : DTA} {δ : DSt} {k : D → Prop} (Y : List D → Prop) (h : ∀ k : List D → Prop, (∀ es, Y es → k es) → te δ k) (q : ∀ es, Y es → k (.tup es)) : dTup te δ k := h _ q
theorem gs_asgOY {tf : DTF} {i : Nat} {b : DTS} {De : DEnds} {δ : DSt} (Y : List D → Prop) (h : ∀ k : List D → Prop, (∀ es, Y es → k es) → tf δ k) (q : ∀ es, Y es → b De (δ.set i (some (.own es)))) : dSeq (dAsgO tf i) b De δ := h _ q
theorem steps_l (a b : Int) (n : Nat) : (steps a b n).length = n := by unfold steps; rw [List.length_map, List.length_range]
theorem dPts_ins (fs : List Pt) (p : Pt) (j : Nat) : (dPts fs).take j ++ [dPt p] ++ (dPts fs).drop j = dPts (fs.take j ++ [p] ++ fs.drop j) := by
  rw [dPts_map, dPts_map, List.map_append, List.map_append, List.map_take, List.map_drop, List.map_singleton]
theorem gs_par2Y {i j : Nat} {ta tb : DT} {b : DTS} {De : DEnds} {δ : DSt} (u : D) (Z : D → Prop) (h1 : ∀ k : D → Prop, k u → ta δ k) (h2 : ∀ k : D → Prop, (∀ v, Z v → k v) → tb δ k) (q : ∀ v, Z v → b De ((δ.set i (some (.val u))).set j (some (.val v)))) : dSeq (dPar2 i j ta tb) b De δ := h1 _ (h2 _ q)
theorem gs_par2Y2 {i j : Nat} {ta tb : DT} {b : DTS} {De : DEnds} {δ : DSt} (Y Z : D → Prop) (h1 : ∀ k : D → Prop, (∀ v, Y v → k v) → ta δ k) (h2 : ∀ k : D → Prop, (∀ v, Z v → k v) → tb δ k) (q : ∀ u v, Y u → Z v → b De ((δ.set i (some (.val u))).set j (some (.val v)))) : dSeq (dPar2 i j ta tb) b De δ := h1 _ fun u hu => h2 _ fun v hv => q u v hu hv
theorem list_v {x : D} {ps : List Pt} {t : DT} {δ : DSt} {k : D → Prop} (hx : As x ps) (h : ∀ k : D → Prop, k x → t δ k) (q : k (.lst (dPts ps))) : dCB fList (dCons t dNil) δ k := h _ (by
  rcases hx with rfl | rfl <;> exact q)
theorem lst_vY {te : DTA} {δ : DSt} {k : D → Prop} (Y : List D → Prop) (h : ∀ k : List D → Prop, (∀ es, Y es → k es) → te δ k) (q : ∀ es, Y es → k (.lst es)) : dLst te δ k := h _ q
theorem nx_of {X bk ct : DSt → Prop} {rt : D → Prop} {δ : DSt} (h : X δ) : DEnds.nx { nx := X, rt := rt, bk := bk, ct := ct } δ := h
theorem bd500 {i : Int} (h : i.natAbs ≤ 10 ^ 200) : i.natAbs < 10 ^ 500 := Nat.lt_of_le_of_lt h (by decide +kernel)
theorem nice_int {i : Int} (h : i.natAbs ≤ 10 ^ 200) : (D.int i).nice = true := by
  unfold D.nice
  exact decide_eq_true (bd500 h)
theorem gs_tptY {ts : List Tgt} {t : DT} {b : DTS} {De : DEnds} {δ : DSt} (Y : List D → Prop) (h : ∀ k : D → Prop, (∀ es, Y es → k (.tup es)) → t δ k) (q : ∀ es, Y es → gTs ts es δ (b De)) : dSeq (dAsg t (.tp ts)) b De δ := h _ fun es hes => by simp only [gT]; exact q es hes
theorem cut_from {α : Type} (xs : List α) (a : Nat) : cutL xs (some (a : Int)) none = xs.drop a := by
  unfold cutL
  rw [HT.sIx_nat, HT.sIx_none]
  by_cases h : a ≤ xs.length
  · rw [Nat.min_eq_left h, List.take_of_length_le (by rw [List.length_drop]; omega)]
  · rw [Nat.min_eq_right (by omega), Nat.sub_self, List.take_zero, List.drop_eq_nil_of_le (by omega)]
theorem from_v {xs : List Int} {a : Nat} {δ : DSt} {t u : DT} {k : D → Prop} (h1 : ∀ k : D → Prop, k (.lst (xs.map D.int)) → t δ k) (h2 : ∀ k : D → Prop, k (.int a) → u δ k) (q : k (.lst ((xs.drop a).map D.int))) : dSl t (dPart u) dNo δ k := h1 _ (h2 _ (by
  show k (.lst (cutL (xs.map D.int) (some (a : Int)) none))
  rw [cut_from, ← List.map_drop]
  exact q))
theorem till_v {xs : List Int} {a : Nat} {δ : DSt} {t u : DT} {k : D → Prop} (ha : a ≤ xs.length) (h1 : ∀ k : D → Prop, k (.lst (xs.map D.int)) → t δ k) (h2 : ∀ k : D → Prop, k (.int a) → u δ k) (q : k (.lst ((xs.take a).map D.int))) : dSl t dNo (dPart u) δ k := h1 _ (h2 _ (by
  show k (.lst (cutL (xs.map D.int) none (some (a : Int))))
  rw [cut_to xs ha]
  exact q))
theorem ok_app : ∀ ps qs : List Pt, okL ps → okL qs → okL (ps ++ qs)
  | [], qs, _, h => by rw [List.nil_append]; exact h
  | p :: ps, qs, h1, h2 => by
    rw [okL_cons] at h1
    rw [List.cons_append, okL_cons]
    exact ⟨h1.1, ok_app ps qs h1.2 h2⟩
end
end K41

namespace K41
open PySem.Spec PySem L2 PyProof.Rows FG
open He (ga ma Fa Dv)
section
variable {K : PySem.W.Frag} {ds : List D} {Q : D → Prop} {Ed : Exn → Prop}
/-! rows as trees -/
theorem dRows_len (rs : Rows) : (dRows rs).length = rs.length := by unfold dRows; rw [List.length_map]
theorem dRows_app (rs ss : Rows) : dRows (rs ++ ss) = dRows rs ++ dRows ss := by unfold dRows; rw [List.map_append]
theorem dRows_cons (r : Int × Int) (rs : Rows) : dRows (r :: rs) = dRow r :: dRows rs := rfl
theorem AsR.tup_v {x : D} {rs : Rows} {R : D → Prop} (hx : AsR x rs) (q : R (.tup (dRows rs))) : fTuple [x] R := by
  rcases hx with rfl | rfl <;> exact q
theorem AsR.len_v {x : D} {rs : Rows} {R : D → Prop} (hx : AsR x rs) (q : R (.int rs.length)) : fLen [x] R := by
  rw [← dRows_len] at q
  rcases hx with rfl | rfl <;> exact q
theorem AsR.ix_v {x : D} {rs : Rows} {i : Int} {d : D} {R : D → Prop} (hx : AsR x rs) (h : L2.atI (dRows rs) i = some d) (q : R d) : fIx x (.int i) R := by
  rcases hx with rfl | rfl
  · exact ixl_v h q
  · exact K41.ix_v h q
theorem seq_v {x : D} {rs : Rows} {t : DT} {δ : DSt} {R : List D → Prop} (hx : AsR x rs) (h : ∀ k : D → Prop, k x → t δ k) (q : R (dRows rs)) : iSeq t δ R := h _ (by rcases hx with rfl | rfl <;> exact q)
theorem r0 {r : Int × Int} {t : DT} {δ : DSt} {k : D → Prop} (h : ∀ k : D → Prop, k (dRow r) → t δ k) (q : k (.int r.1)) : dOp fIx t (dC (.int 0)) δ k := op_v (.tup [.int r.1, .int r.2]) (.int 0) h (fun k hk => hk) (ix_v (atI_0 _ _) q)
theorem r1 {r : Int × Int} {t : DT} {δ : DSt} {k : D → Prop} (h : ∀ k : D → Prop, k (dRow r) → t δ k) (q : k (.int r.2)) : dOp fIx t (dC (.int 1)) δ k := op_v (.tup [.int r.1, .int r.2]) (.int 1) h (fun k hk => hk) (ix_v (atI_1 _ _ _) q)
theorem rd_is_row (h : T_is_row K ds Q Ed) : t_is_row K Ed (en Q) (st0 N_is_row ds) := by
  obtain ⟨r, rfl, q⟩ := h
  unfold t_is_row
  show dRet _ _ [some (.val (dRow r))]
  refine go_ret' (andv_t (fun k hk => cb_v [dRow r, .ty "tuple"] (fun k hk => cons_v _ (fun k hk => go_var rfl hk) hk) ⟨"tuple", rfl, by decide, hk⟩) (andv_t (fun k hk => ?_) (andv_t (fun k hk => ?_) ?_)))
  · refine op_v (.int 2) (.int 2) (fun k hk => cb_v [dRow r] (fun k hk => cons_v (tr := dNil) _ (fun k hk => go_var rfl hk) hk) hk) (fun k hk => hk) ?_
    rw [fEq_i, decide_eq_true rfl]
    exact hk
  · exact call_v [.int r.1] (fun k hk => cons_v _ (fun k hk => r0 (fun k hk => go_var rfl hk) hk) hk) ⟨_, "int", rfl, rfl, hk⟩
  · exact call_v [.int r.2] (fun k hk => cons_v _ (fun k hk => r1 (fun k hk => go_var rfl hk) hk) hk) ⟨_, "int", rfl, rfl, q⟩
theorem ev_rows {x : D} {rs : Rows} {o1 o2 o3 : Option SV} {R : D → Prop} (hx : AsR x rs) (q : ∀ bs : List Bool, bs.all id = true → R (.lst (bs.map D.bl))) : e_are_rows_1 K Ed [some (.val x), o1, o2, o3] R := by
  unfold e_are_rows_1 dStay fLc
  refine seq_v hx (fun k hk => go_var rfl hk) ?_
  refine lcl_map (fun _ => .bl true) (fun z hz R hR => ?_) ?_
  · simp only [gT_n]
    obtain ⟨r, _, rfl⟩ := List.mem_map.mp hz
    exact call_v [dRow r] (fun k hk => hk) ⟨r, rfl, hR⟩
  · have := q ((dRows rs).map fun _ => true) (by simp)
    rwa [List.map_map] at this
theorem rd_are_rows (h : T_are_rows K ds Q Ed) : t_are_rows K Ed (en Q) (st0 N_are_rows ds) := by
  obtain ⟨x, rs, l, rfl, hx, ok, q⟩ := h
  unfold t_are_rows
  show dSeq _ _ _ [some (.val x), some (.val (.int l)), none, none]
  refine gs_next (fun k hk => t_or_f (fun k hk => ?_) ?_) ?_
  · refine not_v (b := true) (fun k hk => test_v (b := true) (fun k hk => ?_) hk) hk
    rcases hx with rfl | rfl
    · exact go_var rfl ⟨"list", rfl, by decide, hk⟩
    · exact go_var rfl ⟨"tuple", rfl, by decide, hk⟩
  · exact not_v (b := true) (fun k hk => test_v (b := true) (fun k hk => all_v (fun k hk => ev_rows hx hk) hk) hk) hk
  refine gs_asg (.tup [.int (l - 1), .int l]) (fun k hk => tup_v _ (fun k hk => cons_v _ (fun k hk => sub_v (i := l) (j := 1) (fun k hk => go_var rfl hk) (fun k hk => hk) rfl hk) (cons_v _ (fun k hk => go_var rfl hk) hk)) hk) ?_
  have loop : ∀ (rest : Rows) (p v : Int) (o3 : Option SV), okFrom p v rest → dLoop (.nm 3) (b_are_rows_2 K Ed) { nx := dRet (dC (.bl true)) (en Q), rt := Q } (dRows rest) [some (.val x), some (.val (.int l)), some (.val (.tup [.int p, .int v])), o3] := by
    intro rest
    induction rest with
    | nil =>
      intro p v o3 _
      exact q
    | cons r rest ih =>
      intro p v o3 ⟨h1, h2, h3⟩
      rw [dRows_cons]
      unfold dLoop b_are_rows_2
      simp only [gT_n]
      refine gs_next (fun k hk => t_or_f (fun k hk => ?_) ?_) ?_
      · exact le_v (i := r.1) (j := p) (fun k hk => r0 (fun k hk => go_var rfl hk) hk) (fun k hk => op_v (.tup [.int p, .int v]) (.int 0) (fun k hk => go_var rfl hk) (fun k hk => hk) (ix_v (atI_0 _ _) hk)) (decide_eq_false (by omega)) hk
      · exact ge_v (i := r.2) (j := v) (fun k hk => r1 (fun k hk => go_var rfl hk) hk) (fun k hk => op_v (.tup [.int p, .int v]) (.int 1) (fun k hk => go_var rfl hk) (fun k hk => hk) (ix_v (atI_1 _ _ _) hk)) (decide_eq_false (by omega)) hk
      exact go_asg (dRow r) (fun k hk => go_var rfl hk) (ih r.1 r.2 _ h3)
  refine go_seq (seq_v hx (fun k hk => go_var rfl hk) ?_)
  exact loop rs (l - 1) l none ok
theorem last_row {rs : Rows} {r : Int × Int} (h : rs.getLast? = some r) : L2.atI (dRows rs) (-1) = some (dRow r) := by
  rw [atI_end]
  unfold dRows
  rw [List.getLast?_map, h]
  rfl
theorem none_rows {rs : Rows} (h : rs.getLast? = none) : rs = [] := List.getLast?_eq_none_iff.mp h
theorem rd_last_valley (h : T_last_valley K ds Q Ed) : t_last_valley K Ed (en Q) (st0 N_last_valley ds) := by
  obtain ⟨x, rs, l, rfl, hx, q⟩ := h
  unfold t_last_valley
  show dRet _ _ [some (.val x), some (.val (.int l))]
  cases e : rs.getLast? with
  | none =>
    have := none_rows e
    subst this
    refine go_ret' (ife_f (fun k hk => gt_v (i := 0) (j := 0) (fun k hk => cb_v [x] (fun k hk => cons_v (tr := dNil) _ (fun k hk => go_var rfl hk) hk) (hx.len_v hk)) (fun k hk => hk) rfl hk) (go_var rfl q))
  | some r =>
    have hl : 0 < rs.length := by
      cases rs with
      | nil => cases e
      | cons _ _ => exact Nat.succ_pos _
    unfold lastV at q
    rw [e] at q
    refine go_ret' (ife_t (fun k hk => gt_v (i := rs.length) (j := 0) (fun k hk => cb_v [x] (fun k hk => cons_v (tr := dNil) _ (fun k hk => go_var rfl hk) hk) (hx.len_v hk)) (fun k hk => hk) (decide_eq_true (by omega)) hk) ?_)
    exact r1 (r := r) (fun k hk => op_v x (.int (-1)) (fun k hk => go_var rfl hk) (fun k hk => hk) (hx.ix_v (last_row e) hk)) q
theorem rd_greatest_peak (h : T_greatest_peak K ds Q Ed) : t_greatest_peak K Ed (en Q) (st0 N_greatest_peak ds) := by
  obtain ⟨x, rs, l, rfl, hx, q⟩ := h
  unfold t_greatest_peak
  show dRet _ _ [some (.val x), some (.val (.int l))]
  cases e : rs.getLast? with
  | none =>
    have := none_rows e
    subst this
    refine go_ret' (ife_f (fun k hk => gt_v (i := 0) (j := 0) (fun k hk => cb_v [x] (fun k hk => cons_v (tr := dNil) _ (fun k hk => go_var rfl hk) hk) (hx.len_v hk)) (fun k hk => hk) rfl hk) (go_var rfl q))
  | some r =>
    have hl : 0 < rs.length := by
      cases rs with
      | nil => cases e
      | cons _ _ => exact Nat.succ_pos _
    unfold lastP at q
    rw [e] at q
    refine go_ret' (ife_t (fun k hk => gt_v (i := rs.length) (j := 0) (fun k hk => cb_v [x] (fun k hk => cons_v (tr := dNil) _ (fun k hk => go_var rfl hk) hk) (hx.len_v hk)) (fun k hk => hk) (decide_eq_true (by omega)) hk) ?_)
    exact r0 (r := r) (fun k hk => op_v x (.int (-1)) (fun k hk => go_var rfl hk) (fun k hk => hk) (hx.ix_v (last_row e) hk)) q
theorem rd_problem_of (h : T_problem_of K ds Q Ed) : t_problem_of K Ed (en Q) (st0 N_problem_of ds) := by
  obtain ⟨x, y, d, u, e, h, rfl, hx, hy, v, q⟩ := h
  unfold t_problem_of
  show dSeq _ _ _ [some (.val x), some (.val y), some (.val (.int e)), some (.val (.int h))]
  have isint : ∀ (δ : DSt) (i : Nat) (z : Int) (k : Bool → Prop), δ[i]? = some (some (.val (.int z))) → k false → dNot (dTest (dCall (T_is_integer K) (fun e _ => Ed e) (dCons (dVar i) dNil))) δ k := fun δ i z k e hk => not_v (b := true) (fun k hk => test_v (b := true) (fun k hk => call_v [.int z] (fun k hk => cons_v _ (fun k hk => go_var e hk) hk) ⟨_, "int", rfl, rfl, hk⟩) hk) hk
  refine gs_next (fun k hk => not_v (b := true) (fun k hk => test_v (b := true) (fun k hk => call_v [x, .int 0] (fun k hk => cons_v _ (fun k hk => go_var rfl hk) (cons_v _ (fun k hk => hk) hk)) ⟨x, d, 0, rfl, hx, v.okd, hk⟩) hk) hk) ?_
  refine gs_next (fun k hk => isint _ 2 e _ rfl hk) ?_
  refine gs_next (fun k hk => not_v (b := true) (fun k hk => test_v (b := true) (fun k hk => call_v [y, .int e] (fun k hk => cons_v _ (fun k hk => go_var rfl hk) (cons_v _ (fun k hk => go_var rfl hk) hk)) ⟨y, u, e, rfl, hy, v.oku, hk⟩) hk) hk) ?_
  refine gs_next (fun k hk => test_v (b := false) (fun k hk => ?_) hk) ?_
  · refine op_v (.int (lastV d 0)) (.int (lastV d 0)) (fun k hk => ?_) (fun k hk => ?_) ?_
    · exact call_v [x, .int 0] (fun k hk => cons_v _ (fun k hk => go_var rfl hk) (cons_v _ (fun k hk => hk) hk)) ⟨x, d, 0, rfl, hx, hk⟩
    · exact call_v [y, .int e] (fun k hk => cons_v _ (fun k hk => go_var rfl hk) (cons_v _ (fun k hk => go_var rfl hk) hk)) ⟨y, u, e, rfl, hy, by rw [← v.lo]; exact hk⟩
    · rw [fNe_i, decide_eq_true rfl]
      exact hk
  refine gs_next (fun k hk => t_or_f (fun k hk => isint _ 3 h _ rfl hk) ?_) ?_
  · refine test_v (b := false) (fun k hk => op_v' (fun w => w = .int h) (fun w => ∃ m : Int, w = .int m ∧ m ≤ h) (fun k hk => go_var rfl (hk _ rfl)) (fun k hk => ?_) ?_) hk
    · refine cb_v [.int (lastP d 0), .int (lastP u e), .int 0, .int e] (fun k hk => cons_v _ (fun k hk => ?_) (cons_v _ (fun k hk => ?_) (cons_v _ (fun k hk => hk) (cons_v _ (fun k hk => go_var rfl hk) hk)))) fun m h1 _ => hk _ ⟨m, rfl, ?_⟩
      · exact call_v [x, .int 0] (fun k hk => cons_v _ (fun k hk => go_var rfl hk) (cons_v _ (fun k hk => hk) hk)) ⟨x, d, 0, rfl, hx, hk⟩
      · exact call_v [y, .int e] (fun k hk => cons_v _ (fun k hk => go_var rfl hk) (cons_v _ (fun k hk => go_var rfl hk) hk)) ⟨y, u, e, rfl, hy, hk⟩
      · have a1 := v.pd
        have a2 := v.pu
        have a3 := v.h0
        have a4 := v.he
        simp only [List.mem_cons, List.not_mem_nil, or_false] at h1
        omega
    · rintro _ _ rfl ⟨m, rfl, hm⟩
      show k (.bl (decide (h < m)))
      rw [decide_eq_false (by omega)]
      exact hk
  exact q
theorem gT_row {i j : Nat} {r : Int × Int} {δ : DSt} {k : DSt → Prop} (q : k ((δ.set i (some (.val (.int r.1)))).set j (some (.val (.int r.2))))) : gT (.tp [.nm i, .nm j]) (dRow r) δ k := by
  unfold dRow
  simp only [gT, gTs_c, gTs_n, gT_n]
  exact q
theorem rd_fallen (h : T_fallen K ds Q Ed) : t_fallen K Ed (en Q) (st0 N_fallen ds) := by
  obtain ⟨rs, b, l, rfl, q⟩ := h
  unfold t_fallen
  show dSeq _ _ _ [some (.val (.tup (dRows rs))), some (.val (.int b)), some (.val (.int l)), none, none, none]
  refine gs_asg (.int l) (fun k hk => go_var rfl hk) ?_
  have loop : ∀ (rest : Rows) (f : Int) (o4 o5 : Option SV), Q (.int (fall rest b f)) → dLoop (.tp [.nm 4, .nm 5]) (b_fallen_1 K Ed) { nx := dRet (dVar 3) (en Q), rt := Q } (dRows rest) [some (.val (.tup (dRows rs))), some (.val (.int b)), some (.val (.int l)), some (.val (.int f)), o4, o5] := by
    intro rest
    induction rest with
    | nil =>
      intro f o4 o5 q
      exact q
    | cons r rest ih =>
      intro f o4 o5 q
      rw [fall_cons] at q
      rw [dRows_cons]
      unfold dLoop b_fallen_1
      refine gT_row ?_
      by_cases c : r.1 ≤ b
      · rw [if_pos c] at q
        refine go_if_t (fun k hk => le_v (i := r.1) (j := b) (fun k hk => go_var rfl hk) (fun k hk => go_var rfl hk) (decide_eq_true c) hk) ?_
        exact go_asg (.int r.2) (fun k hk => go_var rfl hk) (ih r.2 _ _ q)
      · rw [if_neg c] at q
        exact go_if_f (fun k hk => le_v (i := r.1) (j := b) (fun k hk => go_var rfl hk) (fun k hk => go_var rfl hk) (decide_eq_false c) hk) (ih f _ _ q)
  exact go_seq (loop rs l none none q)
theorem ne_pl : (Str.ofString "own_plain" = Str.ofString "own_lowest") = False := by decide +kernel
theorem rd_Profile___init__ (h : T_Profile___init__ K ds Q Ed) : t_Profile___init__ K Ed { nx := endI (ga K "Profile") Q, rt := fun _ => False } (some (.inst (ga K "Profile") []) :: (ds.map (fun d => some (.val d)) ++ List.replicate (N_Profile___init__.length - (ds.length + 1)) none)) := by
  obtain ⟨x, y, d, u, e, h, rfl, hx, hy, v, q⟩ := h
  unfold t_Profile___init__
  show dSeq _ _ _ [some (.inst (ga K "Profile") []), some (.val x), some (.val y), some (.val (.int e)), some (.val (.int h)), none]
  refine gs_asg .non (fun k hk => call_v [x, y, .int e, .int h] (fun k hk => cons_v _ (fun k hk => go_var rfl hk) (cons_v _ (fun k hk => go_var rfl hk) (cons_v _ (fun k hk => go_var rfl hk) (cons_v _ (fun k hk => go_var rfl hk) hk)))) ⟨x, y, d, u, e, h, rfl, hx, hy, v, hk⟩) ?_
  refine gs_next (fun k hk => test_v (b := false) (fun k hk => op_v .non .non (fun k hk => go_var rfl hk) (fun k hk => hk) hk) hk) ?_
  refine gs_setF (plainD d u e h) (fun k hk => ?_) rfl (by simp) ?_
  · exact tup_v _ (fun k hk => cons_v _ (fun k hk => cb_v [x] (fun k hk => cons_v (tr := dNil) _ (fun k hk => go_var rfl hk) hk) (hx.tup_v hk)) (cons_v _ (fun k hk => cb_v [y] (fun k hk => cons_v (tr := dNil) _ (fun k hk => go_var rfl hk) hk) (hy.tup_v hk)) (cons_v _ (fun k hk => go_var rfl hk) (cons_v _ (fun k hk => go_var rfl hk) hk)))) hk
  show dSetF _ _ _ _ _ [some (.inst (ga K "Profile") [("own_plain", plainD d u e h)]), some (.val x), some (.val y), some (.val (.int e)), some (.val (.int h)), some (.val .non)]
  refine go_setF (.int (lastV d 0)) (fun k hk => call_v [x, .int 0] (fun k hk => cons_v _ (fun k hk => go_var rfl hk) (cons_v _ (fun k hk => hk) hk)) ⟨x, d, 0, rfl, hx, hk⟩) rfl (by simp) ?_
  simp only [putD_c, putD_n, ne_pl, if_false]
  exact ⟨rfl, q⟩
theorem rd_Profile_end (h : T_Profile_end K ds Q Ed) : t_Profile_end K Ed (en Q) (st0 N_Profile_end ds) := by
  obtain ⟨d, u, e, h, rfl, q⟩ := h
  unfold t_Profile_end
  show dRet _ _ [some (.val (prI K d u e h))]
  exact go_ret' (op_v (.tup [.tup (dRows d), .tup (dRows u), .int e, .int h]) (.int 2) (fun k hk => ⟨rfl, hk⟩) (fun k hk => hk) (ix_v (atI_2 _ _ _ _) q))
theorem rd_Profile_height (h : T_Profile_height K ds Q Ed) : t_Profile_height K Ed (en Q) (st0 N_Profile_height ds) := by
  obtain ⟨d, u, e, h, rfl, q⟩ := h
  unfold t_Profile_height
  show dRet _ _ [some (.val (prI K d u e h))]
  exact go_ret' (op_v (.tup [.tup (dRows d), .tup (dRows u), .int e, .int h]) (.int 3) (fun k hk => ⟨rfl, hk⟩) (fun k hk => hk) (ix_v (atI_3 _ _ _ _ _) q))
theorem rd_Profile_descent (h : T_Profile_descent K ds Q Ed) : t_Profile_descent K Ed (en Q) (st0 N_Profile_descent ds) := by
  obtain ⟨d, u, e, h, rfl, q⟩ := h
  unfold t_Profile_descent
  show dRet _ _ [some (.val (prI K d u e h))]
  exact go_ret' (cb_v [.tup (dRows d)] (fun k hk => cons_v (tr := dNil) _ (fun k hk => op_v (.tup [.tup (dRows d), .tup (dRows u), .int e, .int h]) (.int 0) (fun k hk => ⟨rfl, hk⟩) (fun k hk => hk) (ix_v (atI_0 _ _) hk)) hk) q)
theorem rd_Profile_ascent (h : T_Profile_ascent K ds Q Ed) : t_Profile_ascent K Ed (en Q) (st0 N_Profile_ascent ds) := by
  obtain ⟨d, u, e, h, rfl, q⟩ := h
  unfold t_Profile_ascent
  show dRet _ _ [some (.val (prI K d u e h))]
  exact go_ret' (cb_v [.tup (dRows u)] (fun k hk => cons_v (tr := dNil) _ (fun k hk => op_v (.tup [.tup (dRows d), .tup (dRows u), .int e, .int h]) (.int 1) (fun k hk => ⟨rfl, hk⟩) (fun k hk => hk) (ix_v (atI_1 _ _ _) hk)) hk) q)
theorem tame_rows : ∀ rs : Rows, D.tameL (dRows rs) = true ∧ D.depL (dRows rs) ≤ 1
  | [] => ⟨rfl, Nat.zero_le _⟩
  | r :: rs => by
    obtain ⟨h1, h2⟩ := tame_rows rs
    rw [dRows_cons]
    refine ⟨by simp [D.tameL, D.tame, dRow, h1], ?_⟩
    simp only [D.depL, D.dep, dRow]
    omega
theorem plain_eq {d u : Rows} {e h : Int} {R : D → Prop} (q : R (.bl true)) : fEq (plainD d u e h) (plainD d u e h) R := by
  obtain ⟨h1, h2⟩ := tame_rows d
  obtain ⟨g1, g2⟩ := tame_rows u
  have h3 : D.tame (plainD d u e h) = true := by simp [plainD, D.tame, D.tameL, h1, g1]
  have h4 : D.dep (plainD d u e h) ≤ 64 := by
    simp only [plainD, D.dep, D.depL]
    omega
  show D.okEq _ = true ∧ D.okEq _ = true ∧ R (.bl (D.eqq _ _))
  rw [tame_same h3]
  exact ⟨tame_okEq h3 h4, tame_okEq h3 h4, q⟩
end
end K41

namespace K41
open PySem.Spec PySem L2 PyProof.Rows FG
open He (ga ma Fa Dv)
section
variable {K : PySem.W.Frag} {ds : List D} {Q : D → Prop} {Ed : Exn → Prop}
theorem seq_g {x : D} {es : List D} {t : DT} {δ : DSt} {R : List D → Prop} (hx : x = .lst es ∨ x = .tup es) (h : ∀ k : D → Prop, k x → t δ k) (q : R es) : iSeq t δ R := h _ (by rcases hx with rfl | rfl <;> exact q)
theorem ev_moved {rs : Rows} {c : Int} {R : D → Prop} (q : R (.lst (dRows (mov rs c)))) : e_moved_1 K Ed [some (.val (.tup (dRows rs))), some (.val (.int c)), none, none] R := by
  unfold e_moved_1 dStay fLc
  refine seq_v (.inr rfl) (fun k hk => go_var rfl hk) ?_
  refine lcl_map (fun z => match z with | .tup [.int p, .int v] => .tup [.int (p + c), .int (v + c)] | z => z) (fun z hz R hR => ?_) ?_
  · obtain ⟨r, _, rfl⟩ := List.mem_map.mp hz
    refine gT_row ?_
    exact tup_v _ (fun k hk => cons_v _ (fun k hk => add_v (i := r.1) (j := c) (fun k hk => go_var rfl hk) (fun k hk => go_var rfl hk) rfl hk) (cons_v _ (fun k hk => add_v (i := r.2) (j := c) (fun k hk => go_var rfl hk) (fun k hk => go_var rfl hk) rfl hk) hk)) hR
  · have e : ((dRows rs).map fun z => match z with | .tup [.int p, .int v] => D.tup [.int (p + c), .int (v + c)] | z => z) = dRows (mov rs c) := by
      unfold dRows mov
      rw [List.map_map, List.map_map]
      rfl
    rw [e]
    exact q
theorem rd_moved (h : T_moved K ds Q Ed) : t_moved K Ed (en Q) (st0 N_moved ds) := by
  obtain ⟨rs, c, rfl, q⟩ := h
  unfold t_moved
  show dRet _ _ [some (.val (.tup (dRows rs))), some (.val (.int c)), none, none]
  exact go_ret' (cb_v [.lst (dRows (mov rs c))] (fun k hk => cons_v (tr := dNil) _ (fun k hk => ev_moved hk) hk) q)
theorem ev_ahead {near : Rows} {top : Int} {o1 o3 o4 o5 o6 o7 o8 : Option SV} {R : D → Prop} (q : R (.lst (dRows (near.filter fun r => decide (r.1 < top))))) : e_followed_1 K Ed [some (.val (.tup (dRows near))), o1, some (.val (.int top)), o3, o4, o5, o6, o7, o8] R := by
  unfold e_followed_1 dStay fLc
  refine seq_v (.inr rfl) (fun k hk => go_var rfl hk) ?_
  refine lcl_fm (fun z => match z with | .tup [.int p, .int _] => decide (p < top) | _ => false) id _ [] (fun z hz R R0 h1 h0 => ?_) ?_
  · obtain ⟨r, _, rfl⟩ := List.mem_map.mp hz
    simp only [gT_n]
    by_cases c : r.1 < top
    · refine lt_v (i := r.1) (j := top) (fun k hk => r0 (fun k hk => go_var rfl hk) hk) (fun k hk => go_var rfl hk) (decide_eq_true c) ?_
      rw [if_pos rfl]
      exact go_var rfl (h1 (decide_eq_true c))
    · refine lt_v (i := r.1) (j := top) (fun k hk => r0 (fun k hk => go_var rfl hk) hk) (fun k hk => go_var rfl hk) (decide_eq_false c) ?_
      rw [if_neg Bool.false_ne_true]
      exact h0 (decide_eq_false c)
  · rw [List.nil_append, List.map_id]
    have e : ((dRows near).filter fun z => match z with | .tup [.int p, .int _] => decide (p < top) | _ => false) = dRows (near.filter fun r => decide (r.1 < top)) := by
      unfold dRows
      rw [List.filter_map]
      rfl
    rw [e]
    exact q
theorem ev_behind {far : Rows} {top : Int} {o0 o1 o4 o5 o6 o7 o8 : Option SV} {R : D → Prop} (q : R (.lst (dRows (far.filter fun r => decide (top < r.1))))) : e_followed_2 K Ed [o0, o1, some (.val (.int top)), some (.val (.tup (dRows far))), o4, o5, o6, o7, o8] R := by
  unfold e_followed_2 dStay fLc
  refine seq_v (.inr rfl) (fun k hk => go_var rfl hk) ?_
  refine lcl_fm (fun z => match z with | .tup [.int p, .int _] => decide (top < p) | _ => false) id _ [] (fun z hz R R0 h1 h0 => ?_) ?_
  · obtain ⟨r, _, rfl⟩ := List.mem_map.mp hz
    simp only [gT_n]
    by_cases c : top < r.1
    · refine gt_v (i := r.1) (j := top) (fun k hk => r0 (fun k hk => go_var rfl hk) hk) (fun k hk => go_var rfl hk) (decide_eq_true c) ?_
      rw [if_pos rfl]
      exact go_var rfl (h1 (decide_eq_true c))
    · refine gt_v (i := r.1) (j := top) (fun k hk => r0 (fun k hk => go_var rfl hk) hk) (fun k hk => go_var rfl hk) (decide_eq_false c) ?_
      rw [if_neg Bool.false_ne_true]
      exact h0 (decide_eq_false c)
  · rw [List.nil_append, List.map_id]
    have e : ((dRows far).filter fun z => match z with | .tup [.int p, .int _] => decide (top < p) | _ => false) = dRows (far.filter fun r => decide (top < r.1)) := by
      unfold dRows
      rw [List.filter_map]
      rfl
    rw [e]
    exact q
theorem lastV_snoc (rs : Rows) (r : Int × Int) (l : Int) : lastV (rs ++ [r]) l = r.2 := by
  unfold lastV
  rw [List.getLast?_append]
  rfl
theorem rd_followed (h : T_followed K ds Q Ed) : t_followed K Ed (en Q) (st0 N_followed ds) := by
  obtain ⟨near, l, top, far, fl, rfl, hlen, q⟩ := h
  unfold foll at q
  unfold t_followed
  show dSeq _ _ _ [some (.val (.tup (dRows near))), some (.val (.int l)), some (.val (.int top)), some (.val (.tup (dRows far))), some (.val (.int fl)), none, none, none, none]
  refine gs_asg (dRow (top, min (fall near top l) (fall far top fl))) (fun k hk => ?_) ?_
  · refine tup_v _ (fun k hk => cons_v _ (fun k hk => go_var rfl hk) (cons_v _ (fun k hk => ?_) hk)) hk
    refine min_v (i := fall near top l) (j := fall far top fl) (fun k hk => ?_) (fun k hk => ?_) rfl hk
    · exact call_v [.tup (dRows near), .int top, .int l] (fun k hk => cons_v _ (fun k hk => go_var rfl hk) (cons_v _ (fun k hk => go_var rfl hk) (cons_v _ (fun k hk => go_var rfl hk) hk))) ⟨near, top, l, rfl, hk⟩
    · exact call_v [.tup (dRows far), .int top, .int fl] (fun k hk => cons_v _ (fun k hk => go_var rfl hk) (cons_v _ (fun k hk => go_var rfl hk) (cons_v _ (fun k hk => go_var rfl hk) hk))) ⟨far, top, fl, rfl, hk⟩
  have a := List.length_filter_le (fun r : Int × Int => decide (r.1 < top)) near
  have b := List.length_filter_le (fun r : Int × Int => decide (top < r.1)) far
  generalize hal : near.filter (fun r => decide (r.1 < top)) = al at *
  generalize hbl : far.filter (fun r => decide (top < r.1)) = bl at *
  generalize hpa : (top, min (fall near top l) (fall far top fl)) = pa at *
  show dSeq _ _ _ [some (.val (.tup (dRows near))), some (.val (.int l)), some (.val (.int top)), some (.val (.tup (dRows far))), some (.val (.int fl)), some (.val (dRow pa)), none, none, none]
  refine gs_asg (.lst (dRows (al ++ [pa] ++ bl))) (fun k hk => ?_) ?_
  · rw [dRows_app, dRows_app] at hk
    refine op_v (.lst (dRows al ++ dRows [pa])) (.lst (dRows bl)) (fun k hk => ?_) (fun k hk => ev_behind (by rw [hbl]; exact hk)) ?_
    · refine op_v (.lst (dRows al)) (.lst (dRows [pa])) (fun k hk => ev_ahead (by rw [hal]; exact hk)) (fun k hk => lst_v _ (fun k hk => cons_v _ (fun k hk => go_var rfl hk) hk) hk) ?_
      rw [fAdd_l]
      exact ⟨by rw [sizeLine_eq, dRows_len, dRows_len, List.length_singleton]; omega, hk⟩
    · rw [fAdd_l]
      exact ⟨by rw [sizeLine_eq, List.length_append, dRows_len, dRows_len, dRows_len, List.length_singleton]; omega, hk⟩
  have hrl : (al ++ [pa] ++ bl).length ≤ 10000001 := by
    rw [List.length_append, List.length_append, List.length_singleton]
    omega
  generalize al ++ [pa] ++ bl = rows at *
  show dSeq _ _ _ [some (.val (.tup (dRows near))), some (.val (.int l)), some (.val (.int top)), some (.val (.tup (dRows far))), some (.val (.int fl)), some (.val (dRow pa)), some (.val (.lst (dRows rows))), none, none]
  refine gs_asgO [] (fun k hk => hk) ?_
  have loop : ∀ (rest acc : Rows) (o8 : Option SV), acc.length + rest.length ≤ 10000001 → Q (.tup (dRows (acc ++ filt (lastV acc l) rest))) → dLoop (.nm 8) (b_followed_3 K Ed) { nx := dRet (dCB fTuple (dCons (dVar 7) dNil)) (en Q), rt := Q } (dRows rest) [some (.val (.tup (dRows near))), some (.val (.int l)), some (.val (.int top)), some (.val (.tup (dRows far))), some (.val (.int fl)), some (.val (dRow pa)), some (.val (.lst (dRows rows))), some (.own (dRows acc)), o8] := by
    intro rest
    induction rest with
    | nil =>
      intro acc o8 _ q
      have e : filt (lastV acc l) [] = [] := by unfold filt; rfl
      rw [e, List.append_nil] at q
      exact q
    | cons r rest ih =>
      intro acc o8 hn q
      rw [List.length_cons] at hn
      rw [dRows_cons]
      unfold dLoop b_followed_3
      simp only [gT_n]
      have lv : ∀ k : D → Prop, k (.int (lastV acc l)) → dCall (T_last_valley K) (fun e _ => Ed e) (dCons (dVar 7) (dCons (dVar 1) dNil)) (view [some (.val (.tup (dRows near))), some (.val (.int l)), some (.val (.int top)), some (.val (.tup (dRows far))), some (.val (.int fl)), some (.val (dRow pa)), some (.val (.lst (dRows rows))), some (.own (dRows acc)), some (.val (dRow r))]) k := fun k hk => call_v [.lst (dRows acc), .int l] (fun k hk => cons_v _ (fun k hk => go_var rfl hk) (cons_v _ (fun k hk => go_var rfl hk) hk)) ⟨_, acc, l, rfl, .inl rfl, hk⟩
      unfold filt at q
      by_cases c : r.2 < lastV acc l
      · rw [if_pos c] at q
        refine go_if_t (fun k hk => lt_v (i := r.2) (j := lastV acc l) (fun k hk => r1 (fun k hk => go_var rfl hk) hk) lv (decide_eq_true c) hk) ?_
        refine app_ok (dRow r) rfl (fun k hk => go_var rfl hk) ⟨by rw [sizeLine_eq, dRows_len]; omega, ?_⟩
        have := ih (acc ++ [r]) (some (.val (dRow r))) (by rw [List.length_append, List.length_singleton]; omega) (by rw [lastV_snoc, List.append_assoc]; exact q)
        rw [dRows_app] at this
        exact this
      · rw [if_neg c] at q
        exact go_if_f (fun k hk => lt_v (i := r.2) (j := lastV acc l) (fun k hk => r1 (fun k hk => go_var rfl hk) hk) lv (decide_eq_false c) hk) (ih acc _ (by omega) q)
  refine go_seq (seq_g (es := dRows rows) (.inl rfl) (fun k hk => go_var rfl hk) ?_)
  exact loop rows [] none (by simpa using hrl) q
theorem rd_sum_of (h : T_sum_of K ds Q Ed) : t_sum_of K Ed (en Q) (st0 N_sum_of ds) := by
  obtain ⟨xs, ys, N, M, d1, u1, e1, h1, d2, u2, e2, h2, rfl, p1, p2, hn, q⟩ := h
  have s1 := p1.nd
  have s2 := p1.nu
  have s3 := p2.nd
  have s4 := p2.nu
  unfold t_sum_of
  show dSeq _ _ _ [some (.val (plainD d1 u1 e1 h1)), some (.val (plainD d2 u2 e2 h2)), none, none, none, none, none, none, none, none, none, none, none]
  refine gs_tp [.tup (dRows d1), .tup (dRows u1), .int e1, .int h1] (fun k hk => go_var rfl hk) ?_
  simp only [gTs_c, gTs_n, gT_n]
  refine gs_tp [.tup (dRows d2), .tup (dRows u2), .int e2, .int h2] (fun k hk => go_var rfl hk) ?_
  simp only [gTs_c, gTs_n, gT_n]
  show dSeq _ _ _ [some (.val (plainD d1 u1 e1 h1)), some (.val (plainD d2 u2 e2 h2)), none, none, none, some (.val (.tup (dRows d1))), some (.val (.tup (dRows u1))), some (.val (.int e1)), some (.val (.int h1)), some (.val (.tup (dRows d2))), some (.val (.tup (dRows u2))), some (.val (.int e2)), some (.val (.int h2))]
  refine gs_asg (.int (e1 + h2)) (fun k hk => add_v (i := e1) (j := h2) (fun k hk => go_var rfl hk) (fun k hk => go_var rfl hk) rfl hk) ?_
  refine gs_asg (.tup (dRows (foll d1 0 h1 (mov d2 e1) e1))) (fun k hk => ?_) ?_
  · refine call_v [.tup (dRows d1), .int 0, .int h1, .tup (dRows (mov d2 e1)), .int e1] (fun k hk => cons_v _ (fun k hk => go_var rfl hk) (cons_v _ (fun k hk => hk) (cons_v _ (fun k hk => go_var rfl hk) (cons_v _ (fun k hk => ?_) (cons_v _ (fun k hk => go_var rfl hk) hk))))) ⟨d1, 0, h1, mov d2 e1, e1, rfl, by rw [mov_len]; omega, hk⟩
    exact call_v [.tup (dRows d2), .int e1] (fun k hk => cons_v _ (fun k hk => go_var rfl hk) (cons_v _ (fun k hk => go_var rfl hk) hk)) ⟨d2, e1, rfl, hk⟩
  refine gs_asg (.tup (dRows (foll (mov u2 e1) (e1 + e2) (e1 + h2) u1 e1))) (fun k hk => ?_) ?_
  · refine call_v [.tup (dRows (mov u2 e1)), .int (e1 + e2), .int (e1 + h2), .tup (dRows u1), .int e1] (fun k hk => cons_v _ (fun k hk => ?_) (cons_v _ (fun k hk => add_v (i := e1) (j := e2) (fun k hk => go_var rfl hk) (fun k hk => go_var rfl hk) rfl hk) (cons_v _ (fun k hk => go_var rfl hk) (cons_v _ (fun k hk => go_var rfl hk) (cons_v _ (fun k hk => go_var rfl hk) hk))))) ⟨mov u2 e1, e1 + e2, e1 + h2, u1, e1, rfl, by rw [mov_len]; omega, hk⟩
    exact call_v [.tup (dRows u2), .int e1] (fun k hk => cons_v _ (fun k hk => go_var rfl hk) (cons_v _ (fun k hk => go_var rfl hk) hk)) ⟨u2, e1, rfl, hk⟩
  show dRet _ _ [some (.val (plainD d1 u1 e1 h1)), some (.val (plainD d2 u2 e2 h2)), some (.val (.int (e1 + h2))), some (.val (.tup (dRows (foll d1 0 h1 (mov d2 e1) e1)))), some (.val (.tup (dRows (foll (mov u2 e1) (e1 + e2) (e1 + h2) u1 e1)))), some (.val (.tup (dRows d1))), some (.val (.tup (dRows u1))), some (.val (.int e1)), some (.val (.int h1)), some (.val (.tup (dRows d2))), some (.val (.tup (dRows u2))), some (.val (.int e2)), some (.val (.int h2))]
  have l1 := foll_len d1 (mov d2 e1) 0 h1 e1
  have l2 := foll_len (mov u2 e1) u1 (e1 + e2) (e1 + h2) e1
  rw [mov_len] at l1 l2
  refine go_ret' (tup_v _ (fun k hk => cons_v _ (fun k hk => go_var rfl hk) (cons_v _ (fun k hk => go_var rfl hk) (cons_v _ (fun k hk => add_v (i := e1) (j := e2) (fun k hk => go_var rfl hk) (fun k hk => go_var rfl hk) rfl hk) (cons_v _ (fun k hk => max_v (i := h1) (j := e1 + h2) (fun k hk => go_var rfl hk) (fun k hk => go_var rfl hk) rfl hk) hk)))) ?_)
  exact q _ _ _ _ ⟨prof_sum p1.p p2.p, by omega, by omega⟩
/-- sums of the same walk again and again stay small -/
theorem PP.again {xs : List Int} {N M n : Nat} {d u d' u' : Rows} {e h e' h' : Int} (p : PP xs N d u e h) (q : PP (rep n xs) M d' u' e' h') : PP (rep n xs) (N + 1) d' u' e' h' := by
  obtain ⟨a, b⟩ := prof_rep_len q.p p.p
  have s1 := p.nd
  have s2 := p.nu
  exact ⟨q.p, by omega, by omega⟩
theorem rd_times (h : T_times K ds Q Ed) : t_times K Ed (en Q) (st0 N_times ds) := by
  obtain ⟨xs, N, d, u, e, h, r, rfl, p, hN, hr, q⟩ := h
  unfold t_times
  show dSeq _ _ _ [some (.val (plainD d u e h)), some (.val (.int r)), none, none, none]
  refine go_seq (go_par3 (plainD [] [] 0 0) (plainD d u e h) (.int r) (fun k hk => hk) (fun k hk => go_var rfl hk) (fun k hk => go_var rfl hk) ?_)
  have loop : ∀ (n left a b : Nat) (d1 u1 : Rows) (e1 h1 : Int) (d2 u2 : Rows) (e2 h2 : Int), left < n → left ≤ 1000000000000 → a + left * b = r → PP (rep a xs) (N + 1) d1 u1 e1 h1 → PP (rep b xs) (N + 1) d2 u2 e2 h2 →
      dWh (dTest (dOp fGt (dVar 4) (dC (.int 0)))) (b_times_1 K Ed) { nx := dRet (dVar 2) (en Q), rt := Q } n [some (.val (plainD d u e h)), some (.val (.int r)), some (.val (plainD d1 u1 e1 h1)), some (.val (plainD d2 u2 e2 h2)), some (.val (.int (left : Int)))] := by
    intro n
    induction n with
    | zero => intro left a b d1 u1 e1 h1 d2 u2 e2 h2 hl; omega
    | succ n ih =>
      intro left a b d1 u1 e1 h1 d2 u2 e2 h2 hl hl2 hab p1 p2
      unfold dWh
      by_cases z : left = 0
      · subst z
        rw [Nat.zero_mul, Nat.add_zero] at hab
        subst hab
        refine gt_v (i := ((0 : Nat) : Int)) (j := 0) (b := false) (fun k hk => go_var rfl hk) (fun k hk => hk) rfl ?_
        rw [if_neg Bool.false_ne_true]
        exact q _ _ _ _ p1
      · refine gt_v (i := (left : Int)) (j := 0) (fun k hk => go_var rfl hk) (fun k hk => hk) (decide_eq_true (by omega)) ?_
        rw [if_pos rfl]
        unfold b_times_1
        -- the second half of a turn
        have half : ∀ (a' : Nat) (d3 u3 : Rows) (e3 h3 : Int) (De : DEnds), a' + left / 2 * (b + b) = r → PP (rep a' xs) (N + 1) d3 u3 e3 h3 → De.nx = dWh (dTest (dOp fGt (dVar 4) (dC (.int 0)))) (b_times_1 K Ed) { nx := dRet (dVar 2) (en Q), rt := Q } n →
            dPar2 3 4 (dCall (T_sum_of K) (fun e _ => Ed e) (dCons (dVar 3) (dCons (dVar 3) dNil))) (dOp fFdiv (dVar 4) (dC (.int 2))) De [some (.val (plainD d u e h)), some (.val (.int r)), some (.val (plainD d3 u3 e3 h3)), some (.val (plainD d2 u2 e2 h2)), some (.val (.int (left : Int)))] := by
          intro a' d3 u3 e3 h3 De hab' p3 hD
          refine ⟨xs |> rep b, xs |> rep b, N + 1, N + 1, d2, u2, e2, h2, d2, u2, e2, h2, rfl, p2, p2, by omega, fun d4 u4 e4 h4 p4 => ?_⟩
          refine op_v (.int (left : Int)) (.int 2) (fun k hk => go_var rfl hk) (fun k hk => hk) ⟨cdivr (by decide) (by decide), ?_⟩
          rw [hD, show ((left : Int) / 2) = ((left / 2 : Nat) : Int) by omega]
          have p5 : PP (rep (b + b) xs) (N + 1) d4 u4 e4 h4 := by
            refine p.again (n := b + b) (M := N + 1 + (N + 1) + 1) ?_
            rw [rep_add]
            exact p4
          exact ih (left / 2) a' (b + b) _ _ _ _ _ _ _ _ (by omega) (by omega) hab' p3 p5
        have h2b : left / 2 * (b + b) + left % 2 * b = left * b := by
          have e2 : left * b = 2 * (left / 2 * b) + left % 2 * b := by
            have h := Nat.div_add_mod left 2
            calc left * b = (2 * (left / 2) + left % 2) * b := by rw [h]
              _ = 2 * (left / 2 * b) + left % 2 * b := by rw [Nat.add_mul, Nat.mul_assoc]
          rw [Nat.mul_add, e2]
          omega
        by_cases odd : left % 2 = 1
        · rw [odd, Nat.one_mul] at h2b
          refine go_seq (go_if_t (fun k hk => eq_v (i := (left : Int) % 2) (j := 1) (fun k hk => op_v (.int (left : Int)) (.int 2) (fun k hk => go_var rfl hk) (fun k hk => hk) ⟨by decide, hk⟩) (fun k hk => hk) (decide_eq_true (by omega)) hk) ?_)
          refine go_asgY (fun v => ∃ d3 u3 e3 h3, v = plainD d3 u3 e3 h3 ∧ PP (rep (a + b) xs) (N + 1) d3 u3 e3 h3) (fun k hk => ?_) ?_
          · refine call_v [plainD d1 u1 e1 h1, plainD d2 u2 e2 h2] (fun k hk => cons_v _ (fun k hk => go_var rfl hk) (cons_v _ (fun k hk => go_var rfl hk) hk)) ⟨_, _, _, _, d1, u1, e1, h1, d2, u2, e2, h2, rfl, p1, p2, by omega, fun d3 u3 e3 h3 p3 => hk _ ⟨d3, u3, e3, h3, rfl, ?_⟩⟩
            refine p.again (n := a + b) (M := N + 1 + (N + 1) + 1) ?_
            rw [rep_add]
            exact p3
          · rintro _ ⟨d3, u3, e3, h3, rfl, p3⟩
            exact half (a + b) d3 u3 e3 h3 _ (by omega) p3 rfl
        · have ev : left % 2 = 0 := by omega
          rw [ev, Nat.zero_mul, Nat.add_zero] at h2b
          refine gs_next (fun k hk => eq_v (i := (left : Int) % 2) (j := 1) (fun k hk => op_v (.int (left : Int)) (.int 2) (fun k hk => go_var rfl hk) (fun k hk => hk) ⟨by decide, hk⟩) (fun k hk => hk) (decide_eq_false (by omega)) hk) ?_
          exact half a d1 u1 e1 h1 _ (by omega) p1 rfl
  refine go_seq ⟨r + 1, ?_⟩
  have s1 := p.nd
  have s2 := p.nu
  exact loop (r + 1) r 0 1 [] [] 0 0 d u e h (by omega) hr (by omega) ⟨prof_nil, Nat.zero_le _, Nat.zero_le _⟩ ⟨by rw [rep_one]; exact p.p, by omega, by omega⟩
theorem prof_zero : Prof [0] [] [] 0 0 := by
  refine ⟨⟨trivial, fun b hb => ?_⟩, ⟨trivial, fun b hb => ?_⟩, rfl, rfl⟩
  · rw [dn_cons, if_neg (by omega)]
    show (0 : Int) = min 0 (0 + 0)
    rfl
  · have e : [(0 : Int)].sum = 0 := rfl
    rw [e] at hb ⊢
    show (0 : Int) = 0 + dn [-0] (b - 0)
    rw [dn_cons, if_neg (by omega)]
    show (0 : Int) = 0 + min 0 (-0 + 0)
    rfl
theorem rd_profile_of_step (h : T_profile_of_step K ds Q Ed) : t_profile_of_step K Ed (en Q) (st0 N_profile_of_step ds) := by
  obtain ⟨i, rfl, q⟩ := h
  unfold t_profile_of_step
  show dSeq _ _ _ [some (.val (.int i))]
  by_cases c : i < 0
  · refine go_seq (go_if_t (fun k hk => lt_v (i := i) (j := 0) (fun k hk => go_var rfl hk) (fun k hk => hk) (decide_eq_true c) hk) ?_)
    refine go_ret' (tup_v [.tup (dRows [(0, i)]), .tup (dRows []), .int i, .int 0] (fun k hk => ?_) (q _ _ _ _ ⟨prof_neg c, Nat.le_refl _, Nat.zero_le _⟩))
    refine cons_v _ (fun k hk => tup_v _ (fun k hk => cons_v (dRow (0, i)) (fun k hk => tup_v _ (fun k hk => cons_v _ (fun k hk => hk) (cons_v _ (fun k hk => go_var rfl hk) hk)) hk) hk) hk) (cons_v _ (fun k hk => tup_v _ (fun k hk => hk) hk) (cons_v _ (fun k hk => go_var rfl hk) (cons_v _ (fun k hk => hk) hk)))
  · refine gs_next (fun k hk => lt_v (i := i) (j := 0) (fun k hk => go_var rfl hk) (fun k hk => hk) (decide_eq_false c) hk) ?_
    by_cases g : 0 < i
    · refine go_ret' (ife_t (fun k hk => gt_v (i := i) (j := 0) (fun k hk => go_var rfl hk) (fun k hk => hk) (decide_eq_true g) hk) (tup_v [.tup (dRows []), .tup (dRows [(i, 0)]), .int i, .int i] (fun k hk => ?_) (q _ _ _ _ ⟨prof_pos g, Nat.zero_le _, Nat.le_refl _⟩)))
      refine cons_v _ (fun k hk => tup_v _ (fun k hk => hk) hk) (cons_v _ (fun k hk => tup_v _ (fun k hk => cons_v (dRow (i, 0)) (fun k hk => tup_v _ (fun k hk => cons_v _ (fun k hk => go_var rfl hk) (cons_v _ (fun k hk => hk) hk)) hk) hk) hk) (cons_v _ (fun k hk => go_var rfl hk) (cons_v _ (fun k hk => go_var rfl hk) hk)))
    · have z : i = 0 := by omega
      subst z
      exact go_ret' (ife_f (fun k hk => gt_v (i := 0) (j := 0) (fun k hk => go_var rfl hk) (fun k hk => hk) rfl hk) (q [] [] 0 0 ⟨prof_zero, Nat.zero_le _, Nat.zero_le _⟩))
theorem PP.mono {xs : List Int} {N M : Nat} {d u : Rows} {e h : Int} (p : PP xs N d u e h) (hl : N ≤ M) : PP xs M d u e h := ⟨p.p, Nat.le_trans p.nd hl, Nat.le_trans p.nu hl⟩
theorem rd_profile_of_parts {n : Nat} (h : T_profile_of_parts K (n + 1) ds Q Ed) : t_profile_of_parts K n Ed (en Q) (st0 N_profile_of_parts ds) := by
  obtain ⟨ps, rfl, ho, hd, hc, q⟩ := h
  unfold t_profile_of_parts
  show dSeq _ _ _ [some (.val (.tup (dPts ps))), none, none]
  refine gs_asg (plainD [] [] 0 0) (fun k hk => hk) ?_
  have loop : ∀ (rest : List Pt) (xs : List Int) (N : Nat) (d u : Rows) (e h : Int) (o2 : Option SV), okL rest → depL rest < n + 1 → N + 2 * clL rest ≤ 2 * clL ps → PP xs N d u e h → (∀ d u e h, PP (xs ++ unrollL rest) (2 * clL ps) d u e h → Q (plainD d u e h)) →
      dLoop (.nm 2) (b_profile_of_parts_2 K n Ed) { nx := dRet (dVar 1) (en Q), rt := Q } (dPts rest) [some (.val (.tup (dPts ps))), some (.val (plainD d u e h)), o2] := by
    intro rest
    induction rest with
    | nil =>
      intro xs N d u e h o2 _ _ hN p q
      rw [clL_nil] at hN
      rw [unrollL_nil, List.append_nil] at q
      rw [dPts_nil]
      exact q _ _ _ _ (p.mono (by omega))
    | cons p rest ih =>
      intro xs N d u e h o2 k1 k2 hN pp q
      rw [okL_cons] at k1
      rw [depL_cons] at k2
      rw [clL_cons] at hN
      rw [unrollL_cons] at q
      rw [dPts_cons]
      unfold dLoop b_profile_of_parts_2
      simp only [gT_n]
      cases p with
      | step i =>
        rw [cl_step] at hN
        rw [unroll_step] at q
        rw [dPt_step]
        refine go_if_f (fun k hk => ⟨"int", rfl, by decide, hk⟩) ?_
        refine go_asgY (fun v => ∃ d u e h, v = plainD d u e h ∧ PP (xs ++ [i]) (N + 2) d u e h) (fun k hk => ?_) ?_
        · refine call_vY (fun es => ∃ d2 u2 e2 h2, es = [plainD d u e h, plainD d2 u2 e2 h2] ∧ PP [i] 1 d2 u2 e2 h2) (fun k hk => ?_) ?_
          · refine cons_v _ (fun k hk => go_var rfl hk) (cons_vY (fun v => ∃ d2 u2 e2 h2, v = plainD d2 u2 e2 h2 ∧ PP [i] 1 d2 u2 e2 h2) (fun k hk => ?_) ?_)
            · exact call_v [.int i] (fun k hk => cons_v _ (fun k hk => go_var rfl hk) hk) ⟨i, rfl, fun d2 u2 e2 h2 p2 => hk _ ⟨d2, u2, e2, h2, rfl, p2⟩⟩
            · rintro _ ⟨d2, u2, e2, h2, rfl, p2⟩
              exact hk _ ⟨d2, u2, e2, h2, rfl, p2⟩
          · rintro _ ⟨d2, u2, e2, h2, rfl, p2⟩
            exact ⟨xs, [i], N, 1, d, u, e, h, d2, u2, e2, h2, rfl, pp, p2, by omega, fun d3 u3 e3 h3 p3 => hk _ ⟨d3, u3, e3, h3, rfl, p3⟩⟩
        · rintro _ ⟨d3, u3, e3, h3, rfl, p3⟩
          exact ih (xs ++ [i]) (N + 2) d3 u3 e3 h3 _ k1.2 (by omega) (by omega) p3 (by rw [List.append_assoc]; exact q)
      | loop r rs =>
        rw [ok_loop] at k1
        rw [dep_loop] at k2
        rw [cl_loop] at hN
        rw [unroll_loop] at q
        rw [dPt_loop]
        have rr : ((r.toNat : Nat) : Int) = r := Int.toNat_of_nonneg k1.1.1
        refine go_if_t (fun k hk => ⟨"tuple", rfl, by decide, hk⟩) ?_
        unfold b_profile_of_parts_1
        refine go_asgY (fun v => ∃ d u e h, v = plainD d u e h ∧ PP (xs ++ rep r.toNat (unrollL rs)) (N + (2 * clL rs + 1) + 1) d u e h) (fun k hk => ?_) ?_
        · refine call_vY (fun es => ∃ d2 u2 e2 h2, es = [plainD d u e h, plainD d2 u2 e2 h2] ∧ PP (rep r.toNat (unrollL rs)) (2 * clL rs + 1) d2 u2 e2 h2) (fun k hk => ?_) ?_
          · refine cons_v _ (fun k hk => go_var rfl hk) (cons_vY (fun v => ∃ d2 u2 e2 h2, v = plainD d2 u2 e2 h2 ∧ PP (rep r.toNat (unrollL rs)) (2 * clL rs + 1) d2 u2 e2 h2) (fun k hk => ?_) ?_)
            · refine call_vY (fun es => ∃ d2 u2 e2 h2, es = [plainD d2 u2 e2 h2, .int r] ∧ PP (unrollL rs) (2 * clL rs) d2 u2 e2 h2) (fun k hk => ?_) ?_
              · refine cons_vY (fun v => ∃ d2 u2 e2 h2, v = plainD d2 u2 e2 h2 ∧ PP (unrollL rs) (2 * clL rs) d2 u2 e2 h2) (fun k hk => ?_) ?_
                · refine call_v [.tup (dPts rs)] (fun k hk => cons_v _ (fun k hk => op_v (.tup [.int r, .tup (dPts rs)]) (.int 1) (fun k hk => go_var rfl hk) (fun k hk => hk) (ix_v (atI_1 _ _ _) hk)) hk) ?_
                  exact ⟨rs, rfl, k1.1.2.2, by omega, by omega, fun d2 u2 e2 h2 p2 => hk _ ⟨d2, u2, e2, h2, rfl, p2⟩⟩
                · rintro _ ⟨d2, u2, e2, h2, rfl, p2⟩
                  exact cons_v _ (fun k hk => op_v (.tup [.int r, .tup (dPts rs)]) (.int 0) (fun k hk => go_var rfl hk) (fun k hk => hk) (ix_v (atI_0 _ _) hk)) (hk _ ⟨d2, u2, e2, h2, rfl, p2⟩)
              · rintro _ ⟨d2, u2, e2, h2, rfl, p2⟩
                exact ⟨_, _, d2, u2, e2, h2, r.toNat, by rw [rr], p2, by omega, by omega, fun d3 u3 e3 h3 p3 => hk _ ⟨d3, u3, e3, h3, rfl, p3⟩⟩
            · rintro _ ⟨d2, u2, e2, h2, rfl, p2⟩
              exact hk _ ⟨d2, u2, e2, h2, rfl, p2⟩
          · rintro _ ⟨d2, u2, e2, h2, rfl, p2⟩
            exact ⟨xs, _, N, _, d, u, e, h, d2, u2, e2, h2, rfl, pp, p2, by omega, fun d3 u3 e3 h3 p3 => hk _ ⟨d3, u3, e3, h3, rfl, p3⟩⟩
        · rintro _ ⟨d3, u3, e3, h3, rfl, p3⟩
          exact ih (xs ++ rep r.toNat (unrollL rs)) _ d3 u3 e3 h3 _ k1.2 (by omega) (by omega) p3 (by rw [List.append_assoc]; exact q)
  refine go_seq (seq_g (es := dPts ps) (.inr rfl) (fun k hk => go_var rfl hk) ?_)
  exact loop ps [] 0 [] [] 0 0 none ho hd (by omega) ⟨prof_nil, Nat.zero_le _, Nat.zero_le _⟩ (by rw [List.nil_append]; exact q)
theorem PP.val {xs : List Int} {N : Nat} {d u : Rows} {e h : Int} (p : PP xs N d u e h) (hN : N ≤ 10000000) : Val d u e h := by
  obtain ⟨b1, b2⟩ := p.p.bounds
  obtain ⟨l1, l2⟩ := p.p.last
  have h0 := hiW_nonneg xs
  have hs := sum_hi xs
  have pe := p.p.en
  have ph := p.p.hi
  have s1 := p.nd
  have s2 := p.nu
  have up := p.p.up.ok
  rw [← pe] at up
  exact ⟨p.p.dn.ok, up, by rw [l1, l2], lastP_le (by omega) fun r hr => (b1 r hr).2.1, lastP_le (by omega) fun r hr => (b2 r hr).2.1, by omega, by omega, by omega, by omega⟩
theorem rd_profile_of (h : T_profile_of K ds Q Ed) : t_profile_of K Ed (en Q) (st0 N_profile_of ds) := by
  obtain ⟨ps, rfl, hf, hc, q⟩ := h
  have hd := hf.dep
  unfold t_profile_of
  show dSeq _ _ _ [some (.val (scrI K ps)), none]
  refine gs_asgY (fun v => ∃ d u e h, v = plainD d u e h ∧ PP (unrollL ps) (2 * clL ps) d u e h) (fun k hk => ?_) ?_
  · exact call_v [.tup (dPts ps)] (fun k hk => cons_v _ (fun k hk => go_var rfl ⟨rfl, rfl, ps, rfl, hk⟩) hk) ⟨ps, rfl, hf.ok, by omega, hc, fun d u e h p => hk _ ⟨d, u, e, h, rfl, p⟩⟩
  rintro _ ⟨d, u, e, h, rfl, p⟩
  show dRet _ _ [some (.val (scrI K ps)), some (.val (plainD d u e h))]
  refine go_ret' (go_var (d := plainD d u e h) rfl ?_)
  exact ⟨_, _, d, u, e, h, rfl, .inr rfl, .inr rfl, p.val (by omega), q _ _ _ _ p⟩
end
end K41


namespace K41
open PySem.Spec PySem L2 PyProof.Rows FG
open He (ga ma Fa Dv)
section
variable {K : PySem.W.Frag} {ds : List D} {Q : D → Prop} {Ed : Exn → Prop}
theorem mk_v {ps : List Pt} {x : D} {te : DTA} {W : XW} {δ : DSt} {k : D → Prop} (hx : As x ps) (hf : Fit ps) (ht : ∀ k : List D → Prop, k [x] → te δ k) (q : k (scrI K ps)) : dCall (T_Script___init__ K) W te δ k := call_v [x] ht ⟨x, ps, rfl, hx, hf.dep, hf.cl, hf.ok, q⟩
theorem gs_par3Y {i j l : Nat} {ta tb tc : DT} {b : DTS} {De : DEnds} {δ : DSt} (X Y Z : D → Prop) (h1 : ∀ k : D → Prop, (∀ v, X v → k v) → ta δ k) (h2 : ∀ k : D → Prop, (∀ v, Y v → k v) → tb δ k) (h3 : ∀ k : D → Prop, (∀ v, Z v → k v) → tc δ k) (q : ∀ u v w, X u → Y v → Z w → b De (((δ.set i (some (.val u))).set j (some (.val v))).set l (some (.val w)))) : dSeq (dPar3 i j l ta tb tc) b De δ := h1 _ fun u hu => h2 _ fun v hv => h3 _ fun w hw => q u v w hu hv hw
theorem draw_v {n : Int} {t : DT} {δ : DSt} {k : D → Prop} (h0 : 0 < n) (h1 : n ≤ 10 ^ 100) (hp : δ[0]? = some (some (.val .pot))) (ht : ∀ k : D → Prop, k (.int n) → t δ k) (q : ∀ d : Nat, (d : Int) < n → k (.int d)) : dCall (T__law_draw K) (fun e _ => Ed e) (dCons (dVar 0) (dCons t dNil)) δ k :=
  call_v [.pot, .int n] (fun k hk => cons_v .pot (fun k hk => go_var hp hk) (cons_v (.int n) ht hk)) (draw_ok h0 h1 fun d a b => by
    obtain ⟨c, rfl⟩ := Int.eq_ofNat_of_zero_le a
    exact q c b)
theorem ten12_v {δ : DSt} {k : D → Prop} (q : k (.int 1000000000000)) : dOp fPow (dC (.int 10)) (dC (.int 12)) δ k := op_v (.int 10) (.int 12) (fun k hk => hk) (fun k hk => hk) ⟨⟨by decide, by decide, by decide⟩, by rw [ten12]; exact q⟩
theorem b13 : (1000000000000 : Int) ≤ 10 ^ 100 := by decide +kernel
theorem b100 : (100 : Int) ≤ 10 ^ 100 := by decide +kernel
theorem fit_of {ps : List Pt} (ok : okL ps) (hd : depL ps ≤ 6) (hc : clL ps ≤ 100000) (hb : ∀ x ∈ unrollL ps, x.natAbs ≤ 10 ^ 40) : Fit ps := ⟨ok, hd, by omega, hb⟩
theorem fromT_v {es : List D} {a : Nat} {δ : DSt} {t u : DT} {k : D → Prop} (h1 : ∀ k : D → Prop, k (.tup es) → t δ k) (h2 : ∀ k : D → Prop, k (.int a) → u δ k) (q : k (.tup (es.drop a))) : dSl t (dPart u) dNo δ k := h1 _ (h2 _ (by
  show k (.tup (cutL es (some (a : Int)) none))
  rw [cut_from]
  exact q))
theorem unL_app : ∀ ps qs : List Pt, unrollL (ps ++ qs) = unrollL ps ++ unrollL qs
  | [], qs => by rw [List.nil_append, unrollL_nil, List.nil_append]
  | p :: ps, qs => by rw [List.cons_append, unrollL_cons, unrollL_cons, unL_app ps qs, List.append_assoc]
theorem lenT_v {xs : List Int} {t : DT} {δ : DSt} {k : D → Prop} (h : ∀ k : D → Prop, k (.tup (xs.map D.int)) → t δ k) (q : k (.int xs.length)) : dCB fLen (dCons t dNil) δ k := h _ (by
  show k (.int (xs.map D.int).length)
  rw [List.length_map]
  exact q)
theorem catT_v {a b : List D} {ta tb : DT} {δ : DSt} {k : D → Prop} (h1 : ∀ k : D → Prop, k (.tup a) → ta δ k) (h2 : ∀ k : D → Prop, k (.tup b) → tb δ k) (hl : a.length + b.length ≤ 16777216) (q : k (.tup (a ++ b))) : dOp fAdd ta tb δ k := op_v (.tup a) (.tup b) h1 h2 ⟨by rw [sizeLine_eq]; exact hl, q⟩
theorem un_steps : ∀ xs : List Int, unrollL (xs.map Pt.step) = xs
  | [] => unrollL_nil
  | x :: xs => by rw [List.map_cons, unrollL_cons, unroll_step, un_steps xs]; rfl
theorem dep_steps : ∀ xs : List Int, depL (xs.map Pt.step) = 0
  | [] => depL_nil
  | x :: xs => by rw [List.map_cons, depL_cons, dep_step, dep_steps xs]; rfl
theorem ok_steps : ∀ xs : List Int, okL (xs.map Pt.step)
  | [] => by rw [List.map_nil, okL_nil]; trivial
  | x :: xs => by rw [List.map_cons, okL_cons, ok_step]; exact ⟨trivial, ok_steps xs⟩
theorem cl_steps : ∀ xs : List Int, clL (xs.map Pt.step) = xs.length
  | [] => clL_nil
  | x :: xs => by rw [List.map_cons, clL_cons, cl_step, cl_steps xs, List.length_cons]; omega
theorem d_steps : ∀ xs : List Int, dPts (xs.map Pt.step) = xs.map D.int
  | [] => dPts_nil
  | x :: xs => by rw [List.map_cons, dPts_cons, dPt_step, d_steps xs, List.map_cons]
theorem gs_parO {i j : Nat} {tf : DTF} {tb : DT} {b : DTS} {De : DEnds} {δ : DSt} (u : List D) (v : D) (h1 : ∀ k : List D → Prop, k u → tf δ k) (h2 : ∀ k : D → Prop, k v → tb δ k) (q : b De ((δ.set i (some (.own u))).set j (some (.val v)))) : dSeq (dParO i j tf tb) b De δ := h1 _ (h2 _ q)
end
end K41

namespace K41
open PySem.Spec PySem L2 PyProof.Rows FG
open He (ga ma Fa Dv)
section
variable {K : PySem.W.Frag} {ds : List D} {Q : D → Prop} {Ed : Exn → Prop}
theorem wdL_cons (p : Pt) (ps : List Pt) : wdL (p :: ps) = (p.wd ∧ wdL ps) := by rw [wdL]
theorem wdL_nil : wdL [] = True := by rw [wdL]
theorem wd_step (i : Int) : (Pt.step i).wd = (i.natAbs ≤ 10 ^ 29) := by rw [Pt.wd]
theorem wd_loop (r : Int) (ps : List Pt) : (Pt.loop r ps).wd = (0 ≤ r ∧ r ≤ 3 ∧ (unrollL ps).length ≤ 100 ∧ wdL ps) := by rw [Pt.wd]
theorem wdL_app : ∀ ps qs : List Pt, wdL (ps ++ qs) ↔ wdL ps ∧ wdL qs
  | [], qs => by rw [List.nil_append, wdL_nil]; simp
  | p :: ps, qs => by rw [List.cons_append, wdL_cons, wdL_cons, wdL_app ps qs, and_assoc]
mutual
theorem gen_wd1 : ∀ p : Pt, p.gen → p.wd
  | .step i, h => by rw [gen_step] at h; rw [wd_step]; exact h
  | .loop r ps, h => by
    rw [gen_loop] at h
    rw [wd_loop]
    exact ⟨h.1, h.2.1, by omega, gen_wd h.2.2.2.2⟩
theorem gen_wd : ∀ {ps : List Pt}, genL ps → wdL ps
  | [], _ => by rw [wdL_nil]; trivial
  | p :: ps, h => by
    rw [genL_cons] at h
    rw [wdL_cons]
    exact ⟨gen_wd1 p h.1, gen_wd h.2⟩
end
theorem rd__law_unrolled {n : Nat} (h : T__law_unrolled K (n + 1) ds Q Ed) : t__law_unrolled K n Ed (en Q) (st0 N__law_unrolled ds) := by
  obtain ⟨ps, rfl, h1, h2, h3, q⟩ := h
  unfold t__law_unrolled
  have loop : ∀ (qs : List Pt) (xs : List Int) (o : Option SV), depL qs < n + 1 → wdL qs → xs.length + (unrollL qs).length ≤ 400 → Q (.lst ((xs ++ unrollL qs).map D.int)) → dLoop (.nm 2) (b__law_unrolled_1 K n Ed) { nx := dRet (dVar 1) (en Q), rt := Q } (dPts qs) [some (.val (.tup (dPts ps))), some (.val (.lst (xs.map D.int))), o] := by
    intro qs
    induction qs with
    | nil =>
      intro xs o _ _ _ q
      rw [unrollL_nil, List.append_nil] at q
      rw [dPts_nil]
      exact q
    | cons p qs ih =>
      intro xs o k1 k2 k3 q
      rw [depL_cons] at k1
      rw [wdL_cons] at k2
      rw [unrollL_cons, List.length_append] at k3
      rw [unrollL_cons, ← List.append_assoc] at q
      rw [dPts_cons]
      unfold dLoop b__law_unrolled_1
      simp only [gT_n]
      refine go_asg (.lst ((xs ++ p.unroll).map D.int)) (fun k hk => ?_) (ih (xs ++ p.unroll) (some (.val (dPt p))) (by omega) k2.2 (by rw [List.length_append]; omega) q)
      refine op_v (.lst (xs.map D.int)) (.lst (p.unroll.map D.int)) (fun k hk => go_var rfl hk) (fun k hk => ?_) ?_
      · cases p with
        | step i =>
          rw [dPt_step]
          rw [unroll_step] at hk
          exact ife_f (fun k hk => ⟨"int", rfl, by decide, hk⟩) hk
        | loop r rs =>
          rw [wd_loop] at k2
          rw [dep_loop] at k1
          rw [dPt_loop]
          rw [unroll_loop] at hk
          refine ife_t (fun k hk => ⟨"tuple", rfl, by decide, hk⟩) ?_
          refine op_v (.lst ((unrollL rs).map D.int)) (.int r) (fun k hk => ?_) (fun k hk => op_v (.tup [.int r, .tup (dPts rs)]) (.int 0) (fun k hk => go_var rfl hk) (fun k hk => hk) (ix_v (atI_0 _ _) hk)) ?_
          · refine call_v [.tup (dPts rs)] (fun k hk => cons_v (.tup (dPts rs)) (fun k hk => op_v (.tup [.int r, .tup (dPts rs)]) (.int 1) (fun k hk => go_var rfl hk) (fun k hk => hk) (ix_v (atI_1 _ _ _) hk)) hk) ?_
            exact ⟨rs, rfl, by omega, by omega, k2.1.2.2.2, hk⟩
          · rw [fMul_l]
            refine ⟨by omega, by omega, ?_, ?_⟩
            · rw [sizeLine_eq, List.length_map]
              have : (unrollL rs).length * r.toNat ≤ 100 * 3 := Nat.mul_le_mul (by omega) (by omega)
              omega
            · have e : (List.replicate r.toNat ((unrollL rs).map D.int)).flatten = (rep r.toNat (unrollL rs)).map D.int := by
                unfold rep
                rw [List.map_flatten, List.map_replicate]
              rw [e]
              exact hk
      · rw [fAdd_l, ← List.map_append]
        exact ⟨by rw [sizeLine_eq, List.length_map, List.length_map]; omega, hk⟩
  show dSeq _ _ _ [some (.val (.tup (dPts ps))), none, none]
  refine gs_asg (.lst ([].map D.int)) (fun k hk => hk) ?_
  exact loop ps [] none h1 h3 (by simpa using h2) q
theorem rd_is_count (h : T_is_count K ds Q Ed) : t_is_count K Ed (en Q) (st0 N_is_count ds) := by
  obtain ⟨i, rfl, q⟩ := h
  unfold t_is_count
  show dRet _ _ [some (.val (.int i))]
  refine go_ret' (andv_t (fun k hk => call_v [.int i] (fun k hk => cons_v (tr := dNil) _ (fun k hk => go_var rfl hk) hk) ⟨_, "int", rfl, rfl, hk⟩) ?_)
  exact op_v (.int i) (.int 0) (fun k hk => go_var rfl hk) (fun k hk => hk) q
/-- one of the four values -/
theorem pl_v {d u : Rows} {e h : Int} {i : Nat} {j : Int} {x : D} {δ : DSt} {k : D → Prop} (es : δ[i]? = some (some (.val (prI K d u e h)))) (ex : L2.atI [D.tup (dRows d), .tup (dRows u), .int e, .int h] j = some x) (q : k x) : dOp fIx (dFld (ga K "Profile") "own_plain" (dVar i)) (dC (.int j)) δ k :=
  op_v (plainD d u e h) (.int j) (fun k hk => go_var (d := prI K d u e h) es ⟨rfl, hk⟩) (fun k hk => hk) (ix_v ex q)
theorem rd_Profile_back (h : T_Profile_back K ds Q Ed) : t_Profile_back K Ed (en Q) (st0 N_Profile_back ds) := by
  obtain ⟨d, u, e, h, b, rfl, hb, q⟩ := h
  unfold t_Profile_back
  show dSeq _ _ _ [some (.val (prI K d u e h)), some (.val (.int b))]
  refine gs_next (fun k hk => t_or_f (fun k hk => not_v (b := true) (fun k hk => test_v (b := true) (fun k hk => call_v [.int b] (fun k hk => cons_v (tr := dNil) _ (fun k hk => go_var rfl hk) hk) ⟨_, "int", rfl, rfl, hk⟩) hk) hk) ?_) ?_
  · exact lt_v (i := b) (j := e) (b := false) (fun k hk => go_var rfl hk) (fun k hk => pl_v rfl (atI_2 _ _ _ _) hk) (decide_eq_false (by omega)) hk
  exact go_ret' (call_v [.tup (dRows u), .int b, .int e] (fun k hk => cons_v _ (fun k hk => pl_v rfl (atI_1 _ _ _) hk) (cons_v _ (fun k hk => go_var rfl hk) (cons_v (tr := dNil) _ (fun k hk => pl_v rfl (atI_2 _ _ _ _) hk) hk))) ⟨u, b, e, rfl, q⟩)
theorem rd_Profile___call__ (h : T_Profile___call__ K ds Q Ed) : t_Profile___call__ K Ed (en Q) (st0 N_Profile___call__ ds) := by
  obtain ⟨d, u, e, h, b, rfl, hb, q⟩ := h
  unfold t_Profile___call__
  show dSeq _ _ _ [some (.val (prI K d u e h)), some (.val (.int b))]
  refine gs_next (fun k hk => not_v (b := true) (fun k hk => test_v (b := true) (fun k hk => call_v [.int b] (fun k hk => cons_v (tr := dNil) _ (fun k hk => go_var rfl hk) hk) ⟨_, rfl, by rw [decide_eq_true hb]; exact hk⟩) hk) hk) ?_
  exact go_ret' (call_v [.tup (dRows d), .int b, .int 0] (fun k hk => cons_v _ (fun k hk => pl_v rfl (atI_0 _ _) hk) (cons_v _ (fun k hk => go_var rfl hk) (cons_v (tr := dNil) _ (fun k hk => hk) hk))) ⟨d, b, 0, rfl, q⟩)
/-- two lists of rows are the same data if they are the same -/
theorem eqv_rows : ∀ rs ss : Rows, PyData.eqvAll (D.pyL (dRows rs)) (D.pyL (dRows ss)) = decide (rs = ss)
  | [], [] => rfl
  | [], s :: ss => rfl
  | r :: rs, [] => rfl
  | r :: rs, s :: ss => by
    have ih := eqv_rows rs ss
    obtain ⟨a, b⟩ := r
    obtain ⟨a', b'⟩ := s
    have e : PyData.eqvAll (D.pyL (dRows ((a, b) :: rs))) (D.pyL (dRows ((a', b') :: ss))) = (((a == a') && ((b == b') && true)) && PyData.eqvAll (D.pyL (dRows rs)) (D.pyL (dRows ss))) := by
      simp only [dRows_cons, dRow, D.pyL, D.py, PyData.eqvAll, PyData.eqv]
    rw [e, ih]
    by_cases c : (a, b) :: rs = (a', b') :: ss
    · rw [decide_eq_true c]
      cases c
      simp
    · rw [decide_eq_false c]
      simp only [List.cons.injEq, Prod.mk.injEq] at c
      by_cases h1 : a = a'
      · by_cases h2 : b = b'
        · by_cases h3 : rs = ss
          · exact absurd ⟨⟨h1, h2⟩, h3⟩ c
          · rw [decide_eq_false h3, Bool.and_false]
        · have z : (b == b') = false := beq_eq_false_iff_ne.mpr h2
          rw [z, Bool.false_and, Bool.and_false, Bool.false_and]
      · have z : (a == a') = false := beq_eq_false_iff_ne.mpr h1
        rw [z, Bool.false_and, Bool.false_and]
theorem eqq_plain (d u d' u' : Rows) (e h e' h' : Int) : D.eqq (plainD d u e h) (plainD d' u' e' h') = decide (d = d' ∧ u = u' ∧ e = e' ∧ h = h') := by
  have x : D.eqq (plainD d u e h) (plainD d' u' e' h') = (PyData.eqvAll (D.pyL (dRows d)) (D.pyL (dRows d')) && (PyData.eqvAll (D.pyL (dRows u)) (D.pyL (dRows u')) && ((e == e') && ((h == h') && true)))) := by
    simp only [D.eqq, plainD, D.pyL, D.py, PyData.eqvAll, PyData.eqv]
  rw [x, eqv_rows, eqv_rows]
  by_cases h1 : d = d' <;> by_cases h2 : u = u' <;> by_cases h3 : e = e' <;> by_cases h4 : h = h' <;> simp [h1, h2, h3, h4]
theorem plain_eq2 {d u d' u' : Rows} {e h e' h' : Int} {R : D → Prop} (q : ∀ c : Bool, (c = true ↔ d = d' ∧ u = u' ∧ e = e' ∧ h = h') → R (.bl c)) : fEq (plainD d u e h) (plainD d' u' e' h') R := by
  have ok : ∀ (d u : Rows) (e h : Int), D.okEq (plainD d u e h) = true := fun d u e h => by
    obtain ⟨h1, h2⟩ := tame_rows d
    obtain ⟨g1, g2⟩ := tame_rows u
    refine tame_okEq (by simp [plainD, D.tame, D.tameL, h1, g1]) ?_
    simp only [plainD, D.dep, D.depL]
    omega
  show D.okEq _ = true ∧ D.okEq _ = true ∧ R (.bl (D.eqq _ _))
  refine ⟨ok _ _ _ _, ok _ _ _ _, q _ ?_⟩
  rw [eqq_plain]
  exact decide_eq_true_iff
theorem rd_Profile___eq__ (h : T_Profile___eq__ K ds Q Ed) : t_Profile___eq__ K Ed (en Q) (st0 N_Profile___eq__ ds) := by
  obtain ⟨d, u, e, h, d', u', e', h', rfl, q⟩ := h
  unfold t_Profile___eq__
  show dRet _ _ [some (.val (prI K d u e h)), some (.val (prI K d' u' e' h'))]
  refine go_ret' (andv_t (fun k hk => cb_v [prI K d' u' e' h', .cls (ga K "Profile")] (fun k hk => hk) ⟨_, rfl, hk⟩) ?_)
  exact op_v (plainD d u e h) (plainD d' u' e' h') (fun k hk => ⟨rfl, hk⟩) (fun k hk => ⟨rfl, hk⟩) (plain_eq2 q)
end
end K41


namespace K41
open PySem.Spec PySem L2 PyProof.Rows FG
open He (ga ma Fa Dv)
section
variable {K : PySem.W.Frag} {ds : List D} {Q : D → Prop} {Ed : Exn → Prop}
theorem rd__law_elements {n : Nat} (h : T__law_elements K (n + 1) ds Q Ed) : t__law_elements K n Ed (en Q) (st0 N__law_elements ds) := by
  obtain ⟨t, d, rfl, h1, h2, h3, q⟩ := h
  unfold t__law_elements
  have loop : ∀ (items : List D) (fs : List Pt) (l : Nat) (o3 o6 o7 o8 : Option SV), genL fs → depL fs ≤ d → fs.length + items.length ≤ t → (unrollL fs).length + l ≤ t → dLoop (.nm 3) (b__law_elements_4 K n Ed) { nx := dRet (dCB fTuple (dCons (dVar 4) dNil)) (en Q), rt := Q } items [some (.val .pot), some (.val (.int t)), some (.val (.int d)), o3, some (.own (dPts fs)), some (.val (.int l)), o6, o7, o8] := by
    intro items
    induction items with
    | nil =>
      intro fs l o3 o6 o7 o8 k1 k2 k3 k4
      rw [List.length_nil, Nat.add_zero] at k3
      exact q fs k1 k3 (by omega) k2
    | cons z items ih =>
      intro fs l o3 o6 o7 o8 k1 k2 k3 k4
      rw [List.length_cons] at k3
      unfold dLoop b__law_elements_4
      simp only [gT_n]
      have app_step : ∀ i : Int, i.natAbs ≤ 10 ^ 29 → 0 < l → ∀ o3 o6 o7 o8 : Option SV, dLoop (.nm 3) (b__law_elements_4 K n Ed) { nx := dRet (dCB fTuple (dCons (dVar 4) dNil)) (en Q), rt := Q } items [some (.val .pot), some (.val (.int t)), some (.val (.int d)), o3, some (.own (dPts fs ++ [.int i])), some (.val (.int ((l : Int) - 1))), o6, o7, o8] := by
        intro i hi hl o3 o6 o7 o8
        have := ih (fs ++ [.step i]) (l - 1) o3 o6 o7 o8 (genL_app _ _ k1 (by rw [genL_cons, genL_nil, gen_step]; exact ⟨hi, trivial⟩)) (by rw [depL_app, depL_cons, dep_step, depL_nil]; omega) (by rw [List.length_append, List.length_singleton]; omega) (by rw [unrollL_append, unrollL_cons, unroll_step, unrollL_nil, List.append_nil, List.length_append, List.length_singleton]; omega)
        rw [dPts_app, dPts_cons, dPt_step, dPts_nil, show ((l - 1 : Nat) : Int) = (l : Int) - 1 by omega] at this
        exact this
      have less : ∀ o3 o6 o7 o8 : Option SV, dLoop (.nm 3) (b__law_elements_4 K n Ed) { nx := dRet (dCB fTuple (dCons (dVar 4) dNil)) (en Q), rt := Q } items [some (.val .pot), some (.val (.int t)), some (.val (.int d)), o3, some (.own (dPts fs)), some (.val (.int l)), o6, o7, o8] := fun o3 o6 o7 o8 => ih fs l o3 o6 o7 o8 k1 k2 (by omega) k4
      refine go_if_Y (fun b => b = true → 0 < d ∧ 0 < l) (fun k hk => ?_) (fun hy => ?_) (fun _ => ?_)
      · by_cases hd : (0 : Int) < d
        · refine t_and_t (fun k hk => gt_v (i := d) (j := 0) (fun k hk => go_var rfl hk) (fun k hk => hk) (decide_eq_true hd) hk) ?_
          by_cases hl : (0 : Int) < l
          · refine t_and_t (fun k hk => gt_v (i := l) (j := 0) (fun k hk => go_var rfl hk) (fun k hk => hk) (decide_eq_true hl) hk) ?_
            refine draw_ok (by decide) (by decide +kernel) fun e a1 b1 => ?_
            exact hk _ fun _ => ⟨by omega, by omega⟩
          · exact t_and_f (fun k hk => gt_v (i := l) (j := 0) (fun k hk => go_var rfl hk) (fun k hk => hk) (decide_eq_false hl) hk) (hk _ (by nofun))
        · exact t_and_f (fun k hk => gt_v (i := d) (j := 0) (fun k hk => go_var rfl hk) (fun k hk => hk) (decide_eq_false hd) hk) (hk _ (by nofun))
      · obtain ⟨hd, hl⟩ := hy rfl
        unfold b__law_elements_2
        show dSeq _ _ _ [some (.val .pot), some (.val (.int t)), some (.val (.int d)), some (.val z), some (.own (dPts fs)), some (.val (.int l)), o6, o7, o8]
        refine gs_asgY (fun v => ∃ rs : List Pt, v = .tup (dPts rs) ∧ genL rs ∧ rs.length ≤ min l 4 ∧ (unrollL rs).length ≤ min l 4 ∧ depL rs ≤ d - 1) (fun k hk => ?_) ?_
        · refine call_v [.pot, .int (min l 4 : Nat), .int (d - 1 : Nat)] (fun k hk => cons_v .pot (fun k hk => go_var rfl hk) (cons_v (.int (min l 4 : Nat)) (fun k hk => ?_) (cons_v (.int (d - 1 : Nat)) (fun k hk => sub_v (i := d) (j := 1) (fun k hk => go_var rfl hk) (fun k hk => hk) (by omega) hk) hk))) ?_
          · show k (.int (if (4 : Int) < (l : Int) then 4 else (l : Int)))
            rw [show (if (4 : Int) < (l : Int) then 4 else (l : Int)) = ((min l 4 : Nat) : Int) by split <;> omega]
            exact hk
          · exact ⟨min l 4, d - 1, rfl, by omega, by omega, by omega, fun rs g1 g2 g3 g4 => hk _ ⟨rs, rfl, g1, g2, g3, g4⟩⟩
        rintro _ ⟨rs, rfl, r1, r2, r3, r4⟩
        show dSeq _ _ _ [some (.val .pot), some (.val (.int t)), some (.val (.int d)), some (.val z), some (.own (dPts fs)), some (.val (.int l)), some (.val (.tup (dPts rs))), o7, o8]
        refine gs_asgY (fun v => ∃ r : Int, v = .int r ∧ 0 ≤ r ∧ r < 4) (fun k hk => draw_ok (by decide) (by decide +kernel) fun e a1 b1 => hk _ ⟨e, rfl, a1, b1⟩) ?_
        rintro _ ⟨r, rfl, c1, c2⟩
        show dSeq _ _ _ [some (.val .pot), some (.val (.int t)), some (.val (.int d)), some (.val z), some (.own (dPts fs)), some (.val (.int l)), some (.val (.tup (dPts rs))), some (.val (.int r)), o8]
        refine gs_asg (.tup [.int r, .tup (dPts rs)]) (fun k hk => hk) ?_
        show dIf _ _ _ _ [some (.val .pot), some (.val (.int t)), some (.val (.int d)), some (.val z), some (.own (dPts fs)), some (.val (.int l)), some (.val (.tup (dPts rs))), some (.val (.int r)), some (.val (.tup [.int r, .tup (dPts rs)]))]
        have lr := len_loop (r := r) (ps := rs) c1
        obtain ⟨m, hm⟩ : ∃ m : Nat, r * ((unrollL rs).length : Int) = m := ⟨_, lr.symm⟩
        have lm : (Pt.loop r rs).unroll.length = m := by omega
        have prod : ∀ (δ : DSt) (k : D → Prop), δ[6]? = some (some (.val (.tup (dPts rs)))) → δ[7]? = some (some (.val (.int r))) → k (.int m) → dOp fMul (dVar 7) (dCB fLen (dCons (dCall (T__law_unrolled K 7) (fun e _ => Ed e) (dCons (dVar 6) dNil)) dNil)) δ k := by
          intro δ k e6 e7 hk
          refine mul_v (i := r) (j := (unrollL rs).length) (fun k hk => go_var e7 hk) (fun k hk => ?_) (cmulx 40 40 (by omega) (by omega) (by decide)) hm hk
          refine cb_v [.lst ((unrollL rs).map D.int)] (fun k hk => cons_v (tr := dNil) (.lst ((unrollL rs).map D.int)) (fun k hk => call_v [.tup (dPts rs)] (fun k hk => cons_v (tr := dNil) (.tup (dPts rs)) (fun k hk => go_var e6 hk) hk) ⟨rs, rfl, by omega, by omega, gen_wd r1, hk⟩) hk) ?_
          rw [fLen_l, List.length_map]
          exact hk
        by_cases hml : m ≤ l
        · refine go_if_t (fun k hk => ?_) ?_
          · refine le_v (i := m) (j := l) (fun k hk => prod _ _ rfl rfl hk) (fun k hk => go_var rfl hk) (decide_eq_true (by omega)) hk
          unfold b__law_elements_1
          refine gs_app (.tup [.int r, .tup (dPts rs)]) rfl (fun k hk => go_var rfl hk) (by rw [sizeLine_eq, dPts_len]; omega) ?_
          refine go_asg (.int (l - m : Nat)) (fun k hk => ?_) ?_
          · exact sub_v (i := l) (j := m) (fun k hk => go_var rfl hk) (fun k hk => prod _ _ rfl rfl hk) (by omega) hk
          have := ih (fs ++ [.loop r rs]) (l - m) (some (.val z)) (some (.val (.tup (dPts rs)))) (some (.val (.int r))) (some (.val (.tup [.int r, .tup (dPts rs)]))) (genL_app _ _ k1 (by rw [genL_cons, genL_nil, gen_loop]; exact ⟨⟨c1, by omega, by omega, by omega, r1⟩, trivial⟩)) (by rw [depL_app, depL_cons, dep_loop, depL_nil]; omega) (by rw [List.length_append, List.length_singleton]; omega) (by rw [unrollL_append, unrollL_cons, unrollL_nil, List.append_nil, List.length_append, lm]; omega)
          rw [dPts_app, dPts_cons, dPt_loop, dPts_nil] at this
          exact this
        · refine go_if_f (fun k hk => ?_) (less _ _ _ _)
          exact le_v (i := m) (j := l) (fun k hk => prod _ _ rfl rfl hk) (fun k hk => go_var rfl hk) (decide_eq_false (by omega)) hk
      · unfold b__law_elements_3
        by_cases hl : (0 : Int) < l
        · refine go_if_t (fun k hk => gt_v (i := l) (j := 0) (fun k hk => go_var rfl hk) (fun k hk => hk) (decide_eq_true hl) hk) ?_
          refine gs_appY (fun v => ∃ i : Int, v = .int i ∧ i.natAbs ≤ 10 ^ 29) rfl (fun k hk => ⟨rfl, fun i hi => hk _ ⟨i, rfl, hi⟩⟩) (by rw [sizeLine_eq, dPts_len]; omega) ?_
          rintro _ ⟨i, rfl, hi⟩
          exact app_step i hi (by omega) _ _ _ _
        · refine go_if_f (fun k hk => gt_v (i := l) (j := 0) (fun k hk => go_var rfl hk) (fun k hk => hk) (decide_eq_false hl) hk) ?_
          exact less _ _ _ _
  show dSeq _ _ _ [some (.val .pot), some (.val (.int t)), some (.val (.int d)), none, none, none, none, none, none]
  refine draw_ok (by omega) (by have : (13 : Int) ≤ 10 ^ 100 := by decide +kernel
                                omega) fun e a1 b1 => ?_
  have l0 := loop (steps 0 1 e.toNat) [] t none none none none (by rw [genL_nil]; trivial) (by rw [depL_nil]; omega) (by rw [List.length_nil]; unfold steps; rw [List.length_map, List.length_range]; omega) (by rw [unrollL_nil, List.length_nil]; omega)
  rw [dPts_nil] at l0
  exact ⟨by rw [sizeLine_eq]; omega, by omega, l0⟩
theorem len__law_elements {n : Nat} (h : T__law_elements K n ds Q Ed) : ds.length = 3 := by obtain ⟨_, _, rfl, _⟩ := h; rfl
theorem zero__law_elements (h : T__law_elements K 0 ds Q Ed) : False := by obtain ⟨_, _, _, _, h, _⟩ := h; omega
end
end K41

namespace K41
open PySem.Spec PySem L2 PyProof.Rows FG
open He (ga ma Fa Dv)
section
variable {K : PySem.W.Frag} {ds : List D} {Q : D → Prop} {Ed : Exn → Prop}
theorem fil_no : ∀ xs : List D, xs.filter (fun _ => false) = []
  | [] => rfl
  | x :: xs => by rw [List.filter_cons_of_neg (by decide), fil_no xs]
theorem t_or_t {t u : DTT} {δ : DSt} {k : Bool → Prop} (h : ∀ k : Bool → Prop, k true → t δ k) (q : k true) : dOr t u δ k := h _ (by rw [if_pos rfl]; exact q)
theorem allb_v {ns : List Bool} {t : DT} {δ : DSt} {k : D → Prop} (h : ∀ k : D → Prop, k (.lst (ns.map D.bl)) → t δ k) (q : k (.bl (ns.all id))) : dCB fAll (dCons t dNil) δ k := h _ ⟨ns, asBls_map _, q⟩
def pass (rs ss : Rows) (l : Int) : List Bool := ss.map fun r => decide (fall rs r.1 l ≤ r.2)
theorem pass_iff (rs ss : Rows) (l : Int) : (pass rs ss l).all id = true ↔ ∀ r ∈ ss, fall rs r.1 l ≤ r.2 := by
  unfold pass
  rw [List.all_map]
  simp
def passD (rs : Rows) (l : Int) : D → D
  | .tup [.int p, .int v] => .bl (decide (fall rs p l ≤ v))
  | _ => .non
theorem pass_map (rs ss : Rows) (l : Int) : (dRows ss).map (passD rs l) = (pass rs ss l).map D.bl := by
  unfold dRows pass
  rw [List.map_map, List.map_map]
  rfl
theorem ev_nw2 {d u d' u' : Rows} {e h e' h' : Int} {o0 o1 o10 o11 : Option SV} {R : D → Prop} (hl : d'.length ≤ 10000000) (q : R (.lst ((pass d d' 0).map D.bl))) : e_Profile_is_no_worse_2 K Ed [o0, o1, some (.val (.tup (dRows d))), some (.val (.tup (dRows u))), some (.val (.int e)), some (.val (.int h)), some (.val (.tup (dRows d'))), some (.val (.tup (dRows u'))), some (.val (.int e')), some (.val (.int h')), o10, o11] R := by
  unfold e_Profile_is_no_worse_2 dStay fLc e_Profile_is_no_worse_1
  refine seq_v (.inr rfl) (fun k hk => go_var rfl hk) ?_
  refine lcl_map (passD d 0) (fun z hz R hR => ?_) (by rw [pass_map]; exact q)
  obtain ⟨r, _, rfl⟩ := List.mem_map.mp hz
  simp only [dRow, gT_t, gTs_c, gTs_n, gT_n]
  refine op_v (.int (fall d r.1 0)) (.int r.2) (fun k hk => ?_) (fun k hk => go_var rfl hk) hR
  exact call_v [.tup (dRows d), .int r.1, .int 0] (fun k hk => cons_v _ (fun k hk => go_var rfl hk) (cons_v _ (fun k hk => go_var rfl hk) (cons_v (tr := dNil) _ (fun k hk => hk) hk))) ⟨d, r.1, 0, rfl, hk⟩
theorem ev_nw3 {d u d' u' : Rows} {e h e' h' : Int} {o0 o1 o10 o11 : Option SV} {R : D → Prop} (hl : u'.length ≤ 10000000) (q : R (.lst ((pass u u' e).map D.bl))) : e_Profile_is_no_worse_3 K Ed [o0, o1, some (.val (.tup (dRows d))), some (.val (.tup (dRows u))), some (.val (.int e)), some (.val (.int h)), some (.val (.tup (dRows d'))), some (.val (.tup (dRows u'))), some (.val (.int e')), some (.val (.int h')), o10, o11] R := by
  unfold e_Profile_is_no_worse_3 dStay fLc
  refine seq_v (.inr rfl) (fun k hk => go_var rfl hk) ?_
  refine lcl_map (passD u e) (fun z hz R hR => ?_) (by rw [pass_map]; exact q)
  obtain ⟨r, _, rfl⟩ := List.mem_map.mp hz
  simp only [dRow, gT_t, gTs_c, gTs_n, gT_n]
  refine op_v (.int (fall u r.1 e)) (.int r.2) (fun k hk => ?_) (fun k hk => go_var rfl hk) hR
  exact call_v [.tup (dRows u), .int r.1, .int e] (fun k hk => cons_v _ (fun k hk => go_var rfl hk) (cons_v _ (fun k hk => go_var rfl hk) (cons_v (tr := dNil) _ (fun k hk => go_var rfl hk) hk))) ⟨u, r.1, e, rfl, hk⟩
theorem rd_Profile_is_no_worse (h : T_Profile_is_no_worse K ds Q Ed) : t_Profile_is_no_worse K Ed (en Q) (st0 N_Profile_is_no_worse ds) := by
  obtain ⟨d, u, e, h, d', u', e', h', rfl, l1, l2, q⟩ := h
  unfold t_Profile_is_no_worse
  show dSeq _ _ _ [some (.val (prI K d u e h)), some (.val (prI K d' u' e' h')), none, none, none, none, none, none, none, none, none, none]
  refine gs_tp [.tup (dRows d), .tup (dRows u), .int e, .int h] (fun k hk => go_var (d := prI K d u e h) rfl ⟨rfl, hk⟩) ?_
  simp only [gTs_c, gTs_n, gT_n]
  refine gs_tp [.tup (dRows d'), .tup (dRows u'), .int e', .int h'] (fun k hk => go_var (d := prI K d' u' e' h') rfl ⟨rfl, hk⟩) ?_
  simp only [gTs_c, gTs_n, gT_n]
  show dSeq _ _ _ [some (.val (prI K d u e h)), some (.val (prI K d' u' e' h')), some (.val (.tup (dRows d))), some (.val (.tup (dRows u))), some (.val (.int e)), some (.val (.int h)), some (.val (.tup (dRows d'))), some (.val (.tup (dRows u'))), some (.val (.int e')), some (.val (.int h')), none, none]
  by_cases he : e' < e
  · refine go_seq (go_if_t (fun k hk => t_or_t (fun k hk => gt_v (i := e) (j := e') (fun k hk => go_var rfl hk) (fun k hk => go_var rfl hk) (decide_eq_true he) hk) hk) ?_)
    exact q false ⟨fun z => (nomatch z), fun z => absurd z.1 (by omega)⟩
  by_cases hh : h' < h
  · refine go_seq (go_if_t (fun k hk => t_or_f (fun k hk => gt_v (i := e) (j := e') (fun k hk => go_var rfl hk) (fun k hk => go_var rfl hk) (decide_eq_false he) hk) (gt_v (i := h) (j := h') (fun k hk => go_var rfl hk) (fun k hk => go_var rfl hk) (decide_eq_true hh) hk)) ?_)
    exact q false ⟨fun z => (nomatch z), fun z => absurd z.2.1 (by omega)⟩
  refine gs_next (fun k hk => t_or_f (fun k hk => gt_v (i := e) (j := e') (fun k hk => go_var rfl hk) (fun k hk => go_var rfl hk) (decide_eq_false he) hk) (gt_v (i := h) (j := h') (fun k hk => go_var rfl hk) (fun k hk => go_var rfl hk) (decide_eq_false hh) hk)) ?_
  by_cases hd : (pass d d' 0).all id = true
  · refine gs_next (fun k hk => not_v (b := true) (fun k hk => test_v (b := true) (fun k hk => allb_v (fun k hk => ev_nw2 l1 hk) (by rw [hd]; exact hk)) hk) hk) ?_
    refine go_ret' (allb_v (fun k hk => ev_nw3 l2 hk) (q _ ?_))
    rw [pass_iff]
    exact ⟨fun z => ⟨by omega, by omega, (pass_iff _ _ _).mp hd, z⟩, fun z => z.2.2.2⟩
  · refine go_seq (go_if_t (fun k hk => not_v (b := false) (fun k hk => test_v (b := false) (fun k hk => allb_v (fun k hk => ev_nw2 l1 hk) (by rw [Bool.eq_false_iff.mpr hd]; exact hk)) hk) hk) ?_)
    exact q false ⟨fun z => (nomatch z), fun z => absurd ((pass_iff _ _ _).mpr z.2.2.1) hd⟩
theorem seq_of {t : DT} {δ : DSt} {R : List D → Prop} {es : List D} (h : ∀ k : D → Prop, k (.lst es) → t δ k) (q : R es) : iSeq t δ R := h _ q
theorem rd__law_mixed (h : T__law_mixed K ds Q Ed) : t__law_mixed K Ed (en Q) (st0 N__law_mixed ds) := by
  obtain ⟨xs, rfl, hl, q⟩ := h
  unfold t__law_mixed
  have loop : ∀ (items es acc : List D), items.length = es.length → es.length ≤ 10000 → (acc ++ es).Perm xs → dPops 2 3 (e__law_mixed_1 K Ed) [some (.val .pot), some (.val (.tup xs)), some (.own xs), none] items es acc (fun r => Q (.lst r)) := by
    intro items
    induction items with
    | nil =>
      intro es acc he _ hp
      rw [List.length_nil] at he
      have : es = [] := List.length_eq_zero_iff.mp he.symm
      rw [this, List.append_nil] at hp
      unfold dPops
      exact q acc hp
    | cons x items ih =>
      intro es acc he hl hp
      rw [List.length_cons] at he
      unfold dPops e__law_mixed_1
      have b100 : (10000 : Int) ≤ 10 ^ 100 := by decide +kernel
      show T_draw [.pot, .int (es.length : Nat)] _ _
      refine draw_ok (by omega) (by omega) fun e a1 b1 => ?_
      obtain ⟨i, rfl⟩ := Int.eq_ofNat_of_zero_le a1
      have hi : i < es.length := by omega
      refine ⟨i, es[i], rfl, List.getElem?_eq_getElem hi, ?_⟩
      refine ih (es.eraseIdx i) (acc ++ [es[i]]) (by rw [List.length_eraseIdx_of_lt hi]; omega) (Nat.le_trans (List.length_eraseIdx_le _ _) hl) ?_
      rw [List.append_assoc]
      exact ((erase_perm es i hi).append_left acc).trans hp
  refine gs_asgO xs (fun k hk => hk) ?_
  show dRetPops _ 2 3 _ _ [some (.val .pot), some (.val (.tup xs)), some (.own xs), none]
  refine retPops_ok rfl (steps 0 1 xs.length) (fun k hk => ⟨?_, ?_, hk⟩) (loop _ xs [] ?_ hl (by rw [List.nil_append]))
  · show ((xs.length : Nat) : Int) ≤ sizeLine
    rw [sizeLine_eq]; omega
  · show -(2 ^ 62) ≤ ((xs.length : Nat) : Int)
    omega
  · unfold steps
    rw [List.length_map, List.length_range]
theorem dPts_take (ps : List Pt) (a : Nat) : (dPts ps).take a = dPts (ps.take a) := by rw [dPts_map, dPts_map, List.map_take]
theorem dPts_drop (ps : List Pt) (a : Nat) : (dPts ps).drop a = dPts (ps.drop a) := by rw [dPts_map, dPts_map, List.map_drop]
theorem tillT_v {es : List D} {a : Nat} {δ : DSt} {t u : DT} {k : D → Prop} (ha : a ≤ es.length) (h1 : ∀ k : D → Prop, k (.tup es) → t δ k) (h2 : ∀ k : D → Prop, k (.int a) → u δ k) (q : k (.tup (es.take a))) : dSl t dNo (dPart u) δ k := h1 _ (h2 _ (by
  show k (.tup (cutL es none (some (a : Int))))
  unfold cutL
  rw [HT.sIx_none, HT.sIx_nat, Nat.min_eq_left ha, List.drop_zero, Nat.sub_zero]
  exact q))
theorem perm_map {α β : Type} {f : α → β} {ys zs : List β} (h : ys.Perm zs) : ∀ ps : List α, zs = ps.map f → ∃ qs : List α, ys = qs.map f ∧ qs.Perm ps := by
  induction h with
  | nil =>
    intro ps e
    cases ps with
    | nil => exact ⟨[], rfl, .refl _⟩
    | cons p ps => cases e
  | cons x _ ih =>
    intro ps e
    cases ps with
    | nil => cases e
    | cons p ps =>
      rw [List.map_cons, List.cons.injEq] at e
      obtain ⟨qs, h1, h2⟩ := ih ps e.2
      exact ⟨p :: qs, by rw [List.map_cons, e.1, h1], h2.cons p⟩
  | swap x y l =>
    intro ps e
    match ps, e with
    | [], e => cases e
    | [p], e => rw [List.map_cons, List.map_nil, List.cons.injEq] at e; cases e.2
    | p :: q :: r, e =>
      rw [List.map_cons, List.map_cons, List.cons.injEq, List.cons.injEq] at e
      exact ⟨q :: p :: r, by rw [List.map_cons, List.map_cons, e.1, e.2.1, e.2.2], .swap _ _ _⟩
  | trans _ _ a b =>
    intro ps e
    obtain ⟨qs, h1, h2⟩ := b ps e
    obtain ⟨rs, h3, h4⟩ := a qs h1
    exact ⟨rs, h3, h4.trans h2⟩
theorem perm_pts {ps : List Pt} {ys : List D} (h : ys.Perm (dPts ps)) : ∃ qs, ys = dPts qs ∧ qs.Perm ps := by
  rw [dPts_map] at h
  obtain ⟨qs, h1, h2⟩ := perm_map h ps rfl
  exact ⟨qs, by rw [dPts_map]; exact h1, h2⟩
theorem tupc_v {t : DT} {δ : DSt} {k : D → Prop} (h : t δ (fun v => fTuple [v] k)) : dCB fTuple (dCons t dNil) δ k := h
theorem neg_v {i : Int} {t : DT} {δ : DSt} {k : D → Prop} (h : ∀ k : D → Prop, k (.int i) → t δ k) (q : k (.int (-i))) : dNeg t δ k := h _ q
theorem ev_near {u : Int} {o1 o3 o4 : Option SV} {R : D → Prop} (q : ∀ i : Int, i = u ∨ i = -u → R (.int i)) : e__law_near_1 K Ed [some (.val .pot), o1, some (.val (.int u)), o3, o4] R := by
  unfold e__law_near_1
  refine op_v' (fun v => v = .lst ([u, -u].map D.int)) (fun v => ∃ w : Int, v = .int w ∧ 0 ≤ w ∧ w < 2) (fun k hk => ?_) (fun k hk => call_v [.pot, .int 2] (fun k hk => hk) (draw_ok (by decide) (by decide +kernel) fun e a b => hk _ ⟨e, rfl, a, b⟩)) ?_
  · exact lst_v ([u, -u].map D.int) (fun k hk => cons_v _ (fun k hk => go_var rfl hk) (cons_v (tr := dNil) _ (fun k hk => neg_v (fun k hk => go_var rfl hk) hk) hk)) (hk _ rfl)
  · rintro _ _ rfl ⟨w, rfl, w0, w1⟩
    obtain ⟨z, hz, e⟩ := pick_mem (xs := [u, -u]) w0 w1
    refine ixl_v e (q z ?_)
    simpa using hz
theorem test_vY {t : DT} {δ : DSt} {k : Bool → Prop} (Y : Bool → Prop) (h : ∀ k : D → Prop, (∀ c : Bool, Y c → k (.bl c)) → t δ k) (q : ∀ c, Y c → k c) : dTest t δ k := h _ fun c hc => q c hc
theorem test_and {t : DT} {u : DTT} {δ : DSt} {k : Bool → Prop} (Y : Bool → Prop) (h : ∀ k : D → Prop, (∀ c : Bool, Y c → k (.bl c)) → t δ k) (q0 : k false) (q1 : Y true → u δ k) : dAnd (dTest t) u δ k := test_vY Y h fun c hc => by
  cases c with
  | false => rw [if_neg Bool.false_ne_true]; exact q0
  | true => rw [if_pos rfl]; exact q1 hc
theorem nw_v {t s : Pf} {N M : Nat} (ht : t.ok N) (hs : s.ok M) (hM : M ≤ 10000000) {W : XW} {ta tb : DT} {δ : DSt} {k : D → Prop} (ha : ∀ k : D → Prop, k (t.D K) → ta δ k) (hb : ∀ k : D → Prop, k (s.D K) → tb δ k) (q : ∀ c : Bool, (c = true ↔ NW t.xs s.xs) → k (.bl c)) : dMeth (ga K "Profile") "is_no_worse" (T_Profile_is_no_worse K) W ta (dCons tb dNil) δ k :=
  ha _ ⟨rfl, rfl, cons_v (tr := dNil) (s.D K) hb ⟨t.d, t.u, t.e, t.h, s.d, s.u, s.e, s.h, rfl, Nat.le_trans hs.nd hM, Nat.le_trans hs.nu hM, fun c hc => q c (hc.trans (nw_rows ht.p hs.p).symm)⟩⟩
theorem same_v {t s : Pf} {N M : Nat} (ht : t.ok N) (hs : s.ok M) {ta tb : DT} {δ : DSt} {k : D → Prop} (ha : ∀ k : D → Prop, k (t.D K) → ta δ k) (hb : ∀ k : D → Prop, k (s.D K) → tb δ k) (q : ∀ c : Bool, (c = true ↔ Eqv t.xs s.xs) → k (.bl c)) : dOp (fEqO (ga K "Profile") (T_Profile___eq__ K)) ta tb δ k :=
  op_v (t.D K) (s.D K) ha hb ⟨⟨_, rfl⟩, ⟨_, rfl⟩, t.d, t.u, t.e, t.h, s.d, s.u, s.e, s.h, rfl, fun c hc => q c (hc.trans ⟨fun ⟨a, b, d, e⟩ => Eqv.of ht.p (by rw [a, b, d, e]; exact hs.p), fun v => v.prof ht.p hs.p⟩)⟩
theorem bl_iff {a b : Bool} {P : Prop} (h : a = true ↔ P) (g : b = true ↔ P) : a = b := by
  cases a <;> cases b <;> simp at h g <;> first | rfl | exact absurd h g | exact absurd g h
mutual
theorem wd_bd1 : ∀ p : Pt, p.wd → ∀ x ∈ p.unroll, x.natAbs ≤ 10 ^ 29
  | .step i, h => by
    rw [wd_step] at h
    rw [unroll_step]
    intro x hx
    rw [List.mem_singleton.mp hx]
    exact h
  | .loop r ps, h => by
    rw [wd_loop] at h
    rw [unroll_loop]
    exact fun x hx => wd_bd ps h.2.2.2 x (rep_mem hx)
theorem wd_bd : ∀ ps : List Pt, wdL ps → ∀ x ∈ unrollL ps, x.natAbs ≤ 10 ^ 29
  | [], _ => by rw [unrollL_nil]; exact fun x hx => nomatch hx
  | p :: ps, h => by
    rw [wdL_cons] at h
    rw [unrollL_cons]
    intro x hx
    rcases List.mem_append.mp hx with hx | hx
    · exact wd_bd1 p h.1 x hx
    · exact wd_bd ps h.2 x hx
end
theorem bd40 {xs : List Int} (h : ∀ x ∈ xs, x.natAbs ≤ 10 ^ 29) : ∀ x ∈ xs, x.natAbs ≤ 10 ^ 40 := fun x hx => Nat.le_trans (h x hx) (by decide +kernel)
end
end K41

namespace K41
open PySem.Spec PySem L2 PyProof.Rows FG
open He (ga ma Fa Dv)
section
variable {K : PySem.W.Frag} {ds : List D} {Q : D → Prop} {Ed : Exn → Prop}
theorem isN_scr (ps : List Pt) : (scrI K ps).isN = false := rfl
theorem small_steps {xs : List Int} (hl : xs.length ≤ 10) : okL (xs.map Pt.step) ∧ depL (xs.map Pt.step) ≤ 6 ∧ clL (xs.map Pt.step) ≤ 10000000 := by
  have c := cl_steps xs
  exact ⟨ok_steps xs, by rw [dep_steps]; decide, by omega⟩
theorem rd_Script_of (h : T_Script_of K ds Q Ed) : t_Script_of K Ed (en Q) (some (.val (.cls (ga K "Script"))) :: some (.val (.tup ds)) :: List.replicate (N_Script_of.length - 2) none) := by
  obtain ⟨xs, rfl, hl, q⟩ := h
  obtain ⟨a, b, c⟩ := small_steps hl
  unfold t_Script_of
  show dRet _ _ [some (.val (.cls (ga K "Script"))), some (.val (.tup (xs.map D.int)))]
  exact go_ret' ⟨rfl, call_v [.tup (xs.map D.int)] (fun k hk => cons_v (tr := dNil) _ (fun k hk => go_var rfl hk) hk) ⟨_, xs.map Pt.step, rfl, .inr (by rw [d_steps]), b, c, a, q _ rfl⟩⟩
theorem of_v {xs : List Int} {te : DTA} {δ : DSt} {k : D → Prop} (hl : xs.length ≤ 10) (ht : ∀ k : List D → Prop, k (xs.map D.int) → te δ k) (q : ∀ v : D, v.isN = false → k v) : dCMeth (ga K "Script") (T_Script_of K) (dC (.cls (ga K "Script"))) te δ k := ⟨rfl, ht _ ⟨xs, rfl, hl, q⟩⟩
theorem rd_end_context (h : T_end_context K ds Q Ed) : t_end_context K Ed (en Q) (st0 N_end_context ds) := by
  obtain ⟨a, b, rfl, q⟩ := h
  unfold t_end_context
  show dRet _ _ [some (.val (.int a)), some (.val (.int b))]
  refine go_ret' (tup_v' (fun es => True) (fun k hk => ?_) fun es _ => q _ rfl)
  refine cons_vY (fun v => True) (fun k hk => of_v (xs := [b - a]) (Nat.le_of_ble_eq_true rfl) (fun k hk => cons_v (tr := dNil) _ (fun k hk => sub_v (i := b) (j := a) (fun k hk => go_var rfl hk) (fun k hk => go_var rfl hk) rfl hk) hk) fun v _ => hk _ trivial) fun v _ => ?_
  exact cons_v _ (fun k hk => hk) (cons_v (tr := dNil) _ (fun k hk => go_var rfl hk) (hk _ trivial))
theorem rd_height_context (h : T_height_context K ds Q Ed) : t_height_context K Ed (en Q) (st0 N_height_context ds) := by
  obtain ⟨a, rfl, q⟩ := h
  unfold t_height_context
  show dRet _ _ [some (.val (.int a))]
  refine go_ret' (tup_v' (fun es => True) (fun k hk => ?_) fun es _ => q _ rfl)
  refine cons_vY (fun v => True) (fun k hk => call_v [] (fun k hk => hk) ⟨rfl, _, [], rfl, .inr rfl, by rw [depL_nil]; decide, by rw [clL_nil]; decide, by rw [okL_nil]; trivial, hk _ trivial⟩) fun v _ => ?_
  exact cons_v _ (fun k hk => hk) (cons_v (tr := dNil) _ (fun k hk => go_var rfl hk) (hk _ trivial))
theorem rd_descent_context (h : T_descent_context K ds Q Ed) : t_descent_context K Ed (en Q) (st0 N_descent_context ds) := by
  obtain ⟨r, b, rfl, q⟩ := h
  unfold t_descent_context
  show dSeq _ _ _ [some (.val (dRow r)), some (.val (.int b)), none, none]
  refine gs_tp [.int r.1, .int r.2] (fun k hk => go_var rfl hk) ?_
  simp only [gTs_c, gTs_n, gT_n]
  show dRet _ _ [some (.val (dRow r)), some (.val (.int b)), some (.val (.int r.1)), some (.val (.int r.2))]
  refine go_ret' (tup_v' (fun es => True) (fun k hk => ?_) fun es _ => q _ rfl)
  refine cons_vY (fun v => True) (fun k hk => of_v (xs := [r.1 - r.2, r.2 - b]) (Nat.le_of_ble_eq_true rfl) (fun k hk => cons_v _ (fun k hk => sub_v (i := r.1) (j := r.2) (fun k hk => go_var rfl hk) (fun k hk => go_var rfl hk) rfl hk) (cons_v (tr := dNil) _ (fun k hk => sub_v (i := r.2) (j := b) (fun k hk => go_var rfl hk) (fun k hk => go_var rfl hk) rfl hk) hk)) fun v _ => hk _ trivial) fun v _ => ?_
  exact cons_v _ (fun k hk => sub_v (i := b) (j := r.1) (fun k hk => go_var rfl hk) (fun k hk => go_var rfl hk) rfl hk) (cons_v (tr := dNil) _ (fun k hk => go_var rfl hk) (hk _ trivial))
theorem rd_ascent_context (h : T_ascent_context K ds Q Ed) : t_ascent_context K Ed (en Q) (st0 N_ascent_context ds) := by
  obtain ⟨r, b, rfl, q⟩ := h
  unfold t_ascent_context
  show dSeq _ _ _ [some (.val (dRow r)), some (.val (.int b)), none, none]
  refine gs_tp [.int r.1, .int r.2] (fun k hk => go_var rfl hk) ?_
  simp only [gTs_c, gTs_n, gT_n]
  show dRet _ _ [some (.val (dRow r)), some (.val (.int b)), some (.val (.int r.1)), some (.val (.int r.2))]
  refine go_ret' (tup_v' (fun es => True) (fun k hk => ?_) fun es _ => q _ rfl)
  refine cons_vY (fun v => True) (fun k hk => of_v (xs := [b - r.2, r.2 - r.1]) (Nat.le_of_ble_eq_true rfl) (fun k hk => cons_v _ (fun k hk => sub_v (i := b) (j := r.2) (fun k hk => go_var rfl hk) (fun k hk => go_var rfl hk) rfl hk) (cons_v (tr := dNil) _ (fun k hk => sub_v (i := r.2) (j := r.1) (fun k hk => go_var rfl hk) (fun k hk => go_var rfl hk) rfl hk) hk)) fun v _ => hk _ trivial) fun v _ => ?_
  exact cons_v _ (fun k hk => hk) (cons_v (tr := dNil) _ (fun k hk => go_var rfl hk) (hk _ trivial))
/-- what a comprehension over rows with a test gives -/
theorem lc_rows {tg : Tgt} {tt : DTT} {te : DT} {δ : DSt} {R : List D → Prop} (P : Int × Int → Prop) [DecidablePred P] : ∀ (rs : Rows) (acc : List D), (∀ x ∈ acc, x.isN = false) → (∀ r ∈ rs, ∀ (R1 : D → Prop) (R0 : Prop), ((P r) → ∀ v : D, v.isN = false → R1 v) → (¬ P r → R0) → gT tg (dRow r) δ fun δ' => tt (view δ') fun b => if b = true then te δ' R1 else R0) →
    (∀ es : List D, (∀ x ∈ es, x.isN = false) → (es = [] ↔ acc = [] ∧ ∀ r ∈ rs, ¬ P r) → es.length ≤ acc.length + rs.length → R es) → dLcL tg tt te δ (dRows rs) acc R
  | [], acc, ha, _, q => by
    show dLcL tg tt te δ [] acc R
    unfold dLcL
    exact q acc ha ⟨fun z => ⟨z, fun r h => nomatch h⟩, fun z => z.1⟩ (Nat.le_refl _)
  | r :: rs, acc, ha, h, q => by
    rw [dRows_cons]
    unfold dLcL
    refine h r List.mem_cons_self _ _ (fun p v hv => ?_) fun np => ?_
    · refine lc_rows P rs (acc ++ [v]) (fun x hx => ?_) (fun s hs => h s (List.mem_cons_of_mem _ hs)) fun es h1 h2 h3 => q es h1 (h2.trans ⟨fun z => by simp at z, fun z => absurd p (z.2 r List.mem_cons_self)⟩) (by rw [List.length_append, List.length_singleton] at h3; rw [List.length_cons]; omega)
      rcases List.mem_append.mp hx with hx | hx
      · exact ha x hx
      · rw [List.mem_singleton.mp hx]; exact hv
    · refine lc_rows P rs acc ha (fun s hs => h s (List.mem_cons_of_mem _ hs)) fun es h1 h2 h3 => q es h1 (h2.trans ⟨fun z => ⟨z.1, fun s hs => ?_⟩, fun z => ⟨z.1, fun s hs => z.2 s (List.mem_cons_of_mem _ hs)⟩⟩) (by rw [List.length_cons]; omega)
      rcases List.mem_cons.mp hs with rfl | hs
      · exact np
      · exact z.2 s hs
theorem ev_wc1 {t s : Pf} {h : Int} {o2 o4 : Option SV} {R : D → Prop} {N M : Nat} (ht : t.ok N) (hs : s.ok M) (q : ∀ es : List D, (∀ x ∈ es, x.isN = false) → (es = [] ↔ ∀ r ∈ s.d, fall t.d r.1 0 ≤ r.2) → es.length ≤ s.d.length → R (.lst es)) : e_worse_contexts_1 K Ed [some (.val (t.D K)), some (.val (s.D K)), o2, some (.val (.int h)), o4] R := by
  unfold e_worse_contexts_1 dStay fLc
  refine seq_of (es := dRows s.d) (fun k hk => go_var (d := s.D K) rfl ⟨rfl, rfl, s.d, s.u, s.e, s.h, rfl, hk⟩) ?_
  refine lc_rows (fun r => ¬ fall t.d r.1 0 ≤ r.2) s.d [] (fun x hx => nomatch hx) (fun r hr R1 R0 h1 h0 => ?_) fun es e1 e2 e3 => q es e1 (e2.trans ⟨fun z r hr => Decidable.not_not.mp (z.2 r hr), fun z => ⟨rfl, fun r hr => Decidable.not_not.mpr (z r hr)⟩⟩) (by rw [List.length_nil, Nat.zero_add] at e3; exact e3)
  obtain ⟨a, b⟩ := can_row hs.p.dn hr
  simp only [gT_n]
  have call : ∀ (δ : DSt) (k : D → Prop), δ[0]? = some (some (.val (t.D K))) → δ[4]? = some (some (.val (dRow r))) → k (.int (fall t.d r.1 0)) → dCallO (ga K "Profile") (T_Profile___call__ K) (dVar 0) (dCons (dOp fIx (dVar 4) (dC (.int 0))) dNil) δ k := fun δ k e0 e4 hk => go_var (d := t.D K) e0 ⟨rfl, cons_v (tr := dNil) (.int r.1) (fun k hk => r0 (fun k hk => go_var e4 hk) hk) ⟨t.d, t.u, t.e, t.h, r.1, rfl, a, hk⟩⟩
  by_cases c : fall t.d r.1 0 ≤ r.2
  · refine gt_v (i := fall t.d r.1 0) (j := r.2) (b := false) (fun k hk => call _ _ rfl rfl hk) (fun k hk => r1 (fun k hk => go_var rfl hk) hk) (decide_eq_false (by omega)) ?_
    rw [if_neg Bool.false_ne_true]
    exact h0 (fun z => z c)
  · refine gt_v (i := fall t.d r.1 0) (j := r.2) (b := true) (fun k hk => call _ _ rfl rfl hk) (fun k hk => r1 (fun k hk => go_var rfl hk) hk) (decide_eq_true (by omega)) ?_
    rw [if_pos rfl]
    exact call_v [dRow r, .int h] (fun k hk => cons_v _ (fun k hk => go_var rfl hk) (cons_v (tr := dNil) _ (fun k hk => go_var rfl hk) hk)) ⟨r, h, rfl, h1 c⟩
theorem ev_wc2 {t s : Pf} {h : Int} {o2 o4 : Option SV} {R : D → Prop} {N M : Nat} (ht : t.ok N) (hs : s.ok M) (he : t.e ≤ s.e) (q : ∀ es : List D, (∀ x ∈ es, x.isN = false) → (es = [] ↔ ∀ r ∈ s.u, fall t.u r.1 t.e ≤ r.2) → es.length ≤ s.u.length → R (.lst es)) : e_worse_contexts_2 K Ed [some (.val (t.D K)), some (.val (s.D K)), o2, some (.val (.int h)), o4] R := by
  have en := hs.p.en
  unfold e_worse_contexts_2 dStay fLc
  refine seq_of (es := dRows s.u) (fun k hk => go_var (d := s.D K) rfl ⟨rfl, rfl, s.d, s.u, s.e, s.h, rfl, hk⟩) ?_
  refine lc_rows (fun r => ¬ fall t.u r.1 t.e ≤ r.2) s.u [] (fun x hx => nomatch hx) (fun r hr R1 R0 h1 h0 => ?_) fun es e1 e2 e3 => q es e1 (e2.trans ⟨fun z r hr => Decidable.not_not.mp (z.2 r hr), fun z => ⟨rfl, fun r hr => Decidable.not_not.mpr (z r hr)⟩⟩) (by rw [List.length_nil, Nat.zero_add] at e3; exact e3)
  obtain ⟨a, b⟩ := can_row hs.p.up hr
  simp only [gT_n]
  have call : ∀ (δ : DSt) (k : D → Prop), δ[0]? = some (some (.val (t.D K))) → δ[4]? = some (some (.val (dRow r))) → k (.int (fall t.u r.1 t.e)) → dMeth (ga K "Profile") "back" (T_Profile_back K) wNo (dVar 0) (dCons (dOp fIx (dVar 4) (dC (.int 0))) dNil) δ k := fun δ k e0 e4 hk => go_var (d := t.D K) e0 ⟨rfl, rfl, cons_v (tr := dNil) (.int r.1) (fun k hk => r0 (fun k hk => go_var e4 hk) hk) ⟨t.d, t.u, t.e, t.h, r.1, rfl, by omega, hk⟩⟩
  by_cases c : fall t.u r.1 t.e ≤ r.2
  · refine gt_v (i := fall t.u r.1 t.e) (j := r.2) (b := false) (fun k hk => call _ _ rfl rfl hk) (fun k hk => r1 (fun k hk => go_var rfl hk) hk) (decide_eq_false (by omega)) ?_
    rw [if_neg Bool.false_ne_true]
    exact h0 (fun z => z c)
  · refine gt_v (i := fall t.u r.1 t.e) (j := r.2) (b := true) (fun k hk => call _ _ rfl rfl hk) (fun k hk => r1 (fun k hk => go_var rfl hk) hk) (decide_eq_true (by omega)) ?_
    rw [if_pos rfl]
    exact call_v [dRow r, .int h] (fun k hk => cons_v _ (fun k hk => go_var rfl hk) (cons_v (tr := dNil) _ (fun k hk => go_var rfl hk) hk)) ⟨r, h, rfl, h1 c⟩
theorem rd_worse_contexts (h : T_worse_contexts K ds Q Ed) : t_worse_contexts K Ed (en Q) (st0 N_worse_contexts ds) := by
  obtain ⟨t, s, rfl, ht, hs, q⟩ := h
  have nw := nw_rows ht.p hs.p
  have s1 := hs.nd
  have s2 := hs.nu
  unfold t_worse_contexts
  show dSeq _ _ _ [some (.val (t.D K)), some (.val (s.D K)), none, none, none]
  have ev : ∀ (p : Pf) (δ : DSt) (i : Nat) (k : D → Prop), δ[i]? = some (some (.val (p.D K))) → k (.int p.e) → dProp (ga K "Profile") (T_Profile_end K) (dVar i) δ k := fun p δ i k es hk => go_var (d := p.D K) es ⟨rfl, p.d, p.u, p.e, p.h, rfl, hk⟩
  have hv : ∀ (p : Pf) (δ : DSt) (i : Nat) (k : D → Prop), δ[i]? = some (some (.val (p.D K))) → k (.int p.h) → dProp (ga K "Profile") (T_Profile_height K) (dVar i) δ k := fun p δ i k es hk => go_var (d := p.D K) es ⟨rfl, p.d, p.u, p.e, p.h, rfl, hk⟩
  refine gs_parO [] (.int s.h) (fun k hk => hk) (fun k hk => hv s _ _ _ rfl hk) ?_
  show dSeq _ _ _ [some (.val (t.D K)), some (.val (s.D K)), some (.own []), some (.val (.int s.h)), none]
  by_cases he : s.e < t.e
  · refine go_seq (go_if_t (fun k hk => gt_v (i := t.e) (j := s.e) (fun k hk => ev t _ _ _ rfl hk) (fun k hk => ev s _ _ _ rfl hk) (decide_eq_true he) hk) (go_ret' ?_))
    refine lst_vY (fun es => ∃ v : D, es = [v] ∧ v.isN = false) (fun k hk => ?_) ?_
    · refine cons_vY (tr := dNil) (fun v => v.isN = false) (fun k hk => ?_) fun v hv => hk _ ⟨v, rfl, hv⟩
      exact call_v [.int s.e, .int s.h] (fun k hk => cons_v _ (fun k hk => ev s _ _ _ rfl hk) (cons_v (tr := dNil) _ (fun k hk => go_var rfl hk) hk)) ⟨s.e, s.h, rfl, hk⟩
    · rintro _ ⟨v, rfl, hv⟩
      exact q [v] (fun x hx => by rw [List.mem_singleton.mp hx]; exact hv) ⟨fun z => (nomatch z), fun z => absurd (nw.mp z).1 (by omega)⟩
  refine gs_next (fun k hk => gt_v (i := t.e) (j := s.e) (fun k hk => ev t _ _ _ rfl hk) (fun k hk => ev s _ _ _ rfl hk) (decide_eq_false he) hk) ?_
  -- what follows the test of the heights
  obtain ⟨fin, hfin⟩ : ∃ fin : DTS, fin = dSeq (dExt 2 (e_worse_contexts_1 K Ed)) (dSeq (dExt 2 (e_worse_contexts_2 K Ed)) (dRet (dVar 2))) := ⟨_, rfl⟩
  have last : ∀ (as : List D), (∀ x ∈ as, x.isN = false) → as.length ≤ 1 → (as = [] ↔ t.h ≤ s.h) → fin (en Q) [some (.val (t.D K)), some (.val (s.D K)), some (.own as), some (.val (.int s.h)), none] := by
    intro as ha hal hn
    rw [hfin]
    refine go_seq (ext_ok (fs := as) (fun es => (∀ x ∈ es, x.isN = false) ∧ (es = [] ↔ ∀ r ∈ s.d, fall t.d r.1 0 ≤ r.2) ∧ es.length ≤ s.d.length) rfl (fun k hk => ev_wc1 ht hs fun es a b c => hk _ ⟨a, b, c⟩) ?_)
    rintro bs ⟨b1, b2, b3⟩
    refine ⟨by rw [sizeLine_eq]; omega, ?_⟩
    refine nx_of ?_
    show dSeq _ _ _ [some (.val (t.D K)), some (.val (s.D K)), some (.own (as ++ bs)), some (.val (.int s.h)), none]
    refine go_seq (ext_ok (fs := as ++ bs) (fun es => (∀ x ∈ es, x.isN = false) ∧ (es = [] ↔ ∀ r ∈ s.u, fall t.u r.1 t.e ≤ r.2) ∧ es.length ≤ s.u.length) rfl (fun k hk => ev_wc2 ht hs (by omega) fun es a b c => hk _ ⟨a, b, c⟩) ?_)
    rintro cs ⟨c1, c2, c3⟩
    refine ⟨by rw [sizeLine_eq, List.length_append]; omega, ?_⟩
    refine q (as ++ bs ++ cs) (fun x hx => ?_) ?_
    · rcases List.mem_append.mp hx with hx | hx
      · rcases List.mem_append.mp hx with hx | hx
        · exact ha x hx
        · exact b1 x hx
      · exact c1 x hx
    · rw [List.append_eq_nil_iff, List.append_eq_nil_iff, hn, b2, c2, nw]
      exact ⟨fun z => ⟨by omega, z.1.1, z.1.2, z.2⟩, fun z => ⟨⟨z.2.1, z.2.2.1⟩, z.2.2.2⟩⟩
  rw [← hfin]
  by_cases hh : s.h < t.h
  · refine go_seq (go_if_t (fun k hk => gt_v (i := t.h) (j := s.h) (fun k hk => hv t _ _ _ rfl hk) (fun k hk => go_var rfl hk) (decide_eq_true hh) hk) ?_)
    refine app_okY (fun v => v.isN = false) rfl (fun k hk => ?_) fun v hv => ?_
    · exact call_v [.int s.h] (fun k hk => cons_v (tr := dNil) _ (fun k hk => go_var rfl hk) hk) ⟨s.h, rfl, hk⟩
    · refine ⟨by rw [sizeLine_eq]; show 0 < 16777216; decide, ?_⟩
      refine nx_of ?_
      exact last [v] (fun x hx => by rw [List.mem_singleton.mp hx]; exact hv) (Nat.le_refl _) ⟨fun z => (nomatch z), fun z => absurd z (by omega)⟩
  · refine gs_next (fun k hk => gt_v (i := t.h) (j := s.h) (fun k hk => hv t _ _ _ rfl hk) (fun k hk => go_var rfl hk) (decide_eq_false hh) hk) ?_
    exact last [] (fun x hx => nomatch hx) (Nat.zero_le _) ⟨fun _ => by omega, fun _ => rfl⟩
theorem rd_worse_context (h : T_worse_context K ds Q Ed) : t_worse_context K Ed (en Q) (st0 N_worse_context ds) := by
  obtain ⟨t, s, rfl, ht, hs, q⟩ := h
  unfold t_worse_context
  show dSeq _ _ _ [some (.val (t.D K)), some (.val (s.D K)), none]
  refine gs_asgY (fun v => ∃ es : List D, v = .lst es ∧ (∀ x ∈ es, x.isN = false) ∧ (es = [] ↔ NW t.xs s.xs)) (fun k hk => call_v [t.D K, s.D K] (fun k hk => cons_v _ (fun k hk => go_var rfl hk) (cons_v (tr := dNil) _ (fun k hk => go_var rfl hk) hk)) ⟨t, s, rfl, ht, hs, fun es a b => hk _ ⟨es, rfl, a, b⟩⟩) ?_
  rintro _ ⟨es, rfl, a, b⟩
  show dRet _ _ [some (.val (t.D K)), some (.val (s.D K)), some (.val (.lst es))]
  have ln : ∀ (δ : DSt) (k : D → Prop), δ[2]? = some (some (.val (.lst es))) → k (.int es.length) → dCB fLen (dCons (dVar 2) dNil) δ k := fun δ k e hk => cb_v [.lst es] (fun k hk => cons_v (tr := dNil) _ (fun k hk => go_var e hk) hk) hk
  cases es with
  | nil => exact go_ret' (ife_f (fun k hk => gt_v (i := 0) (j := 0) (b := false) (fun k hk => ln _ _ rfl hk) (fun k hk => hk) (decide_eq_false (by omega)) hk) (q _ ⟨fun _ => b.mp rfl, fun _ => rfl⟩))
  | cons v vs =>
    refine go_ret' (ife_t (fun k hk => gt_v (i := ((v :: vs).length : Nat)) (j := 0) (b := true) (fun k hk => ln _ _ rfl hk) (fun k hk => hk) (decide_eq_true (by rw [List.length_cons]; omega)) hk) ?_)
    refine op_v (.lst (v :: vs)) (.int 0) (fun k hk => go_var rfl hk) (fun k hk => hk) (ixl_v (atI_0 _ _) (q _ ?_))
    rw [a v List.mem_cons_self]
    exact ⟨fun z => (nomatch z), fun z => absurd (b.mpr z) (by simp)⟩
theorem made_v {ps : List Pt} {te : DTA} {W : XW} {δ : DSt} {k : D → Prop} (hf : Fit ps) (hc : clL ps ≤ 1000000) (ht : ∀ k : List D → Prop, k [scrI K ps] → te δ k) (q : ∀ t : Pf, t.ok 2000000 → t.xs = unrollL ps → k (t.D K)) : dCall (T_profile_of K) W te δ k :=
  call_v [scrI K ps] ht ⟨ps, rfl, hf, hc, fun d u e h p => q ⟨unrollL ps, d, u, e, h⟩ (p.mono (by omega)) rfl⟩
theorem rd_are_exchangeable (h : T_are_exchangeable K ds Q Ed) : t_are_exchangeable K Ed (en Q) (st0 N_are_exchangeable ds) := by
  obtain ⟨ps, qs, rfl, h1, h2, c1, c2, q⟩ := h
  unfold t_are_exchangeable
  show dRet _ _ [some (.val (scrI K ps)), some (.val (scrI K qs))]
  refine go_ret' (op_v' (fun v => ∃ t : Pf, v = t.D K ∧ t.ok 2000000 ∧ t.xs = unrollL ps) (fun v => ∃ t : Pf, v = t.D K ∧ t.ok 2000000 ∧ t.xs = unrollL qs) (fun k hk => made_v h1 c1 (fun k hk => cons_v (tr := dNil) _ (fun k hk => go_var rfl hk) hk) fun t a b => hk _ ⟨t, rfl, a, b⟩) (fun k hk => made_v h2 c2 (fun k hk => cons_v (tr := dNil) _ (fun k hk => go_var rfl hk) hk) fun t a b => hk _ ⟨t, rfl, a, b⟩) ?_)
  rintro _ _ ⟨t, rfl, kt, et⟩ ⟨s, rfl, ks, es⟩
  rw [← et, ← es] at q
  exact same_v kt ks (ta := dC (t.D K)) (tb := dC (s.D K)) (δ := []) (fun k hk => hk) (fun k hk => hk) q
end
end K41

namespace K41
open PySem.Spec PySem L2 PyProof.Rows FG
open He (ga ma Fa Dv)
section
variable {K : PySem.W.Frag} {ds : List D} {Q : D → Prop} {Ed : Exn → Prop}
theorem Bo.app {ps qs : List Pt} {U V L M D C E : Nat} (h : Bo ps U L D C) (g : Bo qs V M D E) : Bo (ps ++ qs) (U + V) (L + M) D (C + E) := ⟨(wdL_app _ _).mpr ⟨h.wd, g.wd⟩, by rw [unL_app, List.length_append]; have := h.un; have := g.un; omega, by rw [List.length_append]; have := h.len; have := g.len; omega, by rw [depL_app]; have := h.de; have := g.de; omega, by rw [clL_app]; have := h.cl; have := g.cl; omega⟩
theorem Bo.mono {ps : List Pt} {U V L M D D' C E : Nat} (h : Bo ps U L D C) (hU : U ≤ V) (hL : L ≤ M) (hD : D ≤ D') (hC : C ≤ E) : Bo ps V M D' E := ⟨h.wd, Nat.le_trans h.un hU, Nat.le_trans h.len hL, Nat.le_trans h.de hD, Nat.le_trans h.cl hC⟩
theorem Bo.up {ps : List Pt} {U L D C : Nat} (h : Bo ps U L D C) : Bo ps U L (D + 1) C := h.mono (Nat.le_refl _) (Nat.le_refl _) (Nat.le_succ _) (Nat.le_refl _)
theorem Bo.split {ps : List Pt} {U L D C : Nat} (h : Bo ps U L D C) (a : Nat) : ∃ U1 U2 L1 L2 C1 C2, U1 + U2 ≤ U ∧ L1 + L2 ≤ L ∧ C1 + C2 ≤ C ∧ Bo (ps.take a) U1 L1 D C1 ∧ Bo (ps.drop a) U2 L2 D C2 := by
  have e : ps.take a ++ ps.drop a = ps := List.take_append_drop a ps
  have w := h.wd
  have u := h.un
  have l := h.len
  have d := h.de
  have c := h.cl
  rw [← e, wdL_app] at w
  rw [← e, unL_app, List.length_append] at u
  rw [← e, List.length_append] at l
  rw [← e, depL_app] at d
  rw [← e, clL_app] at c
  exact ⟨_, _, _, _, _, _, u, l, c, ⟨w.1, Nat.le_refl _, Nat.le_refl _, by omega, Nat.le_refl _⟩, ⟨w.2, Nat.le_refl _, Nat.le_refl _, by omega, Nat.le_refl _⟩⟩
theorem Bo.step {i : Int} {D : Nat} (h : i.natAbs ≤ 10 ^ 29) : Bo [.step i] 1 1 D 1 := ⟨by rw [wdL_cons, wdL_nil, wd_step]; exact ⟨h, trivial⟩, by rw [unrollL_cons, unrollL_nil, unroll_step]; exact Nat.le_refl _, Nat.le_refl _, by rw [depL_cons, depL_nil, dep_step]; omega, by rw [clL_cons, clL_nil, cl_step]; omega⟩
theorem Bo.loop1 {ps : List Pt} {U L D C : Nat} (h : Bo ps U L D C) (hU : U ≤ 100) : Bo [.loop 1 ps] U 1 (D + 1) (2 * C + L + 1) := by
  have u := h.un
  have l := h.len
  have d := h.de
  have c := h.cl
  refine ⟨by rw [wdL_cons, wdL_nil, wd_loop]; exact ⟨⟨by decide, by decide, by omega, h.wd⟩, trivial⟩, ?_, Nat.le_refl _, by rw [depL_cons, depL_nil, dep_loop]; omega, by rw [clL_cons, clL_nil, cl_loop]; omega⟩
  rw [un_one, unroll_loop, rep_len]
  show 1 * (unrollL ps).length ≤ U
  omega
theorem Bo.loop0 {ps : List Pt} {U L D C : Nat} (h : Bo ps U L D C) (hU : U ≤ 100) : Bo [.loop 0 ps] 0 1 (D + 1) (2 * C + L + 1) := by
  have u := h.un
  have l := h.len
  have d := h.de
  have c := h.cl
  refine ⟨by rw [wdL_cons, wdL_nil, wd_loop]; exact ⟨⟨by decide, by decide, by omega, h.wd⟩, trivial⟩, ?_, Nat.le_refl _, by rw [depL_cons, depL_nil, dep_loop]; omega, by rw [clL_cons, clL_nil, cl_loop]; omega⟩
  rw [un_one, unroll_loop, rep_len]
  show 0 * (unrollL ps).length ≤ 0
  omega
theorem Bo.perm {ps qs : List Pt} {U L D C : Nat} (h : Bo ps U L D C) (p : qs.Perm ps) : Bo qs U L D C := by
  have w : wdL qs ↔ wdL ps := by
    clear h
    induction p with
    | nil => exact Iff.rfl
    | cons x _ ih => rw [wdL_cons, wdL_cons, ih]
    | swap x y l => simp only [wdL_cons]; exact and_left_comm
    | trans _ _ a b => exact a.trans b
  have u : (unrollL qs).length = (unrollL ps).length := by
    clear h w
    induction p with
    | nil => rfl
    | cons x _ ih => rw [unrollL_cons, unrollL_cons, List.length_append, List.length_append, ih]
    | swap x y l => simp only [unrollL_cons, List.length_append]; omega
    | trans _ _ a b => exact a.trans b
  have d : depL qs = depL ps := by
    clear h w u
    induction p with
    | nil => rfl
    | cons x _ ih => rw [depL_cons, depL_cons, ih]
    | swap x y l => simp only [depL_cons]; omega
    | trans _ _ a b => exact a.trans b
  have c : clL qs = clL ps := by
    clear h w u d
    induction p with
    | nil => rfl
    | cons x _ ih => rw [clL_cons, clL_cons, ih]
    | swap x y l => simp only [clL_cons]; omega
    | trans _ _ a b => exact a.trans b
  exact ⟨w.mpr h.wd, by rw [u]; exact h.un, by rw [p.length_eq]; exact h.len, by rw [d]; exact h.de, by rw [c]; exact h.cl⟩
theorem rd__law_near (h : T__law_near K ds Q Ed) : t__law_near K Ed (en Q) (st0 N__law_near ds) := by
  obtain ⟨ps, U, L, DD, C, rfl, bo, hU, hL, q⟩ := h
  have hl := bo.len
  unfold t__law_near
  show dSeq _ _ _ [some (.val .pot), some (.val (.tup (dPts ps))), none, none, none]
  refine gs_par2Y2 (fun v => ∃ w : Int, v = .int w ∧ 0 ≤ w ∧ w < 8) (fun v => ∃ a : Nat, v = .int a ∧ a ≤ ps.length) (fun k hk => call_v [.pot, .int 8] (fun k hk => hk) (draw_ok (by decide) (by decide +kernel) fun e a b => hk _ ⟨e, rfl, a, b⟩)) (fun k hk => ?_) ?_
  · refine draw_v (n := (ps.length : Int) + 1) (by omega) (Int.le_trans (by omega : _ ≤ (1000 : Int)) (by decide +kernel)) rfl (fun k hk => ?_) fun a ha => hk _ ⟨a, rfl, by omega⟩
    refine add_v (i := ps.length) (j := 1) (fun k hk => cb_v [.tup (dPts ps)] (fun k hk => cons_v (tr := dNil) _ (fun k hk => go_var rfl hk) hk) ?_) (fun k hk => hk) rfl hk
    show k (.int (dPts ps).length)
    rw [dPts_len]
    exact hk
  rintro _ _ ⟨w, rfl, w0, w1⟩ ⟨a, rfl, ha⟩
  show dSeq _ _ _ [some (.val .pot), some (.val (.tup (dPts ps))), none, some (.val (.int w)), some (.val (.int a))]
  refine gs_asgY (fun v => ∃ u : Int, v = .int u ∧ 1 ≤ u ∧ u ≤ 3) (fun k hk => ?_) ?_
  · refine op_v' (fun v => v = .int 1) (fun v => ∃ e : Int, v = .int e ∧ 0 ≤ e ∧ e < 3) (fun k hk => hk _ rfl) (fun k hk => call_v [.pot, .int 3] (fun k hk => hk) (draw_ok (by decide) (by decide +kernel) fun e a b => hk _ ⟨e, rfl, a, b⟩)) ?_
    rintro _ _ rfl ⟨e, rfl, a, b⟩
    exact hk _ ⟨1 + e, rfl, by omega⟩
  rintro _ ⟨u, rfl, u1, u3⟩
  show dSeq _ _ _ [some (.val .pot), some (.val (.tup (dPts ps))), some (.val (.int u)), some (.val (.int w)), some (.val (.int a))]
  have hda : (dPts ps).length = ps.length := dPts_len ps
  have till : ∀ (δ : DSt) (k : D → Prop), δ[1]? = some (some (.val (.tup (dPts ps)))) → δ[4]? = some (some (.val (.int a))) → k (.tup (dPts (ps.take a))) → dSl (dVar 1) dNo (dPart (dVar 4)) δ k := fun δ k e1 e4 hk => tillT_v (by omega) (fun k hk => go_var e1 hk) (fun k hk => go_var e4 hk) (by rw [dPts_take]; exact hk)
  have frm : ∀ (δ : DSt) (k : D → Prop), δ[1]? = some (some (.val (.tup (dPts ps)))) → δ[4]? = some (some (.val (.int a))) → k (.tup (dPts (ps.drop a))) → dSl (dVar 1) (dPart (dVar 4)) dNo δ k := fun δ k e1 e4 hk => fromT_v (fun k hk => go_var e1 hk) (fun k hk => go_var e4 hk) (by rw [dPts_drop]; exact hk)
  have small : ∀ i : Int, i = u ∨ i = -u → i.natAbs ≤ 10 ^ 29 := fun i hi => Nat.le_trans (show i.natAbs ≤ 3 by omega) (by decide +kernel)
  have lt : (ps.take a).length ≤ 200 := by rw [List.length_take]; omega
  have ld : (ps.drop a).length ≤ 200 := by rw [List.length_drop]; omega
  -- three lists, one behind the other
  have three : ∀ (ms : List Pt) (tm : DT) (δ : DSt) (k : D → Prop), δ[1]? = some (some (.val (.tup (dPts ps)))) → δ[4]? = some (some (.val (.int a))) → ms.length ≤ 3 → (∀ k : D → Prop, k (.tup (dPts ms)) → tm δ k) → k (.tup (dPts (ps.take a ++ ms ++ ps.drop a))) → dOp fAdd (dOp fAdd (dSl (dVar 1) dNo (dPart (dVar 4))) tm) (dSl (dVar 1) (dPart (dVar 4)) dNo) δ k := by
    intro ms tm δ k e1 e4 hm ht hk
    rw [dPts_app, dPts_app] at hk
    refine catT_v (a := dPts (ps.take a) ++ dPts ms) (b := dPts (ps.drop a)) (fun k hk => catT_v (a := dPts (ps.take a)) (b := dPts ms) (fun k hk => till _ _ e1 e4 hk) ht (by rw [dPts_len, dPts_len]; omega) hk) (fun k hk => frm _ _ e1 e4 hk) (by rw [List.length_append, dPts_len, dPts_len, dPts_len]; omega) hk
  obtain ⟨U1, U2, L1, L2, C1, C2, s1, s2, s3, ta, da⟩ := bo.split a
  have qq : ∀ qs U' L' C', Bo qs U' L' (DD + 1) C' → U' ≤ 2 * U + 2 → L' ≤ 2 * L + 2 → C' ≤ 4 * C + 2 * L + 4 → Q (.tup (dPts qs)) := fun qs U' L' C' b h1 h2 h3 => q qs (b.mono h1 h2 (Nat.le_refl _) h3)
  have t3 := ta.up
  have d3 := da.up
  have p3 := bo.up
  have test : ∀ (c : Int) (δ : DSt) (k : Bool → Prop), δ[3]? = some (some (.val (.int w))) → k (decide (w = c)) → dTest (dOp fEq (dVar 3) (dC (.int c))) δ k := fun c δ k e hk => eq_v (i := w) (j := c) (fun k hk => go_var e hk) (fun k hk => hk) rfl hk
  have two : ∀ (x y : Int) (tx ty : DT) (δ : DSt) (k : D → Prop), (∀ k : D → Prop, k (.int x) → tx δ k) → (∀ k : D → Prop, k (.int y) → ty δ k) → k (.tup (dPts [.step x, .step y])) → dTup (dCons tx (dCons ty dNil)) δ k := by
    intro x y tx ty δ k h1 h2 hk
    rw [dPts_cons, dPts_cons, dPts_nil, dPt_step, dPt_step] at hk
    exact tup_v _ (fun k hk => cons_v _ h1 (cons_v (tr := dNil) _ h2 hk)) hk
  by_cases w_0 : w = 0
  · refine go_seq (go_if_t (fun k hk => test 0 _ _ rfl (by rw [decide_eq_true w_0]; exact hk)) (go_ret' ?_))
    exact three [.step u, .step (-u)] _ _ _ rfl rfl (by show 2 ≤ 3; decide) (fun k hk => two u (-u) _ _ _ _ (fun k hk => go_var rfl hk) (fun k hk => neg_v (fun k hk => go_var rfl hk) hk) hk) (qq _ _ _ _ ((t3.app ((Bo.step (small u (.inl rfl))).app (Bo.step (small (-u) (.inr rfl))))).app d3) (by omega) (by omega) (by omega))
  refine gs_next (fun k hk => test 0 _ _ rfl (by rw [decide_eq_false w_0]; exact hk)) ?_
  by_cases w_1 : w = 1
  · refine go_seq (go_if_t (fun k hk => test 1 _ _ rfl (by rw [decide_eq_true w_1]; exact hk)) (go_ret' ?_))
    exact three [.step (-u), .step u] _ _ _ rfl rfl (by show 2 ≤ 3; decide) (fun k hk => two (-u) u _ _ _ _ (fun k hk => neg_v (fun k hk => go_var rfl hk) hk) (fun k hk => go_var rfl hk) hk) (qq _ _ _ _ ((t3.app ((Bo.step (small (-u) (.inr rfl))).app (Bo.step (small u (.inl rfl))))).app d3) (by omega) (by omega) (by omega))
  refine gs_next (fun k hk => test 1 _ _ rfl (by rw [decide_eq_false w_1]; exact hk)) ?_
  by_cases w_2 : w = 2
  · refine go_seq (go_if_t (fun k hk => test 2 _ _ rfl (by rw [decide_eq_true w_2]; exact hk)) (go_ret' ?_))
    have l2 : (ps.drop (a + 1)).length ≤ 200 := by rw [List.length_drop]; omega
    obtain ⟨V1, V2, M1, M2, E1, E2, v1, v2, v3, _, db⟩ := bo.split (a + 1)
    refine catT_v (a := dPts (ps.take a)) (b := dPts (ps.drop (a + 1))) (fun k hk => till _ _ rfl rfl hk) (fun k hk => ?_) (by rw [dPts_len, dPts_len]; omega) ?_
    · refine fromT_v (a := a + 1) (fun k hk => go_var rfl hk) (fun k hk => add_v (i := a) (j := 1) (fun k hk => go_var rfl hk) (fun k hk => hk) (by omega) hk) (by rw [dPts_drop]; exact hk)
    · rw [← dPts_app]
      exact qq _ _ _ _ (t3.app db.up) (by omega) (by omega) (by omega)
  refine gs_next (fun k hk => test 2 _ _ rfl (by rw [decide_eq_false w_2]; exact hk)) ?_
  by_cases w_3 : w = 3
  · refine go_seq (go_if_t (fun k hk => test 3 _ _ rfl (by rw [decide_eq_true w_3]; exact hk)) (go_ret' ?_))
    refine op_v' (fun v => ∃ i : Int, v = .tup (dPts (ps.take a ++ [.step i])) ∧ (i = u ∨ i = -u)) (fun v => v = .tup (dPts (ps.drop a))) (fun k hk => ?_) (fun k hk => frm _ _ rfl rfl (hk _ rfl)) ?_
    · refine op_v' (fun v => v = .tup (dPts (ps.take a))) (fun v => ∃ i : Int, v = .tup (dPts [.step i]) ∧ (i = u ∨ i = -u)) (fun k hk => till _ _ rfl rfl (hk _ rfl)) (fun k hk => ?_) ?_
      · refine tup_v' (fun es => ∃ i : Int, es = dPts [.step i] ∧ (i = u ∨ i = -u)) (fun k hk => ?_) ?_
        · refine cons_vY (tr := dNil) (fun v => ∃ i : Int, v = .int i ∧ (i = u ∨ i = -u)) (fun k hk => ev_near fun i hi => hk _ ⟨i, rfl, hi⟩) ?_
          rintro _ ⟨i, rfl, hi⟩
          exact hk _ ⟨i, by rw [dPts_cons, dPts_nil, dPt_step], hi⟩
        · rintro _ ⟨i, rfl, hi⟩
          exact hk _ ⟨i, rfl, hi⟩
      · rintro _ _ rfl ⟨i, rfl, hi⟩
        refine ⟨by rw [sizeLine_eq, dPts_len, dPts_len]; show _ + 1 ≤ _; omega, ?_⟩
        rw [← dPts_app]
        exact hk _ ⟨i, rfl, hi⟩
    · rintro _ _ ⟨i, rfl, hi⟩ rfl
      refine ⟨by rw [sizeLine_eq, dPts_len, dPts_len, List.length_append]; show _ + 1 + _ ≤ _; omega, ?_⟩
      rw [← dPts_app]
      exact qq _ _ _ _ ((t3.app (Bo.step (small i hi))).app d3) (by omega) (by omega) (by omega)
  refine gs_next (fun k hk => test 3 _ _ rfl (by rw [decide_eq_false w_3]; exact hk)) ?_
  by_cases w_4 : w = 4
  · refine go_seq (go_if_t (fun k hk => test 4 _ _ rfl (by rw [decide_eq_true w_4]; exact hk)) (go_ret' ?_))
    refine catT_v (a := dPts ps) (b := dPts (ps.take a)) (fun k hk => go_var rfl hk) (fun k hk => till _ _ rfl rfl hk) (by rw [dPts_len, dPts_len]; omega) ?_
    rw [← dPts_app]
    exact qq _ _ _ _ (p3.app t3) (by omega) (by omega) (by omega)
  refine gs_next (fun k hk => test 4 _ _ rfl (by rw [decide_eq_false w_4]; exact hk)) ?_
  by_cases w_5 : w = 5
  · refine go_seq (go_if_t (fun k hk => test 5 _ _ rfl (by rw [decide_eq_true w_5]; exact hk)) ?_)
    unfold b__law_near_2
    have lone : ∀ (r : Int) (qs : List Pt) (t : DT) (δ : DSt) (k : D → Prop), (∀ k : D → Prop, k (.tup (dPts qs)) → t δ k) → k (.tup (dPts [.loop r qs])) → dTup (dCons (dTup (dCons (dC (.int r)) (dCons t dNil))) dNil) δ k := by
      intro r qs t δ k h hk
      rw [dPts_cons, dPts_nil, dPt_loop] at hk
      exact tup_v _ (fun k hk => cons_v (tr := dNil) _ (fun k hk => tup_v _ (fun k hk => cons_v _ (fun k hk => hk) (cons_v (tr := dNil) _ h hk)) hk) hk) hk
    refine go_ret' (catT_v (a := dPts [.loop 1 (ps.take a)] ++ dPts (ps.drop a)) (b := dPts [.loop 0 ps]) (fun k hk => catT_v (a := dPts [.loop 1 (ps.take a)]) (b := dPts (ps.drop a)) (fun k hk => lone 1 _ _ _ _ (fun k hk => till _ _ rfl rfl hk) hk) (fun k hk => frm _ _ rfl rfl hk) (by rw [dPts_len, dPts_len, List.length_singleton]; omega) hk) (fun k hk => lone 0 ps _ _ _ (fun k hk => go_var rfl hk) hk) (by rw [List.length_append, dPts_len, dPts_len, dPts_len, List.length_singleton, List.length_singleton]; omega) ?_)
    rw [← dPts_app, ← dPts_app]
    exact qq _ _ _ _ (((ta.loop1 (by omega)).app d3).app (bo.loop0 (by omega))) (by omega) (by omega) (by omega)
  refine gs_next (fun k hk => test 5 _ _ rfl (by rw [decide_eq_false w_5]; exact hk)) ?_
  by_cases w_6 : w = 6
  · exact go_ret' (ife_t (fun k hk => test 6 _ _ rfl (by rw [decide_eq_true w_6]; exact hk)) (go_var rfl (qq _ _ _ _ p3 (by omega) (by omega) (by omega))))
  refine go_ret' (ife_f (fun k hk => test 6 _ _ rfl (by rw [decide_eq_false w_6]; exact hk)) (tupc_v ?_))
  refine call_v [.pot, .tup (dPts ps)] (fun k hk => cons_v _ (fun k hk => go_var rfl hk) (cons_v (tr := dNil) _ (fun k hk => go_var rfl hk) hk)) ⟨dPts ps, rfl, by omega, fun ys hy => ?_⟩
  obtain ⟨qs, rfl, hp⟩ := perm_pts hy
  exact qq _ _ _ _ (p3.perm hp) (by omega) (by omega) (by omega)
mutual
theorem wd_ok1 : ∀ p : Pt, p.wd → p.ok
  | .step i, _ => by rw [ok_step]; trivial
  | .loop r ps, h => by
    rw [wd_loop] at h
    rw [ok_loop]
    exact ⟨h.1, by omega, wd_ok ps h.2.2.2⟩
theorem wd_ok : ∀ ps : List Pt, wdL ps → okL ps
  | [], _ => by rw [okL_nil]; trivial
  | p :: ps, h => by
    rw [wdL_cons] at h
    rw [okL_cons]
    exact ⟨wd_ok1 p h.1, wd_ok ps h.2⟩
end
theorem Bo.fit {ps : List Pt} {U L D C : Nat} (h : Bo ps U L D C) (hD : D ≤ 6) (hC : C ≤ 10000000) : Fit ps := ⟨wd_ok ps h.wd, Nat.le_trans h.de hD, Nat.le_trans h.cl hC, bd40 (wd_bd ps h.wd)⟩
theorem bo_gen {ps : List Pt} (hg : genL ps) (hl : ps.length ≤ 12) (hu : (unrollL ps).length ≤ 12) (hd : depL ps ≤ 3) : Bo ps 12 12 3 10533 := by
  have k := (genL_fit ps hg).2.1
  have k2 : ps.length * (12 * 8 ^ depL ps) ≤ 12 * (12 * 8 ^ 3) := Nat.mul_le_mul hl (Nat.mul_le_mul_left _ (Nat.pow_le_pow_right (by decide) hd))
  exact ⟨gen_wd hg, hu, hl, hd, by omega⟩
end
end K41

namespace K41
open PySem.Spec PySem L2 PyProof.Rows FG
open He (ga ma Fa Dv)
section
variable {K : PySem.W.Frag} {ds : List D} {Q : D → Prop} {Ed : Exn → Prop}
theorem rev_v {es : List D} {t : DT} {δ : DSt} {k : D → Prop} (h : ∀ k : D → Prop, k (.lst es) → t δ k) (q : k (.lst es.reverse)) : dStay (dRev t) δ k := h _ q
theorem most_v {ns : List Int} {t : DT} {δ : DSt} {k : D → Prop} (h : ∀ k : D → Prop, k (.lst (ns.map D.int)) → t δ k) (hl : 0 < ns.length) (q : ∀ m, m ∈ ns → (∀ y, y ∈ ns → y ≤ m) → k (.int m)) : dCB (fL gMax) (dCons t dNil) δ k := h _ ⟨ns, asInts_map ns, hl, q⟩
theorem last_v {xs : List Int} {i : Nat} {δ : DSt} {k : D → Prop} (e : δ[i]? = some (some (.val (.lst ((heights 0 xs).map D.int))))) (q : k (.int xs.sum)) : dOp fIx (dVar i) (dNeg (dC (.int 1))) δ k :=
  op_v (.lst ((heights 0 xs).map D.int)) (.int (-1)) (fun k hk => go_var e hk) (fun k hk => hk) (ixl_v (by
    rw [atI_end, List.getLast?_map, heights_last, Int.zero_add]
    rfl) q)
theorem rd__law_reach (h : T__law_reach K ds Q Ed) : t__law_reach K Ed (en Q) (st0 N__law_reach ds) := by
  obtain ⟨hs, c, rfl, q⟩ := h
  unfold t__law_reach
  show dSeq _ _ _ [some (.val (.lst (hs.map D.int))), some (.val (.int c)), none, none]
  refine gs_asg (.int 0) (fun k hk => hk) ?_
  have loop : ∀ (rest : List Int) (low : Int) (o3 : Option SV), Q (.int (lf low rest c)) → dLoop (.nm 3) (b__law_reach_1 K Ed) { nx := dRet (dVar 2) (en Q), rt := Q } (rest.map D.int) [some (.val (.lst (hs.map D.int))), some (.val (.int c)), some (.val (.int low)), o3] := by
    intro rest
    induction rest with
    | nil =>
      intro low o3 q
      exact q
    | cons z rest ih =>
      intro low o3 q
      unfold lf at q
      rw [List.map_cons]
      unfold dLoop b__law_reach_1
      simp only [gT_n]
      by_cases g : c < z
      · rw [if_pos g] at q
        exact go_seq (go_if_t (fun k hk => gt_v (i := z) (j := c) (fun k hk => go_var rfl hk) (fun k hk => go_var rfl hk) (decide_eq_true g) hk) (go_ret (.int low) (fun k hk => go_var rfl hk) q))
      · rw [if_neg g] at q
        refine gs_next (fun k hk => gt_v (i := z) (j := c) (fun k hk => go_var rfl hk) (fun k hk => go_var rfl hk) (decide_eq_false g) hk) ?_
        exact go_asg (.int (min low z)) (fun k hk => min_v (i := low) (j := z) (fun k hk => go_var rfl hk) (fun k hk => go_var rfl hk) rfl hk) (ih _ _ q)
  refine go_seq (seq_g (es := hs.map D.int) (.inl rfl) (fun k hk => go_var rfl hk) ?_)
  exact loop hs 0 none q
theorem rd__law_return (h : T__law_return K ds Q Ed) : t__law_return K Ed (en Q) (st0 N__law_return ds) := by
  obtain ⟨xs, c, rfl, q⟩ := h
  unfold t__law_return
  show dSeq _ _ _ [some (.val (.lst ((heights 0 xs).map D.int))), some (.val (.int c)), none, none]
  refine gs_asg (.int xs.sum) (fun k hk => last_v rfl hk) ?_
  have loop : ∀ (rest : List Int) (low : Int) (o3 : Option SV), Q (.int (lf low rest c)) → dLoop (.nm 3) (b__law_return_1 K Ed) { nx := dRet (dVar 2) (en Q), rt := Q } (rest.map D.int) [some (.val (.lst ((heights 0 xs).map D.int))), some (.val (.int c)), some (.val (.int low)), o3] := by
    intro rest
    induction rest with
    | nil =>
      intro low o3 q
      exact q
    | cons z rest ih =>
      intro low o3 q
      unfold lf at q
      rw [List.map_cons]
      unfold dLoop b__law_return_1
      simp only [gT_n]
      by_cases g : c < z
      · rw [if_pos g] at q
        exact go_seq (go_if_t (fun k hk => gt_v (i := z) (j := c) (fun k hk => go_var rfl hk) (fun k hk => go_var rfl hk) (decide_eq_true g) hk) (go_ret (.int low) (fun k hk => go_var rfl hk) q))
      · rw [if_neg g] at q
        refine gs_next (fun k hk => gt_v (i := z) (j := c) (fun k hk => go_var rfl hk) (fun k hk => go_var rfl hk) (decide_eq_false g) hk) ?_
        exact go_asg (.int (min low z)) (fun k hk => min_v (i := low) (j := z) (fun k hk => go_var rfl hk) (fun k hk => go_var rfl hk) rfl hk) (ih _ _ q)
  refine go_seq (seq_of (es := (heights xs.sum (rw xs)).map D.int) (fun k hk => rev_v (es := (heights 0 xs).map D.int) (fun k hk => go_var rfl hk) ?_) ?_)
  · rw [← List.map_reverse, heights_rw, Int.zero_add]
    exact hk
  · exact loop _ _ none q
theorem sortB_v {ns : List Int} {t : DT} {δ : DSt} {k : D → Prop} (h : ∀ k : D → Prop, k (.lst (ns.map D.int)) → t δ k) (hl : ns.length < 4000) (q : ∀ ms : List Int, (∀ m, m ∈ ms ↔ m ∈ ns) → k (.lst (ms.map D.int))) : dSortSetB t δ k := h _ ⟨ns, asInts_map ns, hl, fun ms _ hm => q ms hm⟩
theorem seq_Y {t : DT} {δ : DSt} {R : List D → Prop} (Y : List D → Prop) (h : ∀ k : D → Prop, (∀ es, Y es → k (.lst es)) → t δ k) (q : ∀ es, Y es → R es) : iSeq t δ R := h _ fun es he => q es he
theorem rd__law_marks (h : T__law_marks K ds Q Ed) : t__law_marks K Ed (en Q) (st0 N__law_marks ds) := by
  obtain ⟨a, b, rfl, ha, hb, q⟩ := h
  unfold t__law_marks
  show dRet _ _ [some (.val (.lst (a.map D.int))), some (.val (.lst (b.map D.int)))]
  refine go_ret' (sortB_v (ns := a ++ b ++ [0]) (fun k hk => ?_) (by rw [List.length_append, List.length_append, List.length_singleton]; omega) fun ms hm => q ms fun m => by
    rw [hm m, List.mem_append, List.mem_append, List.mem_singleton, or_assoc])
  rw [List.map_append, List.map_append] at hk
  refine op_v (.lst (a.map D.int ++ b.map D.int)) (.lst [.int 0]) (fun k hk => ?_) (fun k hk => hk) ?_
  · refine op_v (.lst (a.map D.int)) (.lst (b.map D.int)) (fun k hk => go_var rfl hk) (fun k hk => go_var rfl hk) ?_
    rw [fAdd_l]
    exact ⟨by rw [sizeLine_eq, List.length_map, List.length_map]; omega, hk⟩
  · rw [fAdd_l]
    exact ⟨by rw [sizeLine_eq, List.length_append, List.length_map, List.length_map, List.length_singleton]; omega, hk⟩
theorem rd__law_levels (h : T__law_levels K ds Q Ed) : t__law_levels K Ed (en Q) (st0 N__law_levels ds) := by
  obtain ⟨ps, rfl, hw, hd, hu, q⟩ := h
  unfold t__law_levels
  show dRet _ _ [some (.val (.tup (dPts ps)))]
  exact go_ret' (call_v [.lst ((unrollL ps).map D.int), .int 0] (fun k hk => cons_v _ (fun k hk => call_v [.tup (dPts ps)] (fun k hk => cons_v (tr := dNil) _ (fun k hk => go_var rfl hk) hk) ⟨ps, rfl, by omega, hu, hw, hk⟩) (cons_v (tr := dNil) _ (fun k hk => hk) hk)) ⟨unrollL ps, 0, rfl, by omega, q⟩)
theorem hmax_v {xs : List Int} {i : Nat} {δ : DSt} {k : D → Prop} (e : δ[i]? = some (some (.val (.lst ((heights 0 xs).map D.int))))) (q : k (.int (hiW xs))) : dCB (fL gMax) (dCons (dVar i) dNil) δ k := by
  obtain ⟨m1, m2⟩ := heights_max xs 0
  refine most_v (ns := heights 0 xs) (fun k hk => go_var e hk) (by rw [heights_len]; omega) fun m a b => ?_
  have h1 := m1 m a
  have h2 := b _ m2
  rw [show m = hiW xs by omega]
  exact q
theorem rd__law_is_no_worse (h : T__law_is_no_worse K ds Q Ed) : t__law_is_no_worse K Ed (en Q) (st0 N__law_is_no_worse ds) := by
  obtain ⟨xs, ys, rfl, hx, hy, q⟩ := h
  have lx := heights_len xs 0
  have ly := heights_len ys 0
  unfold t__law_is_no_worse
  show dSeq _ _ _ [some (.val (.lst ((heights 0 xs).map D.int))), some (.val (.lst ((heights 0 ys).map D.int))), none]
  by_cases c1 : ys.sum < xs.sum
  · refine go_seq (go_if_t (fun k hk => t_or_t (fun k hk => gt_v (i := xs.sum) (j := ys.sum) (fun k hk => last_v rfl hk) (fun k hk => last_v rfl hk) (decide_eq_true c1) hk) hk) ?_)
    exact q false ⟨fun z => (nomatch z), fun z => absurd z.su (by omega)⟩
  by_cases c2 : hiW ys < hiW xs
  · refine go_seq (go_if_t (fun k hk => t_or_f (fun k hk => gt_v (i := xs.sum) (j := ys.sum) (fun k hk => last_v rfl hk) (fun k hk => last_v rfl hk) (decide_eq_false c1) hk) (gt_v (i := hiW xs) (j := hiW ys) (fun k hk => hmax_v rfl hk) (fun k hk => hmax_v rfl hk) (decide_eq_true c2) hk)) ?_)
    exact q false ⟨fun z => (nomatch z), fun z => absurd z.hi (by omega)⟩
  refine gs_next (fun k hk => t_or_f (fun k hk => gt_v (i := xs.sum) (j := ys.sum) (fun k hk => last_v rfl hk) (fun k hk => last_v rfl hk) (decide_eq_false c1) hk) (gt_v (i := hiW xs) (j := hiW ys) (fun k hk => hmax_v rfl hk) (fun k hk => hmax_v rfl hk) (decide_eq_false c2) hk)) ?_
  refine go_seq ?_
  refine seq_Y (fun es => ∃ ms : List Int, es = ms.map D.int ∧ ∀ m, m ∈ ms ↔ m ∈ heights 0 xs ∨ m ∈ heights 0 ys ∨ m = 0) (fun k hk => call_v [.lst ((heights 0 xs).map D.int), .lst ((heights 0 ys).map D.int)] (fun k hk => cons_v _ (fun k hk => go_var rfl hk) (cons_v (tr := dNil) _ (fun k hk => go_var rfl hk) hk)) ⟨heights 0 xs, heights 0 ys, rfl, by omega, by omega, fun ms hm => hk _ ⟨ms, rfl, hm⟩⟩) ?_
  rintro _ ⟨ms, rfl, hm⟩
  have nw := nw_marks hm
  -- the tests at a level
  obtain ⟨P, hP⟩ : ∃ P : Int → Prop, P = fun t => (0 ≤ t → dn xs t ≤ dn ys t) ∧ (ys.sum ≤ t → xs.sum + dn (rw xs) (t - xs.sum) ≤ ys.sum + dn (rw ys) (t - ys.sum)) := ⟨_, rfl⟩
  have nw' : NW xs ys ↔ ∀ t ∈ ms, P t := by
    rw [nw, hP]
    exact ⟨fun z => z.2.2, fun z => ⟨by omega, by omega, z⟩⟩
  have loop : ∀ (rest : List Int) (o2 : Option SV), (∀ c : Bool, (c = true ↔ ∀ t ∈ rest, P t) → Q (.bl c)) → dLoop (.nm 2) (b__law_is_no_worse_1 K Ed) { nx := dRet (dC (.bl true)) (en Q), rt := Q } (rest.map D.int) [some (.val (.lst ((heights 0 xs).map D.int))), some (.val (.lst ((heights 0 ys).map D.int))), o2] := by
    intro rest
    induction rest with
    | nil =>
      intro o2 q
      rw [List.map_nil]
      unfold dLoop
      exact q true ⟨fun _ t h => (nomatch h), fun _ => rfl⟩
    | cons t rest ih =>
      intro o2 q
      rw [List.map_cons]
      unfold dLoop
      simp only [gT_n]
      show b__law_is_no_worse_1 K Ed _ [some (.val (.lst ((heights 0 xs).map D.int))), some (.val (.lst ((heights 0 ys).map D.int))), some (.val (.int t))]
      unfold b__law_is_no_worse_1
      have reach : ∀ (zs : List Int) (i : Nat) (δ : DSt) (k : D → Prop), 0 ≤ t → δ[i]? = some (some (.val (.lst ((heights 0 zs).map D.int)))) → δ[2]? = some (some (.val (.int t))) → k (.int (dn zs t)) → dCall (T__law_reach K) (fun e _ => Ed e) (dCons (dVar i) (dCons (dVar 2) dNil)) δ k := fun zs i δ k h0 e1 e2 hk => call_v [.lst ((heights 0 zs).map D.int), .int t] (fun k hk => cons_v _ (fun k hk => go_var e1 hk) (cons_v (tr := dNil) _ (fun k hk => go_var e2 hk) hk)) ⟨heights 0 zs, t, rfl, by rw [reach_is zs h0]; exact hk⟩
      have back : ∀ (zs : List Int) (i : Nat) (δ : DSt) (k : D → Prop), zs.sum ≤ t → δ[i]? = some (some (.val (.lst ((heights 0 zs).map D.int)))) → δ[2]? = some (some (.val (.int t))) → k (.int (zs.sum + dn (rw zs) (t - zs.sum))) → dCall (T__law_return K) (fun e _ => Ed e) (dCons (dVar i) (dCons (dVar 2) dNil)) δ k := fun zs i δ k h0 e1 e2 hk => call_v [.lst ((heights 0 zs).map D.int), .int t] (fun k hk => cons_v _ (fun k hk => go_var e1 hk) (cons_v (tr := dNil) _ (fun k hk => go_var e2 hk) hk)) ⟨zs, t, rfl, by rw [return_is zs h0]; exact hk⟩
      have step : P t → dLoop (.nm 2) (b__law_is_no_worse_1 K Ed) { nx := dRet (dC (.bl true)) (en Q), rt := Q } (rest.map D.int) [some (.val (.lst ((heights 0 xs).map D.int))), some (.val (.lst ((heights 0 ys).map D.int))), some (.val (.int t))] := fun p => ih _ fun c hc => q c (hc.trans ⟨fun z s hs => by
        rcases List.mem_cons.mp hs with rfl | hs
        · exact p
        · exact z s hs, fun z s hs => z s (List.mem_cons_of_mem _ hs)⟩)
      have no : ¬ P t → Q (.bl false) := fun np => q false ⟨fun z => (nomatch z), fun z => absurd (z t List.mem_cons_self) np⟩
      rw [hP] at step no
      -- the second test
      have second : (0 ≤ t → dn xs t ≤ dn ys t) → dIf (dAnd (dTest (dOp fGe (dVar 2) (dOp fIx (dVar 1) (dNeg (dC (.int 1)))))) (dTest (dOp fGt (dCall (T__law_return K) (fun e _ => Ed e) (dCons (dVar 0) (dCons (dVar 2) dNil))) (dCall (T__law_return K) (fun e _ => Ed e) (dCons (dVar 1) (dCons (dVar 2) dNil)))))) (dRet (dC (.bl false))) dNext { nx := dLoop (.nm 2) (b__law_is_no_worse_1 K Ed) { nx := dRet (dC (.bl true)) (en Q), rt := Q } (rest.map D.int), rt := Q, bk := dRet (dC (.bl true)) (en Q), ct := dLoop (.nm 2) (b__law_is_no_worse_1 K Ed) { nx := dRet (dC (.bl true)) (en Q), rt := Q } (rest.map D.int) } [some (.val (.lst ((heights 0 xs).map D.int))), some (.val (.lst ((heights 0 ys).map D.int))), some (.val (.int t))] := by
        intro first
        by_cases g : ys.sum ≤ t
        · have g2 : xs.sum ≤ t := by omega
          by_cases f : ys.sum + dn (rw ys) (t - ys.sum) < xs.sum + dn (rw xs) (t - xs.sum)
          · refine go_if_t (fun k hk => t_and_t (fun k hk => ge_v (i := t) (j := ys.sum) (b := true) (fun k hk => go_var rfl hk) (fun k hk => last_v rfl hk) (decide_eq_true g) hk) (gt_v (i := xs.sum + dn (rw xs) (t - xs.sum)) (j := ys.sum + dn (rw ys) (t - ys.sum)) (fun k hk => back xs 0 _ _ g2 rfl rfl hk) (fun k hk => back ys 1 _ _ g rfl rfl hk) (decide_eq_true f) hk)) ?_
            exact no fun p => absurd (p.2 g) (by omega)
          · refine go_if_f (fun k hk => t_and_t (fun k hk => ge_v (i := t) (j := ys.sum) (b := true) (fun k hk => go_var rfl hk) (fun k hk => last_v rfl hk) (decide_eq_true g) hk) (gt_v (i := xs.sum + dn (rw xs) (t - xs.sum)) (j := ys.sum + dn (rw ys) (t - ys.sum)) (fun k hk => back xs 0 _ _ g2 rfl rfl hk) (fun k hk => back ys 1 _ _ g rfl rfl hk) (decide_eq_false f) hk)) ?_
            exact step ⟨first, fun _ => by omega⟩
        · refine go_if_f (fun k hk => t_and_f (fun k hk => ge_v (i := t) (j := ys.sum) (b := false) (fun k hk => go_var rfl hk) (fun k hk => last_v rfl hk) (decide_eq_false g) hk) hk) ?_
          exact step ⟨first, fun z => absurd z g⟩
      by_cases g : 0 ≤ t
      · by_cases f : dn ys t < dn xs t
        · refine go_seq (go_if_t (fun k hk => t_and_t (fun k hk => ge_v (i := t) (j := 0) (b := true) (fun k hk => go_var rfl hk) (fun k hk => hk) (decide_eq_true g) hk) (gt_v (i := dn xs t) (j := dn ys t) (fun k hk => reach xs 0 _ _ g rfl rfl hk) (fun k hk => reach ys 1 _ _ g rfl rfl hk) (decide_eq_true f) hk)) ?_)
          exact no fun p => absurd (p.1 g) (by omega)
        · refine gs_next (fun k hk => t_and_t (fun k hk => ge_v (i := t) (j := 0) (b := true) (fun k hk => go_var rfl hk) (fun k hk => hk) (decide_eq_true g) hk) (gt_v (i := dn xs t) (j := dn ys t) (fun k hk => reach xs 0 _ _ g rfl rfl hk) (fun k hk => reach ys 1 _ _ g rfl rfl hk) (decide_eq_false f) hk)) ?_
          exact second fun _ => by omega
      · refine gs_next (fun k hk => t_and_f (fun k hk => ge_v (i := t) (j := 0) (b := false) (fun k hk => go_var rfl hk) (fun k hk => hk) (decide_eq_false g) hk) hk) ?_
        exact second fun z => absurd z g
  exact loop ms none fun c hc => q c (hc.trans nw'.symm)
end
end K41

namespace K41
open PySem.Spec PySem L2 PyProof.Rows FG
open He (ga ma Fa Dv)
section
variable {K : PySem.W.Frag} {ds : List D} {Q : D → Prop} {Ed : Exn → Prop}
theorem cbt_v {f : F1} {t : DT} {δ : DSt} {k : D → Prop} (h : t δ (fun v => f [v] k)) : dCB f (dCons t dNil) δ k := h
theorem ife_Y {tc : DTT} {ta tb : DT} {δ : DSt} {k : D → Prop} (hc : ∀ k : Bool → Prop, (∀ b, k b) → tc (FG.view δ) k) (ha : ta δ k) (hb : tb δ k) : dIfE tc ta tb δ k := by
  refine hc (fun b => if b = true then ta δ k else tb δ k) fun b => ?_
  cases b
  · show (if (false : Bool) = true then _ else tb δ k)
    rw [if_neg Bool.false_ne_true]
    exact hb
  · show (if (true : Bool) = true then ta δ k else _)
    rw [if_pos rfl]
    exact ha
theorem txt2 {a b : Bool} {k : D → Prop} (q : k (.str (D.lst [.bl a, .bl b]).py.shown)) : fReprA [.lst [.bl a, .bl b]] k := by
  show fRepr [_] k
  refine repr_ok rfl ?_ ?_ ?_ q
  · simp only [D.nice, D.niceL]
    rfl
  · simp only [D.dep, D.depL]
    decide
  · simp only [D.wt, D.wtL]
    decide
theorem andb_v {ta tb : DT} {δ : DSt} {k : D → Prop} (a b : Bool) (ha : ∀ k : D → Prop, k (.bl a) → ta δ k) (hb : ∀ k : D → Prop, k (.bl b) → tb δ k) (q : k (.bl (a && b))) : dAndV ta tb δ k := ha _ (by
  cases a with
  | false =>
    show (if (false : Bool) = true then _ else k (.bl false))
    rw [if_neg Bool.false_ne_true]
    exact q
  | true =>
    show (if (true : Bool) = true then tb δ k else _)
    rw [if_pos rfl]
    exact hb _ q)
theorem rd__law_pair_right (h : T__law_pair_right K ds Q Ed) : t__law_pair_right K Ed (en Q) (st0 N__law_pair_right ds) := by
  obtain ⟨ps, qs, rfl, hp, hq, q⟩ := h
  have f1 := hp.fit (Nat.le_refl _) (by decide)
  have f2 := hq.fit (Nat.le_refl _) (by decide)
  have u1 := hp.un
  have u2 := hq.un
  unfold t__law_pair_right
  show dSeq _ _ _ [some (.val (.tup (dPts ps))), some (.val (.tup (dPts qs))), none, none, none, none, none, none, none]
  have lev : ∀ (zs : List Pt) (i : Nat) (δ : DSt) (k : D → Prop), Bo zs 120 120 6 1000000 → δ[i]? = some (some (.val (.tup (dPts zs)))) → k (.lst ((heights 0 (unrollL zs)).map D.int)) → dCall (T__law_levels K) (fun e _ => Ed e) (dCons (dVar i) dNil) δ k := fun zs i δ k b e hk => call_v [.tup (dPts zs)] (fun k hk => cons_v (tr := dNil) _ (fun k hk => go_var e hk) hk) ⟨zs, rfl, b.wd, b.de, Nat.le_trans b.un (by decide), hk⟩
  refine gs_par2 (.lst ((heights 0 (unrollL ps)).map D.int)) (.lst ((heights 0 (unrollL qs)).map D.int)) (fun k hk => lev ps _ _ _ hp rfl hk) (fun k hk => lev qs _ _ _ hq rfl hk) ?_
  show dSeq _ _ _ [some (.val (.tup (dPts ps))), some (.val (.tup (dPts qs))), none, some (.val (.lst ((heights 0 (unrollL ps)).map D.int))), some (.val (.lst ((heights 0 (unrollL qs)).map D.int))), none, none, none, none]
  have scr : ∀ (zs : List Pt) (i : Nat) (W : XW) (δ : DSt) (k : D → Prop), Fit zs → δ[i]? = some (some (.val (.tup (dPts zs)))) → k (scrI K zs) → dCall (T_Script___init__ K) W (dCons (dVar i) dNil) δ k := fun zs i W δ k f e hk => mk_v (.inr rfl) f (fun k hk => cons_v (tr := dNil) _ (fun k hk => go_var e hk) hk) hk
  refine gs_par2Y2 (fun v => ∃ t : Pf, v = t.D K ∧ t.ok 2000000 ∧ t.xs = unrollL ps) (fun v => ∃ t : Pf, v = t.D K ∧ t.ok 2000000 ∧ t.xs = unrollL qs) (fun k hk => made_v f1 hp.cl (fun k hk => cons_v (tr := dNil) _ (fun k hk => scr ps _ _ _ _ f1 rfl hk) hk) fun t a b => hk _ ⟨t, rfl, a, b⟩) (fun k hk => made_v f2 hq.cl (fun k hk => cons_v (tr := dNil) _ (fun k hk => scr qs _ _ _ _ f2 rfl hk) hk) fun t a b => hk _ ⟨t, rfl, a, b⟩) ?_
  rintro _ _ ⟨t, rfl, kt, et⟩ ⟨s, rfl, ks, es⟩
  show dSeq _ _ _ [some (.val (.tup (dPts ps))), some (.val (.tup (dPts qs))), none, some (.val (.lst ((heights 0 (unrollL ps)).map D.int))), some (.val (.lst ((heights 0 (unrollL qs)).map D.int))), some (.val (t.D K)), some (.val (s.D K)), none, none]
  have own : ∀ (xs ys : List Int) (i j : Nat) (δ : DSt) (k : D → Prop), xs.length ≤ 120 → ys.length ≤ 120 → δ[i]? = some (some (.val (.lst ((heights 0 xs).map D.int)))) → δ[j]? = some (some (.val (.lst ((heights 0 ys).map D.int)))) → (∀ c : Bool, (c = true ↔ NW xs ys) → k (.bl c)) → dCall (T__law_is_no_worse K) (fun e _ => Ed e) (dCons (dVar i) (dCons (dVar j) dNil)) δ k := fun xs ys i j δ k h1 h2 e1 e2 hk => call_v [.lst ((heights 0 xs).map D.int), .lst ((heights 0 ys).map D.int)] (fun k hk => cons_v _ (fun k hk => go_var e1 hk) (cons_v (tr := dNil) _ (fun k hk => go_var e2 hk) hk)) ⟨xs, ys, rfl, by omega, by omega, hk⟩
  refine gs_par2Y2 (fun v => ∃ c : Bool, v = .bl c ∧ (c = true ↔ NW t.xs s.xs)) (fun v => ∃ c : Bool, v = .bl c ∧ (c = true ↔ NW s.xs t.xs)) (fun k hk => own (unrollL ps) (unrollL qs) _ _ _ _ u1 u2 rfl rfl fun c hc => hk _ ⟨c, rfl, by rw [et, es]; exact hc⟩) (fun k hk => own (unrollL qs) (unrollL ps) _ _ _ _ u2 u1 rfl rfl fun c hc => hk _ ⟨c, rfl, by rw [et, es]; exact hc⟩) ?_
  rintro _ _ ⟨a, rfl, ha⟩ ⟨b, rfl, hb⟩
  obtain ⟨L1, hL1⟩ : ∃ L1 : D, L1 = .lst ((heights 0 (unrollL ps)).map D.int) := ⟨_, rfl⟩
  obtain ⟨L2, hL2⟩ : ∃ L2 : D, L2 = .lst ((heights 0 (unrollL qs)).map D.int) := ⟨_, rfl⟩
  show dSeq _ _ _ [some (.val (.tup (dPts ps))), some (.val (.tup (dPts qs))), none, some (.val (.lst ((heights 0 (unrollL ps)).map D.int))), some (.val (.lst ((heights 0 (unrollL qs)).map D.int))), some (.val (t.D K)), some (.val (s.D K)), some (.val (.bl a)), some (.val (.bl b))]
  rw [← hL1, ← hL2]
  have two : ∀ (x y : Bool) (tx ty : DT) (δ : DSt) (k : D → Prop), (∀ k : D → Prop, k (.bl x) → tx δ k) → (∀ k : D → Prop, k (.bl y) → ty δ k) → k (.lst [.bl x, .bl y]) → dLst (dCons tx (dCons ty dNil)) δ k := fun x y tx ty δ k h1 h2 hk => lst_v _ (fun k hk => cons_v _ h1 (cons_v (tr := dNil) _ h2 hk)) hk
  refine gs_next (fun k hk => ne_textA (x := .lst [.bl a, .bl b]) (fun k hk => two a b _ _ _ _ (fun k hk => ?_) (fun k hk => ?_) hk) (fun k hk => two a b _ _ _ _ (fun k hk => go_var rfl hk) (fun k hk => go_var rfl hk) hk) (fun k hk => txt2 hk) hk) ?_
  · exact nw_v kt ks (by decide) (fun k hk => go_var rfl hk) (fun k hk => go_var rfl hk) fun c hc => by rw [bl_iff hc ha]; exact hk
  · exact nw_v ks kt (by decide) (fun k hk => go_var rfl hk) (fun k hk => go_var rfl hk) fun c hc => by rw [bl_iff hc hb]; exact hk
  have wc : ∀ (x y : Pf) (i j : Nat) (c : Bool) (δ : DSt) (k : D → Prop), x.ok 2000000 → y.ok 2000000 → (c = true ↔ NW x.xs y.xs) → δ[i]? = some (some (.val (x.D K))) → δ[j]? = some (some (.val (y.D K))) → k (.bl c) → dOp fIsN (dCall (T_worse_context K) (fun e _ => Ed e) (dCons (dVar i) (dCons (dVar j) dNil))) (dC .non) δ k := by
    intro x y i j c δ k hx hy hc e1 e2 hk
    refine op_v' (fun v => v.isN = c) (fun v => v = .non) (fun k hk => call_v [x.D K, y.D K] (fun k hk => cons_v _ (fun k hk => go_var e1 hk) (cons_v (tr := dNil) _ (fun k hk => go_var e2 hk) hk)) ⟨x, y, rfl, PP.mono hx (by decide), PP.mono hy (by decide), fun v hv => hk _ (bl_iff hv hc)⟩) (fun k hk => hk _ rfl) ?_
    rintro v _ hv rfl
    rw [fIsN_n, hv]
    exact hk
  refine gs_asg (.lst [.bl a, .bl b]) (fun k hk => two a b _ _ _ _ (fun k hk => wc t s _ _ a _ _ kt ks ha rfl rfl hk) (fun k hk => wc s t _ _ b _ _ ks kt hb rfl rfl hk) hk) ?_
  show dSeq _ _ _ [some (.val (.tup (dPts ps))), some (.val (.tup (dPts qs))), some (.val (.lst [.bl a, .bl b])), some (.val L1), some (.val L2), some (.val (t.D K)), some (.val (s.D K)), some (.val (.bl a)), some (.val (.bl b))]
  have ev : ((a && b) = true) ↔ Eqv t.xs s.xs := by
    rw [Bool.and_eq_true, ha, hb]
    exact ⟨fun z => z.1.eqv z.2, fun z => ⟨z.nw, z.symm.nw⟩⟩
  refine gs_next (fun k hk => t_or_f (fun k hk => test_v (b := false) (fun k hk => op_v (.lst [.bl a, .bl b]) (.lst [.bl a, .bl b]) (fun k hk => go_var rfl hk) (fun k hk => two a b _ _ _ _ (fun k hk => go_var rfl hk) (fun k hk => go_var rfl hk) hk) (ne_same_l rfl (by simp [D.depL, D.dep]) hk)) hk) (test_v (b := false) (fun k hk => ?_) hk)) ?_
  · refine op_v (.str (if (a && b) then "True" else "False")) (.str (if (a && b) then "True" else "False")) (fun k hk => cbt_v ?_) (fun k hk => cbt_v (andb_v a b (fun k hk => go_var rfl hk) (fun k hk => go_var rfl hk) hk)) ?_
    · exact same_v kt ks (fun k hk => go_var rfl hk) (fun k hk => go_var rfl hk) fun c hc => by rw [bl_iff hc ev]; exact hk
    · rw [fNe_s, decide_eq_true rfl]
      exact hk
  have ex : ∀ (x y : List Pt) (i j : Nat) (δ : DSt) (k : D → Prop), Fit x → Fit y → clL x ≤ 1000000 → clL y ≤ 1000000 → δ[i]? = some (some (.val (.tup (dPts x)))) → δ[j]? = some (some (.val (.tup (dPts y)))) → (∀ c : Bool, (c = true ↔ Eqv (unrollL x) (unrollL y)) → k (.bl c)) → dCall (T_are_exchangeable K) (fun e _ => Ed e) (dCons (dCall (T_Script___init__ K) (fun e _ => Ed e) (dCons (dVar i) dNil)) (dCons (dCall (T_Script___init__ K) (fun e _ => Ed e) (dCons (dVar j) dNil)) dNil)) δ k := fun x y i j δ k h1 h2 h3 h4 e1 e2 hk => call_v [scrI K x, scrI K y] (fun k hk => cons_v _ (fun k hk => scr x _ _ _ _ h1 e1 hk) (cons_v (tr := dNil) _ (fun k hk => scr y _ _ _ _ h2 e2 hk) hk)) ⟨x, y, rfl, h1, h2, h3, h4, hk⟩
  rw [et, es] at ev
  refine gs_asg (.lst [.bl (a && b), .bl (a && b)]) (fun k hk => two _ _ _ _ _ _ (fun k hk => ex ps qs _ _ _ _ f1 f2 hp.cl hq.cl rfl rfl fun c hc => by rw [bl_iff hc ev]; exact hk) (fun k hk => ex qs ps _ _ _ _ f2 f1 hq.cl hp.cl rfl rfl fun c hc => by rw [bl_iff (hc.trans ⟨fun z => z.symm, fun z => z.symm⟩) ev]; exact hk) hk) ?_
  show dRet _ _ [some (.val (.tup (dPts ps))), some (.val (.tup (dPts qs))), some (.val (.lst [.bl (a && b), .bl (a && b)])), some (.val L1), some (.val L2), some (.val (t.D K)), some (.val (s.D K)), some (.val (.bl a)), some (.val (.bl b))]
  refine go_ret' (op_v (.str (D.lst [.bl (a && b), .bl (a && b)]).py.shown) (.str (D.lst [.bl (a && b), .bl (a && b)]).py.shown) (fun k hk => cb_v [.lst [.bl (a && b), .bl (a && b)]] (fun k hk => cons_v (tr := dNil) _ (fun k hk => go_var rfl hk) hk) (txt2 hk)) (fun k hk => cbt_v ?_) ?_)
  · refine op_v (.lst [.bl (a && b)]) (.int 2) (fun k hk => lst_v _ (fun k hk => cons_v (tr := dNil) _ (fun k hk => andb_v a b (fun k hk => go_var rfl hk) (fun k hk => go_var rfl hk) hk) hk) hk) (fun k hk => hk) ?_
    rw [fMul_l]
    exact ⟨by decide, by decide, by rw [sizeLine_eq]; show 1 * 2 ≤ 16777216; decide, txt2 hk⟩
  · rw [fEq_s, decide_eq_true rfl]
    exact q
theorem elems_v {W : XW} {δ : DSt} {k : D → Prop} (hp : δ[0]? = some (some (.val .pot))) (q : ∀ ps, Bo ps 12 12 3 10533 → k (.tup (dPts ps))) : dCall (T__law_elements K 5) W (dCons (dVar 0) (dCons (dC (.int 12)) (dCons (dC (.int 3)) dNil))) δ k :=
  call_v [.pot, .int (12 : Nat), .int (3 : Nat)] (fun k hk => cons_v _ (fun k hk => go_var hp hk) (cons_v _ (fun k hk => hk) (cons_v (tr := dNil) _ (fun k hk => hk) hk))) ⟨12, 3, rfl, by decide, by decide, by decide, fun ps a b c d => q ps (bo_gen a b c d)⟩
theorem rd__law_right (h : T__law_right K ds Q Ed) : t__law_right K Ed (en Q) (st0 N__law_right ds) := by
  obtain ⟨rfl, q⟩ := h
  unfold t__law_right
  show dSeq _ _ _ [some (.val .pot), none, none, none, none]
  have turn : ∀ (C D4 D5 : DSt → Prop) (o1 o2 o3 o4 : Option SV), (∀ o2 o3 o4 : Option SV, C [some (.val .pot), o1, o2, o3, o4]) → b__law_right_2 K Ed { nx := C, rt := Q, bk := D4, ct := D5 } [some (.val .pot), o1, o2, o3, o4] := by
    intro C D4 D5 o1 o2 o3 o4 hC
    unfold b__law_right_2
    refine gs_asgY (fun v => ∃ ps, v = .tup (dPts ps) ∧ Bo ps 12 12 3 10533) (fun k hk => elems_v rfl fun ps b => hk _ ⟨ps, rfl, b⟩) ?_
    rintro _ ⟨ps, rfl, hp⟩
    show dSeq _ _ _ [some (.val .pot), o1, some (.val (.tup (dPts ps))), o3, o4]
    refine gs_asgY (fun v => ∃ qs, v = .tup (dPts qs) ∧ Bo qs 12 12 3 10533) (fun k hk => ?_) ?_
    · refine ife_Y (fun k hk => ?_) (go_var rfl (hk _ ⟨ps, rfl, hp⟩)) (elems_v rfl fun qs b => hk _ ⟨qs, rfl, b⟩)
      refine test_vY (fun _ => True) (fun k hk => ?_) fun c _ => hk c
      refine op_v' (fun v => ∃ e : Int, v = .int e) (fun v => v = .int 0) (fun k hk => call_v [.pot, .int 5] (fun k hk => hk) (draw_ok (by decide) (by decide +kernel) fun e a b => hk _ ⟨e, rfl⟩)) (fun k hk => hk _ rfl) ?_
      rintro _ _ ⟨e, rfl⟩ rfl
      exact hk _ trivial
    rintro _ ⟨qs, rfl, hq⟩
    show dSeq _ _ _ [some (.val .pot), o1, some (.val (.tup (dPts ps))), some (.val (.tup (dPts qs))), o4]
    obtain ⟨fin, hfin⟩ : ∃ fin : DTS, fin = dIf (dNot (dTest (dCall (T__law_pair_right K) (fun e _ => Ed e) (dCons (dVar 2) (dCons (dVar 3) dNil))))) (dRet (dC (.bl false))) dNext := ⟨_, rfl⟩
    have last : ∀ (zs : List Pt) (o4 : Option SV), Bo zs 120 120 6 1000000 → fin { nx := C, rt := Q, bk := D4, ct := D5 } [some (.val .pot), o1, some (.val (.tup (dPts ps))), some (.val (.tup (dPts zs))), o4] := by
      intro zs o4 hz
      rw [hfin]
      refine go_if_f (fun k hk => not_v (b := true) (fun k hk => test_v (b := true) (fun k hk => ?_) hk) hk) (hC _ _ _)
      exact call_v [.tup (dPts ps), .tup (dPts zs)] (fun k hk => cons_v _ (fun k hk => go_var rfl hk) (cons_v (tr := dNil) _ (fun k hk => go_var rfl hk) hk)) ⟨ps, zs, rfl, hp.mono (by decide) (by decide) (by decide) (by decide), hz, hk⟩
    rw [← hfin]
    unfold dSeq dFor iRange1
    refine cons_vY (tr := dNil) (fun v => ∃ m : Int, v = .int m ∧ 0 ≤ m ∧ m < 4) (fun k hk => call_v [.pot, .int 4] (fun k hk => hk) (draw_ok (by decide) (by decide +kernel) fun e a b => hk _ ⟨e, rfl, a, b⟩)) ?_
    rintro _ ⟨m, rfl, m0, m1⟩
    refine ⟨by rw [sizeLine_eq]; omega, by omega, ?_⟩
    -- a change of the mates
    have one : ∀ (zs : List Pt) (U L DD CC : Nat) (z : D) (C' D4' D5' : DSt → Prop) (o4 : Option SV), Bo zs U L DD CC → U ≤ 60 → L ≤ 200 → (∀ ws : List Pt, Bo ws (2 * U + 2) (2 * L + 2) (DD + 1) (4 * CC + 2 * L + 4) → C' [some (.val .pot), o1, some (.val (.tup (dPts ps))), some (.val (.tup (dPts ws))), o4]) → b__law_right_1 K Ed { nx := C', rt := Q, bk := D4', ct := D5' } [some (.val .pot), o1, some (.val (.tup (dPts ps))), some (.val (.tup (dPts zs))), o4] := by
      intro zs U L DD CC z C' D4' D5' o4 b hU hL hC'
      unfold b__law_right_1
      refine go_asgY (fun v => ∃ ws : List Pt, v = .tup (dPts ws) ∧ Bo ws (2 * U + 2) (2 * L + 2) (DD + 1) (4 * CC + 2 * L + 4)) (fun k hk => call_v [.pot, .tup (dPts zs)] (fun k hk => cons_v _ (fun k hk => go_var rfl hk) (cons_v (tr := dNil) _ (fun k hk => go_var rfl hk) hk)) ⟨zs, U, L, DD, CC, rfl, b, hU, hL, fun ws bw => hk _ ⟨ws, rfl, bw⟩⟩) ?_
      rintro _ ⟨ws, rfl, bw⟩
      exact hC' ws bw
    have end0 : ∀ (zs : List Pt) (o4 : Option SV) (U L DD CC : Nat), Bo zs U L DD CC → U ≤ 120 → L ≤ 120 → DD ≤ 6 → CC ≤ 1000000 → dLoop (.nm 4) (b__law_right_1 K Ed) { nx := fin { nx := C, rt := Q, bk := D4, ct := D5 }, rt := Q, bk := D4, ct := D5 } [] [some (.val .pot), o1, some (.val (.tup (dPts ps))), some (.val (.tup (dPts zs))), o4] := by
      intro zs o4 U L DD CC b h1 h2 h3 h4
      unfold dLoop
      exact last zs o4 (b.mono h1 h2 h3 h4)
    have go : ∀ (items : List D), items.length ≤ 3 → ∀ (j : Nat) (zs : List Pt) (o4 : Option SV), j + items.length ≤ 3 → (j = 0 → Bo zs 12 12 3 10533) → (j = 1 → Bo zs 26 26 4 42160) → (j = 2 → Bo zs 54 54 5 168696) → (j = 3 → Bo zs 110 110 6 674896) → dLoop (.nm 4) (b__law_right_1 K Ed) { nx := fin { nx := C, rt := Q, bk := D4, ct := D5 }, rt := Q, bk := D4, ct := D5 } items [some (.val .pot), o1, some (.val (.tup (dPts ps))), some (.val (.tup (dPts zs))), o4] := by
      intro items
      induction items with
      | nil =>
        intro _ j zs o4 hj b0 b1 b2 b3
        rw [List.length_nil] at hj
        have cs : j = 0 ∨ j = 1 ∨ j = 2 ∨ j = 3 := by omega
        rcases cs with c | c | c | c
        · exact end0 zs o4 _ _ _ _ (b0 c) (by decide) (by decide) (by decide) (by decide)
        · exact end0 zs o4 _ _ _ _ (b1 c) (by decide) (by decide) (by decide) (by decide)
        · exact end0 zs o4 _ _ _ _ (b2 c) (by decide) (by decide) (by decide) (by decide)
        · exact end0 zs o4 _ _ _ _ (b3 c) (by decide) (by decide) (by decide) (by decide)
      | cons z items ih =>
        intro hl j zs o4 hj b0 b1 b2 b3
        rw [List.length_cons] at hl hj
        unfold dLoop
        simp only [gT_n]
        have cs : j = 0 ∨ j = 1 ∨ j = 2 := by omega
        rcases cs with c | c | c
        · exact one zs 12 12 3 10533 z _ _ _ _ (b0 c) (by decide) (by decide) fun ws bw => ih (by omega) (j + 1) ws _ (by omega) (fun e => absurd e (by omega)) (fun _ => bw) (fun e => absurd e (by omega)) (fun e => absurd e (by omega))
        · exact one zs 26 26 4 42160 z _ _ _ _ (b1 c) (by decide) (by decide) fun ws bw => ih (by omega) (j + 1) ws _ (by omega) (fun e => absurd e (by omega)) (fun e => absurd e (by omega)) (fun _ => bw) (fun e => absurd e (by omega))
        · exact one zs 54 54 5 168696 z _ _ _ _ (b2 c) (by decide) (by decide) fun ws bw => ih (by omega) (j + 1) ws _ (by omega) (fun e => absurd e (by omega)) (fun e => absurd e (by omega)) (fun e => absurd e (by omega)) (fun _ => bw)
    exact go _ (by rw [steps_l]; omega) 0 qs o4 (by rw [steps_l]; omega) (fun _ => hq) (fun e => absurd e (by omega)) (fun e => absurd e (by omega)) (fun e => absurd e (by omega))
  have loop : ∀ (items : List D) (o1 o2 o3 o4 : Option SV), dLoop (.nm 1) (b__law_right_2 K Ed) { nx := dRet (dC (.bl true)) (en Q), rt := Q } items [some (.val .pot), o1, o2, o3, o4] := by
    intro items
    induction items with
    | nil =>
      intro o1 o2 o3 o4
      unfold dLoop
      exact q
    | cons z items ih =>
      intro o1 o2 o3 o4
      unfold dLoop
      simp only [gT_n]
      exact turn _ _ _ _ _ _ _ fun o2 o3 o4 => ih _ _ _ _
  unfold dSeq dFor iRange1
  refine ⟨by rw [sizeLine_eq]; decide, by decide, ?_⟩
  exact loop _ none none none none
theorem rd_law (h : T_law K ds Q Ed) : t_law K Ed (en Q) (st0 N_law ds) := by
  obtain ⟨ns, rfl, q⟩ := h
  unfold t_law
  show dRet _ _ [some (.val (.scr ns)), none]
  refine go_ret' (all_v (fun k hk => ?_) q)
  unfold e_law_2
  simp only [dStay, fLc, iRange1, dCons, dCB, dC, dNil]
  refine go_var (d := .scr ns) rfl ?_
  rw [fLen_scr, fMin2_i, fMax2_i]
  have hb : (if (if (5 : Int) < ((ns.length : Nat) : Int) then 5 else ((ns.length : Nat) : Int)) > 1 then (if (5 : Int) < ((ns.length : Nat) : Int) then 5 else ((ns.length : Nat) : Int)) else 1) ≤ 5 ∧ 1 ≤ (if (if (5 : Int) < ((ns.length : Nat) : Int) then 5 else ((ns.length : Nat) : Int)) > 1 then (if (5 : Int) < ((ns.length : Nat) : Int) then 5 else ((ns.length : Nat) : Int)) else 1) := by
    split <;> split <;> omega
  generalize (if (if (5 : Int) < ((ns.length : Nat) : Int) then 5 else ((ns.length : Nat) : Int)) > 1 then (if (5 : Int) < ((ns.length : Nat) : Int) then 5 else ((ns.length : Nat) : Int)) else 1) = n at *
  refine ⟨by rw [sizeLine_eq]; omega, by omega, ?_⟩
  refine lcl_any (fun y => y = .bl true) (fun z hz R hR => ?_) fun ys ly hy => ?_
  · obtain ⟨i, hi, rfl⟩ := List.mem_map.mp hz
    have hi := List.mem_range.mp hi
    simp only [gT_n]
    unfold e_law_1
    refine cons_v (tr := dNil) .pot (fun k hk => ?_) ⟨rfl, hR _ rfl⟩
    refine call_v [.scr ns, .int (0 + (i : Int) * 1)] (fun k hk => cons_v _ (fun k hk => go_var rfl hk) (cons_v (tr := dNil) _ (fun k hk => go_var rfl hk) hk)) ⟨ns, i, by simp, by omega, hk⟩
  · have e : ys = (List.replicate ys.length true).map D.bl := by
      rw [List.map_replicate]
      exact List.eq_replicate_iff.mpr ⟨rfl, fun y h => hy y h⟩
    rw [e]
    exact hk _ (by simp)
theorem len_is_row (h : T_is_row K ds Q Ed) : ds.length = 1 := by obtain ⟨_, rfl, _⟩ := h; rfl
theorem len_are_rows (h : T_are_rows K ds Q Ed) : ds.length = 2 := by obtain ⟨_, _, _, rfl, _⟩ := h; rfl
theorem len_last_valley (h : T_last_valley K ds Q Ed) : ds.length = 2 := by obtain ⟨_, _, _, rfl, _⟩ := h; rfl
theorem len_greatest_peak (h : T_greatest_peak K ds Q Ed) : ds.length = 2 := by obtain ⟨_, _, _, rfl, _⟩ := h; rfl
theorem len_problem_of (h : T_problem_of K ds Q Ed) : ds.length = 4 := by obtain ⟨_, _, _, _, _, _, rfl, _⟩ := h; rfl
theorem len_fallen (h : T_fallen K ds Q Ed) : ds.length = 3 := by obtain ⟨_, _, _, rfl, _⟩ := h; rfl
theorem len_Profile___init__ (h : T_Profile___init__ K ds Q Ed) : (ds ++ []).length + 1 = 5 := by obtain ⟨_, _, _, _, _, _, rfl, _⟩ := h; rfl
theorem len_Profile_end (h : T_Profile_end K ds Q Ed) : ds.length = 1 := by obtain ⟨_, _, _, _, rfl, _⟩ := h; rfl
theorem len_Profile_height (h : T_Profile_height K ds Q Ed) : ds.length = 1 := by obtain ⟨_, _, _, _, rfl, _⟩ := h; rfl
theorem len_Profile_descent (h : T_Profile_descent K ds Q Ed) : ds.length = 1 := by obtain ⟨_, _, _, _, rfl, _⟩ := h; rfl
theorem len_Profile_ascent (h : T_Profile_ascent K ds Q Ed) : ds.length = 1 := by obtain ⟨_, _, _, _, rfl, _⟩ := h; rfl
theorem len_moved (h : T_moved K ds Q Ed) : ds.length = 2 := by obtain ⟨_, _, rfl, _⟩ := h; rfl
theorem len_followed (h : T_followed K ds Q Ed) : ds.length = 5 := by obtain ⟨_, _, _, _, _, rfl, _⟩ := h; rfl
theorem len_sum_of (h : T_sum_of K ds Q Ed) : ds.length = 2 := by obtain ⟨_, _, _, _, _, _, _, _, _, _, _, _, rfl, _⟩ := h; rfl
theorem len_times (h : T_times K ds Q Ed) : ds.length = 2 := by obtain ⟨_, _, _, _, _, _, _, rfl, _⟩ := h; rfl
theorem len_profile_of_step (h : T_profile_of_step K ds Q Ed) : ds.length = 1 := by obtain ⟨_, rfl, _⟩ := h; rfl
theorem len_profile_of_parts {n : Nat} (h : T_profile_of_parts K n ds Q Ed) : ds.length = 1 := by obtain ⟨_, rfl, _⟩ := h; rfl
theorem len_profile_of (h : T_profile_of K ds Q Ed) : ds.length = 1 := by obtain ⟨_, rfl, _⟩ := h; rfl
theorem len_law (h : T_law K ds Q Ed) : ds.length = 1 := by obtain ⟨_, rfl, _⟩ := h; rfl
theorem zero_profile_of_parts (h : T_profile_of_parts K 0 ds Q Ed) : False := by obtain ⟨_, _, _, h, _⟩ := h; omega
theorem len_Script_of (h : T_Script_of K ds Q Ed) : ds.length ≤ sizeLine := by obtain ⟨xs, rfl, hl, _⟩ := h; rw [sizeLine_eq, List.length_map]; omega
theorem len_is_count (h : T_is_count K ds Q Ed) : ds.length = 1 := by obtain ⟨_, rfl, _⟩ := h; rfl
theorem len_Profile_back (h : T_Profile_back K ds Q Ed) : ds.length = 2 := by obtain ⟨_, _, _, _, _, rfl, _⟩ := h; rfl
theorem len_Profile___call__ (h : T_Profile___call__ K ds Q Ed) : ds.length = 2 := by obtain ⟨_, _, _, _, _, rfl, _⟩ := h; rfl
theorem len_Profile_is_no_worse (h : T_Profile_is_no_worse K ds Q Ed) : ds.length = 2 := by obtain ⟨_, _, _, _, _, _, _, _, rfl, _⟩ := h; rfl
theorem len_Profile___eq__ (h : T_Profile___eq__ K ds Q Ed) : ds.length = 2 := by obtain ⟨_, _, _, _, _, _, _, _, rfl, _⟩ := h; rfl
theorem len_end_context (h : T_end_context K ds Q Ed) : ds.length = 2 := by obtain ⟨_, _, rfl, _⟩ := h; rfl
theorem len_height_context (h : T_height_context K ds Q Ed) : ds.length = 1 := by obtain ⟨_, rfl, _⟩ := h; rfl
theorem len_descent_context (h : T_descent_context K ds Q Ed) : ds.length = 2 := by obtain ⟨_, _, rfl, _⟩ := h; rfl
theorem len_ascent_context (h : T_ascent_context K ds Q Ed) : ds.length = 2 := by obtain ⟨_, _, rfl, _⟩ := h; rfl
theorem len_worse_contexts (h : T_worse_contexts K ds Q Ed) : ds.length = 2 := by obtain ⟨_, _, rfl, _⟩ := h; rfl
theorem len_worse_context (h : T_worse_context K ds Q Ed) : ds.length = 2 := by obtain ⟨_, _, rfl, _⟩ := h; rfl
theorem len_are_exchangeable (h : T_are_exchangeable K ds Q Ed) : ds.length = 2 := by obtain ⟨_, _, rfl, _⟩ := h; rfl
theorem len__law_mixed (h : T__law_mixed K ds Q Ed) : ds.length = 2 := by obtain ⟨_, rfl, _⟩ := h; rfl
theorem len__law_unrolled {n : Nat} (h : T__law_unrolled K n ds Q Ed) : ds.length = 1 := by obtain ⟨_, rfl, _⟩ := h; rfl
theorem len__law_reach (h : T__law_reach K ds Q Ed) : ds.length = 2 := by obtain ⟨_, _, rfl, _⟩ := h; rfl
theorem len__law_return (h : T__law_return K ds Q Ed) : ds.length = 2 := by obtain ⟨_, _, rfl, _⟩ := h; rfl
theorem len__law_marks (h : T__law_marks K ds Q Ed) : ds.length = 2 := by obtain ⟨_, _, rfl, _⟩ := h; rfl
theorem len__law_is_no_worse (h : T__law_is_no_worse K ds Q Ed) : ds.length = 2 := by obtain ⟨_, _, rfl, _⟩ := h; rfl
theorem len__law_levels (h : T__law_levels K ds Q Ed) : ds.length = 1 := by obtain ⟨_, rfl, _⟩ := h; rfl
theorem len__law_near (h : T__law_near K ds Q Ed) : ds.length = 2 := by obtain ⟨_, _, _, _, _, rfl, _⟩ := h; rfl
theorem len__law_pair_right (h : T__law_pair_right K ds Q Ed) : ds.length = 2 := by obtain ⟨_, _, rfl, _⟩ := h; rfl
theorem len__law_right (h : T__law_right K ds Q Ed) : ds.length = 1 := by obtain ⟨rfl, _⟩ := h; rfl
theorem zero__law_unrolled (h : T__law_unrolled K 0 ds Q Ed) : False := by obtain ⟨_, _, h, _⟩ := h; omega
end
end K41

namespace K41
open PySem.Spec PySem L2 PyProof.Rows FG
open He (ga ma Fa Dv)
structure Fx (K : PySem.W.Frag) (mg : Str → Option Value) : Prop where
  d_is_integer : ∃ fd, FunD K "is_integer" "is_integer" (defArgs st_is_integer) (defBody st_is_integer) (defScope st_is_integer) [] [] (ga K "is_integer") fd
  d_is_integer_from : ∃ fd, FunD K "is_integer_from" "is_integer_from" (defArgs st_is_integer_from) (defBody st_is_integer_from) (defScope st_is_integer_from) [] [] (ga K "is_integer_from") fd
  d_is_count : ∃ fd, FunD K "is_count" "is_count" (defArgs st_is_count) (defBody st_is_count) (defScope st_is_count) [] [] (ga K "is_count") fd
  d_is_part : ∃ fd, FunD K "is_part" "is_part" (defArgs st_is_part) (defBody st_is_part) (defScope st_is_part) [] [] (ga K "is_part") fd
  d_are_parts : ∃ fd, FunD K "are_parts" "are_parts" (defArgs st_are_parts) (defBody st_are_parts) (defScope st_are_parts) [] [] (ga K "are_parts") fd
  d_size_of : ∃ fd, FunD K "size_of" "size_of" (defArgs st_size_of) (defBody st_size_of) (defScope st_size_of) [] [] (ga K "size_of") fd
  d_depth_of : ∃ fd, FunD K "depth_of" "depth_of" (defArgs st_depth_of) (defBody st_depth_of) (defScope st_depth_of) [] [] (ga K "depth_of") fd
  d_all_parts : ∃ fd, FunD K "all_parts" "all_parts" (defArgs st_all_parts) (defBody st_all_parts) (defScope st_all_parts) [] [] (ga K "all_parts") fd
  d_Script___init__ : ∃ fd, FunD K "__init__" "Script.__init__" (defArgs st_Script___init__) (defBody st_Script___init__) (defScope st_Script___init__) [Dv.v K (.adr (He.dflAt ("Script", some "__init__") 0))] [] (ma K (ga K "Script") "__init__") fd
  d_Script_of : ∃ fd, FunD K "of" "Script.of" (defArgs st_Script_of) (defBody st_Script_of) (defScope st_Script_of) [] [] (cmAd K (ga K "Script") "of") fd
  d_Script_parts : ∃ fd, FunD K "parts" "Script.parts" (defArgs st_Script_parts) (defBody st_Script_parts) (defScope st_Script_parts) [] [] (ma K (ga K "Script") "parts") fd
  d_is_row : ∃ fd, FunD K "is_row" "is_row" (defArgs st_is_row) (defBody st_is_row) (defScope st_is_row) [] [] (ga K "is_row") fd
  d_are_rows : ∃ fd, FunD K "are_rows" "are_rows" (defArgs st_are_rows) (defBody st_are_rows) (defScope st_are_rows) [] [] (ga K "are_rows") fd
  d_last_valley : ∃ fd, FunD K "last_valley" "last_valley" (defArgs st_last_valley) (defBody st_last_valley) (defScope st_last_valley) [] [] (ga K "last_valley") fd
  d_greatest_peak : ∃ fd, FunD K "greatest_peak" "greatest_peak" (defArgs st_greatest_peak) (defBody st_greatest_peak) (defScope st_greatest_peak) [] [] (ga K "greatest_peak") fd
  d_problem_of : ∃ fd, FunD K "problem_of" "problem_of" (defArgs st_problem_of) (defBody st_problem_of) (defScope st_problem_of) [] [] (ga K "problem_of") fd
  d_fallen : ∃ fd, FunD K "fallen" "fallen" (defArgs st_fallen) (defBody st_fallen) (defScope st_fallen) [] [] (ga K "fallen") fd
  d_Profile___init__ : ∃ fd, FunD K "__init__" "Profile.__init__" (defArgs st_Profile___init__) (defBody st_Profile___init__) (defScope st_Profile___init__) [Dv.v K (.adr (He.dflAt ("Profile", some "__init__") 0)), Dv.v K (.adr (He.dflAt ("Profile", some "__init__") 1)), Dv.v K (.int 0), Dv.v K (.int 0)] [] (ma K (ga K "Profile") "__init__") fd
  d_Profile_end : ∃ fd, FunD K "end" "Profile.end" (defArgs st_Profile_end) (defBody st_Profile_end) (defScope st_Profile_end) [] [] (gtAd K (ga K "Profile") "end") fd
  d_Profile_height : ∃ fd, FunD K "height" "Profile.height" (defArgs st_Profile_height) (defBody st_Profile_height) (defScope st_Profile_height) [] [] (gtAd K (ga K "Profile") "height") fd
  d_Profile_descent : ∃ fd, FunD K "descent" "Profile.descent" (defArgs st_Profile_descent) (defBody st_Profile_descent) (defScope st_Profile_descent) [] [] (ma K (ga K "Profile") "descent") fd
  d_Profile_ascent : ∃ fd, FunD K "ascent" "Profile.ascent" (defArgs st_Profile_ascent) (defBody st_Profile_ascent) (defScope st_Profile_ascent) [] [] (ma K (ga K "Profile") "ascent") fd
  d_Profile_back : ∃ fd, FunD K "back" "Profile.back" (defArgs st_Profile_back) (defBody st_Profile_back) (defScope st_Profile_back) [] [] (ma K (ga K "Profile") "back") fd
  d_Profile_is_no_worse : ∃ fd, FunD K "is_no_worse" "Profile.is_no_worse" (defArgs st_Profile_is_no_worse) (defBody st_Profile_is_no_worse) (defScope st_Profile_is_no_worse) [] [] (ma K (ga K "Profile") "is_no_worse") fd
  d_Profile___call__ : ∃ fd, FunD K "__call__" "Profile.__call__" (defArgs st_Profile___call__) (defBody st_Profile___call__) (defScope st_Profile___call__) [] [] (ma K (ga K "Profile") "__call__") fd
  d_Profile___eq__ : ∃ fd, FunD K "__eq__" "Profile.__eq__" (defArgs st_Profile___eq__) (defBody st_Profile___eq__) (defScope st_Profile___eq__) [] [] (ma K (ga K "Profile") "__eq__") fd
  d_moved : ∃ fd, FunD K "moved" "moved" (defArgs st_moved) (defBody st_moved) (defScope st_moved) [] [] (ga K "moved") fd
  d_followed : ∃ fd, FunD K "followed" "followed" (defArgs st_followed) (defBody st_followed) (defScope st_followed) [] [] (ga K "followed") fd
  d_sum_of : ∃ fd, FunD K "sum_of" "sum_of" (defArgs st_sum_of) (defBody st_sum_of) (defScope st_sum_of) [] [] (ga K "sum_of") fd
  d_times : ∃ fd, FunD K "times" "times" (defArgs st_times) (defBody st_times) (defScope st_times) [] [] (ga K "times") fd
  d_profile_of_step : ∃ fd, FunD K "profile_of_step" "profile_of_step" (defArgs st_profile_of_step) (defBody st_profile_of_step) (defScope st_profile_of_step) [] [] (ga K "profile_of_step") fd
  d_profile_of_parts : ∃ fd, FunD K "profile_of_parts" "profile_of_parts" (defArgs st_profile_of_parts) (defBody st_profile_of_parts) (defScope st_profile_of_parts) [] [] (ga K "profile_of_parts") fd
  d_profile_of : ∃ fd, FunD K "profile_of" "profile_of" (defArgs st_profile_of) (defBody st_profile_of) (defScope st_profile_of) [] [] (ga K "profile_of") fd
  d_end_context : ∃ fd, FunD K "end_context" "end_context" (defArgs st_end_context) (defBody st_end_context) (defScope st_end_context) [] [] (ga K "end_context") fd
  d_height_context : ∃ fd, FunD K "height_context" "height_context" (defArgs st_height_context) (defBody st_height_context) (defScope st_height_context) [] [] (ga K "height_context") fd
  d_descent_context : ∃ fd, FunD K "descent_context" "descent_context" (defArgs st_descent_context) (defBody st_descent_context) (defScope st_descent_context) [] [] (ga K "descent_context") fd
  d_ascent_context : ∃ fd, FunD K "ascent_context" "ascent_context" (defArgs st_ascent_context) (defBody st_ascent_context) (defScope st_ascent_context) [] [] (ga K "ascent_context") fd
  d_worse_contexts : ∃ fd, FunD K "worse_contexts" "worse_contexts" (defArgs st_worse_contexts) (defBody st_worse_contexts) (defScope st_worse_contexts) [] [] (ga K "worse_contexts") fd
  d_worse_context : ∃ fd, FunD K "worse_context" "worse_context" (defArgs st_worse_context) (defBody st_worse_context) (defScope st_worse_context) [] [] (ga K "worse_context") fd
  d_are_exchangeable : ∃ fd, FunD K "are_exchangeable" "are_exchangeable" (defArgs st_are_exchangeable) (defBody st_are_exchangeable) (defScope st_are_exchangeable) [] [] (ga K "are_exchangeable") fd
  d__law_pot : ∃ fd, FunD K "_law_pot" "_law_pot" (defArgs st__law_pot) (defBody st__law_pot) (defScope st__law_pot) [] [] (ga K "_law_pot") fd
  d__law_draw : ∃ fd, FunD K "_law_draw" "_law_draw" (defArgs st__law_draw) (defBody st__law_draw) (defScope st__law_draw) [] [] (ga K "_law_draw") fd
  d__law_mixed : ∃ fd, FunD K "_law_mixed" "_law_mixed" (defArgs st__law_mixed) (defBody st__law_mixed) (defScope st__law_mixed) [] [] (ga K "_law_mixed") fd
  d__law_step : ∃ fd, FunD K "_law_step" "_law_step" (defArgs st__law_step) (defBody st__law_step) (defScope st__law_step) [] [] (ga K "_law_step") fd
  d__law_unrolled : ∃ fd, FunD K "_law_unrolled" "_law_unrolled" (defArgs st__law_unrolled) (defBody st__law_unrolled) (defScope st__law_unrolled) [] [] (ga K "_law_unrolled") fd
  d__law_elements : ∃ fd, FunD K "_law_elements" "_law_elements" (defArgs st__law_elements) (defBody st__law_elements) (defScope st__law_elements) [] [] (ga K "_law_elements") fd
  d__law_heights : ∃ fd, FunD K "_law_heights" "_law_heights" (defArgs st__law_heights) (defBody st__law_heights) (defScope st__law_heights) [] [] (ga K "_law_heights") fd
  d__law_reach : ∃ fd, FunD K "_law_reach" "_law_reach" (defArgs st__law_reach) (defBody st__law_reach) (defScope st__law_reach) [] [] (ga K "_law_reach") fd
  d__law_return : ∃ fd, FunD K "_law_return" "_law_return" (defArgs st__law_return) (defBody st__law_return) (defScope st__law_return) [] [] (ga K "_law_return") fd
  d__law_marks : ∃ fd, FunD K "_law_marks" "_law_marks" (defArgs st__law_marks) (defBody st__law_marks) (defScope st__law_marks) [] [] (ga K "_law_marks") fd
  d__law_is_no_worse : ∃ fd, FunD K "_law_is_no_worse" "_law_is_no_worse" (defArgs st__law_is_no_worse) (defBody st__law_is_no_worse) (defScope st__law_is_no_worse) [] [] (ga K "_law_is_no_worse") fd
  d__law_levels : ∃ fd, FunD K "_law_levels" "_law_levels" (defArgs st__law_levels) (defBody st__law_levels) (defScope st__law_levels) [] [] (ga K "_law_levels") fd
  d__law_near : ∃ fd, FunD K "_law_near" "_law_near" (defArgs st__law_near) (defBody st__law_near) (defScope st__law_near) [] [] (ga K "_law_near") fd
  d__law_pair_right : ∃ fd, FunD K "_law_pair_right" "_law_pair_right" (defArgs st__law_pair_right) (defBody st__law_pair_right) (defScope st__law_pair_right) [] [] (ga K "_law_pair_right") fd
  d__law_right : ∃ fd, FunD K "_law_right" "_law_right" (defArgs st__law_right) (defBody st__law_right) (defScope st__law_right) [] [] (ga K "_law_right") fd
  d_law : ∃ fd, FunD K "law" "law" (defArgs st_law) (defBody st_law) (defScope st_law) [] [] (ga K "law") fd
  g_Profile : mg "Profile" = some (.ref (ga K "Profile"))
  g_Script : mg "Script" = some (.ref (ga K "Script"))
  g__law_draw : mg "_law_draw" = some (.ref (ga K "_law_draw"))
  g__law_elements : mg "_law_elements" = some (.ref (ga K "_law_elements"))
  g__law_heights : mg "_law_heights" = some (.ref (ga K "_law_heights"))
  g__law_is_no_worse : mg "_law_is_no_worse" = some (.ref (ga K "_law_is_no_worse"))
  g__law_levels : mg "_law_levels" = some (.ref (ga K "_law_levels"))
  g__law_marks : mg "_law_marks" = some (.ref (ga K "_law_marks"))
  g__law_mixed : mg "_law_mixed" = some (.ref (ga K "_law_mixed"))
  g__law_near : mg "_law_near" = some (.ref (ga K "_law_near"))
  g__law_pair_right : mg "_law_pair_right" = some (.ref (ga K "_law_pair_right"))
  g__law_pot : mg "_law_pot" = some (.ref (ga K "_law_pot"))
  g__law_reach : mg "_law_reach" = some (.ref (ga K "_law_reach"))
  g__law_return : mg "_law_return" = some (.ref (ga K "_law_return"))
  g__law_right : mg "_law_right" = some (.ref (ga K "_law_right"))
  g__law_step : mg "_law_step" = some (.ref (ga K "_law_step"))
  g__law_unrolled : mg "_law_unrolled" = some (.ref (ga K "_law_unrolled"))
  g_all_parts : mg "all_parts" = some (.ref (ga K "all_parts"))
  g_are_exchangeable : mg "are_exchangeable" = some (.ref (ga K "are_exchangeable"))
  g_are_parts : mg "are_parts" = some (.ref (ga K "are_parts"))
  g_are_rows : mg "are_rows" = some (.ref (ga K "are_rows"))
  g_ascent_context : mg "ascent_context" = some (.ref (ga K "ascent_context"))
  g_depth_of : mg "depth_of" = some (.ref (ga K "depth_of"))
  g_descent_context : mg "descent_context" = some (.ref (ga K "descent_context"))
  g_end_context : mg "end_context" = some (.ref (ga K "end_context"))
  g_fallen : mg "fallen" = some (.ref (ga K "fallen"))
  g_followed : mg "followed" = some (.ref (ga K "followed"))
  g_greatest_peak : mg "greatest_peak" = some (.ref (ga K "greatest_peak"))
  g_height_context : mg "height_context" = some (.ref (ga K "height_context"))
  g_is_count : mg "is_count" = some (.ref (ga K "is_count"))
  g_is_integer : mg "is_integer" = some (.ref (ga K "is_integer"))
  g_is_integer_from : mg "is_integer_from" = some (.ref (ga K "is_integer_from"))
  g_is_part : mg "is_part" = some (.ref (ga K "is_part"))
  g_is_row : mg "is_row" = some (.ref (ga K "is_row"))
  g_last_valley : mg "last_valley" = some (.ref (ga K "last_valley"))
  g_law : mg "law" = some (.ref (ga K "law"))
  g_moved : mg "moved" = some (.ref (ga K "moved"))
  g_problem_of : mg "problem_of" = some (.ref (ga K "problem_of"))
  g_profile_of : mg "profile_of" = some (.ref (ga K "profile_of"))
  g_profile_of_parts : mg "profile_of_parts" = some (.ref (ga K "profile_of_parts"))
  g_profile_of_step : mg "profile_of_step" = some (.ref (ga K "profile_of_step"))
  g_size_of : mg "size_of" = some (.ref (ga K "size_of"))
  g_sum_of : mg "sum_of" = some (.ref (ga K "sum_of"))
  g_times : mg "times" = some (.ref (ga K "times"))
  g_worse_context : mg "worse_context" = some (.ref (ga K "worse_context"))
  g_worse_contexts : mg "worse_contexts" = some (.ref (ga K "worse_contexts"))
  f_abs : mg "abs" = none
  f_all : mg "all" = none
  f_bool : mg "bool" = none
  f_divmod : mg "divmod" = none
  f_int : mg "int" = none
  f_isinstance : mg "isinstance" = none
  f_len : mg "len" = none
  f_list : mg "list" = none
  f_max : mg "max" = none
  f_min : mg "min" = none
  f_range : mg "range" = none
  f_repr : mg "repr" = none
  f_set : mg "set" = none
  f_sorted : mg "sorted" = none
  f_tuple : mg "tuple" = none
  c_Profile : Cls K (ga K "Profile")
  c_Script : Cls K (ga K "Script")
  eq_Profile : OwnEq K (ga K "Profile") (ma K (ga K "Profile") "__eq__")
  nd_Script_0 : nilB K (He.dflAt ("Script", some "__init__") 0 K) = true
  iso_Profile : IsoC K (ga K "Profile")
  cm_Script_of : ClsM K (ga K "Script") (prAd K (ga K "Script") "of") (cmAd K (ga K "Script") "of") "of"
  mk_Script : Mk K (ga K "Script") (ma K (ga K "Script") "__init__")
  mk_Profile : Mk K (ga K "Profile") (ma K (ga K "Profile") "__init__")
  n_Script_own_depth : NoAttr K (ga K "Script") "own_depth"
  n_Script_own_flat : NoAttr K (ga K "Script") "own_flat"
  n_Profile_own_lowest : NoAttr K (ga K "Profile") "own_lowest"
  n_Script_own_parts : NoAttr K (ga K "Script") "own_parts"
  n_Profile_own_plain : NoAttr K (ga K "Profile") "own_plain"
  n_Script_own_size : NoAttr K (ga K "Script") "own_size"
  p_Profile_end : PropOf K (ga K "Profile") "end" (prAd K (ga K "Profile") "end") (gtAd K (ga K "Profile") "end")
  p_Profile_height : PropOf K (ga K "Profile") "height" (prAd K (ga K "Profile") "height") (gtAd K (ga K "Profile") "height")
  m_Profile_ascent : Meth K (ga K "Profile") "ascent" (ma K (ga K "Profile") "ascent")
  m_Profile_back : Meth K (ga K "Profile") "back" (ma K (ga K "Profile") "back")
  m_Profile_descent : Meth K (ga K "Profile") "descent" (ma K (ga K "Profile") "descent")
  m_Profile_is_no_worse : Meth K (ga K "Profile") "is_no_worse" (ma K (ga K "Profile") "is_no_worse")
  m_Script_parts : Meth K (ga K "Script") "parts" (ma K (ga K "Script") "parts")
  co_Profile : StX.CallO K (ga K "Profile") (ma K (ga K "Profile") "__call__")
  v_EMPTY_profiles : Con1 K mg "EMPTY_profiles" (.tup [.tup [], .tup [], .int 0, .int 0])
  v_MAX_DEPTH : Con1 K mg "MAX_DEPTH" (.int (6))
  v_MAX_ROUNDS : Con1 K mg "MAX_ROUNDS" (.int (1000000000000))
theorem all_at {K : PySem.W.Frag} (h : ex K = true) (i : Nat) {b : Bool} (e : (exs K)[i]? = some b := by rfl) : b = true := List.all_eq_true.mp h b (List.mem_of_getElem? e)
theorem fx_of {K : PySem.W.Frag} {h : Heap} {mg : Str → Option Value} (X : K.In h) (G : h.Ns mainGlobals mg) (c : SaysF ex defs K) : Fx K mg := by
  constructor
  · exact c.fund 0
  · exact c.fund 1
  · exact c.fund 2
  · exact c.fund 3
  · exact c.fund 4
  · exact c.fund 5
  · exact c.fund 6
  · exact c.fund 7
  · exact c.fund 8
  · exact c.fund 9
  · exact c.fund 10
  · exact c.fund 11
  · exact c.fund 12
  · exact c.fund 13
  · exact c.fund 14
  · exact c.fund 15
  · exact c.fund 16
  · exact c.fund 17
  · exact c.fund 18
  · exact c.fund 19
  · exact c.fund 20
  · exact c.fund 21
  · exact c.fund 22
  · exact c.fund 23
  · exact c.fund 24
  · exact c.fund 25
  · exact c.fund 26
  · exact c.fund 27
  · exact c.fund 28
  · exact c.fund 29
  · exact c.fund 30
  · exact c.fund 31
  · exact c.fund 32
  · exact c.fund 33
  · exact c.fund 34
  · exact c.fund 35
  · exact c.fund 36
  · exact c.fund 37
  · exact c.fund 38
  · exact c.fund 39
  · exact c.fund 40
  · exact c.fund 41
  · exact c.fund 42
  · exact c.fund 43
  · exact c.fund 44
  · exact c.fund 45
  · exact c.fund 46
  · exact c.fund 47
  · exact c.fund 48
  · exact c.fund 49
  · exact c.fund 50
  · exact c.fund 51
  · exact c.fund 52
  · exact c.fund 53
  · exact c.fund 54
  · exact c.fund 55
  · exact He.glo_ok X G (all_at (c.yes) 0)
  · exact He.glo_ok X G (all_at (c.yes) 1)
  · exact He.glo_ok X G (all_at (c.yes) 2)
  · exact He.glo_ok X G (all_at (c.yes) 3)
  · exact He.glo_ok X G (all_at (c.yes) 4)
  · exact He.glo_ok X G (all_at (c.yes) 5)
  · exact He.glo_ok X G (all_at (c.yes) 6)
  · exact He.glo_ok X G (all_at (c.yes) 7)
  · exact He.glo_ok X G (all_at (c.yes) 8)
  · exact He.glo_ok X G (all_at (c.yes) 9)
  · exact He.glo_ok X G (all_at (c.yes) 10)
  · exact He.glo_ok X G (all_at (c.yes) 11)
  · exact He.glo_ok X G (all_at (c.yes) 12)
  · exact He.glo_ok X G (all_at (c.yes) 13)
  · exact He.glo_ok X G (all_at (c.yes) 14)
  · exact He.glo_ok X G (all_at (c.yes) 15)
  · exact He.glo_ok X G (all_at (c.yes) 16)
  · exact He.glo_ok X G (all_at (c.yes) 17)
  · exact He.glo_ok X G (all_at (c.yes) 18)
  · exact He.glo_ok X G (all_at (c.yes) 19)
  · exact He.glo_ok X G (all_at (c.yes) 20)
  · exact He.glo_ok X G (all_at (c.yes) 21)
  · exact He.glo_ok X G (all_at (c.yes) 22)
  · exact He.glo_ok X G (all_at (c.yes) 23)
  · exact He.glo_ok X G (all_at (c.yes) 24)
  · exact He.glo_ok X G (all_at (c.yes) 25)
  · exact He.glo_ok X G (all_at (c.yes) 26)
  · exact He.glo_ok X G (all_at (c.yes) 27)
  · exact He.glo_ok X G (all_at (c.yes) 28)
  · exact He.glo_ok X G (all_at (c.yes) 29)
  · exact He.glo_ok X G (all_at (c.yes) 30)
  · exact He.glo_ok X G (all_at (c.yes) 31)
  · exact He.glo_ok X G (all_at (c.yes) 32)
  · exact He.glo_ok X G (all_at (c.yes) 33)
  · exact He.glo_ok X G (all_at (c.yes) 34)
  · exact He.glo_ok X G (all_at (c.yes) 35)
  · exact He.glo_ok X G (all_at (c.yes) 36)
  · exact He.glo_ok X G (all_at (c.yes) 37)
  · exact He.glo_ok X G (all_at (c.yes) 38)
  · exact He.glo_ok X G (all_at (c.yes) 39)
  · exact He.glo_ok X G (all_at (c.yes) 40)
  · exact He.glo_ok X G (all_at (c.yes) 41)
  · exact He.glo_ok X G (all_at (c.yes) 42)
  · exact He.glo_ok X G (all_at (c.yes) 43)
  · exact He.glo_ok X G (all_at (c.yes) 44)
  · exact He.glo_ok X G (all_at (c.yes) 45)
  · exact He.free_ok X G (all_at (c.yes) 46)
  · exact He.free_ok X G (all_at (c.yes) 47)
  · exact He.free_ok X G (all_at (c.yes) 48)
  · exact He.free_ok X G (all_at (c.yes) 49)
  · exact He.free_ok X G (all_at (c.yes) 50)
  · exact He.free_ok X G (all_at (c.yes) 51)
  · exact He.free_ok X G (all_at (c.yes) 52)
  · exact He.free_ok X G (all_at (c.yes) 53)
  · exact He.free_ok X G (all_at (c.yes) 54)
  · exact He.free_ok X G (all_at (c.yes) 55)
  · exact He.free_ok X G (all_at (c.yes) 56)
  · exact He.free_ok X G (all_at (c.yes) 57)
  · exact He.free_ok X G (all_at (c.yes) 58)
  · exact He.free_ok X G (all_at (c.yes) 59)
  · exact He.free_ok X G (all_at (c.yes) 60)
  · exact He.cls_ok (all_at (c.yes) 61)
  · exact He.cls_ok (all_at (c.yes) 62)
  · exact eqB_ok (all_at (c.yes) 63)
  · exact (all_at (c.yes) 64)
  · exact isoB_ok (all_at (c.yes) 65)
  · exact clsMB_ok (all_at (c.yes) 66)
  · exact He.mkr_ok (all_at (c.yes) 67)
  · exact He.mkr_ok (all_at (c.yes) 68)
  · exact He.noat_ok (all_at (c.yes) 69)
  · exact He.noat_ok (all_at (c.yes) 70)
  · exact He.noat_ok (all_at (c.yes) 71)
  · exact He.noat_ok (all_at (c.yes) 72)
  · exact He.noat_ok (all_at (c.yes) 73)
  · exact He.noat_ok (all_at (c.yes) 74)
  · exact propB_ok (all_at (c.yes) 75)
  · exact propB_ok (all_at (c.yes) 76)
  · exact He.meth_ok (all_at (c.yes) 77)
  · exact He.meth_ok (all_at (c.yes) 78)
  · exact He.meth_ok (all_at (c.yes) 79)
  · exact He.meth_ok (all_at (c.yes) 80)
  · exact He.meth_ok (all_at (c.yes) 81)
  · exact callB_ok (all_at (c.yes) 82)
  · exact con_nil2 X G (all_at (c.yes) 83)
  · exact con_int X G (all_at (c.yes) 84)
  · exact con_int X G (all_at (c.yes) 85)
section
variable {w : World} {P : Program} {mg : Str → Option Value} {K : PySem.W.Frag} {base : Heap}
theorem bd_is_integer (F : Fx K mg) (cdv : Value) (A : Around) (outer : List Env) (s : Shared) (H : Hp) (E : XK) (B : Base) (Ed : Exn → Prop) (hg : false = true → A.guards = some []) (hr : Room 0 (A.deeper (envOfC "is_integer" (defScope st_is_integer) s.heap.objs.size (ga K "is_integer") cdv)))
    (hw : Wish (cxOf (L2.CX P w) P w K mg base N_is_integer "is_integer" (defScope st_is_integer) (ga K "is_integer") cdv A outer s H E) B (fun e _ => Ed e)) : DSs (cxOf (L2.CX P w) P w K mg base N_is_integer "is_integer" (defScope st_is_integer) (ga K "is_integer") cdv A outer s H E) B (defBody st_is_integer) (t_is_integer K Ed) :=
  dss_one (ds_ret (de_and (de_callB call_isi cd_isi (by rfl) (by exact F.f_isinstance) b_isinstance (da_cons (de_var (pv 0)) (da_cons (de_ty (by exact F.f_int) (by rfl) b_int) da_nil))) (de_one (de_not (de_callB call_isi cd_isi (by rfl) (by exact F.f_isinstance) b_isinstance (da_cons (de_var (pv 0)) (da_cons (de_ty (by exact F.f_bool) (by rfl) b_bool) da_nil)))))))
theorem fn_is_integer (F : Fx K mg) : Fn false P w K mg base 1 (ga K "is_integer") (T_is_integer K) := by
  obtain ⟨fd, D⟩ := F.d_is_integer
  exact dfn (t := t_is_integer K) (dfl := []) D sc_is_integer (D.bindsN fun _ _ _ _ _ _ us hl => match us, hl with | [_], _ => rfl) .nil (fun _ _ => .nil) (fun ds Q E h => by rw [List.append_nil]; exact len_is_integer h) (fun cdv A outer s H E B Ed hg hr hM hw => bd_is_integer F cdv A outer s H E B Ed hg hr hw) (fun ds Q Ed h => by rw [List.append_nil]; exact rd_is_integer h)
theorem bd_is_integer_from (F : Fx K mg) (cdv : Value) (A : Around) (outer : List Env) (s : Shared) (H : Hp) (E : XK) (B : Base) (Ed : Exn → Prop) (hg : false = true → A.guards = some []) (hr : Room 1 (A.deeper (envOfC "is_integer_from" (defScope st_is_integer_from) s.heap.objs.size (ga K "is_integer_from") cdv)))
    (hw : Wish (cxOf (L2.CX P w) P w K mg base N_is_integer_from "is_integer_from" (defScope st_is_integer_from) (ga K "is_integer_from") cdv A outer s H E) B (fun e _ => Ed e)) : DSs (cxOf (L2.CX P w) P w K mg base N_is_integer_from "is_integer_from" (defScope st_is_integer_from) (ga K "is_integer_from") cdv A outer s H E) B (defBody st_is_integer_from) (t_is_integer_from K Ed) :=
  dss_one (ds_ret (de_and (de_call (by exact fn_is_integer F) (by nofun) (by exact hr.mono (by decide)) (by rfl) (by exact F.g_is_integer) (by exact F.d_is_integer.elim fun _ D => D.kp) (by exact hw) (da_cons (de_var (pv 0)) da_nil)) (de_one (de_chain op_le od_int op_le od_int (de_var (pv 1)) (de_var (pv 0)) (de_var (pv 2))))))
theorem fn_is_integer_from (F : Fx K mg) : Fn false P w K mg base 2 (ga K "is_integer_from") (T_is_integer_from K) := by
  obtain ⟨fd, D⟩ := F.d_is_integer_from
  exact dfn (t := t_is_integer_from K) (dfl := []) D sc_is_integer_from (D.bindsN fun _ _ _ _ _ _ us hl => match us, hl with | [_, _, _], _ => rfl) .nil (fun _ _ => .nil) (fun ds Q E h => by rw [List.append_nil]; exact len_is_integer_from h) (fun cdv A outer s H E B Ed hg hr hM hw => bd_is_integer_from F cdv A outer s H E B Ed hg hr hw) (fun ds Q Ed h => by rw [List.append_nil]; exact rd_is_integer_from h)
theorem bd_is_count (F : Fx K mg) (cdv : Value) (A : Around) (outer : List Env) (s : Shared) (H : Hp) (E : XK) (B : Base) (Ed : Exn → Prop) (hg : false = true → A.guards = some []) (hr : Room 1 (A.deeper (envOfC "is_count" (defScope st_is_count) s.heap.objs.size (ga K "is_count") cdv)))
    (hw : Wish (cxOf (L2.CX P w) P w K mg base N_is_count "is_count" (defScope st_is_count) (ga K "is_count") cdv A outer s H E) B (fun e _ => Ed e)) : DSs (cxOf (L2.CX P w) P w K mg base N_is_count "is_count" (defScope st_is_count) (ga K "is_count") cdv A outer s H E) B (defBody st_is_count) (t_is_count K Ed) :=
  dss_one (ds_ret (de_and (de_call (by exact fn_is_integer F) (by nofun) (by exact hr.mono (by decide)) (by rfl) (by exact F.g_is_integer) (by exact F.d_is_integer.elim fun _ D => D.kp) (by exact hw) (da_cons (de_var (pv 0)) da_nil)) (de_one (de_cmp op_ge od_int (de_var (pv 0)) de_int (by rfl)))))
theorem fn_is_count (F : Fx K mg) : Fn false P w K mg base 2 (ga K "is_count") (T_is_count K) := by
  obtain ⟨fd, D⟩ := F.d_is_count
  exact dfn (t := t_is_count K) (dfl := []) D sc_is_count (D.bindsN fun _ _ _ _ _ _ us hl => match us, hl with | [_], _ => rfl) .nil (fun _ _ => .nil) (fun ds Q E h => by rw [List.append_nil]; exact len_is_count h) (fun cdv A outer s H E B Ed hg hr hM hw => bd_is_count F cdv A outer s H E B Ed hg hr hw) (fun ds Q Ed h => by rw [List.append_nil]; exact rd_is_count h)
theorem bd_is_part (F : Fx K mg) (n : Nat) (ih_is_part : Fn false P w K mg base (2 + n) (ga K "is_part") (T_is_part K n)) (cdv : Value) (A : Around) (outer : List Env) (s : Shared) (H : Hp) (E : XK) (B : Base) (Ed : Exn → Prop) (hg : false = true → A.guards = some []) (hr : Room (2 + n) (A.deeper (envOfC "is_part" (defScope st_is_part) s.heap.objs.size (ga K "is_part") cdv)))
    (hw : Wish (cxOf (L2.CX P w) P w K mg base N_is_part "is_part" (defScope st_is_part) (ga K "is_part") cdv A outer s H E) B (fun e _ => Ed e)) : DSs (cxOf (L2.CX P w) P w K mg base N_is_part "is_part" (defScope st_is_part) (ga K "is_part") cdv A outer s H E) B (defBody st_is_part) (t_is_part K n Ed) :=
  dss_cons (ds_if (dt_val (de_call (by exact fn_is_integer F) (by nofun) (by exact hr.mono (by omega)) (by rfl) (by exact F.g_is_integer) (by exact F.d_is_integer.elim fun _ D => D.kp) (by exact hw) (da_cons (de_var (pv 0)) da_nil))) (dss_one (ds_ret de_bl)) dss_nil) (dss_cons (ds_if (dt_w (dw_or (dt_cmp (op_eqDD (by exact hr.units)) od_eq (de_var (pv 1)) de_int (by rfl)) (dw_or (dt_not (dt_val (de_callB call_isi cd_isi (by rfl) (by exact F.f_isinstance) b_isinstance (da_cons (de_var (pv 0)) (da_cons (de_ty (by exact F.f_tuple) (by rfl) b_tuple) da_nil))))) (dw_or1 (dt_cmp (op_neDD (by exact hr.units)) od_ne (de_callB call_len cd_len (by rfl) (by exact F.f_len) b_len (da_cons (de_var (pv 0)) da_nil)) de_int (by rfl)))))) (dss_one (ds_ret de_bl)) dss_nil) (dss_cons (ds_asg (de_var (pv 0)) (dg_tup (by rfl) (dgs_cons (dg_name (pg_name (i := 2) (by exact sc_is_part.nd) (by rfl) (by first | exact Or.inl rfl | exact Or.inr rfl))) (dgs_cons (dg_name (pg_name (i := 3) (by exact sc_is_part.nd) (by rfl) (by first | exact Or.inl rfl | exact Or.inr rfl))) dgs_nil)))) (dss_cons (ds_if (dt_w (dw_or (dt_not (dt_val (de_call (by exact fn_is_integer_from F) (by nofun) (by exact hr.mono (by omega)) (by rfl) (by exact F.g_is_integer_from) (by exact F.d_is_integer_from.elim fun _ D => D.kp) (by exact hw) (da_cons (de_var (pv 2)) (da_cons de_int (da_cons (de_glob (by exact F.v_MAX_ROUNDS) (by rfl)) da_nil)))))) (dw_or1 (dt_not (dt_val (de_callB call_isi cd_isi (by rfl) (by exact F.f_isinstance) b_isinstance (da_cons (de_var (pv 3)) (da_cons (de_ty (by exact F.f_tuple) (by rfl) b_tuple) da_nil)))))))) (dss_one (ds_ret de_bl)) dss_nil) (dss_one (ds_ret (de_callB (cr_all (by rfl)) cd_all (by rfl) (by exact F.f_all) b_all (da_cons (de_stay (df_lc (own := [("part", 4)]) (by rfl) (by exact sc_is_part.nd) (di_seq (de_var (pv 3))) (by exact blkOk_by (own := [("part", 4)]) (N := N_is_part) (sc := defScope st_is_part) (by decide +kernel)) (fun _ _ _ _ _ => (dg_name (pg_name (i := 4) (by exact sc_is_part.nd) (by rfl) (by first | exact Or.inl rfl | exact Or.inr rfl)))) (fun _ _ _ _ _ => dts_nil) (fun _ _ _ _ _ => de_call (by exact ih_is_part) (by nofun) (by exact hr.mono (by omega)) (by rfl) (by exact F.g_is_part) (by exact F.d_is_part.elim fun _ D => D.kp) wish_no (da_cons (de_var (pv 4)) (da_cons (de_op op_sub od_sub (de_var (pv 1)) de_int) da_nil))) (by decide))) da_nil)))))))
theorem fng_is_part (F : Fx K mg) : ∀ n : Nat, Fn false P w K mg base (2 + n) (ga K "is_part") (T_is_part K n) := by
  intro n
  induction n with
  | zero => exact fun A outer s H us vs Q E _ _ _ _ h => (by obtain ⟨_, _, _, _, _, _, _, z, _⟩ := h; exact (zero_is_part z).elim)
  | succ n ih =>
    have ih_is_part := ih
    exact (by
        obtain ⟨fd, D⟩ := F.d_is_part
        exact dfn (t := t_is_part K n) (dfl := []) D sc_is_part (D.bindsN fun _ _ _ _ _ _ us hl => match us, hl with | [_, _], _ => rfl) .nil (fun _ _ => .nil) (fun ds Q E h => by rw [List.append_nil]; exact len_is_part h) (fun cdv A outer s H E B Ed hg hr hM hw => bd_is_part F n ih_is_part cdv A outer s H E B Ed hg hr hw) (fun ds Q Ed h => by rw [List.append_nil]; exact rd_is_part h))
theorem fn_is_part (F : Fx K mg) (n : Nat) : Fn false P w K mg base (2 + n) (ga K "is_part") (T_is_part K n) := (fng_is_part F n)
theorem bd_are_parts (F : Fx K mg) (cdv : Value) (A : Around) (outer : List Env) (s : Shared) (H : Hp) (E : XK) (B : Base) (Ed : Exn → Prop) (hg : false = true → A.guards = some []) (hr : Room 9 (A.deeper (envOfC "are_parts" (defScope st_are_parts) s.heap.objs.size (ga K "are_parts") cdv)))
    (hw : Wish (cxOf (L2.CX P w) P w K mg base N_are_parts "are_parts" (defScope st_are_parts) (ga K "are_parts") cdv A outer s H E) B (fun e _ => Ed e)) : DSs (cxOf (L2.CX P w) P w K mg base N_are_parts "are_parts" (defScope st_are_parts) (ga K "are_parts") cdv A outer s H E) B (defBody st_are_parts) (t_are_parts K Ed) :=
  dss_one (ds_ret (de_and (de_isiT (by rfl) (by exact F.f_isinstance) (de_var (pv 0)) (pa_cons (pe_bltn (v := .ty "list") (by rfl) (by exact F.f_list) b_list (by rfl)) (pa_cons (pe_bltn (v := .ty "tuple") (by rfl) (by exact F.f_tuple) b_tuple (by rfl)) pa_nil))) (de_one (de_callB (cr_all (by rfl)) cd_all (by rfl) (by exact F.f_all) b_all (da_cons (de_stay (df_lc (own := [("part", 1)]) (by rfl) (by exact sc_are_parts.nd) (di_seq (de_var (pv 0))) (by exact blkOk_by (own := [("part", 1)]) (N := N_are_parts) (sc := defScope st_are_parts) (by decide +kernel)) (fun _ _ _ _ _ => (dg_name (pg_name (i := 1) (by exact sc_are_parts.nd) (by rfl) (by first | exact Or.inl rfl | exact Or.inr rfl)))) (fun _ _ _ _ _ => dts_nil) (fun _ _ _ _ _ => de_call (by exact fn_is_part F 7) (by nofun) (by exact hr.mono (by decide)) (by rfl) (by exact F.g_is_part) (by exact F.d_is_part.elim fun _ D => D.kp) wish_no (da_cons (de_var (pv 1)) (da_cons (de_glob (by exact F.v_MAX_DEPTH) (by rfl)) da_nil))) (by decide))) da_nil)))))
theorem fn_are_parts (F : Fx K mg) : Fn false P w K mg base 10 (ga K "are_parts") (T_are_parts K) := by
  obtain ⟨fd, D⟩ := F.d_are_parts
  exact dfn (t := t_are_parts K) (dfl := []) D sc_are_parts (D.bindsN fun _ _ _ _ _ _ us hl => match us, hl with | [_], _ => rfl) .nil (fun _ _ => .nil) (fun ds Q E h => by rw [List.append_nil]; exact len_are_parts h) (fun cdv A outer s H E B Ed hg hr hM hw => bd_are_parts F cdv A outer s H E B Ed hg hr hw) (fun ds Q Ed h => by rw [List.append_nil]; exact rd_are_parts h)
theorem bd_size_of (F : Fx K mg) (n : Nat) (ih_size_of : Fn false P w K mg base (0 + n) (ga K "size_of") (T_size_of K n)) (cdv : Value) (A : Around) (outer : List Env) (s : Shared) (H : Hp) (E : XK) (B : Base) (Ed : Exn → Prop) (hg : false = true → A.guards = some []) (hr : Room (0 + n) (A.deeper (envOfC "size_of" (defScope st_size_of) s.heap.objs.size (ga K "size_of") cdv)))
    (hw : Wish (cxOf (L2.CX P w) P w K mg base N_size_of "size_of" (defScope st_size_of) (ga K "size_of") cdv A outer s H E) B (fun e _ => Ed e)) : DSs (cxOf (L2.CX P w) P w K mg base N_size_of "size_of" (defScope st_size_of) (ga K "size_of") cdv A outer s H E) B (defBody st_size_of) (t_size_of K n Ed) :=
  dss_cons (ds_asg de_int (dg_name (pg_name (i := 1) (by exact sc_size_of.nd) (by rfl) (by first | exact Or.inl rfl | exact Or.inr rfl)))) (dss_cons (ds_for (passes_of (by rfl)) (by rfl) (di_seq (de_var (pv 0))) (dg_name (pg_name (i := 2) (by exact sc_size_of.nd) (by rfl) (by first | exact Or.inl rfl | exact Or.inr rfl))) (dss_one (ds_asg (de_op op_addD od_add (de_var (pv 1)) (de_if (dt_val (de_callB call_isi cd_isi (by rfl) (by exact F.f_isinstance) b_isinstance (da_cons (de_var (pv 2)) (da_cons (de_ty (by exact F.f_tuple) (by rfl) b_tuple) da_nil)))) (de_op op_mulD od_mul (de_ix (de_var (pv 2)) de_int) (de_call (by exact ih_size_of) (by nofun) (by exact hr.mono (by omega)) (by rfl) (by exact F.g_size_of) (by exact F.d_size_of.elim fun _ D => D.kp) (by exact hw) (da_cons (de_ix (de_var (pv 2)) de_int) da_nil))) de_int)) (dg_name (pg_name (i := 1) (by exact sc_size_of.nd) (by rfl) (by first | exact Or.inl rfl | exact Or.inr rfl)))))) (dss_one (ds_ret (de_var (pv 1)))))
theorem fng_size_of (F : Fx K mg) : ∀ n : Nat, Fn false P w K mg base (0 + n) (ga K "size_of") (T_size_of K n) := by
  intro n
  induction n with
  | zero => exact fun A outer s H us vs Q E _ _ _ _ h => (by obtain ⟨_, _, _, _, _, _, _, z, _⟩ := h; exact (zero_size_of z).elim)
  | succ n ih =>
    have ih_size_of := ih
    exact (by
        obtain ⟨fd, D⟩ := F.d_size_of
        exact dfn (t := t_size_of K n) (dfl := []) D sc_size_of (D.bindsN fun _ _ _ _ _ _ us hl => match us, hl with | [_], _ => rfl) .nil (fun _ _ => .nil) (fun ds Q E h => by rw [List.append_nil]; exact len_size_of h) (fun cdv A outer s H E B Ed hg hr hM hw => bd_size_of F n ih_size_of cdv A outer s H E B Ed hg hr hw) (fun ds Q Ed h => by rw [List.append_nil]; exact rd_size_of h))
theorem fn_size_of (F : Fx K mg) (n : Nat) : Fn false P w K mg base (0 + n) (ga K "size_of") (T_size_of K n) := (fng_size_of F n)
theorem bd_depth_of (F : Fx K mg) (n : Nat) (ih_depth_of : Fn false P w K mg base (0 + n) (ga K "depth_of") (T_depth_of K n)) (cdv : Value) (A : Around) (outer : List Env) (s : Shared) (H : Hp) (E : XK) (B : Base) (Ed : Exn → Prop) (hg : false = true → A.guards = some []) (hr : Room (0 + n) (A.deeper (envOfC "depth_of" (defScope st_depth_of) s.heap.objs.size (ga K "depth_of") cdv)))
    (hw : Wish (cxOf (L2.CX P w) P w K mg base N_depth_of "depth_of" (defScope st_depth_of) (ga K "depth_of") cdv A outer s H E) B (fun e _ => Ed e)) : DSs (cxOf (L2.CX P w) P w K mg base N_depth_of "depth_of" (defScope st_depth_of) (ga K "depth_of") cdv A outer s H E) B (defBody st_depth_of) (t_depth_of K n Ed) :=
  dss_cons (ds_asg de_int (dg_name (pg_name (i := 1) (by exact sc_depth_of.nd) (by rfl) (by first | exact Or.inl rfl | exact Or.inr rfl)))) (dss_cons (ds_for (passes_of (by rfl)) (by rfl) (di_seq (de_var (pv 0))) (dg_name (pg_name (i := 2) (by exact sc_depth_of.nd) (by rfl) (by first | exact Or.inl rfl | exact Or.inr rfl))) (dss_one (ds_if (dt_val (de_callB call_isi cd_isi (by rfl) (by exact F.f_isinstance) b_isinstance (da_cons (de_var (pv 2)) (da_cons (de_ty (by exact F.f_tuple) (by rfl) b_tuple) da_nil)))) (dss_one (ds_asg (de_callB (call_max2 (by rfl)) cd_max2 (by rfl) (by exact F.f_max) b_max (da_cons (de_var (pv 1)) (da_cons (de_op op_addD od_add de_int (de_call (by exact ih_depth_of) (by nofun) (by exact hr.mono (by omega)) (by rfl) (by exact F.g_depth_of) (by exact F.d_depth_of.elim fun _ D => D.kp) (by exact hw) (da_cons (de_ix (de_var (pv 2)) de_int) da_nil))) da_nil))) (dg_name (pg_name (i := 1) (by exact sc_depth_of.nd) (by rfl) (by first | exact Or.inl rfl | exact Or.inr rfl))))) dss_nil))) (dss_one (ds_ret (de_var (pv 1)))))
theorem fng_depth_of (F : Fx K mg) : ∀ n : Nat, Fn false P w K mg base (0 + n) (ga K "depth_of") (T_depth_of K n) := by
  intro n
  induction n with
  | zero => exact fun A outer s H us vs Q E _ _ _ _ h => (by obtain ⟨_, _, _, _, _, _, _, z, _⟩ := h; exact (zero_depth_of z).elim)
  | succ n ih =>
    have ih_depth_of := ih
    exact (by
        obtain ⟨fd, D⟩ := F.d_depth_of
        exact dfn (t := t_depth_of K n) (dfl := []) D sc_depth_of (D.bindsN fun _ _ _ _ _ _ us hl => match us, hl with | [_], _ => rfl) .nil (fun _ _ => .nil) (fun ds Q E h => by rw [List.append_nil]; exact len_depth_of h) (fun cdv A outer s H E B Ed hg hr hM hw => bd_depth_of F n ih_depth_of cdv A outer s H E B Ed hg hr hw) (fun ds Q Ed h => by rw [List.append_nil]; exact rd_depth_of h))
theorem fn_depth_of (F : Fx K mg) (n : Nat) : Fn false P w K mg base (0 + n) (ga K "depth_of") (T_depth_of K n) := (fng_depth_of F n)
theorem bd_all_parts (F : Fx K mg) (n : Nat) (ih_all_parts : Fn false P w K mg base (0 + n) (ga K "all_parts") (T_all_parts K n)) (cdv : Value) (A : Around) (outer : List Env) (s : Shared) (H : Hp) (E : XK) (B : Base) (Ed : Exn → Prop) (hg : false = true → A.guards = some []) (hr : Room (0 + n) (A.deeper (envOfC "all_parts" (defScope st_all_parts) s.heap.objs.size (ga K "all_parts") cdv)))
    (hw : Wish (cxOf (L2.CX P w) P w K mg base N_all_parts "all_parts" (defScope st_all_parts) (ga K "all_parts") cdv A outer s H E) B (fun e _ => Ed e)) : DSs (cxOf (L2.CX P w) P w K mg base N_all_parts "all_parts" (defScope st_all_parts) (ga K "all_parts") cdv A outer s H E) B (defBody st_all_parts) (t_all_parts K n Ed) :=
  dss_cons (ds_asg (de_lst da_nil) (dg_name (pg_name (i := 1) (by exact sc_all_parts.nd) (by rfl) (by first | exact Or.inl rfl | exact Or.inr rfl)))) (dss_cons (ds_for (passes_of (by rfl)) (by rfl) (di_seq (de_var (pv 0))) (dg_name (pg_name (i := 2) (by exact sc_all_parts.nd) (by rfl) (by first | exact Or.inl rfl | exact Or.inr rfl))) (dss_one (ds_asg (de_stay (df_lstS (das_star (de_var (pv 1)) (das_cons (de_var (pv 2)) (das_star (de_if (dt_val (de_callB call_isi cd_isi (by rfl) (by exact F.f_isinstance) b_isinstance (da_cons (de_var (pv 2)) (da_cons (de_ty (by exact F.f_tuple) (by rfl) b_tuple) da_nil)))) (de_call (by exact ih_all_parts) (by nofun) (by exact hr.mono (by omega)) (by rfl) (by exact F.g_all_parts) (by exact F.d_all_parts.elim fun _ D => D.kp) (by exact hw) (da_cons (de_ix (de_var (pv 2)) de_int) da_nil)) (de_lst da_nil)) das_nil))))) (dg_name (pg_name (i := 1) (by exact sc_all_parts.nd) (by rfl) (by first | exact Or.inl rfl | exact Or.inr rfl)))))) (dss_one (ds_ret (de_var (pv 1)))))
theorem fng_all_parts (F : Fx K mg) : ∀ n : Nat, Fn false P w K mg base (0 + n) (ga K "all_parts") (T_all_parts K n) := by
  intro n
  induction n with
  | zero => exact fun A outer s H us vs Q E _ _ _ _ h => (by obtain ⟨_, _, _, _, _, _, _, z, _⟩ := h; exact (zero_all_parts z).elim)
  | succ n ih =>
    have ih_all_parts := ih
    exact (by
        obtain ⟨fd, D⟩ := F.d_all_parts
        exact dfn (t := t_all_parts K n) (dfl := []) D sc_all_parts (D.bindsN fun _ _ _ _ _ _ us hl => match us, hl with | [_], _ => rfl) .nil (fun _ _ => .nil) (fun ds Q E h => by rw [List.append_nil]; exact len_all_parts h) (fun cdv A outer s H E B Ed hg hr hM hw => bd_all_parts F n ih_all_parts cdv A outer s H E B Ed hg hr hw) (fun ds Q Ed h => by rw [List.append_nil]; exact rd_all_parts h))
theorem fn_all_parts (F : Fx K mg) (n : Nat) : Fn false P w K mg base (0 + n) (ga K "all_parts") (T_all_parts K n) := (fng_all_parts F n)
theorem fn_Script___init__ (F : Fx K mg) : FnI false P w K mg base 11 (ma K (ga K "Script") "__init__") (ga K "Script") (T_Script___init__ K) := by
  obtain ⟨fd, D⟩ := F.d_Script___init__
  obtain ⟨bs, hd, hb⟩ := D.binds1 (ps := ["self", "parts"]) 2 1 (by simp) (by rfl) fun T kV doc pm an cdv ct us its hl hi => match us, its, hl, hi with | [_, _], [_], _, _ => ⟨_, rfl, rfl⟩
  refine dfi (t := t_Script___init__ K) (dfl := []) D sc_Script___init__ hb hd (fun _ _ => .nil) (fun ds Q E h => len_Script___init__ h) (fun cdv A outer s H E B Ed hg hr hw => ?_) (fun ds Q Ed h => by rw [List.append_nil]; exact rd_Script___init__ h)
  exact dss_cons (ds_if (dt_not (dt_val (de_call (by exact fn_are_parts F) (by nofun) (by exact hr.mono (by decide)) (by rfl) (by exact F.g_are_parts) (by exact F.d_are_parts.elim fun _ D => D.kp) (by exact hw) (da_cons (de_var (pv 1)) da_nil)))) (dss_one ds_never) dss_nil) (dss_cons (ds_setF (i := 0) (pv 0) (de_callT call_tuple_of cd_tuple (by rfl) (by exact F.f_tuple) b_tuple (da_cons (de_var (pv 1)) da_nil)) (by exact F.c_Script) (by exact F.n_Script_own_parts)) (dss_cons (ds_setF (i := 0) (pv 0) (de_call (by exact fn_size_of F 7) (by nofun) (by exact hr.mono (by decide)) (by rfl) (by exact F.g_size_of) (by exact F.d_size_of.elim fun _ D => D.kp) (by exact hw) (da_cons (de_fldI (i := 0) (pv 0) (by exact F.c_Script) (by exact F.n_Script_own_parts)) da_nil)) (by exact F.c_Script) (by exact F.n_Script_own_size)) (dss_cons (ds_setF (i := 0) (pv 0) (de_call (by exact fn_depth_of F 7) (by nofun) (by exact hr.mono (by decide)) (by rfl) (by exact F.g_depth_of) (by exact F.d_depth_of.elim fun _ D => D.kp) (by exact hw) (da_cons (de_fldI (i := 0) (pv 0) (by exact F.c_Script) (by exact F.n_Script_own_parts)) da_nil)) (by exact F.c_Script) (by exact F.n_Script_own_depth)) (dss_one (ds_setF (i := 0) (pv 0) (de_call (by exact fn_all_parts F 7) (by nofun) (by exact hr.mono (by decide)) (by rfl) (by exact F.g_all_parts) (by exact F.d_all_parts.elim fun _ D => D.kp) (by exact hw) (da_cons (de_fldI (i := 0) (pv 0) (by exact F.c_Script) (by exact F.n_Script_own_parts)) da_nil)) (by exact F.c_Script) (by exact F.n_Script_own_flat))))))
theorem fn0_Script___init__ (F : Fx K mg) : FnI false P w K mg base 11 (ma K (ga K "Script") "__init__") (ga K "Script") (T0_Script___init__ K) := by
  obtain ⟨fd, D⟩ := F.d_Script___init__
  obtain ⟨bs, hd, hb⟩ := D.binds1 (ps := ["self", "parts"]) 1 0 (by simp) (by rfl) fun T kV doc pm an cdv ct us its hl hi => match us, its, hl, hi with | [_], [_], _, _ => ⟨_, rfl, rfl⟩
  refine dfi (t := t_Script___init__ K) (dfl := [.tup []]) D sc_Script___init__ hb hd (fun G Pt => (.cons (.tup (nilB_ok (by exact F.nd_Script_0) G) .nil (Nat.zero_le _)) .nil)) (fun ds Q E h => by obtain ⟨rfl, _⟩ := h; rfl) (fun cdv A outer s H E B Ed hg hr hw => ?_) (fun ds Q Ed h => by obtain ⟨rfl, h⟩ := h; exact rd_Script___init__ h)
  exact dss_cons (ds_if (dt_not (dt_val (de_call (by exact fn_are_parts F) (by nofun) (by exact hr.mono (by decide)) (by rfl) (by exact F.g_are_parts) (by exact F.d_are_parts.elim fun _ D => D.kp) (by exact hw) (da_cons (de_var (pv 1)) da_nil)))) (dss_one ds_never) dss_nil) (dss_cons (ds_setF (i := 0) (pv 0) (de_callT call_tuple_of cd_tuple (by rfl) (by exact F.f_tuple) b_tuple (da_cons (de_var (pv 1)) da_nil)) (by exact F.c_Script) (by exact F.n_Script_own_parts)) (dss_cons (ds_setF (i := 0) (pv 0) (de_call (by exact fn_size_of F 7) (by nofun) (by exact hr.mono (by decide)) (by rfl) (by exact F.g_size_of) (by exact F.d_size_of.elim fun _ D => D.kp) (by exact hw) (da_cons (de_fldI (i := 0) (pv 0) (by exact F.c_Script) (by exact F.n_Script_own_parts)) da_nil)) (by exact F.c_Script) (by exact F.n_Script_own_size)) (dss_cons (ds_setF (i := 0) (pv 0) (de_call (by exact fn_depth_of F 7) (by nofun) (by exact hr.mono (by decide)) (by rfl) (by exact F.g_depth_of) (by exact F.d_depth_of.elim fun _ D => D.kp) (by exact hw) (da_cons (de_fldI (i := 0) (pv 0) (by exact F.c_Script) (by exact F.n_Script_own_parts)) da_nil)) (by exact F.c_Script) (by exact F.n_Script_own_depth)) (dss_one (ds_setF (i := 0) (pv 0) (de_call (by exact fn_all_parts F 7) (by nofun) (by exact hr.mono (by decide)) (by rfl) (by exact F.g_all_parts) (by exact F.d_all_parts.elim fun _ D => D.kp) (by exact hw) (da_cons (de_fldI (i := 0) (pv 0) (by exact F.c_Script) (by exact F.n_Script_own_parts)) da_nil)) (by exact F.c_Script) (by exact F.n_Script_own_flat))))))
theorem bd_Script_of (F : Fx K mg) (cdv : Value) (A : Around) (outer : List Env) (s : Shared) (H : Hp) (E : XK) (B : Base) (Ed : Exn → Prop) (hg : false = true → A.guards = some []) (hr : Room 12 (A.deeper (envOfC "Script.of" (defScope st_Script_of) s.heap.objs.size (cmAd K (ga K "Script") "of") cdv)))
    (hw : Wish (cxOf (L2.CX P w) P w K mg base N_Script_of "Script.of" (defScope st_Script_of) (cmAd K (ga K "Script") "of") cdv A outer s H E) B (fun e _ => Ed e)) : DSs (cxOf (L2.CX P w) P w K mg base N_Script_of "Script.of" (defScope st_Script_of) (cmAd K (ga K "Script") "of") cdv A outer s H E) B (defBody st_Script_of) (t_Script_of K Ed) :=
  dss_one (ds_ret (de_makeV (i := 0) (by exact F.mk_Script) (by exact fn_Script___init__ F) (by nofun) (by exact hr.mono (by decide)) (by rfl) (by first | exact Or.inl rfl | exact Or.inr rfl) (by exact hw) (da_cons (de_var (pv 1)) da_nil)))
theorem fn_Script_of (F : Fx K mg) : FnP false P w K mg base 13 (cmAd K (ga K "Script") "of") (spC K (ga K "Script") (T_Script_of K)) := by
  obtain ⟨fd, D⟩ := F.d_Script_of
  exact dfnSC (t := t_Script_of K) D sc_Script_of (fun _ _ _ _ _ _ _ => rfl) (fun _ _ _ _ _ _ _ _ _ => rfl) (fun ds Q E h => len_Script_of h) (fun cdv A outer s H E B Ed hr hM hw => bd_Script_of F cdv A outer s H E B Ed (fun h => nomatch h) hr hw) (fun ds Q Ed h => rd_Script_of h)
theorem bd_Script_parts (F : Fx K mg) (cdv : Value) (A : Around) (outer : List Env) (s : Shared) (H : Hp) (E : XK) (B : Base) (Ed : Exn → Prop) (hg : false = true → A.guards = some []) (hr : Room 0 (A.deeper (envOfC "Script.parts" (defScope st_Script_parts) s.heap.objs.size (ma K (ga K "Script") "parts") cdv)))
    (hw : Wish (cxOf (L2.CX P w) P w K mg base N_Script_parts "Script.parts" (defScope st_Script_parts) (ma K (ga K "Script") "parts") cdv A outer s H E) B (fun e _ => Ed e)) : DSs (cxOf (L2.CX P w) P w K mg base N_Script_parts "Script.parts" (defScope st_Script_parts) (ma K (ga K "Script") "parts") cdv A outer s H E) B (defBody st_Script_parts) (t_Script_parts K Ed) :=
  dss_one (ds_ret (de_fld (de_var (pv 0)) (by exact F.c_Script) (by exact F.n_Script_own_parts)))
theorem fn_Script_parts (F : Fx K mg) : Fn false P w K mg base 1 (ma K (ga K "Script") "parts") (T_Script_parts K) := by
  obtain ⟨fd, D⟩ := F.d_Script_parts
  exact dfn (t := t_Script_parts K) (dfl := []) D sc_Script_parts (D.bindsN fun _ _ _ _ _ _ us hl => match us, hl with | [_], _ => rfl) .nil (fun _ _ => .nil) (fun ds Q E h => by rw [List.append_nil]; exact len_Script_parts h) (fun cdv A outer s H E B Ed hg hr hM hw => bd_Script_parts F cdv A outer s H E B Ed hg hr hw) (fun ds Q Ed h => by rw [List.append_nil]; exact rd_Script_parts h)
theorem bd_is_row (F : Fx K mg) (cdv : Value) (A : Around) (outer : List Env) (s : Shared) (H : Hp) (E : XK) (B : Base) (Ed : Exn → Prop) (hg : false = true → A.guards = some []) (hr : Room 1 (A.deeper (envOfC "is_row" (defScope st_is_row) s.heap.objs.size (ga K "is_row") cdv)))
    (hw : Wish (cxOf (L2.CX P w) P w K mg base N_is_row "is_row" (defScope st_is_row) (ga K "is_row") cdv A outer s H E) B (fun e _ => Ed e)) : DSs (cxOf (L2.CX P w) P w K mg base N_is_row "is_row" (defScope st_is_row) (ga K "is_row") cdv A outer s H E) B (defBody st_is_row) (t_is_row K Ed) :=
  dss_one (ds_ret (de_and (de_callB call_isi cd_isi (by rfl) (by exact F.f_isinstance) b_isinstance (da_cons (de_var (pv 0)) (da_cons (de_ty (by exact F.f_tuple) (by rfl) b_tuple) da_nil))) (de_and (de_cmp (op_eqDD (by exact hr.units)) od_eq (de_callB call_len cd_len (by rfl) (by exact F.f_len) b_len (da_cons (de_var (pv 0)) da_nil)) de_int (by rfl)) (de_and (de_call (by exact fn_is_integer F) (by nofun) (by exact hr.mono (by decide)) (by rfl) (by exact F.g_is_integer) (by exact F.d_is_integer.elim fun _ D => D.kp) (by exact hw) (da_cons (de_ix (de_var (pv 0)) de_int) da_nil)) (de_one (de_call (by exact fn_is_integer F) (by nofun) (by exact hr.mono (by decide)) (by rfl) (by exact F.g_is_integer) (by exact F.d_is_integer.elim fun _ D => D.kp) (by exact hw) (da_cons (de_ix (de_var (pv 0)) de_int) da_nil)))))))
theorem fn_is_row (F : Fx K mg) : Fn false P w K mg base 2 (ga K "is_row") (T_is_row K) := by
  obtain ⟨fd, D⟩ := F.d_is_row
  exact dfn (t := t_is_row K) (dfl := []) D sc_is_row (D.bindsN fun _ _ _ _ _ _ us hl => match us, hl with | [_], _ => rfl) .nil (fun _ _ => .nil) (fun ds Q E h => by rw [List.append_nil]; exact len_is_row h) (fun cdv A outer s H E B Ed hg hr hM hw => bd_is_row F cdv A outer s H E B Ed hg hr hw) (fun ds Q Ed h => by rw [List.append_nil]; exact rd_is_row h)
theorem bd_are_rows (F : Fx K mg) (cdv : Value) (A : Around) (outer : List Env) (s : Shared) (H : Hp) (E : XK) (B : Base) (Ed : Exn → Prop) (hg : false = true → A.guards = some []) (hr : Room 2 (A.deeper (envOfC "are_rows" (defScope st_are_rows) s.heap.objs.size (ga K "are_rows") cdv)))
    (hw : Wish (cxOf (L2.CX P w) P w K mg base N_are_rows "are_rows" (defScope st_are_rows) (ga K "are_rows") cdv A outer s H E) B (fun e _ => Ed e)) : DSs (cxOf (L2.CX P w) P w K mg base N_are_rows "are_rows" (defScope st_are_rows) (ga K "are_rows") cdv A outer s H E) B (defBody st_are_rows) (t_are_rows K Ed) :=
  dss_cons (ds_if (dt_w (dw_or (dt_not (dt_val (de_isiT (by rfl) (by exact F.f_isinstance) (de_var (pv 0)) (pa_cons (pe_bltn (v := .ty "list") (by rfl) (by exact F.f_list) b_list (by rfl)) (pa_cons (pe_bltn (v := .ty "tuple") (by rfl) (by exact F.f_tuple) b_tuple (by rfl)) pa_nil))))) (dw_or1 (dt_not (dt_val (de_callB (cr_all (by rfl)) cd_all (by rfl) (by exact F.f_all) b_all (da_cons (de_stay (df_lc (own := [("row", 3)]) (by rfl) (by exact sc_are_rows.nd) (di_seq (de_var (pv 0))) (by exact blkOk_by (own := [("row", 3)]) (N := N_are_rows) (sc := defScope st_are_rows) (by decide +kernel)) (fun _ _ _ _ _ => (dg_name (pg_name (i := 3) (by exact sc_are_rows.nd) (by rfl) (by first | exact Or.inl rfl | exact Or.inr rfl)))) (fun _ _ _ _ _ => dts_nil) (fun _ _ _ _ _ => de_call (by exact fn_is_row F) (by nofun) (by exact hr.mono (by decide)) (by rfl) (by exact F.g_is_row) (by exact F.d_is_row.elim fun _ D => D.kp) wish_no (da_cons (de_var (pv 3)) da_nil)) (by decide))) da_nil))))))) (dss_one (ds_ret de_bl)) dss_nil) (dss_cons (ds_asg (de_tup (da_cons (de_op op_sub od_sub (de_var (pv 1)) de_int) (da_cons (de_var (pv 1)) da_nil))) (dg_name (pg_name (i := 2) (by exact sc_are_rows.nd) (by rfl) (by first | exact Or.inl rfl | exact Or.inr rfl)))) (dss_cons (ds_for (passes_of (by rfl)) (by rfl) (di_seq (de_var (pv 0))) (dg_name (pg_name (i := 3) (by exact sc_are_rows.nd) (by rfl) (by first | exact Or.inl rfl | exact Or.inr rfl))) (dss_cons (ds_if (dt_w (dw_or (dt_cmp op_le od_int (de_ix (de_var (pv 3)) de_int) (de_ix (de_var (pv 2)) de_int) (by rfl)) (dw_or1 (dt_cmp op_ge od_int (de_ix (de_var (pv 3)) de_int) (de_ix (de_var (pv 2)) de_int) (by rfl))))) (dss_one (ds_ret de_bl)) dss_nil) (dss_one (ds_asg (de_var (pv 3)) (dg_name (pg_name (i := 2) (by exact sc_are_rows.nd) (by rfl) (by first | exact Or.inl rfl | exact Or.inr rfl))))))) (dss_one (ds_ret de_bl))))
theorem fn_are_rows (F : Fx K mg) : Fn false P w K mg base 3 (ga K "are_rows") (T_are_rows K) := by
  obtain ⟨fd, D⟩ := F.d_are_rows
  exact dfn (t := t_are_rows K) (dfl := []) D sc_are_rows (D.bindsN fun _ _ _ _ _ _ us hl => match us, hl with | [_, _], _ => rfl) .nil (fun _ _ => .nil) (fun ds Q E h => by rw [List.append_nil]; exact len_are_rows h) (fun cdv A outer s H E B Ed hg hr hM hw => bd_are_rows F cdv A outer s H E B Ed hg hr hw) (fun ds Q Ed h => by rw [List.append_nil]; exact rd_are_rows h)
theorem bd_last_valley (F : Fx K mg) (cdv : Value) (A : Around) (outer : List Env) (s : Shared) (H : Hp) (E : XK) (B : Base) (Ed : Exn → Prop) (hg : false = true → A.guards = some []) (hr : Room 0 (A.deeper (envOfC "last_valley" (defScope st_last_valley) s.heap.objs.size (ga K "last_valley") cdv)))
    (hw : Wish (cxOf (L2.CX P w) P w K mg base N_last_valley "last_valley" (defScope st_last_valley) (ga K "last_valley") cdv A outer s H E) B (fun e _ => Ed e)) : DSs (cxOf (L2.CX P w) P w K mg base N_last_valley "last_valley" (defScope st_last_valley) (ga K "last_valley") cdv A outer s H E) B (defBody st_last_valley) (t_last_valley K Ed) :=
  dss_one (ds_ret (de_if (dt_cmp op_gt od_int (de_callB call_len cd_len (by rfl) (by exact F.f_len) b_len (da_cons (de_var (pv 0)) da_nil)) de_int (by rfl)) (de_ix (de_ix (de_var (pv 0)) (de_neg de_int)) de_int) (de_var (pv 1))))
theorem fn_last_valley (F : Fx K mg) : Fn false P w K mg base 1 (ga K "last_valley") (T_last_valley K) := by
  obtain ⟨fd, D⟩ := F.d_last_valley
  exact dfn (t := t_last_valley K) (dfl := []) D sc_last_valley (D.bindsN fun _ _ _ _ _ _ us hl => match us, hl with | [_, _], _ => rfl) .nil (fun _ _ => .nil) (fun ds Q E h => by rw [List.append_nil]; exact len_last_valley h) (fun cdv A outer s H E B Ed hg hr hM hw => bd_last_valley F cdv A outer s H E B Ed hg hr hw) (fun ds Q Ed h => by rw [List.append_nil]; exact rd_last_valley h)
theorem bd_greatest_peak (F : Fx K mg) (cdv : Value) (A : Around) (outer : List Env) (s : Shared) (H : Hp) (E : XK) (B : Base) (Ed : Exn → Prop) (hg : false = true → A.guards = some []) (hr : Room 0 (A.deeper (envOfC "greatest_peak" (defScope st_greatest_peak) s.heap.objs.size (ga K "greatest_peak") cdv)))
    (hw : Wish (cxOf (L2.CX P w) P w K mg base N_greatest_peak "greatest_peak" (defScope st_greatest_peak) (ga K "greatest_peak") cdv A outer s H E) B (fun e _ => Ed e)) : DSs (cxOf (L2.CX P w) P w K mg base N_greatest_peak "greatest_peak" (defScope st_greatest_peak) (ga K "greatest_peak") cdv A outer s H E) B (defBody st_greatest_peak) (t_greatest_peak K Ed) :=
  dss_one (ds_ret (de_if (dt_cmp op_gt od_int (de_callB call_len cd_len (by rfl) (by exact F.f_len) b_len (da_cons (de_var (pv 0)) da_nil)) de_int (by rfl)) (de_ix (de_ix (de_var (pv 0)) (de_neg de_int)) de_int) (de_var (pv 1))))
theorem fn_greatest_peak (F : Fx K mg) : Fn false P w K mg base 1 (ga K "greatest_peak") (T_greatest_peak K) := by
  obtain ⟨fd, D⟩ := F.d_greatest_peak
  exact dfn (t := t_greatest_peak K) (dfl := []) D sc_greatest_peak (D.bindsN fun _ _ _ _ _ _ us hl => match us, hl with | [_, _], _ => rfl) .nil (fun _ _ => .nil) (fun ds Q E h => by rw [List.append_nil]; exact len_greatest_peak h) (fun cdv A outer s H E B Ed hg hr hM hw => bd_greatest_peak F cdv A outer s H E B Ed hg hr hw) (fun ds Q Ed h => by rw [List.append_nil]; exact rd_greatest_peak h)
theorem bd_problem_of (F : Fx K mg) (cdv : Value) (A : Around) (outer : List Env) (s : Shared) (H : Hp) (E : XK) (B : Base) (Ed : Exn → Prop) (hg : false = true → A.guards = some []) (hr : Room 3 (A.deeper (envOfC "problem_of" (defScope st_problem_of) s.heap.objs.size (ga K "problem_of") cdv)))
    (hw : Wish (cxOf (L2.CX P w) P w K mg base N_problem_of "problem_of" (defScope st_problem_of) (ga K "problem_of") cdv A outer s H E) B (fun e _ => Ed e)) : DSs (cxOf (L2.CX P w) P w K mg base N_problem_of "problem_of" (defScope st_problem_of) (ga K "problem_of") cdv A outer s H E) B (defBody st_problem_of) (t_problem_of K Ed) :=
  dss_cons (ds_if (dt_not (dt_val (de_call (by exact fn_are_rows F) (by nofun) (by exact hr.mono (by decide)) (by rfl) (by exact F.g_are_rows) (by exact F.d_are_rows.elim fun _ D => D.kp) (by exact hw) (da_cons (de_var (pv 0)) (da_cons de_int da_nil))))) (dss_one (ds_ret de_str)) dss_nil) (dss_cons (ds_if (dt_not (dt_val (de_call (by exact fn_is_integer F) (by nofun) (by exact hr.mono (by decide)) (by rfl) (by exact F.g_is_integer) (by exact F.d_is_integer.elim fun _ D => D.kp) (by exact hw) (da_cons (de_var (pv 2)) da_nil)))) (dss_one (ds_ret de_str)) dss_nil) (dss_cons (ds_if (dt_not (dt_val (de_call (by exact fn_are_rows F) (by nofun) (by exact hr.mono (by decide)) (by rfl) (by exact F.g_are_rows) (by exact F.d_are_rows.elim fun _ D => D.kp) (by exact hw) (da_cons (de_var (pv 1)) (da_cons (de_var (pv 2)) da_nil))))) (dss_one (ds_ret de_str)) dss_nil) (dss_cons (ds_if (dt_cmp (op_neDD (by exact hr.units)) od_ne (de_call (by exact fn_last_valley F) (by nofun) (by exact hr.mono (by decide)) (by rfl) (by exact F.g_last_valley) (by exact F.d_last_valley.elim fun _ D => D.kp) (by exact hw) (da_cons (de_var (pv 0)) (da_cons de_int da_nil))) (de_call (by exact fn_last_valley F) (by nofun) (by exact hr.mono (by decide)) (by rfl) (by exact F.g_last_valley) (by exact F.d_last_valley.elim fun _ D => D.kp) (by exact hw) (da_cons (de_var (pv 1)) (da_cons (de_var (pv 2)) da_nil))) (by rfl)) (dss_one (ds_ret de_str)) dss_nil) (dss_cons (ds_if (dt_w (dw_or (dt_not (dt_val (de_call (by exact fn_is_integer F) (by nofun) (by exact hr.mono (by decide)) (by rfl) (by exact F.g_is_integer) (by exact F.d_is_integer.elim fun _ D => D.kp) (by exact hw) (da_cons (de_var (pv 3)) da_nil)))) (dw_or1 (dt_cmp op_lt od_int (de_var (pv 3)) (de_callB (cr_max4 (by rfl)) cd_max4 (by rfl) (by exact F.f_max) b_max (da_cons (de_call (by exact fn_greatest_peak F) (by nofun) (by exact hr.mono (by decide)) (by rfl) (by exact F.g_greatest_peak) (by exact F.d_greatest_peak.elim fun _ D => D.kp) (by exact hw) (da_cons (de_var (pv 0)) (da_cons de_int da_nil))) (da_cons (de_call (by exact fn_greatest_peak F) (by nofun) (by exact hr.mono (by decide)) (by rfl) (by exact F.g_greatest_peak) (by exact F.d_greatest_peak.elim fun _ D => D.kp) (by exact hw) (da_cons (de_var (pv 1)) (da_cons (de_var (pv 2)) da_nil))) (da_cons de_int (da_cons (de_var (pv 2)) da_nil))))) (by rfl))))) (dss_one (ds_ret de_str)) dss_nil) (dss_one (ds_ret de_non))))))
theorem fn_problem_of (F : Fx K mg) : Fn false P w K mg base 4 (ga K "problem_of") (T_problem_of K) := by
  obtain ⟨fd, D⟩ := F.d_problem_of
  exact dfn (t := t_problem_of K) (dfl := []) D sc_problem_of (D.bindsN fun _ _ _ _ _ _ us hl => match us, hl with | [_, _, _, _], _ => rfl) .nil (fun _ _ => .nil) (fun ds Q E h => by rw [List.append_nil]; exact len_problem_of h) (fun cdv A outer s H E B Ed hg hr hM hw => bd_problem_of F cdv A outer s H E B Ed hg hr hw) (fun ds Q Ed h => by rw [List.append_nil]; exact rd_problem_of h)
theorem bd_fallen (F : Fx K mg) (cdv : Value) (A : Around) (outer : List Env) (s : Shared) (H : Hp) (E : XK) (B : Base) (Ed : Exn → Prop) (hg : false = true → A.guards = some []) (hr : Room 0 (A.deeper (envOfC "fallen" (defScope st_fallen) s.heap.objs.size (ga K "fallen") cdv)))
    (hw : Wish (cxOf (L2.CX P w) P w K mg base N_fallen "fallen" (defScope st_fallen) (ga K "fallen") cdv A outer s H E) B (fun e _ => Ed e)) : DSs (cxOf (L2.CX P w) P w K mg base N_fallen "fallen" (defScope st_fallen) (ga K "fallen") cdv A outer s H E) B (defBody st_fallen) (t_fallen K Ed) :=
  dss_cons (ds_asg (de_var (pv 2)) (dg_name (pg_name (i := 3) (by exact sc_fallen.nd) (by rfl) (by first | exact Or.inl rfl | exact Or.inr rfl)))) (dss_cons (ds_for (passes_of (by rfl)) (by rfl) (di_seq (de_var (pv 0))) (dg_tup (by rfl) (dgs_cons (dg_name (pg_name (i := 4) (by exact sc_fallen.nd) (by rfl) (by first | exact Or.inl rfl | exact Or.inr rfl))) (dgs_cons (dg_name (pg_name (i := 5) (by exact sc_fallen.nd) (by rfl) (by first | exact Or.inl rfl | exact Or.inr rfl))) dgs_nil))) (dss_one (ds_if (dt_cmp op_le od_int (de_var (pv 4)) (de_var (pv 1)) (by rfl)) (dss_one (ds_asg (de_var (pv 5)) (dg_name (pg_name (i := 3) (by exact sc_fallen.nd) (by rfl) (by first | exact Or.inl rfl | exact Or.inr rfl))))) dss_nil))) (dss_one (ds_ret (de_var (pv 3)))))
theorem fn_fallen (F : Fx K mg) : Fn false P w K mg base 1 (ga K "fallen") (T_fallen K) := by
  obtain ⟨fd, D⟩ := F.d_fallen
  exact dfn (t := t_fallen K) (dfl := []) D sc_fallen (D.bindsN fun _ _ _ _ _ _ us hl => match us, hl with | [_, _, _], _ => rfl) .nil (fun _ _ => .nil) (fun ds Q E h => by rw [List.append_nil]; exact len_fallen h) (fun cdv A outer s H E B Ed hg hr hM hw => bd_fallen F cdv A outer s H E B Ed hg hr hw) (fun ds Q Ed h => by rw [List.append_nil]; exact rd_fallen h)
theorem fn_Profile___init__ (F : Fx K mg) : FnI false P w K mg base 5 (ma K (ga K "Profile") "__init__") (ga K "Profile") (T_Profile___init__ K) := by
  obtain ⟨fd, D⟩ := F.d_Profile___init__
  obtain ⟨bs, hd, hb⟩ := D.binds1 (ps := ["self", "descent", "ascent", "end", "height"]) 5 4 (by simp) (by rfl) fun T kV doc pm an cdv ct us its hl hi => match us, its, hl, hi with | [_, _, _, _, _], [_, _, _, _], _, _ => ⟨_, rfl, rfl⟩
  refine dfi (t := t_Profile___init__ K) (dfl := []) D sc_Profile___init__ hb hd (fun _ _ => .nil) (fun ds Q E h => len_Profile___init__ h) (fun cdv A outer s H E B Ed hg hr hw => ?_) (fun ds Q Ed h => by rw [List.append_nil]; exact rd_Profile___init__ h)
  exact dss_cons (ds_asg (de_call (by exact fn_problem_of F) (by nofun) (by exact hr.mono (by decide)) (by rfl) (by exact F.g_problem_of) (by exact F.d_problem_of.elim fun _ D => D.kp) (by exact hw) (da_cons (de_var (pv 1)) (da_cons (de_var (pv 2)) (da_cons (de_var (pv 3)) (da_cons (de_var (pv 4)) da_nil))))) (dg_name (pg_name (i := 5) (by exact sc_Profile___init__.nd) (by rfl) (by first | exact Or.inl rfl | exact Or.inr rfl)))) (dss_cons (ds_if (dt_cmp op_notN od_notN (de_var (pv 5)) de_non (by rfl)) (dss_one ds_never) dss_nil) (dss_cons (ds_setF (i := 0) (pv 0) (de_tup (da_cons (de_callT call_tuple_of cd_tuple (by rfl) (by exact F.f_tuple) b_tuple (da_cons (de_var (pv 1)) da_nil)) (da_cons (de_callT call_tuple_of cd_tuple (by rfl) (by exact F.f_tuple) b_tuple (da_cons (de_var (pv 2)) da_nil)) (da_cons (de_var (pv 3)) (da_cons (de_var (pv 4)) da_nil))))) (by exact F.c_Profile) (by exact F.n_Profile_own_plain)) (dss_one (ds_setF (i := 0) (pv 0) (de_call (by exact fn_last_valley F) (by nofun) (by exact hr.mono (by decide)) (by rfl) (by exact F.g_last_valley) (by exact F.d_last_valley.elim fun _ D => D.kp) (by exact hw) (da_cons (de_var (pv 1)) (da_cons de_int da_nil))) (by exact F.c_Profile) (by exact F.n_Profile_own_lowest)))))
theorem fn_Profile_end (F : Fx K mg) : Fn1 P w K mg base 1 (gtAd K (ga K "Profile") "end") ["self"] (T_Profile_end K) := by
  obtain ⟨fd, D⟩ := F.d_Profile_end
  refine dfn1 (t := t_Profile_end K) D sc_Profile_end (D.bindsN fun _ _ _ _ _ _ us hl => match us, hl with | [_], _ => rfl) (fun ds Q E h => len_Profile_end h) (fun cdv A outer s H E B Ed hr hM hw => ?_) (fun ds Q Ed h => rd_Profile_end h)
  exact dss_one (ds_ret (de_ix (de_fld (de_var (pv 0)) (by exact F.c_Profile) (by exact F.n_Profile_own_plain)) de_int))
theorem fn_Profile_height (F : Fx K mg) : Fn1 P w K mg base 1 (gtAd K (ga K "Profile") "height") ["self"] (T_Profile_height K) := by
  obtain ⟨fd, D⟩ := F.d_Profile_height
  refine dfn1 (t := t_Profile_height K) D sc_Profile_height (D.bindsN fun _ _ _ _ _ _ us hl => match us, hl with | [_], _ => rfl) (fun ds Q E h => len_Profile_height h) (fun cdv A outer s H E B Ed hr hM hw => ?_) (fun ds Q Ed h => rd_Profile_height h)
  exact dss_one (ds_ret (de_ix (de_fld (de_var (pv 0)) (by exact F.c_Profile) (by exact F.n_Profile_own_plain)) de_int))
theorem bd_Profile_descent (F : Fx K mg) (cdv : Value) (A : Around) (outer : List Env) (s : Shared) (H : Hp) (E : XK) (B : Base) (Ed : Exn → Prop) (hg : false = true → A.guards = some []) (hr : Room 0 (A.deeper (envOfC "Profile.descent" (defScope st_Profile_descent) s.heap.objs.size (ma K (ga K "Profile") "descent") cdv)))
    (hw : Wish (cxOf (L2.CX P w) P w K mg base N_Profile_descent "Profile.descent" (defScope st_Profile_descent) (ma K (ga K "Profile") "descent") cdv A outer s H E) B (fun e _ => Ed e)) : DSs (cxOf (L2.CX P w) P w K mg base N_Profile_descent "Profile.descent" (defScope st_Profile_descent) (ma K (ga K "Profile") "descent") cdv A outer s H E) B (defBody st_Profile_descent) (t_Profile_descent K Ed) :=
  dss_one (ds_ret (de_callT call_list_of cd_list (by rfl) (by exact F.f_list) b_list (da_cons (de_ix (de_fld (de_var (pv 0)) (by exact F.c_Profile) (by exact F.n_Profile_own_plain)) de_int) da_nil)))
theorem fn_Profile_descent (F : Fx K mg) : Fn false P w K mg base 1 (ma K (ga K "Profile") "descent") (T_Profile_descent K) := by
  obtain ⟨fd, D⟩ := F.d_Profile_descent
  exact dfn (t := t_Profile_descent K) (dfl := []) D sc_Profile_descent (D.bindsN fun _ _ _ _ _ _ us hl => match us, hl with | [_], _ => rfl) .nil (fun _ _ => .nil) (fun ds Q E h => by rw [List.append_nil]; exact len_Profile_descent h) (fun cdv A outer s H E B Ed hg hr hM hw => bd_Profile_descent F cdv A outer s H E B Ed hg hr hw) (fun ds Q Ed h => by rw [List.append_nil]; exact rd_Profile_descent h)
theorem bd_Profile_ascent (F : Fx K mg) (cdv : Value) (A : Around) (outer : List Env) (s : Shared) (H : Hp) (E : XK) (B : Base) (Ed : Exn → Prop) (hg : false = true → A.guards = some []) (hr : Room 0 (A.deeper (envOfC "Profile.ascent" (defScope st_Profile_ascent) s.heap.objs.size (ma K (ga K "Profile") "ascent") cdv)))
    (hw : Wish (cxOf (L2.CX P w) P w K mg base N_Profile_ascent "Profile.ascent" (defScope st_Profile_ascent) (ma K (ga K "Profile") "ascent") cdv A outer s H E) B (fun e _ => Ed e)) : DSs (cxOf (L2.CX P w) P w K mg base N_Profile_ascent "Profile.ascent" (defScope st_Profile_ascent) (ma K (ga K "Profile") "ascent") cdv A outer s H E) B (defBody st_Profile_ascent) (t_Profile_ascent K Ed) :=
  dss_one (ds_ret (de_callT call_list_of cd_list (by rfl) (by exact F.f_list) b_list (da_cons (de_ix (de_fld (de_var (pv 0)) (by exact F.c_Profile) (by exact F.n_Profile_own_plain)) de_int) da_nil)))
theorem fn_Profile_ascent (F : Fx K mg) : Fn false P w K mg base 1 (ma K (ga K "Profile") "ascent") (T_Profile_ascent K) := by
  obtain ⟨fd, D⟩ := F.d_Profile_ascent
  exact dfn (t := t_Profile_ascent K) (dfl := []) D sc_Profile_ascent (D.bindsN fun _ _ _ _ _ _ us hl => match us, hl with | [_], _ => rfl) .nil (fun _ _ => .nil) (fun ds Q E h => by rw [List.append_nil]; exact len_Profile_ascent h) (fun cdv A outer s H E B Ed hg hr hM hw => bd_Profile_ascent F cdv A outer s H E B Ed hg hr hw) (fun ds Q Ed h => by rw [List.append_nil]; exact rd_Profile_ascent h)
theorem bd_Profile_back (F : Fx K mg) (cdv : Value) (A : Around) (outer : List Env) (s : Shared) (H : Hp) (E : XK) (B : Base) (Ed : Exn → Prop) (hg : false = true → A.guards = some []) (hr : Room 1 (A.deeper (envOfC "Profile.back" (defScope st_Profile_back) s.heap.objs.size (ma K (ga K "Profile") "back") cdv)))
    (hw : Wish (cxOf (L2.CX P w) P w K mg base N_Profile_back "Profile.back" (defScope st_Profile_back) (ma K (ga K "Profile") "back") cdv A outer s H E) B (fun e _ => Ed e)) : DSs (cxOf (L2.CX P w) P w K mg base N_Profile_back "Profile.back" (defScope st_Profile_back) (ma K (ga K "Profile") "back") cdv A outer s H E) B (defBody st_Profile_back) (t_Profile_back K Ed) :=
  dss_cons (ds_if (dt_w (dw_or (dt_not (dt_val (de_call (by exact fn_is_integer F) (by nofun) (by exact hr.mono (by decide)) (by rfl) (by exact F.g_is_integer) (by exact F.d_is_integer.elim fun _ D => D.kp) (by exact hw) (da_cons (de_var (pv 1)) da_nil)))) (dw_or1 (dt_cmp op_lt od_int (de_var (pv 1)) (de_ix (de_fld (de_var (pv 0)) (by exact F.c_Profile) (by exact F.n_Profile_own_plain)) de_int) (by rfl))))) (dss_one ds_never) dss_nil) (dss_one (ds_ret (de_call (by exact fn_fallen F) (by nofun) (by exact hr.mono (by decide)) (by rfl) (by exact F.g_fallen) (by exact F.d_fallen.elim fun _ D => D.kp) (by exact hw) (da_cons (de_ix (de_fld (de_var (pv 0)) (by exact F.c_Profile) (by exact F.n_Profile_own_plain)) de_int) (da_cons (de_var (pv 1)) (da_cons (de_ix (de_fld (de_var (pv 0)) (by exact F.c_Profile) (by exact F.n_Profile_own_plain)) de_int) da_nil))))))
theorem fn_Profile_back (F : Fx K mg) : Fn false P w K mg base 2 (ma K (ga K "Profile") "back") (T_Profile_back K) := by
  obtain ⟨fd, D⟩ := F.d_Profile_back
  exact dfn (t := t_Profile_back K) (dfl := []) D sc_Profile_back (D.bindsN fun _ _ _ _ _ _ us hl => match us, hl with | [_, _], _ => rfl) .nil (fun _ _ => .nil) (fun ds Q E h => by rw [List.append_nil]; exact len_Profile_back h) (fun cdv A outer s H E B Ed hg hr hM hw => bd_Profile_back F cdv A outer s H E B Ed hg hr hw) (fun ds Q Ed h => by rw [List.append_nil]; exact rd_Profile_back h)
theorem bd_Profile_is_no_worse (F : Fx K mg) (cdv : Value) (A : Around) (outer : List Env) (s : Shared) (H : Hp) (E : XK) (B : Base) (Ed : Exn → Prop) (hg : false = true → A.guards = some []) (hr : Room 1 (A.deeper (envOfC "Profile.is_no_worse" (defScope st_Profile_is_no_worse) s.heap.objs.size (ma K (ga K "Profile") "is_no_worse") cdv)))
    (hw : Wish (cxOf (L2.CX P w) P w K mg base N_Profile_is_no_worse "Profile.is_no_worse" (defScope st_Profile_is_no_worse) (ma K (ga K "Profile") "is_no_worse") cdv A outer s H E) B (fun e _ => Ed e)) : DSs (cxOf (L2.CX P w) P w K mg base N_Profile_is_no_worse "Profile.is_no_worse" (defScope st_Profile_is_no_worse) (ma K (ga K "Profile") "is_no_worse") cdv A outer s H E) B (defBody st_Profile_is_no_worse) (t_Profile_is_no_worse K Ed) :=
  dss_cons (ds_asg (de_fld (de_var (pv 0)) (by exact F.c_Profile) (by exact F.n_Profile_own_plain)) (dg_tup (by rfl) (dgs_cons (dg_name (pg_name (i := 2) (by exact sc_Profile_is_no_worse.nd) (by rfl) (by first | exact Or.inl rfl | exact Or.inr rfl))) (dgs_cons (dg_name (pg_name (i := 3) (by exact sc_Profile_is_no_worse.nd) (by rfl) (by first | exact Or.inl rfl | exact Or.inr rfl))) (dgs_cons (dg_name (pg_name (i := 4) (by exact sc_Profile_is_no_worse.nd) (by rfl) (by first | exact Or.inl rfl | exact Or.inr rfl))) (dgs_cons (dg_name (pg_name (i := 5) (by exact sc_Profile_is_no_worse.nd) (by rfl) (by first | exact Or.inl rfl | exact Or.inr rfl))) dgs_nil)))))) (dss_cons (ds_asg (de_fld (de_var (pv 1)) (by exact F.c_Profile) (by exact F.n_Profile_own_plain)) (dg_tup (by rfl) (dgs_cons (dg_name (pg_name (i := 6) (by exact sc_Profile_is_no_worse.nd) (by rfl) (by first | exact Or.inl rfl | exact Or.inr rfl))) (dgs_cons (dg_name (pg_name (i := 7) (by exact sc_Profile_is_no_worse.nd) (by rfl) (by first | exact Or.inl rfl | exact Or.inr rfl))) (dgs_cons (dg_name (pg_name (i := 8) (by exact sc_Profile_is_no_worse.nd) (by rfl) (by first | exact Or.inl rfl | exact Or.inr rfl))) (dgs_cons (dg_name (pg_name (i := 9) (by exact sc_Profile_is_no_worse.nd) (by rfl) (by first | exact Or.inl rfl | exact Or.inr rfl))) dgs_nil)))))) (dss_cons (ds_if (dt_w (dw_or (dt_cmp op_gt od_int (de_var (pv 4)) (de_var (pv 8)) (by rfl)) (dw_or1 (dt_cmp op_gt od_int (de_var (pv 5)) (de_var (pv 9)) (by rfl))))) (dss_one (ds_ret de_bl)) dss_nil) (dss_cons (ds_if (dt_not (dt_val (de_callB (cr_all (by rfl)) cd_all (by rfl) (by exact F.f_all) b_all (da_cons (de_stay (df_lc (own := [("peak", 10), ("valley", 11)]) (by rfl) (by exact sc_Profile_is_no_worse.nd) (di_seq (de_var (pv 6))) (by exact blkOk_by (own := [("peak", 10), ("valley", 11)]) (N := N_Profile_is_no_worse) (sc := defScope st_Profile_is_no_worse) (by decide +kernel)) (fun _ _ _ _ _ => dg_tup (by rfl) (dgs_cons (dg_name (pg_name (i := 10) (by exact sc_Profile_is_no_worse.nd) (by rfl) (by first | exact Or.inl rfl | exact Or.inr rfl))) (dgs_cons (dg_name (pg_name (i := 11) (by exact sc_Profile_is_no_worse.nd) (by rfl) (by first | exact Or.inl rfl | exact Or.inr rfl))) dgs_nil))) (fun _ _ _ _ _ => dts_nil) (fun _ _ _ _ _ => de_cmp op_le od_int (de_call (by exact fn_fallen F) (by nofun) (by exact hr.mono (by decide)) (by rfl) (by exact F.g_fallen) (by exact F.d_fallen.elim fun _ D => D.kp) wish_no (da_cons (de_var (pv 2)) (da_cons (de_var (pv 10)) (da_cons de_int da_nil)))) (de_var (pv 11)) (by rfl)) (by decide))) da_nil)))) (dss_one (ds_ret de_bl)) dss_nil) (dss_one (ds_ret (de_callB (cr_all (by rfl)) cd_all (by rfl) (by exact F.f_all) b_all (da_cons (de_stay (df_lc (own := [("peak", 10), ("valley", 11)]) (by rfl) (by exact sc_Profile_is_no_worse.nd) (di_seq (de_var (pv 7))) (by exact blkOk_by (own := [("peak", 10), ("valley", 11)]) (N := N_Profile_is_no_worse) (sc := defScope st_Profile_is_no_worse) (by decide +kernel)) (fun _ _ _ _ _ => dg_tup (by rfl) (dgs_cons (dg_name (pg_name (i := 10) (by exact sc_Profile_is_no_worse.nd) (by rfl) (by first | exact Or.inl rfl | exact Or.inr rfl))) (dgs_cons (dg_name (pg_name (i := 11) (by exact sc_Profile_is_no_worse.nd) (by rfl) (by first | exact Or.inl rfl | exact Or.inr rfl))) dgs_nil))) (fun _ _ _ _ _ => dts_nil) (fun _ _ _ _ _ => de_cmp op_le od_int (de_call (by exact fn_fallen F) (by nofun) (by exact hr.mono (by decide)) (by rfl) (by exact F.g_fallen) (by exact F.d_fallen.elim fun _ D => D.kp) wish_no (da_cons (de_var (pv 3)) (da_cons (de_var (pv 10)) (da_cons (de_var (pv 4)) da_nil)))) (de_var (pv 11)) (by rfl)) (by decide))) da_nil)))))))
theorem fn_Profile_is_no_worse (F : Fx K mg) : Fn false P w K mg base 2 (ma K (ga K "Profile") "is_no_worse") (T_Profile_is_no_worse K) := by
  obtain ⟨fd, D⟩ := F.d_Profile_is_no_worse
  exact dfn (t := t_Profile_is_no_worse K) (dfl := []) D sc_Profile_is_no_worse (D.bindsN fun _ _ _ _ _ _ us hl => match us, hl with | [_, _], _ => rfl) .nil (fun _ _ => .nil) (fun ds Q E h => by rw [List.append_nil]; exact len_Profile_is_no_worse h) (fun cdv A outer s H E B Ed hg hr hM hw => bd_Profile_is_no_worse F cdv A outer s H E B Ed hg hr hw) (fun ds Q Ed h => by rw [List.append_nil]; exact rd_Profile_is_no_worse h)
theorem bd_Profile___call__ (F : Fx K mg) (cdv : Value) (A : Around) (outer : List Env) (s : Shared) (H : Hp) (E : XK) (B : Base) (Ed : Exn → Prop) (hg : false = true → A.guards = some []) (hr : Room 2 (A.deeper (envOfC "Profile.__call__" (defScope st_Profile___call__) s.heap.objs.size (ma K (ga K "Profile") "__call__") cdv)))
    (hw : Wish (cxOf (L2.CX P w) P w K mg base N_Profile___call__ "Profile.__call__" (defScope st_Profile___call__) (ma K (ga K "Profile") "__call__") cdv A outer s H E) B (fun e _ => Ed e)) : DSs (cxOf (L2.CX P w) P w K mg base N_Profile___call__ "Profile.__call__" (defScope st_Profile___call__) (ma K (ga K "Profile") "__call__") cdv A outer s H E) B (defBody st_Profile___call__) (t_Profile___call__ K Ed) :=
  dss_cons (ds_if (dt_not (dt_val (de_call (by exact fn_is_count F) (by nofun) (by exact hr.mono (by decide)) (by rfl) (by exact F.g_is_count) (by exact F.d_is_count.elim fun _ D => D.kp) (by exact hw) (da_cons (de_var (pv 1)) da_nil)))) (dss_one ds_never) dss_nil) (dss_one (ds_ret (de_call (by exact fn_fallen F) (by nofun) (by exact hr.mono (by decide)) (by rfl) (by exact F.g_fallen) (by exact F.d_fallen.elim fun _ D => D.kp) (by exact hw) (da_cons (de_ix (de_fld (de_var (pv 0)) (by exact F.c_Profile) (by exact F.n_Profile_own_plain)) de_int) (da_cons (de_var (pv 1)) (da_cons de_int da_nil))))))
theorem fn_Profile___call__ (F : Fx K mg) : Fn false P w K mg base 3 (ma K (ga K "Profile") "__call__") (T_Profile___call__ K) := by
  obtain ⟨fd, D⟩ := F.d_Profile___call__
  exact dfn (t := t_Profile___call__ K) (dfl := []) D sc_Profile___call__ (D.bindsN fun _ _ _ _ _ _ us hl => match us, hl with | [_, _], _ => rfl) .nil (fun _ _ => .nil) (fun ds Q E h => by rw [List.append_nil]; exact len_Profile___call__ h) (fun cdv A outer s H E B Ed hg hr hM hw => bd_Profile___call__ F cdv A outer s H E B Ed hg hr hw) (fun ds Q Ed h => by rw [List.append_nil]; exact rd_Profile___call__ h)
theorem bd_Profile___eq__ (F : Fx K mg) (cdv : Value) (A : Around) (outer : List Env) (s : Shared) (H : Hp) (E : XK) (B : Base) (Ed : Exn → Prop) (hg : false = true → A.guards = some []) (hr : Room 0 (A.deeper (envOfC "Profile.__eq__" (defScope st_Profile___eq__) s.heap.objs.size (ma K (ga K "Profile") "__eq__") cdv)))
    (hw : Wish (cxOf (L2.CX P w) P w K mg base N_Profile___eq__ "Profile.__eq__" (defScope st_Profile___eq__) (ma K (ga K "Profile") "__eq__") cdv A outer s H E) B (fun e _ => Ed e)) : DSs (cxOf (L2.CX P w) P w K mg base N_Profile___eq__ "Profile.__eq__" (defScope st_Profile___eq__) (ma K (ga K "Profile") "__eq__") cdv A outer s H E) B (defBody st_Profile___eq__) (t_Profile___eq__ K Ed) :=
  dss_one (ds_ret (de_and (de_callB call_isi (cd_isC (by exact F.c_Profile) (by exact F.iso_Profile)) (by rfl) (by exact F.f_isinstance) b_isinstance (da_cons (de_var (pv 1)) (da_cons (de_glob (con_cls (by exact F.g_Profile)) (by rfl)) da_nil))) (de_one (de_cmp (op_eqDD (by exact hr.units)) od_eq (de_fld (de_var (pv 0)) (by exact F.c_Profile) (by exact F.n_Profile_own_plain)) (de_fld (de_var (pv 1)) (by exact F.c_Profile) (by exact F.n_Profile_own_plain)) (by rfl)))))
theorem fn_Profile___eq__ (F : Fx K mg) : Fn false P w K mg base 1 (ma K (ga K "Profile") "__eq__") (T_Profile___eq__ K) := by
  obtain ⟨fd, D⟩ := F.d_Profile___eq__
  exact dfn (t := t_Profile___eq__ K) (dfl := []) D sc_Profile___eq__ (D.bindsN fun _ _ _ _ _ _ us hl => match us, hl with | [_, _], _ => rfl) .nil (fun _ _ => .nil) (fun ds Q E h => by rw [List.append_nil]; exact len_Profile___eq__ h) (fun cdv A outer s H E B Ed hg hr hM hw => bd_Profile___eq__ F cdv A outer s H E B Ed hg hr hw) (fun ds Q Ed h => by rw [List.append_nil]; exact rd_Profile___eq__ h)
theorem bd_moved (F : Fx K mg) (cdv : Value) (A : Around) (outer : List Env) (s : Shared) (H : Hp) (E : XK) (B : Base) (Ed : Exn → Prop) (hg : false = true → A.guards = some []) (hr : Room 0 (A.deeper (envOfC "moved" (defScope st_moved) s.heap.objs.size (ga K "moved") cdv)))
    (hw : Wish (cxOf (L2.CX P w) P w K mg base N_moved "moved" (defScope st_moved) (ga K "moved") cdv A outer s H E) B (fun e _ => Ed e)) : DSs (cxOf (L2.CX P w) P w K mg base N_moved "moved" (defScope st_moved) (ga K "moved") cdv A outer s H E) B (defBody st_moved) (t_moved K Ed) :=
  dss_one (ds_ret (de_callT call_tuple_of cd_tuple (by rfl) (by exact F.f_tuple) b_tuple (da_cons (de_stay (df_lc (own := [("peak", 2), ("valley", 3)]) (by rfl) (by exact sc_moved.nd) (di_seq (de_var (pv 0))) (by exact blkOk_by (own := [("peak", 2), ("valley", 3)]) (N := N_moved) (sc := defScope st_moved) (by decide +kernel)) (fun _ _ _ _ _ => dg_tup (by rfl) (dgs_cons (dg_name (pg_name (i := 2) (by exact sc_moved.nd) (by rfl) (by first | exact Or.inl rfl | exact Or.inr rfl))) (dgs_cons (dg_name (pg_name (i := 3) (by exact sc_moved.nd) (by rfl) (by first | exact Or.inl rfl | exact Or.inr rfl))) dgs_nil))) (fun _ _ _ _ _ => dts_nil) (fun _ _ _ _ _ => de_tup (da_cons (de_op op_addD od_add (de_var (pv 2)) (de_var (pv 1))) (da_cons (de_op op_addD od_add (de_var (pv 3)) (de_var (pv 1))) da_nil))) (by decide))) da_nil)))
theorem fn_moved (F : Fx K mg) : Fn false P w K mg base 1 (ga K "moved") (T_moved K) := by
  obtain ⟨fd, D⟩ := F.d_moved
  exact dfn (t := t_moved K) (dfl := []) D sc_moved (D.bindsN fun _ _ _ _ _ _ us hl => match us, hl with | [_, _], _ => rfl) .nil (fun _ _ => .nil) (fun ds Q E h => by rw [List.append_nil]; exact len_moved h) (fun cdv A outer s H E B Ed hg hr hM hw => bd_moved F cdv A outer s H E B Ed hg hr hw) (fun ds Q Ed h => by rw [List.append_nil]; exact rd_moved h)
theorem bd_followed (F : Fx K mg) (cdv : Value) (A : Around) (outer : List Env) (s : Shared) (H : Hp) (E : XK) (B : Base) (Ed : Exn → Prop) (hg : false = true → A.guards = some []) (hr : Room 1 (A.deeper (envOfC "followed" (defScope st_followed) s.heap.objs.size (ga K "followed") cdv)))
    (hw : Wish (cxOf (L2.CX P w) P w K mg base N_followed "followed" (defScope st_followed) (ga K "followed") cdv A outer s H E) B (fun e _ => Ed e)) : DSs (cxOf (L2.CX P w) P w K mg base N_followed "followed" (defScope st_followed) (ga K "followed") cdv A outer s H E) B (defBody st_followed) (t_followed K Ed) :=
  dss_cons (ds_asg (de_tup (da_cons (de_var (pv 2)) (da_cons (de_callB (call_min2 (by rfl)) cd_min2 (by rfl) (by exact F.f_min) b_min (da_cons (de_call (by exact fn_fallen F) (by nofun) (by exact hr.mono (by decide)) (by rfl) (by exact F.g_fallen) (by exact F.d_fallen.elim fun _ D => D.kp) (by exact hw) (da_cons (de_var (pv 0)) (da_cons (de_var (pv 2)) (da_cons (de_var (pv 1)) da_nil)))) (da_cons (de_call (by exact fn_fallen F) (by nofun) (by exact hr.mono (by decide)) (by rfl) (by exact F.g_fallen) (by exact F.d_fallen.elim fun _ D => D.kp) (by exact hw) (da_cons (de_var (pv 3)) (da_cons (de_var (pv 2)) (da_cons (de_var (pv 4)) da_nil)))) da_nil))) da_nil))) (dg_name (pg_name (i := 5) (by exact sc_followed.nd) (by rfl) (by first | exact Or.inl rfl | exact Or.inr rfl)))) (dss_cons (ds_asg (de_op op_addD od_add (de_op op_addD od_add (de_stay (df_lc (own := [("row", 8)]) (by rfl) (by exact sc_followed.nd) (di_seq (de_var (pv 0))) (by exact blkOk_by (own := [("row", 8)]) (N := N_followed) (sc := defScope st_followed) (by decide +kernel)) (fun _ _ _ _ _ => (dg_name (pg_name (i := 8) (by exact sc_followed.nd) (by rfl) (by first | exact Or.inl rfl | exact Or.inr rfl)))) (fun _ _ _ _ _ => dts_one (dt_cmp op_lt od_int (de_ix (de_var (pv 8)) de_int) (de_var (pv 2)) (by rfl))) (fun _ _ _ _ _ => (de_var (pv 8))) (by decide))) (de_lst (da_cons (de_var (pv 5)) da_nil))) (de_stay (df_lc (own := [("row", 8)]) (by rfl) (by exact sc_followed.nd) (di_seq (de_var (pv 3))) (by exact blkOk_by (own := [("row", 8)]) (N := N_followed) (sc := defScope st_followed) (by decide +kernel)) (fun _ _ _ _ _ => (dg_name (pg_name (i := 8) (by exact sc_followed.nd) (by rfl) (by first | exact Or.inl rfl | exact Or.inr rfl)))) (fun _ _ _ _ _ => dts_one (dt_cmp op_gt od_int (de_ix (de_var (pv 8)) de_int) (de_var (pv 2)) (by rfl))) (fun _ _ _ _ _ => (de_var (pv 8))) (by decide)))) (dg_name (pg_name (i := 6) (by exact sc_followed.nd) (by rfl) (by first | exact Or.inl rfl | exact Or.inr rfl)))) (dss_cons (ds_asgO (df_lst da_nil) (pg_name (i := 7) (by exact sc_followed.nd) (by rfl) (by first | exact Or.inl rfl | exact Or.inr rfl))) (dss_cons (ds_for (passes_of (by rfl)) (by rfl) (di_seq (de_var (pv 6))) (dg_name (pg_name (i := 8) (by exact sc_followed.nd) (by rfl) (by first | exact Or.inl rfl | exact Or.inr rfl))) (dss_one (ds_if (dt_cmp op_lt od_int (de_ix (de_var (pv 8)) de_int) (de_call (by exact fn_last_valley F) (by nofun) (by exact hr.mono (by decide)) (by rfl) (by exact F.g_last_valley) (by exact F.d_last_valley.elim fun _ D => D.kp) (by exact hw) (da_cons (de_var (pv 7)) (da_cons (de_var (pv 1)) da_nil))) (by rfl)) (dss_one (ds_app (pv 7) (de_var (pv 8)))) dss_nil))) (dss_one (ds_ret (de_callT call_tuple_of cd_tuple (by rfl) (by exact F.f_tuple) b_tuple (da_cons (de_var (pv 7)) da_nil)))))))
theorem fn_followed (F : Fx K mg) : Fn false P w K mg base 2 (ga K "followed") (T_followed K) := by
  obtain ⟨fd, D⟩ := F.d_followed
  exact dfn (t := t_followed K) (dfl := []) D sc_followed (D.bindsN fun _ _ _ _ _ _ us hl => match us, hl with | [_, _, _, _, _], _ => rfl) .nil (fun _ _ => .nil) (fun ds Q E h => by rw [List.append_nil]; exact len_followed h) (fun cdv A outer s H E B Ed hg hr hM hw => bd_followed F cdv A outer s H E B Ed hg hr hw) (fun ds Q Ed h => by rw [List.append_nil]; exact rd_followed h)
theorem bd_sum_of (F : Fx K mg) (cdv : Value) (A : Around) (outer : List Env) (s : Shared) (H : Hp) (E : XK) (B : Base) (Ed : Exn → Prop) (hg : false = true → A.guards = some []) (hr : Room 2 (A.deeper (envOfC "sum_of" (defScope st_sum_of) s.heap.objs.size (ga K "sum_of") cdv)))
    (hw : Wish (cxOf (L2.CX P w) P w K mg base N_sum_of "sum_of" (defScope st_sum_of) (ga K "sum_of") cdv A outer s H E) B (fun e _ => Ed e)) : DSs (cxOf (L2.CX P w) P w K mg base N_sum_of "sum_of" (defScope st_sum_of) (ga K "sum_of") cdv A outer s H E) B (defBody st_sum_of) (t_sum_of K Ed) :=
  dss_cons (ds_asg (de_var (pv 0)) (dg_tup (by rfl) (dgs_cons (dg_name (pg_name (i := 5) (by exact sc_sum_of.nd) (by rfl) (by first | exact Or.inl rfl | exact Or.inr rfl))) (dgs_cons (dg_name (pg_name (i := 6) (by exact sc_sum_of.nd) (by rfl) (by first | exact Or.inl rfl | exact Or.inr rfl))) (dgs_cons (dg_name (pg_name (i := 7) (by exact sc_sum_of.nd) (by rfl) (by first | exact Or.inl rfl | exact Or.inr rfl))) (dgs_cons (dg_name (pg_name (i := 8) (by exact sc_sum_of.nd) (by rfl) (by first | exact Or.inl rfl | exact Or.inr rfl))) dgs_nil)))))) (dss_cons (ds_asg (de_var (pv 1)) (dg_tup (by rfl) (dgs_cons (dg_name (pg_name (i := 9) (by exact sc_sum_of.nd) (by rfl) (by first | exact Or.inl rfl | exact Or.inr rfl))) (dgs_cons (dg_name (pg_name (i := 10) (by exact sc_sum_of.nd) (by rfl) (by first | exact Or.inl rfl | exact Or.inr rfl))) (dgs_cons (dg_name (pg_name (i := 11) (by exact sc_sum_of.nd) (by rfl) (by first | exact Or.inl rfl | exact Or.inr rfl))) (dgs_cons (dg_name (pg_name (i := 12) (by exact sc_sum_of.nd) (by rfl) (by first | exact Or.inl rfl | exact Or.inr rfl))) dgs_nil)))))) (dss_cons (ds_asg (de_op op_addD od_add (de_var (pv 7)) (de_var (pv 12))) (dg_name (pg_name (i := 2) (by exact sc_sum_of.nd) (by rfl) (by first | exact Or.inl rfl | exact Or.inr rfl)))) (dss_cons (ds_asg (de_call (by exact fn_followed F) (by nofun) (by exact hr.mono (by decide)) (by rfl) (by exact F.g_followed) (by exact F.d_followed.elim fun _ D => D.kp) (by exact hw) (da_cons (de_var (pv 5)) (da_cons de_int (da_cons (de_var (pv 8)) (da_cons (de_call (by exact fn_moved F) (by nofun) (by exact hr.mono (by decide)) (by rfl) (by exact F.g_moved) (by exact F.d_moved.elim fun _ D => D.kp) (by exact hw) (da_cons (de_var (pv 9)) (da_cons (de_var (pv 7)) da_nil))) (da_cons (de_var (pv 7)) da_nil)))))) (dg_name (pg_name (i := 3) (by exact sc_sum_of.nd) (by rfl) (by first | exact Or.inl rfl | exact Or.inr rfl)))) (dss_cons (ds_asg (de_call (by exact fn_followed F) (by nofun) (by exact hr.mono (by decide)) (by rfl) (by exact F.g_followed) (by exact F.d_followed.elim fun _ D => D.kp) (by exact hw) (da_cons (de_call (by exact fn_moved F) (by nofun) (by exact hr.mono (by decide)) (by rfl) (by exact F.g_moved) (by exact F.d_moved.elim fun _ D => D.kp) (by exact hw) (da_cons (de_var (pv 10)) (da_cons (de_var (pv 7)) da_nil))) (da_cons (de_op op_addD od_add (de_var (pv 7)) (de_var (pv 11))) (da_cons (de_var (pv 2)) (da_cons (de_var (pv 6)) (da_cons (de_var (pv 7)) da_nil)))))) (dg_name (pg_name (i := 4) (by exact sc_sum_of.nd) (by rfl) (by first | exact Or.inl rfl | exact Or.inr rfl)))) (dss_one (ds_ret (de_tup (da_cons (de_var (pv 3)) (da_cons (de_var (pv 4)) (da_cons (de_op op_addD od_add (de_var (pv 7)) (de_var (pv 11))) (da_cons (de_callB (call_max2 (by rfl)) cd_max2 (by rfl) (by exact F.f_max) b_max (da_cons (de_var (pv 8)) (da_cons (de_var (pv 2)) da_nil))) da_nil)))))))))))
theorem fn_sum_of (F : Fx K mg) : Fn false P w K mg base 3 (ga K "sum_of") (T_sum_of K) := by
  obtain ⟨fd, D⟩ := F.d_sum_of
  exact dfn (t := t_sum_of K) (dfl := []) D sc_sum_of (D.bindsN fun _ _ _ _ _ _ us hl => match us, hl with | [_, _], _ => rfl) .nil (fun _ _ => .nil) (fun ds Q E h => by rw [List.append_nil]; exact len_sum_of h) (fun cdv A outer s H E B Ed hg hr hM hw => bd_sum_of F cdv A outer s H E B Ed hg hr hw) (fun ds Q Ed h => by rw [List.append_nil]; exact rd_sum_of h)
theorem bd_times (F : Fx K mg) (cdv : Value) (A : Around) (outer : List Env) (s : Shared) (H : Hp) (E : XK) (B : Base) (Ed : Exn → Prop) (hg : false = true → A.guards = some []) (hr : Room 3 (A.deeper (envOfC "times" (defScope st_times) s.heap.objs.size (ga K "times") cdv)))
    (hw : Wish (cxOf (L2.CX P w) P w K mg base N_times "times" (defScope st_times) (ga K "times") cdv A outer s H E) B (fun e _ => Ed e)) : DSs (cxOf (L2.CX P w) P w K mg base N_times "times" (defScope st_times) (ga K "times") cdv A outer s H E) B (defBody st_times) (t_times K Ed) :=
  dss_cons (ds_par3 (by rfl) (by exact sc_times.nd) (by rfl) (by rfl) (by rfl) (by rfl) (by rfl) (by rfl) (de_glob (by exact F.v_EMPTY_profiles) (by rfl)) (de_var (pv 0)) (de_var (pv 1))) (dss_cons (ds_while (passes_of (by rfl)) (dt_cmp op_gt od_int (de_var (pv 4)) de_int (by rfl)) (dss_cons (ds_if (dt_cmp (op_eqDD (by exact hr.units)) od_eq (de_op op_mod od_mod (de_var (pv 4)) de_int) de_int (by rfl)) (dss_one (ds_asg (de_call (by exact fn_sum_of F) (by nofun) (by exact hr.mono (by decide)) (by rfl) (by exact F.g_sum_of) (by exact F.d_sum_of.elim fun _ D => D.kp) (by exact hw) (da_cons (de_var (pv 2)) (da_cons (de_var (pv 3)) da_nil))) (dg_name (pg_name (i := 2) (by exact sc_times.nd) (by rfl) (by first | exact Or.inl rfl | exact Or.inr rfl))))) dss_nil) (dss_one (ds_par2 (by rfl) (by exact sc_times.nd) (by rfl) (by rfl) (by rfl) (by rfl) (de_call (by exact fn_sum_of F) (by nofun) (by exact hr.mono (by decide)) (by rfl) (by exact F.g_sum_of) (by exact F.d_sum_of.elim fun _ D => D.kp) (by exact hw) (da_cons (de_var (pv 3)) (da_cons (de_var (pv 3)) da_nil))) (de_op op_fdivW od_fdiv (de_var (pv 4)) de_int))))) (dss_one (ds_ret (de_var (pv 2)))))
theorem fn_times (F : Fx K mg) : Fn false P w K mg base 4 (ga K "times") (T_times K) := by
  obtain ⟨fd, D⟩ := F.d_times
  exact dfn (t := t_times K) (dfl := []) D sc_times (D.bindsN fun _ _ _ _ _ _ us hl => match us, hl with | [_, _], _ => rfl) .nil (fun _ _ => .nil) (fun ds Q E h => by rw [List.append_nil]; exact len_times h) (fun cdv A outer s H E B Ed hg hr hM hw => bd_times F cdv A outer s H E B Ed hg hr hw) (fun ds Q Ed h => by rw [List.append_nil]; exact rd_times h)
theorem bd_profile_of_step (F : Fx K mg) (cdv : Value) (A : Around) (outer : List Env) (s : Shared) (H : Hp) (E : XK) (B : Base) (Ed : Exn → Prop) (hg : false = true → A.guards = some []) (hr : Room 0 (A.deeper (envOfC "profile_of_step" (defScope st_profile_of_step) s.heap.objs.size (ga K "profile_of_step") cdv)))
    (hw : Wish (cxOf (L2.CX P w) P w K mg base N_profile_of_step "profile_of_step" (defScope st_profile_of_step) (ga K "profile_of_step") cdv A outer s H E) B (fun e _ => Ed e)) : DSs (cxOf (L2.CX P w) P w K mg base N_profile_of_step "profile_of_step" (defScope st_profile_of_step) (ga K "profile_of_step") cdv A outer s H E) B (defBody st_profile_of_step) (t_profile_of_step K Ed) :=
  dss_cons (ds_if (dt_cmp op_lt od_int (de_var (pv 0)) de_int (by rfl)) (dss_one (ds_ret (de_tup (da_cons (de_tup (da_cons (de_tup (da_cons de_int (da_cons (de_var (pv 0)) da_nil))) da_nil)) (da_cons (de_tup da_nil) (da_cons (de_var (pv 0)) (da_cons de_int da_nil))))))) dss_nil) (dss_one (ds_ret (de_if (dt_cmp op_gt od_int (de_var (pv 0)) de_int (by rfl)) (de_tup (da_cons (de_tup da_nil) (da_cons (de_tup (da_cons (de_tup (da_cons (de_var (pv 0)) (da_cons de_int da_nil))) da_nil)) (da_cons (de_var (pv 0)) (da_cons (de_var (pv 0)) da_nil))))) (de_glob (by exact F.v_EMPTY_profiles) (by rfl)))))
theorem fn_profile_of_step (F : Fx K mg) : Fn false P w K mg base 1 (ga K "profile_of_step") (T_profile_of_step K) := by
  obtain ⟨fd, D⟩ := F.d_profile_of_step
  exact dfn (t := t_profile_of_step K) (dfl := []) D sc_profile_of_step (D.bindsN fun _ _ _ _ _ _ us hl => match us, hl with | [_], _ => rfl) .nil (fun _ _ => .nil) (fun ds Q E h => by rw [List.append_nil]; exact len_profile_of_step h) (fun cdv A outer s H E B Ed hg hr hM hw => bd_profile_of_step F cdv A outer s H E B Ed hg hr hw) (fun ds Q Ed h => by rw [List.append_nil]; exact rd_profile_of_step h)
theorem bd_profile_of_parts (F : Fx K mg) (n : Nat) (ih_profile_of_parts : Fn false P w K mg base (4 + n) (ga K "profile_of_parts") (T_profile_of_parts K n)) (cdv : Value) (A : Around) (outer : List Env) (s : Shared) (H : Hp) (E : XK) (B : Base) (Ed : Exn → Prop) (hg : false = true → A.guards = some []) (hr : Room (4 + n) (A.deeper (envOfC "profile_of_parts" (defScope st_profile_of_parts) s.heap.objs.size (ga K "profile_of_parts") cdv)))
    (hw : Wish (cxOf (L2.CX P w) P w K mg base N_profile_of_parts "profile_of_parts" (defScope st_profile_of_parts) (ga K "profile_of_parts") cdv A outer s H E) B (fun e _ => Ed e)) : DSs (cxOf (L2.CX P w) P w K mg base N_profile_of_parts "profile_of_parts" (defScope st_profile_of_parts) (ga K "profile_of_parts") cdv A outer s H E) B (defBody st_profile_of_parts) (t_profile_of_parts K n Ed) :=
  dss_cons (ds_asg (de_glob (by exact F.v_EMPTY_profiles) (by rfl)) (dg_name (pg_name (i := 1) (by exact sc_profile_of_parts.nd) (by rfl) (by first | exact Or.inl rfl | exact Or.inr rfl)))) (dss_cons (ds_for (passes_of (by rfl)) (by rfl) (di_seq (de_var (pv 0))) (dg_name (pg_name (i := 2) (by exact sc_profile_of_parts.nd) (by rfl) (by first | exact Or.inl rfl | exact Or.inr rfl))) (dss_one (ds_if (dt_val (de_callB call_isi cd_isi (by rfl) (by exact F.f_isinstance) b_isinstance (da_cons (de_var (pv 2)) (da_cons (de_ty (by exact F.f_tuple) (by rfl) b_tuple) da_nil)))) (dss_one (ds_asg (de_call (by exact fn_sum_of F) (by nofun) (by exact hr.mono (by omega)) (by rfl) (by exact F.g_sum_of) (by exact F.d_sum_of.elim fun _ D => D.kp) (by exact hw) (da_cons (de_var (pv 1)) (da_cons (de_call (by exact fn_times F) (by nofun) (by exact hr.mono (by omega)) (by rfl) (by exact F.g_times) (by exact F.d_times.elim fun _ D => D.kp) (by exact hw) (da_cons (de_call (by exact ih_profile_of_parts) (by nofun) (by exact hr.mono (by omega)) (by rfl) (by exact F.g_profile_of_parts) (by exact F.d_profile_of_parts.elim fun _ D => D.kp) (by exact hw) (da_cons (de_ix (de_var (pv 2)) de_int) da_nil)) (da_cons (de_ix (de_var (pv 2)) de_int) da_nil))) da_nil))) (dg_name (pg_name (i := 1) (by exact sc_profile_of_parts.nd) (by rfl) (by first | exact Or.inl rfl | exact Or.inr rfl))))) (dss_one (ds_asg (de_call (by exact fn_sum_of F) (by nofun) (by exact hr.mono (by omega)) (by rfl) (by exact F.g_sum_of) (by exact F.d_sum_of.elim fun _ D => D.kp) (by exact hw) (da_cons (de_var (pv 1)) (da_cons (de_call (by exact fn_profile_of_step F) (by nofun) (by exact hr.mono (by omega)) (by rfl) (by exact F.g_profile_of_step) (by exact F.d_profile_of_step.elim fun _ D => D.kp) (by exact hw) (da_cons (de_var (pv 2)) da_nil)) da_nil))) (dg_name (pg_name (i := 1) (by exact sc_profile_of_parts.nd) (by rfl) (by first | exact Or.inl rfl | exact Or.inr rfl)))))))) (dss_one (ds_ret (de_var (pv 1)))))
theorem fng_profile_of_parts (F : Fx K mg) : ∀ n : Nat, Fn false P w K mg base (4 + n) (ga K "profile_of_parts") (T_profile_of_parts K n) := by
  intro n
  induction n with
  | zero => exact fun A outer s H us vs Q E _ _ _ _ h => (by obtain ⟨_, _, _, _, _, _, _, z, _⟩ := h; exact (zero_profile_of_parts z).elim)
  | succ n ih =>
    have ih_profile_of_parts := ih
    exact (by
        obtain ⟨fd, D⟩ := F.d_profile_of_parts
        exact dfn (t := t_profile_of_parts K n) (dfl := []) D sc_profile_of_parts (D.bindsN fun _ _ _ _ _ _ us hl => match us, hl with | [_], _ => rfl) .nil (fun _ _ => .nil) (fun ds Q E h => by rw [List.append_nil]; exact len_profile_of_parts h) (fun cdv A outer s H E B Ed hg hr hM hw => bd_profile_of_parts F n ih_profile_of_parts cdv A outer s H E B Ed hg hr hw) (fun ds Q Ed h => by rw [List.append_nil]; exact rd_profile_of_parts h))
theorem fn_profile_of_parts (F : Fx K mg) (n : Nat) : Fn false P w K mg base (4 + n) (ga K "profile_of_parts") (T_profile_of_parts K n) := (fng_profile_of_parts F n)
theorem bd_profile_of (F : Fx K mg) (cdv : Value) (A : Around) (outer : List Env) (s : Shared) (H : Hp) (E : XK) (B : Base) (Ed : Exn → Prop) (hg : false = true → A.guards = some []) (hr : Room 12 (A.deeper (envOfC "profile_of" (defScope st_profile_of) s.heap.objs.size (ga K "profile_of") cdv)))
    (hw : Wish (cxOf (L2.CX P w) P w K mg base N_profile_of "profile_of" (defScope st_profile_of) (ga K "profile_of") cdv A outer s H E) B (fun e _ => Ed e)) : DSs (cxOf (L2.CX P w) P w K mg base N_profile_of "profile_of" (defScope st_profile_of) (ga K "profile_of") cdv A outer s H E) B (defBody st_profile_of) (t_profile_of K Ed) :=
  dss_cons (ds_asg (de_call (by exact fn_profile_of_parts F 8) (by nofun) (by exact hr.mono (by decide)) (by rfl) (by exact F.g_profile_of_parts) (by exact F.d_profile_of_parts.elim fun _ D => D.kp) (by exact hw) (da_cons (de_meth0 (de_var (pv 0)) (by exact F.c_Script) (by exact F.m_Script_parts) (by exact fn_Script_parts F) (by nofun) (by exact hr.mono (by decide)) (by exact hw)) da_nil)) (dg_name (pg_name (i := 1) (by exact sc_profile_of.nd) (by rfl) (by first | exact Or.inl rfl | exact Or.inr rfl)))) (dss_one (ds_ret (de_makeS (by exact F.mk_Profile) (by exact fn_Profile___init__ F) (by nofun) (by exact hr.mono (by decide)) (by rfl) (by exact F.g_Profile) (by exact hw) (de_var (pv 1)))))
theorem fn_profile_of (F : Fx K mg) : Fn false P w K mg base 13 (ga K "profile_of") (T_profile_of K) := by
  obtain ⟨fd, D⟩ := F.d_profile_of
  exact dfn (t := t_profile_of K) (dfl := []) D sc_profile_of (D.bindsN fun _ _ _ _ _ _ us hl => match us, hl with | [_], _ => rfl) .nil (fun _ _ => .nil) (fun ds Q E h => by rw [List.append_nil]; exact len_profile_of h) (fun cdv A outer s H E B Ed hg hr hM hw => bd_profile_of F cdv A outer s H E B Ed hg hr hw) (fun ds Q Ed h => by rw [List.append_nil]; exact rd_profile_of h)
theorem bd_end_context (F : Fx K mg) (cdv : Value) (A : Around) (outer : List Env) (s : Shared) (H : Hp) (E : XK) (B : Base) (Ed : Exn → Prop) (hg : false = true → A.guards = some []) (hr : Room 13 (A.deeper (envOfC "end_context" (defScope st_end_context) s.heap.objs.size (ga K "end_context") cdv)))
    (hw : Wish (cxOf (L2.CX P w) P w K mg base N_end_context "end_context" (defScope st_end_context) (ga K "end_context") cdv A outer s H E) B (fun e _ => Ed e)) : DSs (cxOf (L2.CX P w) P w K mg base N_end_context "end_context" (defScope st_end_context) (ga K "end_context") cdv A outer s H E) B (defBody st_end_context) (t_end_context K Ed) :=
  dss_one (ds_ret (de_tup (da_cons (de_cmeth (de_glob (con_cls (by exact F.g_Script)) (by rfl)) (by exact F.cm_Script_of) (by exact fn_Script_of F) (by exact hr.mono (by decide)) (da_cons (de_op op_sub od_sub (de_var (pv 1)) (de_var (pv 0))) da_nil)) (da_cons de_int (da_cons (de_var (pv 1)) da_nil)))))
theorem fn_end_context (F : Fx K mg) : Fn false P w K mg base 14 (ga K "end_context") (T_end_context K) := by
  obtain ⟨fd, D⟩ := F.d_end_context
  exact dfn (t := t_end_context K) (dfl := []) D sc_end_context (D.bindsN fun _ _ _ _ _ _ us hl => match us, hl with | [_, _], _ => rfl) .nil (fun _ _ => .nil) (fun ds Q E h => by rw [List.append_nil]; exact len_end_context h) (fun cdv A outer s H E B Ed hg hr hM hw => bd_end_context F cdv A outer s H E B Ed hg hr hw) (fun ds Q Ed h => by rw [List.append_nil]; exact rd_end_context h)
theorem bd_height_context (F : Fx K mg) (cdv : Value) (A : Around) (outer : List Env) (s : Shared) (H : Hp) (E : XK) (B : Base) (Ed : Exn → Prop) (hg : false = true → A.guards = some []) (hr : Room 12 (A.deeper (envOfC "height_context" (defScope st_height_context) s.heap.objs.size (ga K "height_context") cdv)))
    (hw : Wish (cxOf (L2.CX P w) P w K mg base N_height_context "height_context" (defScope st_height_context) (ga K "height_context") cdv A outer s H E) B (fun e _ => Ed e)) : DSs (cxOf (L2.CX P w) P w K mg base N_height_context "height_context" (defScope st_height_context) (ga K "height_context") cdv A outer s H E) B (defBody st_height_context) (t_height_context K Ed) :=
  dss_one (ds_ret (de_tup (da_cons (de_make0 (by exact F.mk_Script) (by exact fn0_Script___init__ F) (by nofun) (by exact hr.mono (by decide)) (by rfl) (by exact F.g_Script) (by exact hw)) (da_cons de_int (da_cons (de_var (pv 0)) da_nil)))))
theorem fn_height_context (F : Fx K mg) : Fn false P w K mg base 13 (ga K "height_context") (T_height_context K) := by
  obtain ⟨fd, D⟩ := F.d_height_context
  exact dfn (t := t_height_context K) (dfl := []) D sc_height_context (D.bindsN fun _ _ _ _ _ _ us hl => match us, hl with | [_], _ => rfl) .nil (fun _ _ => .nil) (fun ds Q E h => by rw [List.append_nil]; exact len_height_context h) (fun cdv A outer s H E B Ed hg hr hM hw => bd_height_context F cdv A outer s H E B Ed hg hr hw) (fun ds Q Ed h => by rw [List.append_nil]; exact rd_height_context h)
theorem bd_descent_context (F : Fx K mg) (cdv : Value) (A : Around) (outer : List Env) (s : Shared) (H : Hp) (E : XK) (B : Base) (Ed : Exn → Prop) (hg : false = true → A.guards = some []) (hr : Room 13 (A.deeper (envOfC "descent_context" (defScope st_descent_context) s.heap.objs.size (ga K "descent_context") cdv)))
    (hw : Wish (cxOf (L2.CX P w) P w K mg base N_descent_context "descent_context" (defScope st_descent_context) (ga K "descent_context") cdv A outer s H E) B (fun e _ => Ed e)) : DSs (cxOf (L2.CX P w) P w K mg base N_descent_context "descent_context" (defScope st_descent_context) (ga K "descent_context") cdv A outer s H E) B (defBody st_descent_context) (t_descent_context K Ed) :=
  dss_cons (ds_asg (de_var (pv 0)) (dg_tup (by rfl) (dgs_cons (dg_name (pg_name (i := 2) (by exact sc_descent_context.nd) (by rfl) (by first | exact Or.inl rfl | exact Or.inr rfl))) (dgs_cons (dg_name (pg_name (i := 3) (by exact sc_descent_context.nd) (by rfl) (by first | exact Or.inl rfl | exact Or.inr rfl))) dgs_nil)))) (dss_one (ds_ret (de_tup (da_cons (de_cmeth (de_glob (con_cls (by exact F.g_Script)) (by rfl)) (by exact F.cm_Script_of) (by exact fn_Script_of F) (by exact hr.mono (by decide)) (da_cons (de_op op_sub od_sub (de_var (pv 2)) (de_var (pv 3))) (da_cons (de_op op_sub od_sub (de_var (pv 3)) (de_var (pv 1))) da_nil))) (da_cons (de_op op_sub od_sub (de_var (pv 1)) (de_var (pv 2))) (da_cons (de_var (pv 1)) da_nil))))))
theorem fn_descent_context (F : Fx K mg) : Fn false P w K mg base 14 (ga K "descent_context") (T_descent_context K) := by
  obtain ⟨fd, D⟩ := F.d_descent_context
  exact dfn (t := t_descent_context K) (dfl := []) D sc_descent_context (D.bindsN fun _ _ _ _ _ _ us hl => match us, hl with | [_, _], _ => rfl) .nil (fun _ _ => .nil) (fun ds Q E h => by rw [List.append_nil]; exact len_descent_context h) (fun cdv A outer s H E B Ed hg hr hM hw => bd_descent_context F cdv A outer s H E B Ed hg hr hw) (fun ds Q Ed h => by rw [List.append_nil]; exact rd_descent_context h)
theorem bd_ascent_context (F : Fx K mg) (cdv : Value) (A : Around) (outer : List Env) (s : Shared) (H : Hp) (E : XK) (B : Base) (Ed : Exn → Prop) (hg : false = true → A.guards = some []) (hr : Room 13 (A.deeper (envOfC "ascent_context" (defScope st_ascent_context) s.heap.objs.size (ga K "ascent_context") cdv)))
    (hw : Wish (cxOf (L2.CX P w) P w K mg base N_ascent_context "ascent_context" (defScope st_ascent_context) (ga K "ascent_context") cdv A outer s H E) B (fun e _ => Ed e)) : DSs (cxOf (L2.CX P w) P w K mg base N_ascent_context "ascent_context" (defScope st_ascent_context) (ga K "ascent_context") cdv A outer s H E) B (defBody st_ascent_context) (t_ascent_context K Ed) :=
  dss_cons (ds_asg (de_var (pv 0)) (dg_tup (by rfl) (dgs_cons (dg_name (pg_name (i := 2) (by exact sc_ascent_context.nd) (by rfl) (by first | exact Or.inl rfl | exact Or.inr rfl))) (dgs_cons (dg_name (pg_name (i := 3) (by exact sc_ascent_context.nd) (by rfl) (by first | exact Or.inl rfl | exact Or.inr rfl))) dgs_nil)))) (dss_one (ds_ret (de_tup (da_cons (de_cmeth (de_glob (con_cls (by exact F.g_Script)) (by rfl)) (by exact F.cm_Script_of) (by exact fn_Script_of F) (by exact hr.mono (by decide)) (da_cons (de_op op_sub od_sub (de_var (pv 1)) (de_var (pv 3))) (da_cons (de_op op_sub od_sub (de_var (pv 3)) (de_var (pv 2))) da_nil))) (da_cons de_int (da_cons (de_var (pv 1)) da_nil))))))
theorem fn_ascent_context (F : Fx K mg) : Fn false P w K mg base 14 (ga K "ascent_context") (T_ascent_context K) := by
  obtain ⟨fd, D⟩ := F.d_ascent_context
  exact dfn (t := t_ascent_context K) (dfl := []) D sc_ascent_context (D.bindsN fun _ _ _ _ _ _ us hl => match us, hl with | [_, _], _ => rfl) .nil (fun _ _ => .nil) (fun ds Q E h => by rw [List.append_nil]; exact len_ascent_context h) (fun cdv A outer s H E B Ed hg hr hM hw => bd_ascent_context F cdv A outer s H E B Ed hg hr hw) (fun ds Q Ed h => by rw [List.append_nil]; exact rd_ascent_context h)
theorem bd_worse_contexts (F : Fx K mg) (cdv : Value) (A : Around) (outer : List Env) (s : Shared) (H : Hp) (E : XK) (B : Base) (Ed : Exn → Prop) (hg : false = true → A.guards = some []) (hr : Room 14 (A.deeper (envOfC "worse_contexts" (defScope st_worse_contexts) s.heap.objs.size (ga K "worse_contexts") cdv)))
    (hw : Wish (cxOf (L2.CX P w) P w K mg base N_worse_contexts "worse_contexts" (defScope st_worse_contexts) (ga K "worse_contexts") cdv A outer s H E) B (fun e _ => Ed e)) : DSs (cxOf (L2.CX P w) P w K mg base N_worse_contexts "worse_contexts" (defScope st_worse_contexts) (ga K "worse_contexts") cdv A outer s H E) B (defBody st_worse_contexts) (t_worse_contexts K Ed) :=
  dss_cons (ds_parOT (by rfl) (pg_name (i := 2) (by exact sc_worse_contexts.nd) (by rfl) (by first | exact Or.inl rfl | exact Or.inr rfl)) (pg_name (i := 3) (by exact sc_worse_contexts.nd) (by rfl) (by first | exact Or.inl rfl | exact Or.inr rfl)) (df_lst da_nil) (de_prop (de_var (pv 1)) (by exact F.c_Profile) (by exact F.p_Profile_height) (by exact fn_Profile_height F) (by exact hr.mono (by decide)))) (dss_cons (ds_if (dt_cmp op_gt od_int (de_prop (de_var (pv 0)) (by exact F.c_Profile) (by exact F.p_Profile_end) (by exact fn_Profile_end F) (by exact hr.mono (by decide))) (de_prop (de_var (pv 1)) (by exact F.c_Profile) (by exact F.p_Profile_end) (by exact fn_Profile_end F) (by exact hr.mono (by decide))) (by rfl)) (dss_one (ds_ret (de_lst (da_cons (de_call (by exact fn_end_context F) (by nofun) (by exact hr.mono (by decide)) (by rfl) (by exact F.g_end_context) (by exact F.d_end_context.elim fun _ D => D.kp) (by exact hw) (da_cons (de_prop (de_var (pv 1)) (by exact F.c_Profile) (by exact F.p_Profile_end) (by exact fn_Profile_end F) (by exact hr.mono (by decide))) (da_cons (de_var (pv 3)) da_nil))) da_nil)))) dss_nil) (dss_cons (ds_if (dt_cmp op_gt od_int (de_prop (de_var (pv 0)) (by exact F.c_Profile) (by exact F.p_Profile_height) (by exact fn_Profile_height F) (by exact hr.mono (by decide))) (de_var (pv 3)) (by rfl)) (dss_one (ds_app (pv 2) (de_call (by exact fn_height_context F) (by nofun) (by exact hr.mono (by decide)) (by rfl) (by exact F.g_height_context) (by exact F.d_height_context.elim fun _ D => D.kp) (by exact hw) (da_cons (de_var (pv 3)) da_nil)))) dss_nil) (dss_cons (ds_ext (pv 2) (de_stay (df_lc (own := [("row", 4)]) (by rfl) (by exact sc_worse_contexts.nd) (di_seq (de_meth0 (de_var (pv 1)) (by exact F.c_Profile) (by exact F.m_Profile_descent) (by exact fn_Profile_descent F) (by nofun) (by exact hr.mono (by decide)) (by exact hw))) (by exact blkOk_by (own := [("row", 4)]) (N := N_worse_contexts) (sc := defScope st_worse_contexts) (by decide +kernel)) (fun _ _ _ _ _ => (dg_name (pg_name (i := 4) (by exact sc_worse_contexts.nd) (by rfl) (by first | exact Or.inl rfl | exact Or.inr rfl)))) (fun _ _ _ _ _ => dts_one (dt_cmp op_gt od_int (de_callO (de_var (pv 0)) (by exact F.co_Profile) (by exact fn_Profile___call__ F) (by exact hr.mono (by decide)) (da_cons (de_ix (de_var (pv 4)) de_int) da_nil)) (de_ix (de_var (pv 4)) de_int) (by rfl))) (fun _ _ _ _ _ => de_call (by exact fn_descent_context F) (by nofun) (by exact hr.mono (by decide)) (by rfl) (by exact F.g_descent_context) (by exact F.d_descent_context.elim fun _ D => D.kp) wish_no (da_cons (de_var (pv 4)) (da_cons (de_var (pv 3)) da_nil))) (by decide)))) (dss_cons (ds_ext (pv 2) (de_stay (df_lc (own := [("row", 4)]) (by rfl) (by exact sc_worse_contexts.nd) (di_seq (de_meth0 (de_var (pv 1)) (by exact F.c_Profile) (by exact F.m_Profile_ascent) (by exact fn_Profile_ascent F) (by nofun) (by exact hr.mono (by decide)) (by exact hw))) (by exact blkOk_by (own := [("row", 4)]) (N := N_worse_contexts) (sc := defScope st_worse_contexts) (by decide +kernel)) (fun _ _ _ _ _ => (dg_name (pg_name (i := 4) (by exact sc_worse_contexts.nd) (by rfl) (by first | exact Or.inl rfl | exact Or.inr rfl)))) (fun _ _ _ _ _ => dts_one (dt_cmp op_gt od_int (de_meth (de_var (pv 0)) (by exact F.c_Profile) (by exact F.m_Profile_back) (by exact fn_Profile_back F) (by nofun) (by exact hr.mono (by decide)) wish_no (da_cons (de_ix (de_var (pv 4)) de_int) da_nil)) (de_ix (de_var (pv 4)) de_int) (by rfl))) (fun _ _ _ _ _ => de_call (by exact fn_ascent_context F) (by nofun) (by exact hr.mono (by decide)) (by rfl) (by exact F.g_ascent_context) (by exact F.d_ascent_context.elim fun _ D => D.kp) wish_no (da_cons (de_var (pv 4)) (da_cons (de_var (pv 3)) da_nil))) (by decide)))) (dss_one (ds_ret (de_var (pv 2))))))))
theorem fn_worse_contexts (F : Fx K mg) : Fn false P w K mg base 15 (ga K "worse_contexts") (T_worse_contexts K) := by
  obtain ⟨fd, D⟩ := F.d_worse_contexts
  exact dfn (t := t_worse_contexts K) (dfl := []) D sc_worse_contexts (D.bindsN fun _ _ _ _ _ _ us hl => match us, hl with | [_, _], _ => rfl) .nil (fun _ _ => .nil) (fun ds Q E h => by rw [List.append_nil]; exact len_worse_contexts h) (fun cdv A outer s H E B Ed hg hr hM hw => bd_worse_contexts F cdv A outer s H E B Ed hg hr hw) (fun ds Q Ed h => by rw [List.append_nil]; exact rd_worse_contexts h)
theorem bd_worse_context (F : Fx K mg) (cdv : Value) (A : Around) (outer : List Env) (s : Shared) (H : Hp) (E : XK) (B : Base) (Ed : Exn → Prop) (hg : false = true → A.guards = some []) (hr : Room 15 (A.deeper (envOfC "worse_context" (defScope st_worse_context) s.heap.objs.size (ga K "worse_context") cdv)))
    (hw : Wish (cxOf (L2.CX P w) P w K mg base N_worse_context "worse_context" (defScope st_worse_context) (ga K "worse_context") cdv A outer s H E) B (fun e _ => Ed e)) : DSs (cxOf (L2.CX P w) P w K mg base N_worse_context "worse_context" (defScope st_worse_context) (ga K "worse_context") cdv A outer s H E) B (defBody st_worse_context) (t_worse_context K Ed) :=
  dss_cons (ds_asg (de_call (by exact fn_worse_contexts F) (by nofun) (by exact hr.mono (by decide)) (by rfl) (by exact F.g_worse_contexts) (by exact F.d_worse_contexts.elim fun _ D => D.kp) (by exact hw) (da_cons (de_var (pv 0)) (da_cons (de_var (pv 1)) da_nil))) (dg_name (pg_name (i := 2) (by exact sc_worse_context.nd) (by rfl) (by first | exact Or.inl rfl | exact Or.inr rfl)))) (dss_one (ds_ret (de_if (dt_cmp op_gt od_int (de_callB call_len cd_len (by rfl) (by exact F.f_len) b_len (da_cons (de_var (pv 2)) da_nil)) de_int (by rfl)) (de_ix (de_var (pv 2)) de_int) de_non)))
theorem fn_worse_context (F : Fx K mg) : Fn false P w K mg base 16 (ga K "worse_context") (T_worse_context K) := by
  obtain ⟨fd, D⟩ := F.d_worse_context
  exact dfn (t := t_worse_context K) (dfl := []) D sc_worse_context (D.bindsN fun _ _ _ _ _ _ us hl => match us, hl with | [_, _], _ => rfl) .nil (fun _ _ => .nil) (fun ds Q E h => by rw [List.append_nil]; exact len_worse_context h) (fun cdv A outer s H E B Ed hg hr hM hw => bd_worse_context F cdv A outer s H E B Ed hg hr hw) (fun ds Q Ed h => by rw [List.append_nil]; exact rd_worse_context h)
theorem bd_are_exchangeable (F : Fx K mg) (cdv : Value) (A : Around) (outer : List Env) (s : Shared) (H : Hp) (E : XK) (B : Base) (Ed : Exn → Prop) (hg : false = true → A.guards = some []) (hr : Room 13 (A.deeper (envOfC "are_exchangeable" (defScope st_are_exchangeable) s.heap.objs.size (ga K "are_exchangeable") cdv)))
    (hw : Wish (cxOf (L2.CX P w) P w K mg base N_are_exchangeable "are_exchangeable" (defScope st_are_exchangeable) (ga K "are_exchangeable") cdv A outer s H E) B (fun e _ => Ed e)) : DSs (cxOf (L2.CX P w) P w K mg base N_are_exchangeable "are_exchangeable" (defScope st_are_exchangeable) (ga K "are_exchangeable") cdv A outer s H E) B (defBody st_are_exchangeable) (t_are_exchangeable K Ed) :=
  dss_one (ds_ret (de_cmp (op_eqO (by exact F.eq_Profile) (by exact fn_Profile___eq__ F) (by exact hr.mono (by decide))) od_eqO (de_call (by exact fn_profile_of F) (by nofun) (by exact hr.mono (by decide)) (by rfl) (by exact F.g_profile_of) (by exact F.d_profile_of.elim fun _ D => D.kp) (by exact hw) (da_cons (de_var (pv 0)) da_nil)) (de_call (by exact fn_profile_of F) (by nofun) (by exact hr.mono (by decide)) (by rfl) (by exact F.g_profile_of) (by exact F.d_profile_of.elim fun _ D => D.kp) (by exact hw) (da_cons (de_var (pv 1)) da_nil)) (by rfl)))
theorem fn_are_exchangeable (F : Fx K mg) : Fn false P w K mg base 14 (ga K "are_exchangeable") (T_are_exchangeable K) := by
  obtain ⟨fd, D⟩ := F.d_are_exchangeable
  exact dfn (t := t_are_exchangeable K) (dfl := []) D sc_are_exchangeable (D.bindsN fun _ _ _ _ _ _ us hl => match us, hl with | [_, _], _ => rfl) .nil (fun _ _ => .nil) (fun ds Q E h => by rw [List.append_nil]; exact len_are_exchangeable h) (fun cdv A outer s H E B Ed hg hr hM hw => bd_are_exchangeable F cdv A outer s H E B Ed hg hr hw) (fun ds Q Ed h => by rw [List.append_nil]; exact rd_are_exchangeable h)
theorem bd__law_pot (F : Fx K mg) (cdv : Value) (A : Around) (outer : List Env) (s : Shared) (H : Hp) (E : XK) (B : Base) (Ed : Exn → Prop) (hg : false = true → A.guards = some []) (hr : Room 0 (A.deeper (envOfC "_law_pot" (defScope st__law_pot) s.heap.objs.size (ga K "_law_pot") cdv)))
    (hw : Wish (cxOf (L2.CX P w) P w K mg base N__law_pot "_law_pot" (defScope st__law_pot) (ga K "_law_pot") cdv A outer s H E) B (fun e _ => Ed e)) : DSs (cxOf (L2.CX P w) P w K mg base N__law_pot "_law_pot" (defScope st__law_pot) (ga K "_law_pot") cdv A outer s H E) B (defBody st__law_pot) (t__law_pot K Ed) :=
  dss_cons (ds_asg (de_if (dt_cmp op_lt od_int (de_var (pv 1)) (de_callB call_len cd_len (by rfl) (by exact F.f_len) b_len (da_cons (de_var (pv 0)) da_nil)) (by rfl)) (de_callB call_abs cd_abs (by rfl) (by exact F.f_abs) b_abs (da_cons (de_ix (de_var (pv 0)) (de_var (pv 1))) da_nil)) de_int) (dg_name (pg_name (i := 2) (by exact sc__law_pot.nd) (by rfl) (by first | exact Or.inl rfl | exact Or.inr rfl)))) (dss_one (ds_retPot (df_lst (da_cons (de_callB (call_max2 (by rfl)) cd_max2 (by rfl) (by exact F.f_max) b_max (da_cons de_int (da_cons (de_op op_sub od_sub (de_var (pv 2)) (de_op op_pow od_pow de_int de_int)) da_nil))) (da_cons (de_op op_mod od_mod (de_op op_addD od_add (de_op op_addD od_add (de_op op_mulD od_mul (de_op op_mod od_mod (de_var (pv 2)) de_int) de_int) (de_op op_mulD od_mul de_int (de_var (pv 1)))) de_int) de_int) da_nil)))))
theorem fn__law_pot (F : Fx K mg) : Fn false P w K mg base 1 (ga K "_law_pot") (T__law_pot K) := by
  obtain ⟨fd, D⟩ := F.d__law_pot
  exact dfn (t := t__law_pot K) (dfl := []) D sc__law_pot (D.bindsN fun _ _ _ _ _ _ us hl => match us, hl with | [_, _], _ => rfl) .nil (fun _ _ => .nil) (fun ds Q E h => by rw [List.append_nil]; exact len__law_pot h) (fun cdv A outer s H E B Ed hg hr hM hw => bd__law_pot F cdv A outer s H E B Ed hg hr hw) (fun ds Q Ed h => by rw [List.append_nil]; exact rd__law_pot h)
theorem fn__law_draw (F : Fx K mg) : Fn false P w K mg base 1 (ga K "_law_draw") (T__law_draw K) := by
  obtain ⟨fd, D⟩ := F.d__law_draw
  refine FnP.of_ok (D.ok sc__law_draw (fun vs H Q E ⟨_, _, ds, _, _, _, rl, ⟨⟨_, e, _⟩⟩, _⟩ => by rw [rl.length, e]; rfl) fun cdv A outer s H vs Q E hr h => ⟨tDraw K, ?_, rd_draw rfl vs H Q E h⟩) (D.bindsN fun _ _ _ _ _ _ us hl => match us, hl with | [_, _], _ => rfl)
  exact pss_cons (ps_if (pt_cmp (pc_gt (pe_ix ix_seq (pv 0) pe_int fun _ _ => rfl) pe_int)) (pss_cons (ps_asg (pe_callB call_divmodW rfl F.f_divmod b_divmod (pa_cons (pe_ix ix_seq (pv 0) pe_int fun _ _ => rfl) (pa_cons (pv 1) pa_nil))) (pg_tup rfl (pgs_cons (pg_sub (pv 0) pe_int set_list) (pgs_cons (pg_name (i := 2) sc__law_draw.nd rfl (Or.inl rfl)) pgs_nil)))) (pss_one (ps_ret (pv 2)))) pss_nil)
    (pss_cons (ps_asg (pe_op op_mod (pe_op op_add (pe_op op_mulX (pe_ix ix_seq (pv 0) pe_int fun _ _ => rfl) pe_int) pe_int) pe_int) (pg_sub (pv 0) pe_int set_list))
      (pss_one (ps_ret (pe_op op_mod (pe_op op_fdivW (pe_op op_mod (pe_op op_mulX (pe_ix ix_seq (pv 0) pe_int fun _ _ => rfl) (pe_ix ix_seq (pv 0) pe_int fun _ _ => rfl)) pe_int) pe_int) (pv 1)))))
theorem bd__law_mixed (F : Fx K mg) (cdv : Value) (A : Around) (outer : List Env) (s : Shared) (H : Hp) (E : XK) (B : Base) (Ed : Exn → Prop) (hg : false = true → A.guards = some []) (hr : Room 1 (A.deeper (envOfC "_law_mixed" (defScope st__law_mixed) s.heap.objs.size (ga K "_law_mixed") cdv)))
    (hw : Wish (cxOf (L2.CX P w) P w K mg base N__law_mixed "_law_mixed" (defScope st__law_mixed) (ga K "_law_mixed") cdv A outer s H E) B (fun e _ => Ed e)) : DSs (cxOf (L2.CX P w) P w K mg base N__law_mixed "_law_mixed" (defScope st__law_mixed) (ga K "_law_mixed") cdv A outer s H E) B (defBody st__law_mixed) (t__law_mixed K Ed) :=
  dss_cons (ds_asgO (df_listOf (by rfl) (by exact F.f_list) b_list (da_cons (de_var (pv 1)) da_nil)) (pg_name (i := 2) (by exact sc__law_mixed.nd) (by rfl) (by first | exact Or.inl rfl | exact Or.inr rfl))) (dss_one (ds_retPops (own := [("_law_k", 3)]) (by rfl) (by exact sc__law_mixed.nd) (by decide) (di_range1 (by rfl) (by exact F.f_range) (da_cons (de_callB call_len cd_len (by rfl) (by exact F.f_len) b_len (da_cons (de_var (pv 1)) da_nil)) da_nil)) (by exact blkOk_by (own := [("_law_k", 3)]) (N := N__law_mixed) (sc := defScope st__law_mixed) (by decide +kernel)) (by rfl) (fun _ _ _ _ _ => pg_name (i := 3) (by exact sc__law_mixed.nd) (by rfl) (by first | exact Or.inl rfl | exact Or.inr rfl)) (fun _ _ _ _ _ => pv 2) (fun _ _ _ _ _ => de_call (by exact fn__law_draw F) (by nofun) (by exact hr.mono (by decide)) (by rfl) (by exact F.g__law_draw) (by exact F.d__law_draw.elim fun _ D => D.kp) wish_no (da_cons (de_var (pv 0)) (da_cons (de_callB call_len cd_len (by rfl) (by exact F.f_len) b_len (da_cons (de_var (pv 2)) da_nil)) da_nil))) (by intros; rfl) (by intros; rfl) (by intros; rfl) (by rfl) (by intros; rfl) (by intros; rfl)))
theorem fn__law_mixed (F : Fx K mg) : Fn false P w K mg base 2 (ga K "_law_mixed") (T__law_mixed K) := by
  obtain ⟨fd, D⟩ := F.d__law_mixed
  exact dfn (t := t__law_mixed K) (dfl := []) D sc__law_mixed (D.bindsN fun _ _ _ _ _ _ us hl => match us, hl with | [_, _], _ => rfl) .nil (fun _ _ => .nil) (fun ds Q E h => by rw [List.append_nil]; exact len__law_mixed h) (fun cdv A outer s H E B Ed hg hr hM hw => bd__law_mixed F cdv A outer s H E B Ed hg hr hw) (fun ds Q Ed h => by rw [List.append_nil]; exact rd__law_mixed h)
theorem bd__law_step (F : Fx K mg) (cdv : Value) (A : Around) (outer : List Env) (s : Shared) (H : Hp) (E : XK) (B : Base) (Ed : Exn → Prop) (hg : false = true → A.guards = some []) (hr : Room 1 (A.deeper (envOfC "_law_step" (defScope st__law_step) s.heap.objs.size (ga K "_law_step") cdv)))
    (hw : Wish (cxOf (L2.CX P w) P w K mg base N__law_step "_law_step" (defScope st__law_step) (ga K "_law_step") cdv A outer s H E) B (fun e _ => Ed e)) : DSs (cxOf (L2.CX P w) P w K mg base N__law_step "_law_step" (defScope st__law_step) (ga K "_law_step") cdv A outer s H E) B (defBody st__law_step) (t__law_step K Ed) :=
  dss_cons (ds_asg (de_call (by exact fn__law_draw F) (by nofun) (by exact hr.mono (by decide)) (by rfl) (by exact F.g__law_draw) (by exact F.d__law_draw.elim fun _ D => D.kp) (by exact hw) (da_cons (de_var (pv 0)) (da_cons de_int da_nil))) (dg_name (pg_name (i := 1) (by exact sc__law_step.nd) (by rfl) (by first | exact Or.inl rfl | exact Or.inr rfl)))) (dss_cons (ds_if (dt_cmp op_lt od_int (de_var (pv 1)) de_int (by rfl)) (dss_one (ds_ret (de_ix (de_lst (da_cons de_int (da_cons de_int (da_cons de_int (da_cons (de_neg de_int) (da_cons (de_neg de_int) (da_cons de_int (da_cons (de_neg de_int) (da_cons de_int (da_cons (de_neg de_int) (da_cons de_int (da_cons (de_neg de_int) (da_cons de_int (da_cons (de_neg de_int) (da_cons (de_neg de_int) da_nil))))))))))))))) (de_var (pv 1))))) dss_nil) (dss_cons (ds_asg (de_lst (da_cons (de_op op_sub od_sub (de_call (by exact fn__law_draw F) (by nofun) (by exact hr.mono (by decide)) (by rfl) (by exact F.g__law_draw) (by exact F.d__law_draw.elim fun _ D => D.kp) (by exact hw) (da_cons (de_var (pv 0)) (da_cons de_int da_nil))) de_int) (da_cons (de_op op_addD od_add (de_op op_pow od_pow de_int de_int) (de_call (by exact fn__law_draw F) (by nofun) (by exact hr.mono (by decide)) (by rfl) (by exact F.g__law_draw) (by exact F.d__law_draw.elim fun _ D => D.kp) (by exact hw) (da_cons (de_var (pv 0)) (da_cons de_int da_nil)))) da_nil))) (dg_name (pg_name (i := 2) (by exact sc__law_step.nd) (by rfl) (by first | exact Or.inl rfl | exact Or.inr rfl)))) (dss_one (ds_ret (de_op op_mulD od_mul (de_ix (de_var (pv 2)) (de_op op_sub od_sub (de_var (pv 1)) de_int)) (de_ix (de_lst (da_cons de_int (da_cons (de_neg de_int) da_nil))) (de_call (by exact fn__law_draw F) (by nofun) (by exact hr.mono (by decide)) (by rfl) (by exact F.g__law_draw) (by exact F.d__law_draw.elim fun _ D => D.kp) (by exact hw) (da_cons (de_var (pv 0)) (da_cons de_int da_nil)))))))))
theorem fn__law_step (F : Fx K mg) : Fn false P w K mg base 2 (ga K "_law_step") (T__law_step K) := by
  obtain ⟨fd, D⟩ := F.d__law_step
  exact dfn (t := t__law_step K) (dfl := []) D sc__law_step (D.bindsN fun _ _ _ _ _ _ us hl => match us, hl with | [_], _ => rfl) .nil (fun _ _ => .nil) (fun ds Q E h => by rw [List.append_nil]; exact len__law_step h) (fun cdv A outer s H E B Ed hg hr hM hw => bd__law_step F cdv A outer s H E B Ed hg hr hw) (fun ds Q Ed h => by rw [List.append_nil]; exact rd__law_step h)
theorem bd__law_unrolled (F : Fx K mg) (n : Nat) (ih__law_unrolled : Fn false P w K mg base (0 + n) (ga K "_law_unrolled") (T__law_unrolled K n)) (cdv : Value) (A : Around) (outer : List Env) (s : Shared) (H : Hp) (E : XK) (B : Base) (Ed : Exn → Prop) (hg : false = true → A.guards = some []) (hr : Room (0 + n) (A.deeper (envOfC "_law_unrolled" (defScope st__law_unrolled) s.heap.objs.size (ga K "_law_unrolled") cdv)))
    (hw : Wish (cxOf (L2.CX P w) P w K mg base N__law_unrolled "_law_unrolled" (defScope st__law_unrolled) (ga K "_law_unrolled") cdv A outer s H E) B (fun e _ => Ed e)) : DSs (cxOf (L2.CX P w) P w K mg base N__law_unrolled "_law_unrolled" (defScope st__law_unrolled) (ga K "_law_unrolled") cdv A outer s H E) B (defBody st__law_unrolled) (t__law_unrolled K n Ed) :=
  dss_cons (ds_asg (de_lst da_nil) (dg_name (pg_name (i := 1) (by exact sc__law_unrolled.nd) (by rfl) (by first | exact Or.inl rfl | exact Or.inr rfl)))) (dss_cons (ds_for (passes_of (by rfl)) (by rfl) (di_seq (de_var (pv 0))) (dg_name (pg_name (i := 2) (by exact sc__law_unrolled.nd) (by rfl) (by first | exact Or.inl rfl | exact Or.inr rfl))) (dss_one (ds_asg (de_op op_addD od_add (de_var (pv 1)) (de_if (dt_val (de_callB call_isi cd_isi (by rfl) (by exact F.f_isinstance) b_isinstance (da_cons (de_var (pv 2)) (da_cons (de_ty (by exact F.f_tuple) (by rfl) b_tuple) da_nil)))) (de_op op_mulD od_mul (de_call (by exact ih__law_unrolled) (by nofun) (by exact hr.mono (by omega)) (by rfl) (by exact F.g__law_unrolled) (by exact F.d__law_unrolled.elim fun _ D => D.kp) (by exact hw) (da_cons (de_ix (de_var (pv 2)) de_int) da_nil)) (de_ix (de_var (pv 2)) de_int)) (de_lst (da_cons (de_var (pv 2)) da_nil)))) (dg_name (pg_name (i := 1) (by exact sc__law_unrolled.nd) (by rfl) (by first | exact Or.inl rfl | exact Or.inr rfl)))))) (dss_one (ds_ret (de_var (pv 1)))))
theorem fng__law_unrolled (F : Fx K mg) : ∀ n : Nat, Fn false P w K mg base (0 + n) (ga K "_law_unrolled") (T__law_unrolled K n) := by
  intro n
  induction n with
  | zero => exact fun A outer s H us vs Q E _ _ _ _ h => (by obtain ⟨_, _, _, _, _, _, _, z, _⟩ := h; exact (zero__law_unrolled z).elim)
  | succ n ih =>
    have ih__law_unrolled := ih
    exact (by
        obtain ⟨fd, D⟩ := F.d__law_unrolled
        exact dfn (t := t__law_unrolled K n) (dfl := []) D sc__law_unrolled (D.bindsN fun _ _ _ _ _ _ us hl => match us, hl with | [_], _ => rfl) .nil (fun _ _ => .nil) (fun ds Q E h => by rw [List.append_nil]; exact len__law_unrolled h) (fun cdv A outer s H E B Ed hg hr hM hw => bd__law_unrolled F n ih__law_unrolled cdv A outer s H E B Ed hg hr hw) (fun ds Q Ed h => by rw [List.append_nil]; exact rd__law_unrolled h))
theorem fn__law_unrolled (F : Fx K mg) (n : Nat) : Fn false P w K mg base (0 + n) (ga K "_law_unrolled") (T__law_unrolled K n) := (fng__law_unrolled F n)
theorem bd__law_elements (F : Fx K mg) (n : Nat) (ih__law_elements : Fn false P w K mg base (7 + n) (ga K "_law_elements") (T__law_elements K n)) (cdv : Value) (A : Around) (outer : List Env) (s : Shared) (H : Hp) (E : XK) (B : Base) (Ed : Exn → Prop) (hg : false = true → A.guards = some []) (hr : Room (7 + n) (A.deeper (envOfC "_law_elements" (defScope st__law_elements) s.heap.objs.size (ga K "_law_elements") cdv)))
    (hw : Wish (cxOf (L2.CX P w) P w K mg base N__law_elements "_law_elements" (defScope st__law_elements) (ga K "_law_elements") cdv A outer s H E) B (fun e _ => Ed e)) : DSs (cxOf (L2.CX P w) P w K mg base N__law_elements "_law_elements" (defScope st__law_elements) (ga K "_law_elements") cdv A outer s H E) B (defBody st__law_elements) (t__law_elements K n Ed) :=
  dss_cons (ds_parO (by rfl) (by exact sc__law_elements.nd) (by rfl) (by rfl) (by rfl) (by rfl) (df_lst da_nil) (de_var (pv 1))) (dss_cons (ds_for (passes_of (by rfl)) (by rfl) (di_range1 (by rfl) (by exact F.f_range) (da_cons (de_call (by exact fn__law_draw F) (by nofun) (by exact hr.mono (by omega)) (by rfl) (by exact F.g__law_draw) (by exact F.d__law_draw.elim fun _ D => D.kp) (by exact hw) (da_cons (de_var (pv 0)) (da_cons (de_op op_addD od_add (de_var (pv 1)) de_int) da_nil))) da_nil)) (dg_name (pg_name (i := 3) (by exact sc__law_elements.nd) (by rfl) (by first | exact Or.inl rfl | exact Or.inr rfl))) (dss_one (ds_if (dt_w (dw_and (dt_cmp op_gt od_int (de_var (pv 2)) de_int (by rfl)) (dw_and (dt_cmp op_gt od_int (de_var (pv 5)) de_int (by rfl)) (dw_and1 (dt_cmp (op_eqDD (by exact hr.units)) od_eq (de_call (by exact fn__law_draw F) (by nofun) (by exact hr.mono (by omega)) (by rfl) (by exact F.g__law_draw) (by exact F.d__law_draw.elim fun _ D => D.kp) (by exact hw) (da_cons (de_var (pv 0)) (da_cons de_int da_nil))) de_int (by rfl)))))) (dss_cons (ds_asg (de_call (by exact ih__law_elements) (by nofun) (by exact hr.mono (by omega)) (by rfl) (by exact F.g__law_elements) (by exact F.d__law_elements.elim fun _ D => D.kp) (by exact hw) (da_cons (de_var (pv 0)) (da_cons (de_callB (call_min2 (by rfl)) cd_min2 (by rfl) (by exact F.f_min) b_min (da_cons (de_var (pv 5)) (da_cons de_int da_nil))) (da_cons (de_op op_sub od_sub (de_var (pv 2)) de_int) da_nil)))) (dg_name (pg_name (i := 6) (by exact sc__law_elements.nd) (by rfl) (by first | exact Or.inl rfl | exact Or.inr rfl)))) (dss_cons (ds_asg (de_call (by exact fn__law_draw F) (by nofun) (by exact hr.mono (by omega)) (by rfl) (by exact F.g__law_draw) (by exact F.d__law_draw.elim fun _ D => D.kp) (by exact hw) (da_cons (de_var (pv 0)) (da_cons de_int da_nil))) (dg_name (pg_name (i := 7) (by exact sc__law_elements.nd) (by rfl) (by first | exact Or.inl rfl | exact Or.inr rfl)))) (dss_cons (ds_asg (de_tup (da_cons (de_var (pv 7)) (da_cons (de_var (pv 6)) da_nil))) (dg_name (pg_name (i := 8) (by exact sc__law_elements.nd) (by rfl) (by first | exact Or.inl rfl | exact Or.inr rfl)))) (dss_one (ds_if (dt_cmp op_le od_int (de_op op_mulD od_mul (de_var (pv 7)) (de_callB call_len cd_len (by rfl) (by exact F.f_len) b_len (da_cons (de_call (by exact fn__law_unrolled F 7) (by nofun) (by exact hr.mono (by omega)) (by rfl) (by exact F.g__law_unrolled) (by exact F.d__law_unrolled.elim fun _ D => D.kp) (by exact hw) (da_cons (de_var (pv 6)) da_nil)) da_nil))) (de_var (pv 5)) (by rfl)) (dss_cons (ds_app (pv 4) (de_var (pv 8))) (dss_one (ds_asg (de_op op_sub od_sub (de_var (pv 5)) (de_op op_mulD od_mul (de_var (pv 7)) (de_callB call_len cd_len (by rfl) (by exact F.f_len) b_len (da_cons (de_call (by exact fn__law_unrolled F 7) (by nofun) (by exact hr.mono (by omega)) (by rfl) (by exact F.g__law_unrolled) (by exact F.d__law_unrolled.elim fun _ D => D.kp) (by exact hw) (da_cons (de_var (pv 6)) da_nil)) da_nil)))) (dg_name (pg_name (i := 5) (by exact sc__law_elements.nd) (by rfl) (by first | exact Or.inl rfl | exact Or.inr rfl)))))) dss_nil))))) (dss_one (ds_if (dt_cmp op_gt od_int (de_var (pv 5)) de_int (by rfl)) (dss_cons (ds_app (pv 4) (de_call (by exact fn__law_step F) (by nofun) (by exact hr.mono (by omega)) (by rfl) (by exact F.g__law_step) (by exact F.d__law_step.elim fun _ D => D.kp) (by exact hw) (da_cons (de_var (pv 0)) da_nil))) (dss_one (ds_asg (de_op op_sub od_sub (de_var (pv 5)) de_int) (dg_name (pg_name (i := 5) (by exact sc__law_elements.nd) (by rfl) (by first | exact Or.inl rfl | exact Or.inr rfl)))))) dss_nil))))) (dss_one (ds_ret (de_callT call_tuple_of cd_tuple (by rfl) (by exact F.f_tuple) b_tuple (da_cons (de_var (pv 4)) da_nil)))))
theorem fng__law_elements (F : Fx K mg) : ∀ n : Nat, Fn false P w K mg base (7 + n) (ga K "_law_elements") (T__law_elements K n) := by
  intro n
  induction n with
  | zero => exact fun A outer s H us vs Q E _ _ _ _ h => (by obtain ⟨_, _, _, _, _, _, _, z, _⟩ := h; exact (zero__law_elements z).elim)
  | succ n ih =>
    have ih__law_elements := ih
    exact (by
        obtain ⟨fd, D⟩ := F.d__law_elements
        exact dfn (t := t__law_elements K n) (dfl := []) D sc__law_elements (D.bindsN fun _ _ _ _ _ _ us hl => match us, hl with | [_, _, _], _ => rfl) .nil (fun _ _ => .nil) (fun ds Q E h => by rw [List.append_nil]; exact len__law_elements h) (fun cdv A outer s H E B Ed hg hr hM hw => bd__law_elements F n ih__law_elements cdv A outer s H E B Ed hg hr hw) (fun ds Q Ed h => by rw [List.append_nil]; exact rd__law_elements h))
theorem fn__law_elements (F : Fx K mg) (n : Nat) : Fn false P w K mg base (7 + n) (ga K "_law_elements") (T__law_elements K n) := (fng__law_elements F n)
theorem bd__law_heights (F : Fx K mg) (cdv : Value) (A : Around) (outer : List Env) (s : Shared) (H : Hp) (E : XK) (B : Base) (Ed : Exn → Prop) (hg : false = true → A.guards = some []) (hr : Room 0 (A.deeper (envOfC "_law_heights" (defScope st__law_heights) s.heap.objs.size (ga K "_law_heights") cdv)))
    (hw : Wish (cxOf (L2.CX P w) P w K mg base N__law_heights "_law_heights" (defScope st__law_heights) (ga K "_law_heights") cdv A outer s H E) B (fun e _ => Ed e)) : DSs (cxOf (L2.CX P w) P w K mg base N__law_heights "_law_heights" (defScope st__law_heights) (ga K "_law_heights") cdv A outer s H E) B (defBody st__law_heights) (t__law_heights K Ed) :=
  dss_cons (ds_asgO (df_lst (da_cons (de_var (pv 1)) da_nil)) (pg_name (i := 2) (by exact sc__law_heights.nd) (by rfl) (by first | exact Or.inl rfl | exact Or.inr rfl))) (dss_cons (ds_for (passes_of (by rfl)) (by rfl) (di_seq (de_var (pv 0))) (dg_name (pg_name (i := 3) (by exact sc__law_heights.nd) (by rfl) (by first | exact Or.inl rfl | exact Or.inr rfl))) (dss_one (ds_appV (pv 2) (de_op op_addD od_add (de_ix (de_var (pv 2)) (de_neg de_int)) (de_var (pv 3)))))) (dss_one (ds_ret (de_var (pv 2)))))
theorem fn__law_heights (F : Fx K mg) : Fn false P w K mg base 1 (ga K "_law_heights") (T__law_heights K) := by
  obtain ⟨fd, D⟩ := F.d__law_heights
  exact dfn (t := t__law_heights K) (dfl := []) D sc__law_heights (D.bindsN fun _ _ _ _ _ _ us hl => match us, hl with | [_, _], _ => rfl) .nil (fun _ _ => .nil) (fun ds Q E h => by rw [List.append_nil]; exact len__law_heights h) (fun cdv A outer s H E B Ed hg hr hM hw => bd__law_heights F cdv A outer s H E B Ed hg hr hw) (fun ds Q Ed h => by rw [List.append_nil]; exact rd__law_heights h)
theorem bd__law_reach (F : Fx K mg) (cdv : Value) (A : Around) (outer : List Env) (s : Shared) (H : Hp) (E : XK) (B : Base) (Ed : Exn → Prop) (hg : false = true → A.guards = some []) (hr : Room 0 (A.deeper (envOfC "_law_reach" (defScope st__law_reach) s.heap.objs.size (ga K "_law_reach") cdv)))
    (hw : Wish (cxOf (L2.CX P w) P w K mg base N__law_reach "_law_reach" (defScope st__law_reach) (ga K "_law_reach") cdv A outer s H E) B (fun e _ => Ed e)) : DSs (cxOf (L2.CX P w) P w K mg base N__law_reach "_law_reach" (defScope st__law_reach) (ga K "_law_reach") cdv A outer s H E) B (defBody st__law_reach) (t__law_reach K Ed) :=
  dss_cons (ds_asg de_int (dg_name (pg_name (i := 2) (by exact sc__law_reach.nd) (by rfl) (by first | exact Or.inl rfl | exact Or.inr rfl)))) (dss_cons (ds_for (passes_of (by rfl)) (by rfl) (di_seq (de_var (pv 0))) (dg_name (pg_name (i := 3) (by exact sc__law_reach.nd) (by rfl) (by first | exact Or.inl rfl | exact Or.inr rfl))) (dss_cons (ds_if (dt_cmp op_gt od_int (de_var (pv 3)) (de_var (pv 1)) (by rfl)) (dss_one (ds_ret (de_var (pv 2)))) dss_nil) (dss_one (ds_asg (de_callB (call_min2 (by rfl)) cd_min2 (by rfl) (by exact F.f_min) b_min (da_cons (de_var (pv 2)) (da_cons (de_var (pv 3)) da_nil))) (dg_name (pg_name (i := 2) (by exact sc__law_reach.nd) (by rfl) (by first | exact Or.inl rfl | exact Or.inr rfl))))))) (dss_one (ds_ret (de_var (pv 2)))))
theorem fn__law_reach (F : Fx K mg) : Fn false P w K mg base 1 (ga K "_law_reach") (T__law_reach K) := by
  obtain ⟨fd, D⟩ := F.d__law_reach
  exact dfn (t := t__law_reach K) (dfl := []) D sc__law_reach (D.bindsN fun _ _ _ _ _ _ us hl => match us, hl with | [_, _], _ => rfl) .nil (fun _ _ => .nil) (fun ds Q E h => by rw [List.append_nil]; exact len__law_reach h) (fun cdv A outer s H E B Ed hg hr hM hw => bd__law_reach F cdv A outer s H E B Ed hg hr hw) (fun ds Q Ed h => by rw [List.append_nil]; exact rd__law_reach h)
theorem bd__law_return (F : Fx K mg) (cdv : Value) (A : Around) (outer : List Env) (s : Shared) (H : Hp) (E : XK) (B : Base) (Ed : Exn → Prop) (hg : false = true → A.guards = some []) (hr : Room 0 (A.deeper (envOfC "_law_return" (defScope st__law_return) s.heap.objs.size (ga K "_law_return") cdv)))
    (hw : Wish (cxOf (L2.CX P w) P w K mg base N__law_return "_law_return" (defScope st__law_return) (ga K "_law_return") cdv A outer s H E) B (fun e _ => Ed e)) : DSs (cxOf (L2.CX P w) P w K mg base N__law_return "_law_return" (defScope st__law_return) (ga K "_law_return") cdv A outer s H E) B (defBody st__law_return) (t__law_return K Ed) :=
  dss_cons (ds_asg (de_ix (de_var (pv 0)) (de_neg de_int)) (dg_name (pg_name (i := 2) (by exact sc__law_return.nd) (by rfl) (by first | exact Or.inl rfl | exact Or.inr rfl)))) (dss_cons (ds_for (passes_of (by rfl)) (by rfl) (di_seq (de_stay (df_rev (de_var (pv 0))))) (dg_name (pg_name (i := 3) (by exact sc__law_return.nd) (by rfl) (by first | exact Or.inl rfl | exact Or.inr rfl))) (dss_cons (ds_if (dt_cmp op_gt od_int (de_var (pv 3)) (de_var (pv 1)) (by rfl)) (dss_one (ds_ret (de_var (pv 2)))) dss_nil) (dss_one (ds_asg (de_callB (call_min2 (by rfl)) cd_min2 (by rfl) (by exact F.f_min) b_min (da_cons (de_var (pv 2)) (da_cons (de_var (pv 3)) da_nil))) (dg_name (pg_name (i := 2) (by exact sc__law_return.nd) (by rfl) (by first | exact Or.inl rfl | exact Or.inr rfl))))))) (dss_one (ds_ret (de_var (pv 2)))))
theorem fn__law_return (F : Fx K mg) : Fn false P w K mg base 1 (ga K "_law_return") (T__law_return K) := by
  obtain ⟨fd, D⟩ := F.d__law_return
  exact dfn (t := t__law_return K) (dfl := []) D sc__law_return (D.bindsN fun _ _ _ _ _ _ us hl => match us, hl with | [_, _], _ => rfl) .nil (fun _ _ => .nil) (fun ds Q E h => by rw [List.append_nil]; exact len__law_return h) (fun cdv A outer s H E B Ed hg hr hM hw => bd__law_return F cdv A outer s H E B Ed hg hr hw) (fun ds Q Ed h => by rw [List.append_nil]; exact rd__law_return h)
theorem bd__law_marks (F : Fx K mg) (cdv : Value) (A : Around) (outer : List Env) (s : Shared) (H : Hp) (E : XK) (B : Base) (Ed : Exn → Prop) (hg : false = true → A.guards = some []) (hr : Room 0 (A.deeper (envOfC "_law_marks" (defScope st__law_marks) s.heap.objs.size (ga K "_law_marks") cdv)))
    (hw : Wish (cxOf (L2.CX P w) P w K mg base N__law_marks "_law_marks" (defScope st__law_marks) (ga K "_law_marks") cdv A outer s H E) B (fun e _ => Ed e)) : DSs (cxOf (L2.CX P w) P w K mg base N__law_marks "_law_marks" (defScope st__law_marks) (ga K "_law_marks") cdv A outer s H E) B (defBody st__law_marks) (t__law_marks K Ed) :=
  dss_one (ds_ret (de_sortSetB (by rfl) (by rfl) (by exact F.f_sorted) b_sorted (by rfl) (by exact F.f_set) b_set (de_op op_addD od_add (de_op op_addD od_add (de_var (pv 0)) (de_var (pv 1))) (de_lst (da_cons de_int da_nil)))))
theorem fn__law_marks (F : Fx K mg) : Fn false P w K mg base 1 (ga K "_law_marks") (T__law_marks K) := by
  obtain ⟨fd, D⟩ := F.d__law_marks
  exact dfn (t := t__law_marks K) (dfl := []) D sc__law_marks (D.bindsN fun _ _ _ _ _ _ us hl => match us, hl with | [_, _], _ => rfl) .nil (fun _ _ => .nil) (fun ds Q E h => by rw [List.append_nil]; exact len__law_marks h) (fun cdv A outer s H E B Ed hg hr hM hw => bd__law_marks F cdv A outer s H E B Ed hg hr hw) (fun ds Q Ed h => by rw [List.append_nil]; exact rd__law_marks h)
theorem bd__law_is_no_worse (F : Fx K mg) (cdv : Value) (A : Around) (outer : List Env) (s : Shared) (H : Hp) (E : XK) (B : Base) (Ed : Exn → Prop) (hg : false = true → A.guards = some []) (hr : Room 1 (A.deeper (envOfC "_law_is_no_worse" (defScope st__law_is_no_worse) s.heap.objs.size (ga K "_law_is_no_worse") cdv)))
    (hw : Wish (cxOf (L2.CX P w) P w K mg base N__law_is_no_worse "_law_is_no_worse" (defScope st__law_is_no_worse) (ga K "_law_is_no_worse") cdv A outer s H E) B (fun e _ => Ed e)) : DSs (cxOf (L2.CX P w) P w K mg base N__law_is_no_worse "_law_is_no_worse" (defScope st__law_is_no_worse) (ga K "_law_is_no_worse") cdv A outer s H E) B (defBody st__law_is_no_worse) (t__law_is_no_worse K Ed) :=
  dss_cons (ds_if (dt_w (dw_or (dt_cmp op_gt od_int (de_ix (de_var (pv 0)) (de_neg de_int)) (de_ix (de_var (pv 1)) (de_neg de_int)) (by rfl)) (dw_or1 (dt_cmp op_gt od_int (de_callB (cr_max (by rfl)) cd_maxL (by rfl) (by exact F.f_max) b_max (da_cons (de_var (pv 0)) da_nil)) (de_callB (cr_max (by rfl)) cd_maxL (by rfl) (by exact F.f_max) b_max (da_cons (de_var (pv 1)) da_nil)) (by rfl))))) (dss_one (ds_ret de_bl)) dss_nil) (dss_cons (ds_for (passes_of (by rfl)) (by rfl) (di_seq (de_call (by exact fn__law_marks F) (by nofun) (by exact hr.mono (by decide)) (by rfl) (by exact F.g__law_marks) (by exact F.d__law_marks.elim fun _ D => D.kp) (by exact hw) (da_cons (de_var (pv 0)) (da_cons (de_var (pv 1)) da_nil)))) (dg_name (pg_name (i := 2) (by exact sc__law_is_no_worse.nd) (by rfl) (by first | exact Or.inl rfl | exact Or.inr rfl))) (dss_cons (ds_if (dt_w (dw_and (dt_cmp op_ge od_int (de_var (pv 2)) de_int (by rfl)) (dw_and1 (dt_cmp op_gt od_int (de_call (by exact fn__law_reach F) (by nofun) (by exact hr.mono (by decide)) (by rfl) (by exact F.g__law_reach) (by exact F.d__law_reach.elim fun _ D => D.kp) (by exact hw) (da_cons (de_var (pv 0)) (da_cons (de_var (pv 2)) da_nil))) (de_call (by exact fn__law_reach F) (by nofun) (by exact hr.mono (by decide)) (by rfl) (by exact F.g__law_reach) (by exact F.d__law_reach.elim fun _ D => D.kp) (by exact hw) (da_cons (de_var (pv 1)) (da_cons (de_var (pv 2)) da_nil))) (by rfl))))) (dss_one (ds_ret de_bl)) dss_nil) (dss_one (ds_if (dt_w (dw_and (dt_cmp op_ge od_int (de_var (pv 2)) (de_ix (de_var (pv 1)) (de_neg de_int)) (by rfl)) (dw_and1 (dt_cmp op_gt od_int (de_call (by exact fn__law_return F) (by nofun) (by exact hr.mono (by decide)) (by rfl) (by exact F.g__law_return) (by exact F.d__law_return.elim fun _ D => D.kp) (by exact hw) (da_cons (de_var (pv 0)) (da_cons (de_var (pv 2)) da_nil))) (de_call (by exact fn__law_return F) (by nofun) (by exact hr.mono (by decide)) (by rfl) (by exact F.g__law_return) (by exact F.d__law_return.elim fun _ D => D.kp) (by exact hw) (da_cons (de_var (pv 1)) (da_cons (de_var (pv 2)) da_nil))) (by rfl))))) (dss_one (ds_ret de_bl)) dss_nil)))) (dss_one (ds_ret de_bl)))
theorem fn__law_is_no_worse (F : Fx K mg) : Fn false P w K mg base 2 (ga K "_law_is_no_worse") (T__law_is_no_worse K) := by
  obtain ⟨fd, D⟩ := F.d__law_is_no_worse
  exact dfn (t := t__law_is_no_worse K) (dfl := []) D sc__law_is_no_worse (D.bindsN fun _ _ _ _ _ _ us hl => match us, hl with | [_, _], _ => rfl) .nil (fun _ _ => .nil) (fun ds Q E h => by rw [List.append_nil]; exact len__law_is_no_worse h) (fun cdv A outer s H E B Ed hg hr hM hw => bd__law_is_no_worse F cdv A outer s H E B Ed hg hr hw) (fun ds Q Ed h => by rw [List.append_nil]; exact rd__law_is_no_worse h)
theorem bd__law_levels (F : Fx K mg) (cdv : Value) (A : Around) (outer : List Env) (s : Shared) (H : Hp) (E : XK) (B : Base) (Ed : Exn → Prop) (hg : false = true → A.guards = some []) (hr : Room 7 (A.deeper (envOfC "_law_levels" (defScope st__law_levels) s.heap.objs.size (ga K "_law_levels") cdv)))
    (hw : Wish (cxOf (L2.CX P w) P w K mg base N__law_levels "_law_levels" (defScope st__law_levels) (ga K "_law_levels") cdv A outer s H E) B (fun e _ => Ed e)) : DSs (cxOf (L2.CX P w) P w K mg base N__law_levels "_law_levels" (defScope st__law_levels) (ga K "_law_levels") cdv A outer s H E) B (defBody st__law_levels) (t__law_levels K Ed) :=
  dss_one (ds_ret (de_call (by exact fn__law_heights F) (by nofun) (by exact hr.mono (by decide)) (by rfl) (by exact F.g__law_heights) (by exact F.d__law_heights.elim fun _ D => D.kp) (by exact hw) (da_cons (de_call (by exact fn__law_unrolled F 7) (by nofun) (by exact hr.mono (by decide)) (by rfl) (by exact F.g__law_unrolled) (by exact F.d__law_unrolled.elim fun _ D => D.kp) (by exact hw) (da_cons (de_var (pv 0)) da_nil)) (da_cons de_int da_nil))))
theorem fn__law_levels (F : Fx K mg) : Fn false P w K mg base 8 (ga K "_law_levels") (T__law_levels K) := by
  obtain ⟨fd, D⟩ := F.d__law_levels
  exact dfn (t := t__law_levels K) (dfl := []) D sc__law_levels (D.bindsN fun _ _ _ _ _ _ us hl => match us, hl with | [_], _ => rfl) .nil (fun _ _ => .nil) (fun ds Q E h => by rw [List.append_nil]; exact len__law_levels h) (fun cdv A outer s H E B Ed hg hr hM hw => bd__law_levels F cdv A outer s H E B Ed hg hr hw) (fun ds Q Ed h => by rw [List.append_nil]; exact rd__law_levels h)
theorem bd__law_near (F : Fx K mg) (cdv : Value) (A : Around) (outer : List Env) (s : Shared) (H : Hp) (E : XK) (B : Base) (Ed : Exn → Prop) (hg : false = true → A.guards = some []) (hr : Room 2 (A.deeper (envOfC "_law_near" (defScope st__law_near) s.heap.objs.size (ga K "_law_near") cdv)))
    (hw : Wish (cxOf (L2.CX P w) P w K mg base N__law_near "_law_near" (defScope st__law_near) (ga K "_law_near") cdv A outer s H E) B (fun e _ => Ed e)) : DSs (cxOf (L2.CX P w) P w K mg base N__law_near "_law_near" (defScope st__law_near) (ga K "_law_near") cdv A outer s H E) B (defBody st__law_near) (t__law_near K Ed) :=
  dss_cons (ds_par2 (by rfl) (by exact sc__law_near.nd) (by rfl) (by rfl) (by rfl) (by rfl) (de_call (by exact fn__law_draw F) (by nofun) (by exact hr.mono (by decide)) (by rfl) (by exact F.g__law_draw) (by exact F.d__law_draw.elim fun _ D => D.kp) (by exact hw) (da_cons (de_var (pv 0)) (da_cons de_int da_nil))) (de_call (by exact fn__law_draw F) (by nofun) (by exact hr.mono (by decide)) (by rfl) (by exact F.g__law_draw) (by exact F.d__law_draw.elim fun _ D => D.kp) (by exact hw) (da_cons (de_var (pv 0)) (da_cons (de_op op_addD od_add (de_callB call_len cd_len (by rfl) (by exact F.f_len) b_len (da_cons (de_var (pv 1)) da_nil)) de_int) da_nil)))) (dss_cons (ds_asg (de_op op_addD od_add de_int (de_call (by exact fn__law_draw F) (by nofun) (by exact hr.mono (by decide)) (by rfl) (by exact F.g__law_draw) (by exact F.d__law_draw.elim fun _ D => D.kp) (by exact hw) (da_cons (de_var (pv 0)) (da_cons de_int da_nil)))) (dg_name (pg_name (i := 2) (by exact sc__law_near.nd) (by rfl) (by first | exact Or.inl rfl | exact Or.inr rfl)))) (dss_cons (ds_if (dt_cmp (op_eqDD (by exact hr.units)) od_eq (de_var (pv 3)) de_int (by rfl)) (dss_one (ds_ret (de_op op_addD od_add (de_op op_addD od_add (de_sl (de_var (pv 1)) do_none (do_some (de_var (pv 4)))) (de_tup (da_cons (de_var (pv 2)) (da_cons (de_neg (de_var (pv 2))) da_nil)))) (de_sl (de_var (pv 1)) (do_some (de_var (pv 4))) do_none)))) dss_nil) (dss_cons (ds_if (dt_cmp (op_eqDD (by exact hr.units)) od_eq (de_var (pv 3)) de_int (by rfl)) (dss_one (ds_ret (de_op op_addD od_add (de_op op_addD od_add (de_sl (de_var (pv 1)) do_none (do_some (de_var (pv 4)))) (de_tup (da_cons (de_neg (de_var (pv 2))) (da_cons (de_var (pv 2)) da_nil)))) (de_sl (de_var (pv 1)) (do_some (de_var (pv 4))) do_none)))) dss_nil) (dss_cons (ds_if (dt_cmp (op_eqDD (by exact hr.units)) od_eq (de_var (pv 3)) de_int (by rfl)) (dss_one (ds_ret (de_op op_addD od_add (de_sl (de_var (pv 1)) do_none (do_some (de_var (pv 4)))) (de_sl (de_var (pv 1)) (do_some (de_op op_addD od_add (de_var (pv 4)) de_int)) do_none)))) dss_nil) (dss_cons (ds_if (dt_cmp (op_eqDD (by exact hr.units)) od_eq (de_var (pv 3)) de_int (by rfl)) (dss_one (ds_ret (de_op op_addD od_add (de_op op_addD od_add (de_sl (de_var (pv 1)) do_none (do_some (de_var (pv 4)))) (de_tup (da_cons (de_ix (de_lst (da_cons (de_var (pv 2)) (da_cons (de_neg (de_var (pv 2))) da_nil))) (de_call (by exact fn__law_draw F) (by nofun) (by exact hr.mono (by decide)) (by rfl) (by exact F.g__law_draw) (by exact F.d__law_draw.elim fun _ D => D.kp) (by exact hw) (da_cons (de_var (pv 0)) (da_cons de_int da_nil)))) da_nil))) (de_sl (de_var (pv 1)) (do_some (de_var (pv 4))) do_none)))) dss_nil) (dss_cons (ds_if (dt_cmp (op_eqDD (by exact hr.units)) od_eq (de_var (pv 3)) de_int (by rfl)) (dss_one (ds_ret (de_op op_addD od_add (de_var (pv 1)) (de_sl (de_var (pv 1)) do_none (do_some (de_var (pv 4))))))) dss_nil) (dss_cons (ds_if (dt_cmp (op_eqDD (by exact hr.units)) od_eq (de_var (pv 3)) de_int (by rfl)) (dss_one (ds_ret (de_op op_addD od_add (de_op op_addD od_add (de_tup (da_cons (de_tup (da_cons de_int (da_cons (de_sl (de_var (pv 1)) do_none (do_some (de_var (pv 4)))) da_nil))) da_nil)) (de_sl (de_var (pv 1)) (do_some (de_var (pv 4))) do_none)) (de_tup (da_cons (de_tup (da_cons de_int (da_cons (de_var (pv 1)) da_nil))) da_nil))))) dss_nil) (dss_one (ds_ret (de_if (dt_cmp (op_eqDD (by exact hr.units)) od_eq (de_var (pv 3)) de_int (by rfl)) (de_var (pv 1)) (de_callT call_tuple_of cd_tuple (by rfl) (by exact F.f_tuple) b_tuple (da_cons (de_call (by exact fn__law_mixed F) (by nofun) (by exact hr.mono (by decide)) (by rfl) (by exact F.g__law_mixed) (by exact F.d__law_mixed.elim fun _ D => D.kp) (by exact hw) (da_cons (de_var (pv 0)) (da_cons (de_var (pv 1)) da_nil))) da_nil))))))))))))
theorem fn__law_near (F : Fx K mg) : Fn false P w K mg base 3 (ga K "_law_near") (T__law_near K) := by
  obtain ⟨fd, D⟩ := F.d__law_near
  exact dfn (t := t__law_near K) (dfl := []) D sc__law_near (D.bindsN fun _ _ _ _ _ _ us hl => match us, hl with | [_, _], _ => rfl) .nil (fun _ _ => .nil) (fun ds Q E h => by rw [List.append_nil]; exact len__law_near h) (fun cdv A outer s H E B Ed hg hr hM hw => bd__law_near F cdv A outer s H E B Ed hg hr hw) (fun ds Q Ed h => by rw [List.append_nil]; exact rd__law_near h)
theorem bd__law_pair_right (F : Fx K mg) (cdv : Value) (A : Around) (outer : List Env) (s : Shared) (H : Hp) (E : XK) (B : Base) (Ed : Exn → Prop) (hg : true = true → A.guards = some []) (hr : Room 16 (A.deeper (envOfC "_law_pair_right" (defScope st__law_pair_right) s.heap.objs.size (ga K "_law_pair_right") cdv)))
    (hw : Wish (cxOf (L2.CX P w) P w K mg base N__law_pair_right "_law_pair_right" (defScope st__law_pair_right) (ga K "_law_pair_right") cdv A outer s H E) B (fun e _ => Ed e)) : DSs (cxOf (L2.CX P w) P w K mg base N__law_pair_right "_law_pair_right" (defScope st__law_pair_right) (ga K "_law_pair_right") cdv A outer s H E) B (defBody st__law_pair_right) (t__law_pair_right K Ed) :=
  dss_cons (ds_par2 (by rfl) (by exact sc__law_pair_right.nd) (by rfl) (by rfl) (by rfl) (by rfl) (de_call (by exact fn__law_levels F) (by nofun) (by exact hr.mono (by decide)) (by rfl) (by exact F.g__law_levels) (by exact F.d__law_levels.elim fun _ D => D.kp) (by exact hw) (da_cons (de_var (pv 0)) da_nil)) (de_call (by exact fn__law_levels F) (by nofun) (by exact hr.mono (by decide)) (by rfl) (by exact F.g__law_levels) (by exact F.d__law_levels.elim fun _ D => D.kp) (by exact hw) (da_cons (de_var (pv 1)) da_nil))) (dss_cons (ds_par2 (by rfl) (by exact sc__law_pair_right.nd) (by rfl) (by rfl) (by rfl) (by rfl) (de_call (by exact fn_profile_of F) (by nofun) (by exact hr.mono (by decide)) (by rfl) (by exact F.g_profile_of) (by exact F.d_profile_of.elim fun _ D => D.kp) (by exact hw) (da_cons (de_make (by exact F.mk_Script) (by exact fn_Script___init__ F) (by nofun) (by exact hr.mono (by decide)) (by rfl) (by exact F.g_Script) (by exact hw) (da_cons (de_var (pv 0)) da_nil)) da_nil)) (de_call (by exact fn_profile_of F) (by nofun) (by exact hr.mono (by decide)) (by rfl) (by exact F.g_profile_of) (by exact F.d_profile_of.elim fun _ D => D.kp) (by exact hw) (da_cons (de_make (by exact F.mk_Script) (by exact fn_Script___init__ F) (by nofun) (by exact hr.mono (by decide)) (by rfl) (by exact F.g_Script) (by exact hw) (da_cons (de_var (pv 1)) da_nil)) da_nil))) (dss_cons (ds_par2 (by rfl) (by exact sc__law_pair_right.nd) (by rfl) (by rfl) (by rfl) (by rfl) (de_call (by exact fn__law_is_no_worse F) (by nofun) (by exact hr.mono (by decide)) (by rfl) (by exact F.g__law_is_no_worse) (by exact F.d__law_is_no_worse.elim fun _ D => D.kp) (by exact hw) (da_cons (de_var (pv 3)) (da_cons (de_var (pv 4)) da_nil))) (de_call (by exact fn__law_is_no_worse F) (by nofun) (by exact hr.mono (by decide)) (by rfl) (by exact F.g__law_is_no_worse) (by exact F.d__law_is_no_worse.elim fun _ D => D.kp) (by exact hw) (da_cons (de_var (pv 4)) (da_cons (de_var (pv 3)) da_nil)))) (dss_cons (ds_if (dt_cmp (op_neDD (by exact hr.units)) od_ne (de_callB (cr_reprA (by exact hg rfl) (by exact hr.units)) cd_reprA (by rfl) (by exact F.f_repr) b_repr (da_cons (de_lst (da_cons (de_meth (de_var (pv 5)) (by exact F.c_Profile) (by exact F.m_Profile_is_no_worse) (by exact fn_Profile_is_no_worse F) (by nofun) (by exact hr.mono (by decide)) (by exact hw) (da_cons (de_var (pv 6)) da_nil)) (da_cons (de_meth (de_var (pv 6)) (by exact F.c_Profile) (by exact F.m_Profile_is_no_worse) (by exact fn_Profile_is_no_worse F) (by nofun) (by exact hr.mono (by decide)) (by exact hw) (da_cons (de_var (pv 5)) da_nil)) da_nil))) da_nil)) (de_callB (cr_reprA (by exact hg rfl) (by exact hr.units)) cd_reprA (by rfl) (by exact F.f_repr) b_repr (da_cons (de_lst (da_cons (de_var (pv 7)) (da_cons (de_var (pv 8)) da_nil))) da_nil)) (by rfl)) (dss_one (ds_ret de_bl)) dss_nil) (dss_cons (ds_asg (de_lst (da_cons (de_cmp op_isN od_isN (de_call (by exact fn_worse_context F) (by nofun) (by exact hr.mono (by decide)) (by rfl) (by exact F.g_worse_context) (by exact F.d_worse_context.elim fun _ D => D.kp) (by exact hw) (da_cons (de_var (pv 5)) (da_cons (de_var (pv 6)) da_nil))) de_non (by rfl)) (da_cons (de_cmp op_isN od_isN (de_call (by exact fn_worse_context F) (by nofun) (by exact hr.mono (by decide)) (by rfl) (by exact F.g_worse_context) (by exact F.d_worse_context.elim fun _ D => D.kp) (by exact hw) (da_cons (de_var (pv 6)) (da_cons (de_var (pv 5)) da_nil))) de_non (by rfl)) da_nil))) (dg_name (pg_name (i := 2) (by exact sc__law_pair_right.nd) (by rfl) (by first | exact Or.inl rfl | exact Or.inr rfl)))) (dss_cons (ds_if (dt_w (dw_or (dt_cmp (op_neDD (by exact hr.units)) od_ne (de_var (pv 2)) (de_lst (da_cons (de_var (pv 7)) (da_cons (de_var (pv 8)) da_nil))) (by rfl)) (dw_or1 (dt_cmp (op_neDD (by exact hr.units)) od_ne (de_callB (cr_reprA (by exact hg rfl) (by exact hr.units)) cd_reprA (by rfl) (by exact F.f_repr) b_repr (da_cons (de_cmp (op_eqO (by exact F.eq_Profile) (by exact fn_Profile___eq__ F) (by exact hr.mono (by decide))) od_eqO (de_var (pv 5)) (de_var (pv 6)) (by rfl)) da_nil)) (de_callB (cr_reprA (by exact hg rfl) (by exact hr.units)) cd_reprA (by rfl) (by exact F.f_repr) b_repr (da_cons (de_and (de_var (pv 7)) (de_one (de_var (pv 8)))) da_nil)) (by rfl))))) (dss_one (ds_ret de_bl)) dss_nil) (dss_cons (ds_asg (de_lst (da_cons (de_call (by exact fn_are_exchangeable F) (by nofun) (by exact hr.mono (by decide)) (by rfl) (by exact F.g_are_exchangeable) (by exact F.d_are_exchangeable.elim fun _ D => D.kp) (by exact hw) (da_cons (de_make (by exact F.mk_Script) (by exact fn_Script___init__ F) (by nofun) (by exact hr.mono (by decide)) (by rfl) (by exact F.g_Script) (by exact hw) (da_cons (de_var (pv 0)) da_nil)) (da_cons (de_make (by exact F.mk_Script) (by exact fn_Script___init__ F) (by nofun) (by exact hr.mono (by decide)) (by rfl) (by exact F.g_Script) (by exact hw) (da_cons (de_var (pv 1)) da_nil)) da_nil))) (da_cons (de_call (by exact fn_are_exchangeable F) (by nofun) (by exact hr.mono (by decide)) (by rfl) (by exact F.g_are_exchangeable) (by exact F.d_are_exchangeable.elim fun _ D => D.kp) (by exact hw) (da_cons (de_make (by exact F.mk_Script) (by exact fn_Script___init__ F) (by nofun) (by exact hr.mono (by decide)) (by rfl) (by exact F.g_Script) (by exact hw) (da_cons (de_var (pv 1)) da_nil)) (da_cons (de_make (by exact F.mk_Script) (by exact fn_Script___init__ F) (by nofun) (by exact hr.mono (by decide)) (by rfl) (by exact F.g_Script) (by exact hw) (da_cons (de_var (pv 0)) da_nil)) da_nil))) da_nil))) (dg_name (pg_name (i := 2) (by exact sc__law_pair_right.nd) (by rfl) (by first | exact Or.inl rfl | exact Or.inr rfl)))) (dss_one (ds_ret (de_cmp (op_eqDD (by exact hr.units)) od_eq (de_callB (cr_reprA (by exact hg rfl) (by exact hr.units)) cd_reprA (by rfl) (by exact F.f_repr) b_repr (da_cons (de_var (pv 2)) da_nil)) (de_callB (cr_reprA (by exact hg rfl) (by exact hr.units)) cd_reprA (by rfl) (by exact F.f_repr) b_repr (da_cons (de_op op_mulD od_mul (de_lst (da_cons (de_and (de_var (pv 7)) (de_one (de_var (pv 8)))) da_nil)) de_int) da_nil)) (by rfl))))))))))
theorem fn__law_pair_right (F : Fx K mg) : Fn true P w K mg base 17 (ga K "_law_pair_right") (T__law_pair_right K) := by
  obtain ⟨fd, D⟩ := F.d__law_pair_right
  exact dfn (t := t__law_pair_right K) (dfl := []) D sc__law_pair_right (D.bindsN fun _ _ _ _ _ _ us hl => match us, hl with | [_, _], _ => rfl) .nil (fun _ _ => .nil) (fun ds Q E h => by rw [List.append_nil]; exact len__law_pair_right h) (fun cdv A outer s H E B Ed hg hr hM hw => bd__law_pair_right F cdv A outer s H E B Ed hg hr hw) (fun ds Q Ed h => by rw [List.append_nil]; exact rd__law_pair_right h)
theorem bd__law_right (F : Fx K mg) (cdv : Value) (A : Around) (outer : List Env) (s : Shared) (H : Hp) (E : XK) (B : Base) (Ed : Exn → Prop) (hg : true = true → A.guards = some []) (hr : Room 17 (A.deeper (envOfC "_law_right" (defScope st__law_right) s.heap.objs.size (ga K "_law_right") cdv)))
    (hw : Wish (cxOf (L2.CX P w) P w K mg base N__law_right "_law_right" (defScope st__law_right) (ga K "_law_right") cdv A outer s H E) B (fun e _ => Ed e)) : DSs (cxOf (L2.CX P w) P w K mg base N__law_right "_law_right" (defScope st__law_right) (ga K "_law_right") cdv A outer s H E) B (defBody st__law_right) (t__law_right K Ed) :=
  dss_cons (ds_for (passes_of (by rfl)) (by rfl) (di_range1 (by rfl) (by exact F.f_range) (da_cons de_int da_nil)) (dg_name (pg_name (i := 1) (by exact sc__law_right.nd) (by rfl) (by first | exact Or.inl rfl | exact Or.inr rfl))) (dss_cons (ds_asg (de_call (by exact fn__law_elements F 5) (by nofun) (by exact hr.mono (by decide)) (by rfl) (by exact F.g__law_elements) (by exact F.d__law_elements.elim fun _ D => D.kp) (by exact hw) (da_cons (de_var (pv 0)) (da_cons de_int (da_cons de_int da_nil)))) (dg_name (pg_name (i := 2) (by exact sc__law_right.nd) (by rfl) (by first | exact Or.inl rfl | exact Or.inr rfl)))) (dss_cons (ds_asg (de_if (dt_cmp op_gt od_int (de_call (by exact fn__law_draw F) (by nofun) (by exact hr.mono (by decide)) (by rfl) (by exact F.g__law_draw) (by exact F.d__law_draw.elim fun _ D => D.kp) (by exact hw) (da_cons (de_var (pv 0)) (da_cons de_int da_nil))) de_int (by rfl)) (de_var (pv 2)) (de_call (by exact fn__law_elements F 5) (by nofun) (by exact hr.mono (by decide)) (by rfl) (by exact F.g__law_elements) (by exact F.d__law_elements.elim fun _ D => D.kp) (by exact hw) (da_cons (de_var (pv 0)) (da_cons de_int (da_cons de_int da_nil))))) (dg_name (pg_name (i := 3) (by exact sc__law_right.nd) (by rfl) (by first | exact Or.inl rfl | exact Or.inr rfl)))) (dss_cons (ds_for (passes_of (by rfl)) (by rfl) (di_range1 (by rfl) (by exact F.f_range) (da_cons (de_call (by exact fn__law_draw F) (by nofun) (by exact hr.mono (by decide)) (by rfl) (by exact F.g__law_draw) (by exact F.d__law_draw.elim fun _ D => D.kp) (by exact hw) (da_cons (de_var (pv 0)) (da_cons de_int da_nil))) da_nil)) (dg_name (pg_name (i := 4) (by exact sc__law_right.nd) (by rfl) (by first | exact Or.inl rfl | exact Or.inr rfl))) (dss_one (ds_asg (de_call (by exact fn__law_near F) (by nofun) (by exact hr.mono (by decide)) (by rfl) (by exact F.g__law_near) (by exact F.d__law_near.elim fun _ D => D.kp) (by exact hw) (da_cons (de_var (pv 0)) (da_cons (de_var (pv 3)) da_nil))) (dg_name (pg_name (i := 3) (by exact sc__law_right.nd) (by rfl) (by first | exact Or.inl rfl | exact Or.inr rfl)))))) (dss_one (ds_if (dt_not (dt_val (de_call (by exact fn__law_pair_right F) (by exact hg) (by exact hr.mono (by decide)) (by rfl) (by exact F.g__law_pair_right) (by exact F.d__law_pair_right.elim fun _ D => D.kp) (by exact hw) (da_cons (de_var (pv 2)) (da_cons (de_var (pv 3)) da_nil))))) (dss_one (ds_ret de_bl)) dss_nil)))))) (dss_one (ds_ret de_bl))
theorem fn__law_right (F : Fx K mg) : Fn true P w K mg base 18 (ga K "_law_right") (T__law_right K) := by
  obtain ⟨fd, D⟩ := F.d__law_right
  exact dfn (t := t__law_right K) (dfl := []) D sc__law_right (D.bindsN fun _ _ _ _ _ _ us hl => match us, hl with | [_], _ => rfl) .nil (fun _ _ => .nil) (fun ds Q E h => by rw [List.append_nil]; exact len__law_right h) (fun cdv A outer s H E B Ed hg hr hM hw => bd__law_right F cdv A outer s H E B Ed hg hr hw) (fun ds Q Ed h => by rw [List.append_nil]; exact rd__law_right h)
theorem bd_law (F : Fx K mg) (cdv : Value) (A : Around) (outer : List Env) (s : Shared) (H : Hp) (E : XK) (B : Base) (Ed : Exn → Prop) (hg : true = true → A.guards = some []) (hr : Room 18 (A.deeper (envOfC "law" (defScope st_law) s.heap.objs.size (ga K "law") cdv)))
    (hw : Wish (cxOf (L2.CX P w) P w K mg base N_law "law" (defScope st_law) (ga K "law") cdv A outer s H E) B (fun e _ => Ed e)) : DSs (cxOf (L2.CX P w) P w K mg base N_law "law" (defScope st_law) (ga K "law") cdv A outer s H E) B (defBody st_law) (t_law K Ed) :=
  dss_one (ds_ret (de_callB (cr_all (by rfl)) cd_all (by rfl) (by exact F.f_all) b_all (da_cons (de_stay (df_lc (own := [("_law_k", 1)]) (by rfl) (by exact sc_law.nd) (di_range1 (by rfl) (by exact F.f_range) (da_cons (de_callB (call_max2 (by rfl)) cd_max2 (by rfl) (by exact F.f_max) b_max (da_cons de_int (da_cons (de_callB (call_min2 (by rfl)) cd_min2 (by rfl) (by exact F.f_min) b_min (da_cons (de_callB call_len cd_len (by rfl) (by exact F.f_len) b_len (da_cons (de_var (pv 0)) da_nil)) (da_cons de_int da_nil))) da_nil))) da_nil)) (by exact blkOk_by (own := [("_law_k", 1)]) (N := N_law) (sc := defScope st_law) (by decide +kernel)) (fun _ _ _ _ _ => (dg_name (pg_name (i := 1) (by exact sc_law.nd) (by rfl) (by first | exact Or.inl rfl | exact Or.inr rfl)))) (fun _ _ _ _ _ => dts_nil) (fun _ _ _ _ _ => de_call (by exact fn__law_right F) (by exact hg) (by exact hr.mono (by decide)) (by rfl) (by exact F.g__law_right) (by exact F.d__law_right.elim fun _ D => D.kp) wish_no (da_cons (de_call (by exact fn__law_pot F) (by nofun) (by exact hr.mono (by decide)) (by rfl) (by exact F.g__law_pot) (by exact F.d__law_pot.elim fun _ D => D.kp) wish_no (da_cons (de_var (pv 0)) (da_cons (de_var (pv 1)) da_nil))) da_nil)) (by decide))) da_nil)))
theorem fn_law (F : Fx K mg) : Fn true P w K mg base 19 (ga K "law") (T_law K) := by
  obtain ⟨fd, D⟩ := F.d_law
  exact dfn (t := t_law K) (dfl := []) D sc_law (D.bindsN fun _ _ _ _ _ _ us hl => match us, hl with | [_], _ => rfl) .nil (fun _ _ => .nil) (fun ds Q E h => by rw [List.append_nil]; exact len_law h) (fun cdv A outer s H E B Ed hg hr hM hw => bd_law F cdv A outer s H E B Ed hg hr hw) (fun ds Q Ed h => by rw [List.append_nil]; exact rd_law h)
end
end K41

open PySem.W PySem PySem.Calls PyProof.Rows
theorem PySem.Challenge.cw_finishgate_k41_whole_no_worse_at_all_lev_holds : PySem.Challenge.rw_finishgate_k41_whole_no_worse_at_all_lev.Holds := by
  w_on; o_law
  refine HandSHeadRun.head_any (r := OpenLaw.row PySem.Challenge.rw_finishgate_k41_whole_no_worse_at_all_lev) (q := view (OpenLaw.row PySem.Challenge.rw_finishgate_k41_whole_no_worse_at_all_lev).prog [72]) (H := K41.hk) (ob := K41.ob) (M := 12000) (loose := K41.loose) (d := HandSHeadRun.topDef (OpenLaw.row PySem.Challenge.rw_finishgate_k41_whole_no_worse_at_all_lev).prog 72) (kwd := []) K41.ob_eq
    (by kernel_rfl) (fun s => by kernel_rfl) K41.run (by kernel_rfl) (by kernel_rfl) (by kernel_rfl) (by rfl) (by first | assumption | decide +kernel) (by decide +kernel) ⟨rfl, rfl, rfl, rfl, rfl, by decide +kernel⟩ ?hw ?hc
  case hw => w_witness2
  case hc =>
    refine FG.walk_fg (l := PySem.Challenge.rw_finishgate_k41_whole_no_worse_at_all_lev) (n := 63) (k := 19) rfl (by decide) (by kernel_rfl) ⟨rfl, by decide, by decide⟩ ?F
    intro w mg fa h Y G hmg0
    obtain ⟨K, KX, c⟩ := Y
    have hlaw : mg ("law" : PySem.Str) = some (.ref fa) := by
      have e : (HandSHeadRun.topDef (OpenLaw.row PySem.Challenge.rw_finishgate_k41_whole_no_worse_at_all_lev).prog 72).name = ("law" : PySem.Str) := by kernel_rfl
      rw [← e]
      exact hmg0
    have F := K41.fx_of KX G c
    cases hlaw.symm.trans F.g_law
    exact ⟨K, K41.T_law K, KX, fun ns E Q _ hq => ⟨ns, rfl, hq⟩, fun base _ _ => K41.fn_law F⟩

