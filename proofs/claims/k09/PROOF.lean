import PyProof.Rows.All
import Wide.All
import OpenK.AllK
import Wide.FinOn
import HandS.ForMost
import HandS.SlotsVar
import HandS.TupAny
import HandS.Conv
import HandS.SortInts
import HandS.HeadHook1
import HandS.IsInst
import HandS.Style
import HandS.Walk
import HandS.Zip
import KE.GoesEnum
import HandS.Defaults
import HandS.DictComp
import PySem.Challenge.RW_singlyseen_k09_fours_through_one_thing
import HandS.ExcSuper
import HandS.ExcInit
import HandS.ExcField
import HandS.ExcIs
import HandS.TryMany
import HandS.FStr
import HandS.ExcOwn
import KE.KExcSuper
import KE.KSuper
import KE.KExcIs
import HandS.Head0
import HandS.Head1
import HandS.Head2
import HandS.HeadEnd
import HandS.HeadHook2
set_option Elab.async false
set_option linter.all false
set_option maxRecDepth 100000
set_option maxHeartbeats 0
/-! Ov: data as values (D), how the abstract heap bears them (Rep), frames. -/
namespace Ov
open PySem PySem.Spec PyProof.Rows L2

/-- data without addresses -/
inductive D where
  | non | bl (b : Bool) | int (i : Int) | str (x : Str)
  | tup (xs : List D) | lst (xs : List D)
  | dT (kvs : List (List Int × D)) | dK (kvs : List (Int × D))
  | obj (x : Str) (fs : List D)
  /-- the script: a list of ints that is handed in -/
  | scr (ns : List Int)

/-- the written part; what a seventh slot may hold, by the first six -/
structure OC where
  K : PySem.W.Frag
  cf : List D → D → Prop

def mark (C dx : Addr) (vs : List V) : HO := .ins C dx (vs.map fun v => (Str.empty, v))

mutual
def Rep (W : OC) (F : Hp) : D → V → Prop
  | .non, v => v = .non
  | .bl b, v => v = .bl b
  | .int i, v => v = .int i
  | .str x, v => v = .str x
  | .tup xs, v => ∃ a vs, v = .ref a ∧ F a = some (.tup vs) ∧ vs.length ≤ sizeLine ∧ RepL W F xs vs
  | .lst xs, v => ∃ a vs, v = .ref a ∧ F a = some (.lst vs) ∧ vs.length ≤ sizeLine ∧ RepL W F xs vs
  | .dT kvs, v => ∃ a vs, v = .ref a ∧ F a = some (.dT vs) ∧ RepT W F kvs vs
  | .dK kvs, v => ∃ a vs, v = .ref a ∧ F a = some (.dK vs) ∧ RepK W F kvs vs
  | .obj x fs, v => ∃ a dx vs, v = .ref a ∧ F a = some (mark (He.ga W.K x) dx vs) ∧ RepL W F fs vs
  | .scr ns, v => ∃ a, v = .ref a ∧ SqL W.K F a (ns.map V.int) ∧ ns.length ≤ sizeLine
def RepL (W : OC) (F : Hp) : List D → List V → Prop
  | [], vs => vs = []
  | d :: ds, vs => ∃ v r, vs = v :: r ∧ Rep W F d v ∧ RepL W F ds r
def RepT (W : OC) (F : Hp) : List (List Int × D) → List (List Key × V) → Prop
  | [], vs => vs = []
  | (k, d) :: ds, vs => ∃ v r, vs = (k.map Sum.inl, v) :: r ∧ k.length ≤ sizeLine ∧ Rep W F d v ∧ RepT W F ds r
def RepK (W : OC) (F : Hp) : List (Int × D) → List (Key × V) → Prop
  | [], vs => vs = []
  | (k, d) :: ds, vs => ∃ v r, vs = (Sum.inl k, v) :: r ∧ Rep W F d v ∧ RepK W F ds r
end

/-- what was known stays known -/
def Le (F F' : Hp) : Prop := ∀ a u, F a = some u → F' a = some u
theorem Le.refl (F : Hp) : Le F F := fun _ _ h => h
theorem Le.trans {F F1 F2 : Hp} (a : Le F F1) (b : Le F1 F2) : Le F F2 := fun x u h => b x u (a x u h)
theorem Le.new {F : Hp} {p : Addr} {o : HO} (h : F p = none) : Le F (upd F p o) := fun a u e => by
  rw [upd_ne (ne_of_none e h)]
  exact e
theorem sql_le {K : PySem.W.Frag} {F F' : Hp} {a : Addr} {xs : List V} (e : Le F F') (h : SqL K F a xs) : SqL K F' a xs := by
  rcases h with (h | ⟨o, h⟩) | h
  · exact .inl (.inl (e _ _ h))
  · exact .inl (.inr ⟨o, e _ _ h⟩)
  · exact .inr h

mutual
theorem Rep.le {W : OC} {F F' : Hp} (e : Le F F') : ∀ {d : D} {v : V}, Rep W F d v → Rep W F' d v
  | .non, _, h => by simpa only [Rep] using h
  | .bl _, _, h => by simpa only [Rep] using h
  | .int _, _, h => by simpa only [Rep] using h
  | .str _, _, h => by simpa only [Rep] using h
  | .tup xs, _, h => by
    simp only [Rep] at h ⊢
    obtain ⟨a, vs, h1, h2, h3, h4⟩ := h
    exact ⟨a, vs, h1, e _ _ h2, h3, RepL.le e h4⟩
  | .lst xs, _, h => by
    simp only [Rep] at h ⊢
    obtain ⟨a, vs, h1, h2, h3, h4⟩ := h
    exact ⟨a, vs, h1, e _ _ h2, h3, RepL.le e h4⟩
  | .dT xs, _, h => by
    simp only [Rep] at h ⊢
    obtain ⟨a, vs, h1, h2, h4⟩ := h
    exact ⟨a, vs, h1, e _ _ h2, RepT.le e h4⟩
  | .dK xs, _, h => by
    simp only [Rep] at h ⊢
    obtain ⟨a, vs, h1, h2, h4⟩ := h
    exact ⟨a, vs, h1, e _ _ h2, RepK.le e h4⟩
  | .obj x fs, _, h => by
    simp only [Rep] at h ⊢
    obtain ⟨a, dx, vs, h1, h2, h4⟩ := h
    exact ⟨a, dx, vs, h1, e _ _ h2, RepL.le e h4⟩
  | .scr ns, _, h => by
    simp only [Rep] at h ⊢
    obtain ⟨a, h1, h2, h3⟩ := h
    exact ⟨a, h1, sql_le e h2, h3⟩
theorem RepL.le {W : OC} {F F' : Hp} (e : Le F F') : ∀ {ds : List D} {vs : List V}, RepL W F ds vs → RepL W F' ds vs
  | [], _, h => by simpa only [RepL] using h
  | d :: ds, _, h => by
    simp only [RepL] at h ⊢
    obtain ⟨v, r, h1, h2, h3⟩ := h
    exact ⟨v, r, h1, Rep.le e h2, RepL.le e h3⟩
theorem RepT.le {W : OC} {F F' : Hp} (e : Le F F') : ∀ {ds : List (List Int × D)} {vs : List (List Key × V)}, RepT W F ds vs → RepT W F' ds vs
  | [], _, h => by simpa only [RepT] using h
  | (k, d) :: ds, _, h => by
    simp only [RepT] at h ⊢
    obtain ⟨v, r, h1, hk, h2, h3⟩ := h
    exact ⟨v, r, h1, hk, Rep.le e h2, RepT.le e h3⟩
theorem RepK.le {W : OC} {F F' : Hp} (e : Le F F') : ∀ {ds : List (Int × D)} {vs : List (Key × V)}, RepK W F ds vs → RepK W F' ds vs
  | [], _, h => by simpa only [RepK] using h
  | (k, d) :: ds, _, h => by
    simp only [RepK] at h ⊢
    obtain ⟨v, r, h1, h2, h3⟩ := h
    exact ⟨v, r, h1, Rep.le e h2, RepK.le e h3⟩
end

end Ov
/-! Ov: frames, environments, the readings of expressions. -/
namespace Ov
open PySem PySem.Spec PyProof.Rows L2

/-- the slots of an object stand in the order of their names: the fields' order, and the order of the slots -/
def lay (l : List (Option V)) : List (Option V) := [(l[5]?).getD none, (l[4]?).getD none, (l[6]?).getD none, (l[3]?).getD none, (l[1]?).getD none, (l[0]?).getD none, (l[2]?).getD none]
def sx : Nat → Nat
  | 0 => 5
  | 1 => 4
  | 2 => 6
  | 3 => 3
  | 4 => 1
  | 5 => 0
  | 6 => 2
  | n => n
theorem lay_get (l : List (Option V)) {i : Nat} (h : i < 7) : (lay l)[sx i]? = some ((l[i]?).getD none) := by
  match i, h with
  | 0, _ => rfl
  | 1, _ => rfl
  | 2, _ => rfl
  | 3, _ => rfl
  | 4, _ => rfl
  | 5, _ => rfl
  | 6, _ => rfl
  | n + 7, h => omega
/-- what stands in the heap of a known object (a Table's last slot is a memory) -/
def Live (W : OC) (F H : Hp) (a : Addr) : HO → Prop
  | .ins C dx fs => ∃ ds f, RepL W F ds (fs.map (·.2)) ∧ SlAt H a C dx (lay (fs.map (fun p => some p.2) ++ [some f])) ∧ F dx = none ∧
      (f = .non ∨ ∃ q w d, f = .ref q ∧ F q = some (.tup [w]) ∧ Rep W F d w ∧ W.cf ds d)
  | .dT kvs => H a = some (.dT kvs) ∨ ∃ o, H a = some (.frz o (.dT kvs))
  | .dK kvs => H a = some (.dK kvs) ∨ ∃ o, H a = some (.frz o (.dK kvs))
  | u => H a = some u
def FS (W : OC) (F H : Hp) : Prop := ∀ a u, F a = some u → Live W F H a u

theorem Live.there {W : OC} {F H : Hp} {a : Addr} {u : HO} (h : Live W F H a u) : ∃ o, H a = some o := by
  cases u with
  | ins C dx fs =>
    obtain ⟨ds, f, _, ⟨h1, h2, h3⟩, _⟩ := h
    rcases h3 with h3 | ⟨_, h3⟩
    · exact ⟨_, h3⟩
    · exact ⟨_, h3⟩
  | dT kvs => rcases h with h | ⟨o, h⟩ <;> exact ⟨_, h⟩
  | dK kvs => rcases h with h | ⟨o, h⟩ <;> exact ⟨_, h⟩
  | _ => exact ⟨_, h⟩
theorem FS.free {W : OC} {F H : Hp} (h : FS W F H) {a : Addr} (n : H a = none) : F a = none := by
  cases q : F a with
  | none => rfl
  | some u =>
    obtain ⟨o, e⟩ := (h a u q).there
    rw [n] at e
    cases e
theorem FS.tup {W : OC} {F H : Hp} (h : FS W F H) {a : Addr} {xs : List V} (e : F a = some (.tup xs)) : H a = some (.tup xs) := h a _ e
theorem FS.lst {W : OC} {F H : Hp} (h : FS W F H) {a : Addr} {xs : List V} (e : F a = some (.lst xs)) : H a = some (.lst xs) := h a _ e
theorem FS.scr {W : OC} {F H : Hp} (h : FS W F H) {a : Addr} {xs : List V} (e : SqL W.K F a xs) : SqL W.K H a xs := by
  rcases e with (e | ⟨o, e⟩) | e
  · exact .inl (.inl (h a _ e))
  · exact .inl (.inr ⟨o, h a _ e⟩)
  · exact .inr e
theorem FS.dT {W : OC} {F H : Hp} (h : FS W F H) {a : Addr} {kvs : List (List Key × V)} (e : F a = some (.dT kvs)) : Rd H a (.dT kvs) := h a _ e
theorem FS.dK {W : OC} {F H : Hp} (h : FS W F H) {a : Addr} {kvs : List (Key × V)} (e : F a = some (.dK kvs)) : Rd H a (.dK kvs) := h a _ e

/-- what may have changed: what own tells, and what is known (by its own rule); tuples and locked things stay -/
structure Ext (own : Addr → Prop) (F H F' H' : Hp) : Prop where
  f : Le F F'
  h : ∀ a o, H a = some o → F a = none → ¬ own a → H' a = some o ∧ (F' a = none ∨ ∃ xs, o = .tup xs ∧ F' a = some o)
  l : ∀ a o u, H a = some (.frz o u) → H' a = some (.frz o u)
  t : ∀ a xs, H a = some (.tup xs) → H' a = some (.tup xs)
abbrev NoA : Addr → Prop := fun _ => False
theorem Ext.refl {own : Addr → Prop} {F H : Hp} : Ext own F H F H := ⟨Le.refl F, fun _ _ e n _ => ⟨e, .inl n⟩, fun _ _ _ e => e, fun _ _ e => e⟩
theorem Ext.trans {own own1 : Addr → Prop} {F H F1 H1 F2 H2 : Hp} (a : Ext own F H F1 H1) (b : Ext own1 F1 H1 F2 H2) (ho : ∀ p, own1 p → own p ∨ H p = none) : Ext own F H F2 H2 :=
  ⟨a.f.trans b.f, fun p o e n no => by
    obtain ⟨e1, n1⟩ := a.h p o e n no
    rcases n1 with n1 | ⟨xs, rfl, n1⟩
    · refine b.h p o e1 n1 fun q => ?_
      rcases ho p q with z | z
      · exact no z
      · rw [z] at e
        cases e
    · exact ⟨b.t p xs e1, .inr ⟨xs, rfl, b.f _ _ n1⟩⟩, fun p o u e => b.l p o u (a.l p o u e), fun p xs e => b.t p xs (a.t p xs e)⟩
theorem Ext.mono {own own1 : Addr → Prop} {F H F' H' : Hp} (a : Ext own F H F' H') (h : ∀ p, own p → own1 p) : Ext own1 F H F' H' :=
  ⟨a.f, fun p o e n no => a.h p o e n fun q => no (h p q), a.l, a.t⟩
theorem Ext.no {own : Addr → Prop} {F H F' H' : Hp} (a : Ext NoA F H F' H') : Ext own F H F' H' := a.mono fun _ z => z.elim
/-- a new object that is not (yet) known -/
theorem Ext.laid {own : Addr → Prop} {W : OC} {F H : Hp} {p : Addr} {o : HO} (fs : FS W F H) (h : H p = none) : Ext own F H F (upd H p o) :=
  ⟨Le.refl F, fun a u e n _ => ⟨by rw [upd_ne (ne_of_none e h)]; exact e, .inl n⟩, fun a o u e => by rw [upd_ne (ne_of_none e h)]; exact e, fun a xs e => by rw [upd_ne (ne_of_none e h)]; exact e⟩
/-- a new object that is known at once -/
theorem Ext.known {own : Addr → Prop} {W : OC} {F H : Hp} {p : Addr} {o u : HO} (fs : FS W F H) (h : H p = none) : Ext own F H (upd F p u) (upd H p o) :=
  ⟨Le.new (fs.free h), fun a v e n _ => ⟨by rw [upd_ne (ne_of_none e h)]; exact e, by rw [upd_ne (ne_of_none e h)]; exact .inl n⟩, fun a o u e => by rw [upd_ne (ne_of_none e h)]; exact e, fun a xs e => by rw [upd_ne (ne_of_none e h)]; exact e⟩
/-- an own object is written -/
theorem Ext.write {own : Addr → Prop} {F H : Hp} {p : Addr} {o : HO} (ho : own p) (nf : ∀ o u, H p ≠ some (.frz o u)) (nt : ∀ xs, H p ≠ some (.tup xs)) : Ext own F H F (upd H p o) :=
  ⟨Le.refl F, fun a v e n no => ⟨by rw [upd_ne (fun z => no (by rw [z]; exact ho))]; exact e, .inl n⟩, fun a o u e => by rw [upd_ne (fun z => nf o u (by rw [← z]; exact e))]; exact e, fun a xs e => by rw [upd_ne (fun z => nt xs (by rw [← z]; exact e))]; exact e⟩
theorem Live.mono {W : OC} {F H F' H' : Hp} {a : Addr} {u : HO} (l : Live W F H a u) (e : Le F F') (he : ∀ b o, (b = a ∨ (H b = some (.own a))) → H b = some o → H' b = some o)
    (hd : ∀ b, F b = none → H b = some (.own a) → F' b = none) : Live W F' H' a u := by
  cases u with
  | ins C dx fs =>
    obtain ⟨ds, f, h1, ⟨s1, s2, s3⟩, s4, h5⟩ := l
    refine ⟨ds, f, RepL.le e h1, ⟨he dx _ (.inr s1) s1, s2, ?_⟩, hd dx s4 s1, ?_⟩
    · rcases s3 with s3 | ⟨q, s3⟩
      · exact .inl (he a _ (.inl rfl) s3)
      · exact .inr ⟨q, he a _ (.inl rfl) s3⟩
    · rcases h5 with h5 | ⟨q, w, d, h5, h6, h7, h8⟩
      · exact .inl h5
      · exact .inr ⟨q, w, d, h5, e _ _ h6, Rep.le e h7, h8⟩
  | dT kvs =>
    rcases l with l | ⟨o, l⟩
    · exact .inl (he a _ (.inl rfl) l)
    · exact .inr ⟨o, he a _ (.inl rfl) l⟩
  | dK kvs =>
    rcases l with l | ⟨o, l⟩
    · exact .inl (he a _ (.inl rfl) l)
    · exact .inr ⟨o, he a _ (.inl rfl) l⟩
  | lst xs => exact he a _ (.inl rfl) l
  | tup xs => exact he a _ (.inl rfl) l
  | set S n => exact he a _ (.inl rfl) l
  | own x => exact he a _ (.inl rfl) l
  | xd fs => exact he a _ (.inl rfl) l
  | met f x => exact he a _ (.inl rfl) l
  | rng x y => exact he a _ (.inl rfl) l
  | frz x y => exact he a _ (.inl rfl) l
  | tbl ps => exact he a _ (.inl rfl) l
  | ext f => exact he a _ (.inl rfl) l
/-- nothing that is known lies at p: the rest stays known behind a new object there -/
theorem FS.laid {W : OC} {F H : Hp} {p : Addr} {o : HO} (h : FS W F H) (n : H p = none) : FS W F (upd H p o) := fun a u e =>
  (h a u e).mono (Le.refl F) (fun b v _ q => by rw [upd_ne (ne_of_none q n)]; exact q) fun b q _ => q
theorem FS.known {W : OC} {F H : Hp} {p : Addr} {u o : HO} (h : FS W F H) (n : H p = none) (l : Live W (upd F p u) (upd H p o) p u) : FS W (upd F p u) (upd H p o) := fun a v e => by
  by_cases ha : a = p
  · subst ha
    rw [upd_same] at e
    cases e
    exact l
  · rw [upd_ne ha] at e
    exact (h a v e).mono (Le.new (h.free n)) (fun b v _ q => by rw [upd_ne (ne_of_none q n)]; exact q) fun b q z => by
      rw [upd_ne (ne_of_none z n)]
      exact q
theorem FS.newTup {W : OC} {F H : Hp} {p : Addr} {xs : List V} (h : FS W F H) (n : H p = none) : FS W (upd F p (.tup xs)) (upd H p (.tup xs)) := h.known n upd_same
theorem FS.newLst {W : OC} {F H : Hp} {p : Addr} {xs : List V} (h : FS W F H) (n : H p = none) : FS W (upd F p (.lst xs)) (upd H p (.lst xs)) := h.known n upd_same
/-- an object that is not known is changed -/
theorem FS.write {W : OC} {F H : Hp} {p : Addr} {o : HO} (h : FS W F H) (n : F p = none) (no : ∀ a, H p ≠ some (.own a)) : FS W F (upd H p o) := fun a u e =>
  (h a u e).mono (Le.refl F) (fun b v hb q => by
    have ne : b ≠ p := by
      rcases hb with hb | hb
      · rw [hb]
        exact ne_of_none e n
      · intro z
        rw [z] at hb
        exact no a hb
    rw [upd_ne ne]
    exact q) fun b q _ => q
/-- an object is known from now on -/
theorem FS.freeze {W : OC} {F H : Hp} {p : Addr} {u : HO} (h : FS W F H) (n : F p = none) (no : ∀ a, H p ≠ some (.own a)) (l : Live W (upd F p u) H p u) : FS W (upd F p u) H := fun a v e => by
  by_cases ha : a = p
  · subst ha
    rw [upd_same] at e
    cases e
    exact l
  · rw [upd_ne ha] at e
    exact (h a v e).mono (Le.new n) (fun b v _ q => q) fun b q z => by
      have ne : b ≠ p := fun y => by
        rw [y] at z
        exact no a z
      rw [upd_ne ne]
      exact q

/-- a slot: nothing is said, a known value, an object of the frame's own (a list, a dict) -/
inductive Sl where
  | no | fr (d : D) | ow (d : D)
def OwnAt (W : OC) (F H : Hp) (p : Addr) : D → Prop
  | .lst xs => ∃ vs, H p = some (.lst vs) ∧ vs.length ≤ sizeLine ∧ RepL W F xs vs
  | .dT kvs => ∃ vs, H p = some (.dT vs) ∧ RepT W F kvs vs
  | .dK kvs => ∃ vs, H p = some (.dK vs) ∧ RepK W F kvs vs
  | _ => False
theorem OwnAt.there {W : OC} {F H : Hp} {p : Addr} {d : D} (h : OwnAt W F H p d) : (∃ vs, H p = some (.lst vs)) ∨ (∃ vs, H p = some (.dT vs)) ∨ ∃ vs, H p = some (.dK vs) := by
  cases d with
  | lst xs => exact .inl (let ⟨vs, e, _⟩ := h; ⟨vs, e⟩)
  | dT kvs => exact .inr (.inl (let ⟨vs, e, _⟩ := h; ⟨vs, e⟩))
  | dK kvs => exact .inr (.inr (let ⟨vs, e, _⟩ := h; ⟨vs, e⟩))
  | _ => exact h.elim
theorem OwnAt.obj {W : OC} {F H : Hp} {p : Addr} {d : D} (h : OwnAt W F H p d) : ∃ o, H p = some o := by
  rcases h.there with ⟨_, e⟩ | ⟨_, e⟩ | ⟨_, e⟩ <;> exact ⟨_, e⟩
theorem OwnAt.noOwn {W : OC} {F H : Hp} {p : Addr} {d : D} (h : OwnAt W F H p d) (a : Addr) : H p ≠ some (HO.own a) := fun z => by
  rcases h.there with ⟨_, e⟩ | ⟨_, e⟩ | ⟨_, e⟩ <;> (rw [e] at z; cases z)
theorem OwnAt.mono {W : OC} {F H F' H' : Hp} {p : Addr} {d : D} (h : OwnAt W F H p d) (e : Le F F') (he : ∀ o, H p = some o → H' p = some o) : OwnAt W F' H' p d := by
  cases d with
  | lst xs => exact let ⟨vs, h1, h2, h3⟩ := h; ⟨vs, he _ h1, h2, RepL.le e h3⟩
  | dT kvs => exact let ⟨vs, h1, h3⟩ := h; ⟨vs, he _ h1, RepT.le e h3⟩
  | dK kvs => exact let ⟨vs, h1, h3⟩ := h; ⟨vs, he _ h1, RepK.le e h3⟩
  | _ => exact h.elim
/-- an own object is known from now on -/
theorem OwnAt.freeze {W : OC} {F H : Hp} {p : Addr} {d : D} (h : OwnAt W F H p d) (fs : FS W F H) (n : F p = none) : ∃ u, H p = some u ∧ FS W (upd F p u) H ∧ Rep W (upd F p u) d (.ref p) := by
  have no := h.noOwn
  have le : ∀ u, Le F (upd F p u) := fun u => Le.new n
  cases d with
  | lst xs =>
    obtain ⟨vs, h1, h2, h3⟩ := h
    refine ⟨_, h1, fs.freeze n no h1, ?_⟩
    simp only [Rep]
    exact ⟨p, vs, rfl, upd_same, h2, RepL.le (le _) h3⟩
  | dT kvs =>
    obtain ⟨vs, h1, h3⟩ := h
    refine ⟨_, h1, fs.freeze n no (.inl h1), ?_⟩
    simp only [Rep]
    exact ⟨p, vs, rfl, upd_same, RepT.le (le _) h3⟩
  | dK kvs =>
    obtain ⟨vs, h1, h3⟩ := h
    refine ⟨_, h1, fs.freeze n no (.inl h1), ?_⟩
    simp only [Rep]
    exact ⟨p, vs, rfl, upd_same, RepK.le (le _) h3⟩
  | _ => exact h.elim

def SlOk (W : OC) (F H : Hp) : Sl → Option V → Prop
  | .no, _ => True
  | .fr d, o => ∃ v, o = some v ∧ Rep W F d v
  | .ow d, o => ∃ p, o = some (.ref p) ∧ F p = none ∧ OwnAt W F H p d
def Own (ρ : List Sl) (σ : L2.St) (a : Addr) : Prop := ∃ (i : Nat) (d : D), ρ[i]? = some (.ow d) ∧ σ[i]? = some (some (.ref a))
structure EnvOk (W : OC) (ρ : List Sl) (σ : L2.St) (F H : Hp) : Prop where
  fs : FS W F H
  len : ρ.length = σ.length
  sl : ∀ (i : Nat) (s : Sl) (o : Option V), ρ[i]? = some s → σ[i]? = some o → SlOk W F H s o
  dis : ∀ (i j : Nat) (di dj : D) (p : Addr), ρ[i]? = some (.ow di) → ρ[j]? = some (.ow dj) → σ[i]? = some (some (.ref p)) → σ[j]? = some (some (.ref p)) → i = j
theorem EnvOk.get {W : OC} {ρ : List Sl} {σ : L2.St} {F H : Hp} (E : EnvOk W ρ σ F H) {i : Nat} {d : D} (h : ρ[i]? = some (.fr d)) : ∃ v, σ[i]? = some (some v) ∧ Rep W F d v := by
  have hi : i < σ.length := by rw [← E.len]; exact (List.getElem?_eq_some_iff.mp h).1
  obtain ⟨v, e, r⟩ := E.sl i _ σ[i] h (by simp [hi])
  exact ⟨v, by rw [← e]; simp [hi], r⟩
theorem EnvOk.own {W : OC} {ρ : List Sl} {σ : L2.St} {F H : Hp} (E : EnvOk W ρ σ F H) {i : Nat} {d : D} (h : ρ[i]? = some (.ow d)) : ∃ p, σ[i]? = some (some (.ref p)) ∧ F p = none ∧ OwnAt W F H p d := by
  have hi : i < σ.length := by rw [← E.len]; exact (List.getElem?_eq_some_iff.mp h).1
  obtain ⟨p, e, n, r⟩ := E.sl i _ σ[i] h (by simp [hi])
  exact ⟨p, by rw [← e]; simp [hi], n, r⟩
theorem EnvOk.ownAt {W : OC} {ρ : List Sl} {σ : L2.St} {F H : Hp} (E : EnvOk W ρ σ F H) {a : Addr} (h : Own ρ σ a) : ∃ o, H a = some o ∧ F a = none := by
  obtain ⟨i, d, h1, h2⟩ := h
  obtain ⟨p, e, n, r⟩ := E.own h1
  rw [h2] at e
  cases e
  obtain ⟨o, q⟩ := r.obj
  exact ⟨o, q, n⟩
theorem EnvOk.ownNone {W : OC} {ρ : List Sl} {σ : L2.St} {F H : Hp} (E : EnvOk W ρ σ F H) {a : Addr} (h : H a = none) : ¬ Own ρ σ a := fun o => by
  obtain ⟨_, e, _⟩ := E.ownAt o
  rw [h] at e
  cases e
/-- the heap grew -/
theorem EnvOk.ext {W : OC} {ρ : List Sl} {σ : L2.St} {F H F' H' : Hp} (E : EnvOk W ρ σ F H) (fs : FS W F' H') (x : Ext NoA F H F' H') : EnvOk W ρ σ F' H' :=
  ⟨fs, E.len, fun i s o h1 h2 => by
    have q := E.sl i s o h1 h2
    cases s with
    | no => exact True.intro
    | fr d => exact let ⟨v, e, r⟩ := q; ⟨v, e, Rep.le x.f r⟩
    | ow d =>
      obtain ⟨p, e, n, r⟩ := q
      obtain ⟨u, hu⟩ := r.obj
      have z := x.h p u hu n (fun z => z)
      have zn : F' p = none := by
        rcases z.2 with z2 | ⟨xs, z2, _⟩
        · exact z2
        · rcases r.there with ⟨_, q⟩ | ⟨_, q⟩ | ⟨_, q⟩ <;> (rw [q, z2] at hu; cases hu)
      exact ⟨p, e, zn, r.mono x.f fun o ho => (x.h p o ho n (fun z => z)).1⟩, E.dis⟩
/-- slots that say less -/
theorem EnvOk.weak {W : OC} {ρ ρ' : List Sl} {σ σ' : L2.St} {F H : Hp} (E : EnvOk W ρ σ F H) (hl : ρ'.length = σ'.length) (hw : ∀ (i : Nat) s o, ρ'[i]? = some s → σ'[i]? = some o → s = .no ∨ (ρ[i]? = some s ∧ σ[i]? = some o)) : EnvOk W ρ' σ' F H :=
  ⟨E.fs, hl, fun i s o h1 h2 => by
    rcases hw i s o h1 h2 with z | ⟨z1, z2⟩
    · subst z
      exact True.intro
    · exact E.sl i s o z1 z2, fun i j di dj p h1 h2 h3 h4 => by
    rcases hw i _ _ h1 h3 with z | ⟨z1, z2⟩
    · cases z
    · rcases hw j _ _ h2 h4 with z | ⟨y1, y2⟩
      · cases z
      · exact E.dis i j di dj p z1 y1 z2 y2⟩
theorem set_get? {α : Type} {l : List α} {i j : Nat} {x y : α} (h : (l.set i x)[j]? = some y) : (j = i ∧ y = x ∧ i < l.length) ∨ (j ≠ i ∧ l[j]? = some y) := by
  by_cases e : i = j
  · subst e
    obtain ⟨h1, h2⟩ := List.getElem?_eq_some_iff.mp h
    rw [List.length_set] at h1
    refine .inl ⟨rfl, ?_, h1⟩
    rw [← h2]
    simp
  · rw [List.getElem?_set_ne e] at h
    exact .inr ⟨Ne.symm e, h⟩
/-- a name is stored: a known value -/
theorem EnvOk.setFr {W : OC} {ρ : List Sl} {σ : L2.St} {F H : Hp} (E : EnvOk W ρ σ F H) (i : Nat) {d : D} {v : V} (r : Rep W F d v) : EnvOk W (ρ.set i (.fr d)) (σ.set i (some v)) F H :=
  ⟨E.fs, by rw [List.length_set, List.length_set]; exact E.len, fun j s o h1 h2 => by
    rcases set_get? h1 with ⟨e, e1, _⟩ | ⟨ne, h1⟩
    · rcases set_get? h2 with ⟨_, e2, _⟩ | ⟨ne, _⟩
      · subst e1 e2
        exact ⟨v, rfl, r⟩
      · exact (ne e).elim
    · rcases set_get? h2 with ⟨e, _⟩ | ⟨_, h2⟩
      · exact (ne e).elim
      · exact E.sl j s o h1 h2, fun j k dj dk p h1 h2 h3 h4 => by
    rcases set_get? h1 with ⟨_, z, _⟩ | ⟨n1, h1⟩
    · cases z
    · rcases set_get? h2 with ⟨_, z, _⟩ | ⟨n2, h2⟩
      · cases z
      · rcases set_get? h3 with ⟨z, _⟩ | ⟨_, h3⟩
        · exact (n1 z).elim
        · rcases set_get? h4 with ⟨z, _⟩ | ⟨_, h4⟩
          · exact (n2 z).elim
          · exact E.dis j k dj dk p h1 h2 h3 h4⟩
/-- .. an object of its own -/
theorem EnvOk.setOw {W : OC} {ρ : List Sl} {σ : L2.St} {F H : Hp} (E : EnvOk W ρ σ F H) (i : Nat) {d : D} {p : Addr} (n : F p = none) (r : OwnAt W F H p d) (no : ¬ Own ρ σ p) : EnvOk W (ρ.set i (.ow d)) (σ.set i (some (.ref p))) F H :=
  ⟨E.fs, by rw [List.length_set, List.length_set]; exact E.len, fun j s o h1 h2 => by
    rcases set_get? h1 with ⟨e, e1, _⟩ | ⟨ne, h1⟩
    · rcases set_get? h2 with ⟨_, e2, _⟩ | ⟨ne, _⟩
      · subst e1 e2
        exact ⟨p, rfl, n, r⟩
      · exact (ne e).elim
    · rcases set_get? h2 with ⟨e, _⟩ | ⟨_, h2⟩
      · exact (ne e).elim
      · exact E.sl j s o h1 h2, fun j k dj dk q h1 h2 h3 h4 => by
    rcases set_get? h1 with ⟨a1, _, _⟩ | ⟨n1, h1⟩
    · rcases set_get? h2 with ⟨a2, _, _⟩ | ⟨n2, h2⟩
      · rw [a1, a2]
      · rcases set_get? h3 with ⟨_, z, _⟩ | ⟨n3, _⟩
        · rcases set_get? h4 with ⟨a4, _⟩ | ⟨_, h4⟩
          · exact (n2 a4).elim
          · cases z
            exact (no ⟨k, dk, h2, h4⟩).elim
        · exact (n3 a1).elim
    · rcases set_get? h3 with ⟨a3, _⟩ | ⟨_, h3⟩
      · exact (n1 a3).elim
      · rcases set_get? h2 with ⟨a2, _, _⟩ | ⟨n2, h2⟩
        · rcases set_get? h4 with ⟨_, z, _⟩ | ⟨n4, _⟩
          · cases z
            exact (no ⟨j, dj, h1, h3⟩).elim
          · exact (n4 a2).elim
        · rcases set_get? h4 with ⟨a4, _⟩ | ⟨_, h4⟩
          · exact (n2 a4).elim
          · exact E.dis j k dj dk q h1 h2 h3 h4⟩
end Ov
/-! Ov: the readings of expressions by plain functions on environments of data. -/
namespace Ov
open PySem PySem.Spec PyProof.Rows L2

abbrev Ev := List Sl → Option (D × List Sl)
abbrev Et := List Sl → Option (Bool × List Sl)
abbrev Ea := List Sl → Option (List D × List Sl)

def tX (W : OC) (c : Ev) : TE := fun σ H Q => ∃ ρ F d ρ', EnvOk W ρ σ F H ∧ c ρ = some (d, ρ') ∧
  ∀ v F' H', EnvOk W ρ' σ F' H' → Rep W F' d v → Ext (Own ρ σ) F H F' H' → (∀ a, Own ρ' σ a → Own ρ σ a) → Q v H'
def tT (W : OC) (c : Et) : TT := fun σ H Q => ∃ ρ F b ρ', EnvOk W ρ σ F H ∧ c ρ = some (b, ρ') ∧
  ∀ F' H', EnvOk W ρ' σ F' H' → Ext (Own ρ σ) F H F' H' → (∀ a, Own ρ' σ a → Own ρ σ a) → Q b H'
def tA (W : OC) (c : Ea) : TA := fun σ H Q => ∃ ρ F ds ρ', EnvOk W ρ σ F H ∧ c ρ = some (ds, ρ') ∧
  ∀ vs F' H', EnvOk W ρ' σ F' H' → RepL W F' ds vs → Ext (Own ρ σ) F H F' H' → (∀ a, Own ρ' σ a → Own ρ σ a) → Q vs H'
/-- an object that nobody else has (new, or of a slot that is no more) -/
def tO (W : OC) (c : Ev) : TE := fun σ H Q => ∃ ρ F d ρ', EnvOk W ρ σ F H ∧ c ρ = some (d, ρ') ∧
  ∀ p F' H', EnvOk W ρ' σ F' H' → OwnAt W F' H' p d → F' p = none → ¬ Own ρ' σ p → (H p = none ∨ Own ρ σ p) → Ext (Own ρ σ) F H F' H' → (∀ a, Own ρ' σ a → Own ρ σ a) → Q (.ref p) H'

abbrev PX (X : Cx) (cf : List D → D → Prop) (e : Expr) (c : Ev) : Prop := PE X e (tX ⟨X.K, cf⟩ c)
abbrev PXT (X : Cx) (cf : List D → D → Prop) (e : Expr) (c : Et) : Prop := PT X e (tT ⟨X.K, cf⟩ c)
abbrev PXA (X : Cx) (cf : List D → D → Prop) (es : List Expr) (c : Ea) : Prop := PA X es (tA ⟨X.K, cf⟩ c)
abbrev PXO (X : Cx) (cf : List D → D → Prop) (e : Expr) (c : Ev) : Prop := PE X e (tO ⟨X.K, cf⟩ c)

theorem pe_imp {X : Cx} {e : Expr} {t t' : TE} (h : PE X e t) (i : ∀ σ H Q, t' σ H Q → t σ H Q) : PE X e t' := ⟨fun pins s σ H Q I q => h.run pins s σ H Q I (i σ H Q q)⟩
theorem pt_imp {X : Cx} {e : Expr} {t t' : TT} (h : PT X e t) (i : ∀ σ H Q, t' σ H Q → t σ H Q) : PT X e t' := ⟨fun pins s σ H Q I q => h.run pins s σ H Q I (i σ H Q q)⟩
theorem pa_imp {X : Cx} {e : List Expr} {t t' : TA} (h : PA X e t) (i : ∀ σ H Q, t' σ H Q → t σ H Q) : PA X e t' := ⟨fun pos pins s σ H Q I q => h.run pos pins s σ H Q I (i σ H Q q)⟩
theorem ps_imp {X : Cx} {e : Stmt} {t t' : TS} (h : PS X e t) (i : ∀ D σ H, t' D σ H → t D σ H) : PS X e t' := ⟨fun pins s σ H D I q => h.run pins s σ H D I (i D σ H q)⟩
theorem pss_imp {X : Cx} {e : List Stmt} {t t' : TS} (h : PSs X e t) (i : ∀ D σ H, t' D σ H → t D σ H) : PSs X e t' := ⟨fun pins s σ H D I q => h.run pins s σ H D I (i D σ H q)⟩

theorem ob {α β : Type} {o : Option α} {f : α → Option β} {b : β} (h : o.bind f = some b) : ∃ a, o = some a ∧ f a = some b := by
  cases o with
  | none => cases h
  | some a => exact ⟨a, rfl, h⟩

/-! ### an own object is handed on as a known one -/
theorem Ext.freeze {own : Addr → Prop} {F H F' H' : Hp} {p : Addr} {u : HO} (x : Ext own F H F' H') (n : F' p = none) (hp : H p = none ∨ own p) : Ext own F H (upd F' p u) H' :=
  ⟨x.f.trans (Le.new n), fun a o e n' no => by
    obtain ⟨h1, h2⟩ := x.h a o e n' no
    have ne : a ≠ p := by
      intro z
      subst z
      rcases hp with q | q
      · rw [q] at e
        cases e
      · exact no q
    exact ⟨h1, by rw [upd_ne ne]; exact h2⟩, x.l, x.t⟩
theorem EnvOk.know {W : OC} {ρ : List Sl} {σ : L2.St} {F H : Hp} {p : Addr} {u : HO} (E : EnvOk W ρ σ F H) (fs : FS W (upd F p u) H) (n : F p = none) (no : ¬ Own ρ σ p) : EnvOk W ρ σ (upd F p u) H :=
  ⟨fs, E.len, fun i s o h1 h2 => by
    have q := E.sl i s o h1 h2
    cases s with
    | no => exact True.intro
    | fr d => exact let ⟨v, e, r⟩ := q; ⟨v, e, Rep.le (Le.new n) r⟩
    | ow d =>
      obtain ⟨q1, e, n1, r⟩ := q
      have ne : q1 ≠ p := fun z => no ⟨i, d, h1, by rw [h2, e, z]⟩
      exact ⟨q1, e, by rw [upd_ne ne]; exact n1, r.mono (Le.new n) fun o h => h⟩, E.dis⟩
theorem tX_of_tO {W : OC} {c : Ev} {σ : L2.St} {H : Hp} {Q : VK} (h : tX W c σ H Q) : tO W c σ H Q := by
  obtain ⟨ρ, F, d, ρ', E, hc, k⟩ := h
  refine ⟨ρ, F, d, ρ', E, hc, fun p F' H' E' o n no hp x ho => ?_⟩
  obtain ⟨u, hu, fs, r⟩ := o.freeze E'.fs n
  exact k _ _ _ (E'.know fs n no) r (x.freeze n hp) ho
theorem x_o {X : Cx} {cf : List D → D → Prop} {e : Expr} {c : Ev} (h : PXO X cf e c) : PX X cf e c := pe_imp h fun _ _ _ q => tX_of_tO q

/-! ### names, constants -/
def cV (i : Nat) : Ev := fun ρ => match ρ[i]? with
  | some (.fr d) => some (d, ρ)
  | some (.ow d) => some (d, ρ.set i (.fr d))
  | _ => none
theorem Own.set {ρ : List Sl} {σ : L2.St} {i : Nat} {d : D} {a : Addr} (h : Own (ρ.set i (.fr d)) σ a) : Own ρ σ a := by
  obtain ⟨j, e, h1, h2⟩ := h
  rcases set_get? h1 with ⟨_, z, _⟩ | ⟨_, h1⟩
  · cases z
  · exact ⟨j, e, h1, h2⟩
theorem EnvOk.drop {W : OC} {ρ : List Sl} {σ : L2.St} {F H : Hp} {i : Nat} {d : D} {p : Addr} {u : HO} (E : EnvOk W ρ σ F H) (h1 : ρ[i]? = some (.ow d)) (h2 : σ[i]? = some (some (.ref p)))
    (fs : FS W (upd F p u) H) (n : F p = none) (r : Rep W (upd F p u) d (.ref p)) : EnvOk W (ρ.set i (.fr d)) σ (upd F p u) H :=
  ⟨fs, by rw [List.length_set]; exact E.len, fun j s o g1 g2 => by
    rcases set_get? g1 with ⟨e, e1, _⟩ | ⟨ne, g1⟩
    · subst e e1
      rw [h2] at g2
      cases g2
      exact ⟨_, rfl, r⟩
    · have q := E.sl j s o g1 g2
      cases s with
      | no => exact True.intro
      | fr d => exact let ⟨v, e, r⟩ := q; ⟨v, e, Rep.le (Le.new n) r⟩
      | ow d =>
        obtain ⟨q1, e, n1, r⟩ := q
        have ne' : q1 ≠ p := fun z => ne (E.dis j i _ _ p g1 h1 (by rw [g2, e, z]) h2)
        exact ⟨q1, e, by rw [upd_ne ne']; exact n1, r.mono (Le.new n) fun o h => h⟩, fun j k dj dk q g1 g2 g3 g4 => by
    rcases set_get? g1 with ⟨_, z, _⟩ | ⟨_, g1⟩
    · cases z
    · rcases set_get? g2 with ⟨_, z, _⟩ | ⟨_, g2⟩
      · cases z
      · exact E.dis j k dj dk q g1 g2 g3 g4⟩
theorem x_v {X : Cx} {cf : List D → D → Prop} {e : Expr} {i : Nat} (h : PE X e (tVar i)) : PX X cf e (cV i) := pe_imp h fun σ H Q q => by
  obtain ⟨ρ, F, d, ρ', E, hc, k⟩ := q
  unfold cV at hc
  split at hc
  · rename_i d0 e0
    cases hc
    obtain ⟨v, e, r⟩ := E.get e0
    exact ⟨v, e, k v F H E r Ext.refl fun _ z => z⟩
  · rename_i d0 e0
    cases hc
    obtain ⟨p, e, n, r⟩ := E.own e0
    obtain ⟨u, hu, fs, rr⟩ := r.freeze E.fs n
    exact ⟨_, e, k _ _ _ (E.drop e0 e fs n rr) rr (Ext.refl.freeze n (.inr ⟨i, d, e0, e⟩)) fun _ => Own.set⟩
  · cases hc
/-- .. the slot's own object is handed out, the slot is done -/
def cVO (i : Nat) : Ev := fun ρ => match ρ[i]? with
  | some (.ow d) => some (d, ρ.set i .no)
  | _ => none
theorem EnvOk.out {W : OC} {ρ : List Sl} {σ : L2.St} {F H : Hp} (E : EnvOk W ρ σ F H) (i : Nat) : EnvOk W (ρ.set i .no) σ F H :=
  E.weak (by rw [List.length_set]; exact E.len) fun j s o h1 h2 => by
    rcases set_get? h1 with ⟨_, z, _⟩ | ⟨_, h1⟩
    · exact .inl z
    · exact .inr ⟨h1, h2⟩
theorem Own.out {ρ : List Sl} {σ : L2.St} {i : Nat} {a : Addr} (h : Own (ρ.set i .no) σ a) : Own ρ σ a ∧ ∃ j d, j ≠ i ∧ ρ[j]? = some (.ow d) ∧ σ[j]? = some (some (.ref a)) := by
  obtain ⟨j, e, h1, h2⟩ := h
  rcases set_get? h1 with ⟨_, z, _⟩ | ⟨ne, h1⟩
  · cases z
  · exact ⟨⟨j, e, h1, h2⟩, j, e, ne, h1, h2⟩
theorem o_v {X : Cx} {cf : List D → D → Prop} {e : Expr} {i : Nat} (h : PE X e (tVar i)) : PXO X cf e (cVO i) := pe_imp h fun σ H Q q => by
  obtain ⟨ρ, F, d, ρ', E, hc, k⟩ := q
  unfold cVO at hc
  split at hc
  · rename_i d0 e0
    cases hc
    obtain ⟨p, e, n, r⟩ := E.own e0
    refine ⟨_, e, k p F H (E.out i) r n (fun z => ?_) (.inr ⟨i, d, e0, e⟩) Ext.refl fun _ z => (Own.out z).1⟩
    obtain ⟨_, j, dj, ne, h1, h2⟩ := Own.out z
    exact ne (E.dis j i _ _ p h1 e0 h2 e)
  · cases hc

def cC (d : D) : Ev := fun ρ => some (d, ρ)
theorem tC_imp {W : OC} {d : D} {v : V} {σ : L2.St} {H : Hp} {Q : VK} (r : ∀ F, Rep W F d v) (h : tX W (cC d) σ H Q) : tC v σ H Q := by
  obtain ⟨ρ, F, d, ρ', E, hc, k⟩ := h
  cases hc
  exact k v F H E (r F) Ext.refl fun _ z => z
section
variable {X : Cx} {cf : List D → D → Prop} {e : Expr}
theorem x_kint {i : Int} (h : PE X e (tC (.int i))) : PX X cf e (cC (.int i)) := pe_imp h fun _ _ _ q => tC_imp (fun _ => by simp only [Rep]) q
theorem x_int {i : Int} {j : Nat} {pos : Pos} : PX X cf (.Constant (.int i) j pos) (cC (.int i)) := x_kint pe_int
theorem x_bl {b : Bool} {j : Nat} {pos : Pos} : PX X cf (.Constant (.bool b) j pos) (cC (.bl b)) := pe_imp pe_bl fun _ _ _ q => tC_imp (fun _ => by simp only [Rep]) q
theorem x_non {j : Nat} {pos : Pos} : PX X cf (.Constant .none j pos) (cC .non) := pe_imp pe_non fun _ _ _ q => tC_imp (fun _ => by simp only [Rep]) q
theorem x_str {x : Str} {j : Nat} {pos : Pos} : PX X cf (.Constant (.str x) j pos) (cC (.str x)) := pe_imp pe_str fun _ _ _ q => tC_imp (fun _ => by simp only [Rep]) q
end

/-! ### what is known of a value: by the known heap, or as an own object -/
def KnB (W : OC) (F H : Hp) (d : D) (v : V) : Prop := Rep W F d v ∨ ∃ p, v = .ref p ∧ OwnAt W F H p d
theorem KnB.of {W : OC} {F H : Hp} {d : D} {v : V} (h : Rep W F d v) : KnB W F H d v := .inl h
def getS (ρ : List Sl) (i : Nat) : Option D := match ρ[i]? with
  | some (.fr d) => some d
  | some (.ow d) => some d
  | _ => none
theorem EnvOk.getS {W : OC} {ρ : List Sl} {σ : L2.St} {F H : Hp} (E : EnvOk W ρ σ F H) {i : Nat} {d : D} (h : getS ρ i = some d) : ∃ v, σ[i]? = some (some v) ∧ KnB W F H d v := by
  unfold Ov.getS at h
  split at h
  · rename_i e0
    cases h
    obtain ⟨v, e, r⟩ := E.get e0
    exact ⟨v, e, .inl r⟩
  · rename_i e0
    cases h
    obtain ⟨p, e, n, r⟩ := E.own e0
    exact ⟨_, e, .inr ⟨p, rfl, r⟩⟩
  · cases h
section
variable {W : OC} {F H : Hp} {v : V}
theorem KnB.int {i : Int} (h : KnB W F H (.int i) v) : v = .int i := by
  rcases h with h | ⟨_, _, h⟩
  · simpa only [Rep] using h
  · exact h.elim
theorem KnB.bl {b : Bool} (h : KnB W F H (.bl b) v) : v = .bl b := by
  rcases h with h | ⟨_, _, h⟩
  · simpa only [Rep] using h
  · exact h.elim
theorem KnB.non (h : KnB W F H .non v) : v = .non := by
  rcases h with h | ⟨_, _, h⟩
  · simpa only [Rep] using h
  · exact h.elim
theorem KnB.str {x : Str} (h : KnB W F H (.str x) v) : v = .str x := by
  rcases h with h | ⟨_, _, h⟩
  · simpa only [Rep] using h
  · exact h.elim
theorem KnB.tup {xs : List D} (fs : FS W F H) (h : KnB W F H (.tup xs) v) : ∃ a vs, v = .ref a ∧ F a = some (.tup vs) ∧ H a = some (.tup vs) ∧ vs.length ≤ sizeLine ∧ RepL W F xs vs := by
  rcases h with h | ⟨_, _, h⟩
  · simp only [Rep] at h
    obtain ⟨a, vs, h1, h2, h3, h4⟩ := h
    exact ⟨a, vs, h1, h2, fs.tup h2, h3, h4⟩
  · exact h.elim
theorem KnB.lst {xs : List D} (fs : FS W F H) (h : KnB W F H (.lst xs) v) : ∃ a vs, v = .ref a ∧ H a = some (.lst vs) ∧ vs.length ≤ sizeLine ∧ RepL W F xs vs := by
  rcases h with h | ⟨p, e, vs, h1, h2, h3⟩
  · simp only [Rep] at h
    obtain ⟨a, vs, h1, h2, h3, h4⟩ := h
    exact ⟨a, vs, h1, fs.lst h2, h3, h4⟩
  · exact ⟨p, vs, e, h1, h2, h3⟩
theorem KnB.dT {xs : List (List Int × D)} (fs : FS W F H) (h : KnB W F H (.dT xs) v) : ∃ a vs, v = .ref a ∧ Rd H a (.dT vs) ∧ RepT W F xs vs := by
  rcases h with h | ⟨p, e, vs, h1, h3⟩
  · simp only [Rep] at h
    obtain ⟨a, vs, h1, h2, h4⟩ := h
    exact ⟨a, vs, h1, fs.dT h2, h4⟩
  · exact ⟨p, vs, e, .inl h1, h3⟩
theorem KnB.dK {xs : List (Int × D)} (fs : FS W F H) (h : KnB W F H (.dK xs) v) : ∃ a vs, v = .ref a ∧ Rd H a (.dK vs) ∧ RepK W F xs vs := by
  rcases h with h | ⟨p, e, vs, h1, h3⟩
  · simp only [Rep] at h
    obtain ⟨a, vs, h1, h2, h4⟩ := h
    exact ⟨a, vs, h1, fs.dK h2, h4⟩
  · exact ⟨p, vs, e, .inl h1, h3⟩
theorem KnB.scr {ns : List Int} (fs : FS W F H) (h : KnB W F H (.scr ns) v) : ∃ a, v = .ref a ∧ SqL W.K H a (ns.map V.int) ∧ ns.length ≤ sizeLine := by
  rcases h with h | ⟨_, _, h⟩
  · simp only [Rep] at h
    obtain ⟨a, h1, h2, h3⟩ := h
    exact ⟨a, h1, fs.scr h2, h3⟩
  · exact h.elim
end

/-! ### operations on values -/
/-- a known value comes out -/
def Op2 (W : OC) (r : R2) (f : D → D → Option D) : Prop := ∀ F H d e z x y (Q : VK), FS W F H → KnB W F H d x → KnB W F H e y → f d e = some z →
  (∀ v F' H', FS W F' H' → Rep W F' z v → Ext NoA F H F' H' → Q v H') → r x y H Q
/-- a new object comes out -/
def Op2O (W : OC) (r : R2) (f : D → D → Option D) : Prop := ∀ F H d e z x y (Q : VK), FS W F H → KnB W F H d x → KnB W F H e y → f d e = some z →
  (∀ p F' H', FS W F' H' → OwnAt W F' H' p z → F' p = none → H p = none → Ext NoA F H F' H' → Q (.ref p) H') → r x y H Q
def c2 (f : D → D → Option D) (a b : Ev) : Ev := fun ρ => (a ρ).bind fun p => (b p.2).bind fun q => (f p.1 q.1).bind fun z => some (z, q.2)
def cB1 (i : Nat) (f : D → D → Option D) (b : Ev) : Ev := fun ρ => (getS ρ i).bind fun _ => (b ρ).bind fun q => (getS q.2 i).bind fun d => (f d q.1).bind fun z => some (z, q.2)
def cB2 (i : Nat) (f : D → D → Option D) (a : Ev) : Ev := fun ρ => (a ρ).bind fun p => (getS p.2 i).bind fun d => (f p.1 d).bind fun z => some (z, p.2)
section
variable {W : OC} {r : R2} {f : D → D → Option D} {ca cb : Ev} {σ : L2.St} {H : Hp} {Q : VK} {i : Nat}
theorem EnvOk.own' {W : OC} {ρ : List Sl} {σ : L2.St} {F H F' H' : Hp} {p : Addr} (E : EnvOk W ρ σ F H) (h : H p = none) : ¬ Own ρ σ p := E.ownNone h
theorem op_imp (hf : Op2 W r f) (h : tX W (c2 f ca cb) σ H Q) : tOp r (tX W ca) (tX W cb) σ H Q := by
  obtain ⟨ρ, F, d, ρ', E, hc, k⟩ := h
  obtain ⟨⟨d1, ρ1⟩, h1, hc⟩ := ob hc
  obtain ⟨⟨d2, ρ2⟩, h2, hc⟩ := ob hc
  obtain ⟨z, h3, hc⟩ := ob hc
  cases hc
  refine ⟨ρ, F, d1, ρ1, E, h1, fun v F1 H1 E1 r1 x1 o1 => ⟨ρ1, F1, d2, ρ2, E1, h2, fun v2 F2 H2 E2 r2 x2 o2 => ?_⟩⟩
  refine hf F2 H2 d1 d2 _ v v2 Q E2.fs (.inl (Rep.le x2.f r1)) (.inl r2) h3 fun v3 F3 H3 fs3 r3 x3 => k v3 F3 H3 (E2.ext fs3 x3) r3 ?_ fun a z => o1 a (o2 a z)
  exact (x1.trans x2 fun p z => .inl (o1 p z)).trans x3 fun p z => z.elim
theorem op_impO (hf : Op2O W r f) (h : tO W (c2 f ca cb) σ H Q) : tOp r (tX W ca) (tX W cb) σ H Q := by
  obtain ⟨ρ, F, d, ρ', E, hc, k⟩ := h
  obtain ⟨⟨d1, ρ1⟩, h1, hc⟩ := ob hc
  obtain ⟨⟨d2, ρ2⟩, h2, hc⟩ := ob hc
  obtain ⟨z, h3, hc⟩ := ob hc
  cases hc
  refine ⟨ρ, F, d1, ρ1, E, h1, fun v F1 H1 E1 r1 x1 o1 => ⟨ρ1, F1, d2, ρ2, E1, h2, fun v2 F2 H2 E2 r2 x2 o2 => ?_⟩⟩
  have x12 := x1.trans x2 fun p z => .inl (o1 p z)
  refine hf F2 H2 d1 d2 _ v v2 Q E2.fs (.inl (Rep.le x2.f r1)) (.inl r2) h3 fun p F3 H3 fs3 r3 n3 hp x3 => ?_
  refine k p F3 H3 (E2.ext fs3 x3) r3 n3 (E2.ownNone hp) ?_ (x12.trans x3 fun p z => z.elim) fun a z => o1 a (o2 a z)
  cases q : H p with
  | none => exact .inl rfl
  | some o =>
    by_cases ho : Own ρ σ p
    · exact .inr ho
    · cases qf : F p with
      | none =>
        have := (x12.h p o q qf ho).1
        rw [hp] at this
        cases this
      | some u =>
        have := x3.f _ _ (x12.f _ _ qf)
        rw [n3] at this
        cases this
theorem op_b1 (hf : Op2 W r f) (h : tX W (cB1 i f cb) σ H Q) : tOp r (tVar i) (tX W cb) σ H Q := by
  obtain ⟨ρ, F, d, ρ', E, hc, k⟩ := h
  obtain ⟨d0, h0, hc⟩ := ob hc
  obtain ⟨⟨d2, ρ2⟩, h2, hc⟩ := ob hc
  obtain ⟨d1, h1, hc⟩ := ob hc
  obtain ⟨z, h3, hc⟩ := ob hc
  cases hc
  obtain ⟨v, e0, _⟩ := E.getS h0
  refine ⟨v, e0, ρ, F, d2, ρ2, E, h2, fun v2 F2 H2 E2 r2 x2 o2 => ?_⟩
  obtain ⟨v', e1, r1⟩ := E2.getS h1
  rw [e0] at e1
  cases e1
  refine hf F2 H2 d1 d2 _ v v2 Q E2.fs r1 (.inl r2) h3 fun v3 F3 H3 fs3 r3 x3 => k v3 F3 H3 (E2.ext fs3 x3) r3 (x2.trans x3 fun p z => z.elim) o2
theorem op_b2 (hf : Op2 W r f) (h : tX W (cB2 i f ca) σ H Q) : tOp r (tX W ca) (tVar i) σ H Q := by
  obtain ⟨ρ, F, d, ρ', E, hc, k⟩ := h
  obtain ⟨⟨d2, ρ2⟩, h2, hc⟩ := ob hc
  obtain ⟨d1, h1, hc⟩ := ob hc
  obtain ⟨z, h3, hc⟩ := ob hc
  cases hc
  refine ⟨ρ, F, d2, ρ2, E, h2, fun v2 F2 H2 E2 r2 x2 o2 => ?_⟩
  obtain ⟨v, e0, r1⟩ := E2.getS h1
  exact ⟨v, e0, hf F2 H2 d2 d1 _ v2 v Q E2.fs (.inl r2) r1 h3 fun v3 F3 H3 fs3 r3 x3 => k v3 F3 H3 (E2.ext fs3 x3) r3 (x2.trans x3 fun p z => z.elim) o2⟩
theorem Op2.or {r r' : R2} (h : ∀ F H d e z x y (Q : VK), FS W F H → KnB W F H d x → KnB W F H e y → f d e = some z →
  (∀ v F' H', FS W F' H' → Rep W F' z v → Ext NoA F H F' H' → Q v H') → r x y H Q ∨ r' x y H Q) : Op2 W (fun x y H Q => r x y H Q ∨ r' x y H Q) f := h
end
section
variable {X : Cx} {cf : List D → D → Prop} {a b : Expr} {ca cb : Ev} {r : R2} {f : D → D → Option D} {op : Operator} {cop : CmpOp} {pos : Pos} {i : Nat}
theorem x_op (ho : OpR X (binaryOp op) r) (hf : Op2 ⟨X.K, cf⟩ r f) (ha : PX X cf a ca) (hb : PX X cf b cb) : PX X cf (.BinOp a op b pos) (c2 f ca cb) := pe_imp (pe_op ho ha hb) fun _ _ _ q => op_imp hf q
theorem o_op (ho : OpR X (binaryOp op) r) (hf : Op2O ⟨X.K, cf⟩ r f) (ha : PX X cf a ca) (hb : PX X cf b cb) : PXO X cf (.BinOp a op b pos) (c2 f ca cb) := pe_imp (pe_op ho ha hb) fun _ _ _ q => op_impO hf q
theorem x_cmp (ho : OpR X (compareOp cop) r) (hf : Op2 ⟨X.K, cf⟩ r f) (ha : PX X cf a ca) (hb : PX X cf b cb) (hm : behindInMarks cop b = false) : PX X cf (.Compare a [cop] [b] pos) (c2 f ca cb) := pe_imp (pe_cmpR ho ha hb hm) fun _ _ _ q => op_imp hf q
theorem x_cmpB (ho : OpR X (compareOp cop) r) (hf : Op2 ⟨X.K, cf⟩ r f) (ha : PX X cf a ca) (hb : PE X b (tVar i)) (hm : behindInMarks cop b = false) : PX X cf (.Compare a [cop] [b] pos) (cB2 i f ca) := pe_imp (pe_cmpR ho ha hb hm) fun _ _ _ q => op_b2 hf q
theorem x_ix (ho : IxR X r) (hf : Op2 ⟨X.K, cf⟩ r f) (ha : PX X cf a ca) (hb : PX X cf b cb) (hs : PlainIx b) : PX X cf (.Subscript a b pos) (c2 f ca cb) := pe_imp (pe_ix ho ha hb hs) fun _ _ _ q => op_imp hf q
theorem x_ixB (ho : IxR X r) (hf : Op2 ⟨X.K, cf⟩ r f) (ha : PE X a (tVar i)) (hb : PX X cf b cb) (hs : PlainIx b) : PX X cf (.Subscript a b pos) (cB1 i f cb) := pe_imp (pe_ix ho ha hb hs) fun _ _ _ q => op_b1 hf q
end
end Ov
/-! Ov: the operations. -/
namespace Ov
open PySem PySem.Spec PyProof.Rows L2

/-! ### rows of values -/
section
variable {W : OC} {F H : Hp}
theorem RepL.length : ∀ {ds : List D} {vs : List V}, RepL W F ds vs → ds.length = vs.length
  | [], _, h => by
    simp only [RepL] at h
    rw [h]
    rfl
  | d :: ds, _, h => by
    simp only [RepL] at h
    obtain ⟨v, r, rfl, _, h⟩ := h
    simp only [List.length_cons, RepL.length h]
theorem repL_nil {vs : List V} : RepL W F [] vs ↔ vs = [] := by simp only [RepL]
theorem repL_cons {d : D} {ds : List D} {v : V} {vs : List V} (h : Rep W F d v) (h' : RepL W F ds vs) : RepL W F (d :: ds) (v :: vs) := by
  simp only [RepL]
  exact ⟨v, vs, rfl, h, h'⟩
theorem RepL.inv {d : D} {ds : List D} {vs : List V} (h : RepL W F (d :: ds) vs) : ∃ v r, vs = v :: r ∧ Rep W F d v ∧ RepL W F ds r := by simpa only [RepL] using h
theorem RepL.append : ∀ {ds es : List D} {vs ws : List V}, RepL W F ds vs → RepL W F es ws → RepL W F (ds ++ es) (vs ++ ws)
  | [], _, _, _, h, h' => by
    rw [repL_nil] at h
    subst h
    exact h'
  | d :: ds, _, _, _, h, h' => by
    obtain ⟨v, r, rfl, h1, h2⟩ := h.inv
    exact repL_cons h1 (RepL.append h2 h')
theorem RepL.get : ∀ {ds : List D} {vs : List V} {i : Nat} {d : D}, RepL W F ds vs → ds[i]? = some d → ∃ v, vs[i]? = some v ∧ Rep W F d v
  | [], _, _, _, _, e => by simp at e
  | _ :: _, _, 0, _, h, e => by
    obtain ⟨v, r, rfl, h1, h2⟩ := h.inv
    cases e
    exact ⟨v, rfl, h1⟩
  | _ :: _, _, i + 1, _, h, e => by
    obtain ⟨v, r, rfl, h1, h2⟩ := h.inv
    obtain ⟨w, e1, e2⟩ := RepL.get (i := i) h2 (by simpa using e)
    exact ⟨w, by simpa using e1, e2⟩
theorem RepL.back : ∀ {ds : List D} {vs : List V} {i : Nat} {v : V}, RepL W F ds vs → vs[i]? = some v → ∃ d, ds[i]? = some d ∧ Rep W F d v
  | [], _, _, _, h, e => by
    rw [repL_nil] at h
    subst h
    simp at e
  | d :: _, _, 0, _, h, e => by
    obtain ⟨v, r, rfl, h1, h2⟩ := h.inv
    cases e
    exact ⟨d, rfl, h1⟩
  | _ :: _, _, i + 1, _, h, e => by
    obtain ⟨v, r, rfl, h1, h2⟩ := h.inv
    obtain ⟨w, e1, e2⟩ := RepL.back (i := i) h2 (by simpa using e)
    exact ⟨w, by simpa using e1, e2⟩
theorem RepL.take : ∀ {ds : List D} {vs : List V} (n : Nat), RepL W F ds vs → RepL W F (ds.take n) (vs.take n)
  | _, _, 0, _ => by
    rw [List.take_zero, List.take_zero, repL_nil]
  | [], _, n + 1, h => by
    rw [repL_nil] at h
    subst h
    exact repL_nil.mpr rfl
  | _ :: _, _, n + 1, h => by
    obtain ⟨v, r, rfl, h1, h2⟩ := h.inv
    exact repL_cons h1 (RepL.take n h2)
theorem RepL.drop : ∀ {ds : List D} {vs : List V} (n : Nat), RepL W F ds vs → RepL W F (ds.drop n) (vs.drop n)
  | _, _, 0, h => h
  | [], _, n + 1, h => by
    rw [repL_nil] at h
    subst h
    exact repL_nil.mpr rfl
  | _ :: _, _, n + 1, h => by
    obtain ⟨v, r, rfl, h1, h2⟩ := h.inv
    exact RepL.drop n h2
theorem RepL.ints : ∀ {ns : List Int} {vs : List V}, RepL W F (ns.map D.int) vs → vs = ns.map V.int
  | [], _, h => repL_nil.mp h
  | n :: ns, _, h => by
    obtain ⟨v, r, rfl, h1, h2⟩ := h.inv
    simp only [Rep] at h1
    rw [h1, RepL.ints h2]
    rfl
theorem repL_ints : ∀ (ns : List Int), RepL W F (ns.map D.int) (ns.map V.int)
  | [] => repL_nil.mpr rfl
  | n :: ns => repL_cons (by simp only [Rep]) (repL_ints ns)
theorem RepL.bls : ∀ {ns : List Bool} {vs : List V}, RepL W F (ns.map D.bl) vs → vs = ns.map V.bl
  | [], _, h => repL_nil.mp h
  | n :: ns, _, h => by
    obtain ⟨v, r, rfl, h1, h2⟩ := h.inv
    simp only [Rep] at h1
    rw [h1, RepL.bls h2]
    rfl
theorem RepL.eraseIdx : ∀ {ds : List D} {vs : List V} (n : Nat), RepL W F ds vs → RepL W F (ds.eraseIdx n) (vs.eraseIdx n)
  | [], _, n, h => by
    rw [repL_nil] at h
    subst h
    exact repL_nil.mpr rfl
  | _ :: _, _, 0, h => by
    obtain ⟨v, r, rfl, h1, h2⟩ := h.inv
    exact h2
  | _ :: _, _, n + 1, h => by
    obtain ⟨v, r, rfl, h1, h2⟩ := h.inv
    exact repL_cons h1 (RepL.eraseIdx n h2)
theorem RepL.dropLast {ds : List D} {vs : List V} (h : RepL W F ds vs) : RepL W F ds.dropLast vs.dropLast := by
  rw [List.dropLast_eq_take, List.dropLast_eq_take, ← h.length]
  exact h.take _
theorem RepL.reverse : ∀ {ds : List D} {vs : List V}, RepL W F ds vs → RepL W F ds.reverse vs.reverse
  | [], _, h => by
    rw [repL_nil] at h
    subst h
    exact repL_nil.mpr rfl
  | _ :: _, _, h => by
    obtain ⟨v, r, rfl, h1, h2⟩ := h.inv
    rw [List.reverse_cons, List.reverse_cons]
    exact (RepL.reverse h2).append (repL_cons h1 (repL_nil.mpr rfl))
theorem RepL.atI {ds : List D} {vs : List V} {i : Int} {d : D} (h : RepL W F ds vs) (e : L2.atI ds i = some d) : ∃ v, L2.atI vs i = some v ∧ Rep W F d v := by
  unfold L2.atI at e ⊢
  rw [← h.length]
  obtain ⟨j, h1, h2⟩ := ob e
  rw [h1]
  exact h.get h2
end

/-! ### the ints, the bools of a row; a key -/
def toI : D → Option Int
  | .int i => some i
  | _ => none
def toB : D → Option Bool
  | .bl i => some i
  | _ => none
def intsOf : List D → Option (List Int)
  | [] => some []
  | d :: ds => (toI d).bind fun i => (intsOf ds).bind fun r => some (i :: r)
def blsOf : List D → Option (List Bool)
  | [] => some []
  | d :: ds => (toB d).bind fun i => (blsOf ds).bind fun r => some (i :: r)
theorem toI_eq {d : D} {i : Int} (h : toI d = some i) : d = .int i := by
  cases d <;> first | (cases h; rfl) | cases h
theorem toB_eq {d : D} {i : Bool} (h : toB d = some i) : d = .bl i := by
  cases d <;> first | (cases h; rfl) | cases h
theorem intsOf_eq : ∀ {ds : List D} {ns : List Int}, intsOf ds = some ns → ds = ns.map D.int
  | [], _, h => by
    cases h
    rfl
  | d :: ds, _, h => by
    obtain ⟨i, h1, h⟩ := ob h
    obtain ⟨r, h2, h⟩ := ob h
    cases h
    rw [toI_eq h1, intsOf_eq h2]
    rfl
theorem intsOf_map : ∀ (ns : List Int), intsOf (ns.map D.int) = some ns
  | [] => rfl
  | n :: ns => by
    show (some n).bind (fun i => (intsOf (ns.map D.int)).bind fun r => some (i :: r)) = _
    rw [intsOf_map ns]
    rfl
theorem blsOf_eq : ∀ {ds : List D} {ns : List Bool}, blsOf ds = some ns → ds = ns.map D.bl
  | [], _, h => by
    cases h
    rfl
  | d :: ds, _, h => by
    obtain ⟨i, h1, h⟩ := ob h
    obtain ⟨r, h2, h⟩ := ob h
    cases h
    rw [toB_eq h1, blsOf_eq h2]
    rfl
theorem blsOf_map : ∀ (ns : List Bool), blsOf (ns.map D.bl) = some ns
  | [] => rfl
  | n :: ns => by
    show (some n).bind (fun i => (blsOf (ns.map D.bl)).bind fun r => some (i :: r)) = _
    rw [blsOf_map ns]
    rfl
def keyOf : D → Option (List Int)
  | .tup xs => intsOf xs
  | _ => none
/-- a tuple of ints -/
abbrev tI (ns : List Int) : D := .tup (ns.map D.int)
theorem keyOf_tI (ns : List Int) : keyOf (tI ns) = some ns := intsOf_map ns
theorem keyOf_eq {d : D} {ns : List Int} (h : keyOf d = some ns) : d = tI ns := by
  cases d with
  | tup xs => rw [intsOf_eq (show intsOf xs = some ns from h)]
  | _ => cases h
theorem map_kV (ns : List Int) : (ns.map (Sum.inl : Int → Key)).map kV = ns.map V.int := by
  rw [List.map_map]
  rfl
theorem key_len {W : OC} {F H : Hp} {ns : List Int} {v : V} (fs : FS W F H) (h : KnB W F H (tI ns) v) : ns.length ≤ sizeLine := by
  obtain ⟨a, vs, _, _, _, h3, h4⟩ := h.tup fs
  have := h4.length
  rw [List.length_map] at this
  rw [this]
  exact h3
theorem key_at {W : OC} {F H : Hp} {ns : List Int} {v : V} (fs : FS W F H) (h : KnB W F H (tI ns) v) : ∃ b, v = .ref b ∧ H b = some (.tup ((ns.map (Sum.inl : Int → Key)).map kV)) := by
  obtain ⟨a, vs, e, _, h2, _, h4⟩ := h.tup fs
  rw [h4.ints] at h2
  exact ⟨a, e, by rw [map_kV]; exact h2⟩

/-! ### dicts -/
section
variable {κ : Type} [DecidableEq κ]
def look (kvs : List (κ × D)) (k : κ) : Option D := (kvs.find? fun kv => decide (kv.1 = k)).map (·.2)
def putD (kvs : List (κ × D)) (k : κ) (d : D) : List (κ × D) :=
  if (kvs.any fun kv => decide (kv.1 = k)) = true then kvs.map fun kv => if kv.1 = k then (kv.1, d) else kv else kvs ++ [(k, d)]
end
theorem repT_nil {W : OC} {F : Hp} {vs : List (List Key × V)} : RepT W F [] vs ↔ vs = [] := by simp only [RepT]
theorem RepT.inv {W : OC} {F : Hp} {k : List Int} {d : D} {ds : List (List Int × D)} {vs : List (List Key × V)} (h : RepT W F ((k, d) :: ds) vs) : ∃ v r, vs = (k.map Sum.inl, v) :: r ∧ Rep W F d v ∧ RepT W F ds r := by
  simp only [RepT] at h
  obtain ⟨v, r, h1, _, h2, h3⟩ := h
  exact ⟨v, r, h1, h2, h3⟩
theorem RepT.klen {W : OC} {F : Hp} {k : List Int} {d : D} {ds : List (List Int × D)} {vs : List (List Key × V)} (h : RepT W F ((k, d) :: ds) vs) : k.length ≤ sizeLine := by
  simp only [RepT] at h
  obtain ⟨v, r, h1, h2, _⟩ := h
  exact h2
theorem repT_cons {W : OC} {F : Hp} {k : List Int} {d : D} {ds : List (List Int × D)} {v : V} {vs : List (List Key × V)} (hk : k.length ≤ sizeLine) (h : Rep W F d v) (h' : RepT W F ds vs) : RepT W F ((k, d) :: ds) ((k.map Sum.inl, v) :: vs) := by
  simp only [RepT]
  exact ⟨v, vs, rfl, hk, h, h'⟩
theorem repK_nil {W : OC} {F : Hp} {vs : List (Key × V)} : RepK W F [] vs ↔ vs = [] := by simp only [RepK]
theorem RepK.inv {W : OC} {F : Hp} {k : Int} {d : D} {ds : List (Int × D)} {vs : List (Key × V)} (h : RepK W F ((k, d) :: ds) vs) : ∃ v r, vs = (Sum.inl k, v) :: r ∧ Rep W F d v ∧ RepK W F ds r := by simpa only [RepK] using h
theorem repK_cons {W : OC} {F : Hp} {k : Int} {d : D} {ds : List (Int × D)} {v : V} {vs : List (Key × V)} (h : Rep W F d v) (h' : RepK W F ds vs) : RepK W F ((k, d) :: ds) ((Sum.inl k, v) :: vs) := by
  simp only [RepK]
  exact ⟨v, vs, rfl, h, h'⟩
def RepO (W : OC) (F : Hp) : Option D → Option V → Prop
  | some d, some v => Rep W F d v
  | none, none => True
  | _, _ => False
theorem map_inl_inj {a b : List Int} (h : a.map (Sum.inl : Int → Key) = b.map Sum.inl) : a = b := by
  induction a generalizing b with
  | nil => cases b with
    | nil => rfl
    | cons _ _ => cases h
  | cons x xs ih => cases b with
    | nil => cases h
    | cons y ys =>
      rw [List.map_cons, List.map_cons] at h
      injection h with h1 h2
      rw [ih h2, Sum.inl.inj h1]
theorem RepT.look {W : OC} {F : Hp} (k : List Int) : ∀ {ds : List (List Int × D)} {vs : List (List Key × V)}, RepT W F ds vs → RepO W F (look ds k) (valV vs (k.map Sum.inl))
  | [], _, h => by
    rw [repT_nil] at h
    subst h
    exact True.intro
  | (k', d) :: ds, _, h => by
    obtain ⟨v, r, rfl, h1, h2⟩ := h.inv
    by_cases e : k' = k
    · subst e
      rw [valV_pos rfl]
      simp only [Ov.look, List.find?_cons, decide_true, Option.map_some]
      exact h1
    · rw [valV_neg (fun z => e (map_inl_inj z))]
      simp only [Ov.look, List.find?_cons, decide_eq_false e]
      exact RepT.look k h2
theorem RepK.look {W : OC} {F : Hp} (k : Int) : ∀ {ds : List (Int × D)} {vs : List (Key × V)}, RepK W F ds vs → RepO W F (look ds k) (valV vs (Sum.inl k))
  | [], _, h => by
    rw [repK_nil] at h
    subst h
    exact True.intro
  | (k', d) :: ds, _, h => by
    obtain ⟨v, r, rfl, h1, h2⟩ := h.inv
    by_cases e : k' = k
    · subst e
      rw [valV_pos rfl]
      simp only [Ov.look, List.find?_cons, decide_true, Option.map_some]
      exact h1
    · rw [valV_neg (fun z => e (Sum.inl.inj z))]
      simp only [Ov.look, List.find?_cons, decide_eq_false e]
      exact RepK.look k h2
theorem RepO.isSome {W : OC} {F : Hp} {o : Option D} {u : Option V} (h : RepO W F o u) : o.isSome = u.isSome := by
  cases o <;> cases u <;> first | rfl | exact h.elim
theorem RepO.some_ {W : OC} {F : Hp} {d : D} {u : Option V} (h : RepO W F (some d) u) : ∃ v, u = some v ∧ Rep W F d v := by
  cases u with
  | none => exact h.elim
  | some v => exact ⟨v, rfl, h⟩
theorem RepO.getD {W : OC} {F : Hp} {o : Option D} {u : Option V} (h : RepO W F o u) : Rep W F (o.getD .non) (u.getD .non) := by
  cases o <;> cases u <;> first | exact h | exact h.elim | simp only [Option.getD_none, Rep]
/-- what a dict holds at a key -/
def getDct : D → D → Option (Option D)
  | .dT kvs, k => (keyOf k).map (look kvs)
  | .dK kvs, k => (toI k).map (look kvs)
  | _, _ => none
theorem getDct_at {W : OC} {F H : Hp} {d k : D} {o : Option D} {x y : V} (fs : FS W F H) (hd : KnB W F H d x) (hk : KnB W F H k y) (h : getDct d k = some o) : ∃ a u, x = .ref a ∧ IsD H a ∧ DGet H a y u ∧ RepO W F o u := by
  cases d with
  | dT kvs =>
    obtain ⟨ns, e, rfl⟩ := Option.map_eq_some_iff.mp (show (keyOf k).map (look kvs) = some o from h)
    rw [keyOf_eq e] at hk
    obtain ⟨b, rfl, hb⟩ := key_at fs hk
    obtain ⟨a, vs, rfl, h1, h2⟩ := hd.dT fs
    exact ⟨a, _, rfl, .inr ⟨vs, h1⟩, .inr ⟨vs, _, b, h1, rfl, hb, rfl⟩, h2.look ns⟩
  | dK kvs =>
    obtain ⟨n, e, rfl⟩ := Option.map_eq_some_iff.mp (show (toI k).map (look kvs) = some o from h)
    rw [toI_eq e] at hk
    have ey := hk.int
    subst ey
    obtain ⟨a, vs, rfl, h1, h2⟩ := hd.dK fs
    exact ⟨a, _, rfl, .inl ⟨vs, h1⟩, .inl ⟨vs, Sum.inl n, h1, rfl, rfl⟩, h2.look n⟩
  | _ => cases h

/-! ### arithmetic -/
theorem line_eq : sizeLine = 16777216 := sizeLine_eq
def ii (f : Int → Int → Option D) : D → D → Option D
  | .int a, .int b => f a b
  | _, _ => none
theorem ii_inv {f : Int → Int → Option D} {d e z : D} (h : ii f d e = some z) : ∃ a b, d = .int a ∧ e = .int b ∧ f a b = some z := by
  cases d <;> cases e <;> first | exact ⟨_, _, rfl, rfl, h⟩ | cases h
section
variable {W : OC}
theorem op2_I0 {g : Int → Int → Int} : Op2 W (rI0 fun i j => .int (g i j)) (ii fun i j => some (.int (g i j))) := by
  intro F H d e z x y Q fs hx hy h k
  obtain ⟨a, b, rfl, rfl, h⟩ := ii_inv h
  cases h
  exact ⟨a, b, hx.int, hy.int, k _ F H fs (by simp only [Rep]) Ext.refl⟩
theorem op2_B0 {g : Int → Int → Bool} : Op2 W (rI0 fun i j => .bl (g i j)) (ii fun i j => some (.bl (g i j))) := by
  intro F H d e z x y Q fs hx hy h k
  obtain ⟨a, b, rfl, rfl, h⟩ := ii_inv h
  cases h
  exact ⟨a, b, hx.int, hy.int, k _ F H fs (by simp only [Rep]) Ext.refl⟩
theorem op2_I {C : Int → Int → Prop} {c : Int → Int → Bool} (hc : ∀ i j, c i j = true → C i j) {g : Int → Int → Int} : Op2 W (rI C fun i j => .int (g i j)) (ii fun i j => if c i j = true then some (.int (g i j)) else none) := by
  intro F H d e z x y Q fs hx hy h k
  obtain ⟨a, b, rfl, rfl, h'⟩ := ii_inv h
  clear h
  split at h'
  · rename_i hcc
    cases h'
    exact ⟨a, b, hx.int, hy.int, hc _ _ hcc, k _ F H fs (by simp only [Rep]) Ext.refl⟩
  · cases h'
def subD : D → D → Option D := ii fun i j => some (.int (i - j))
def mulD : D → D → Option D := ii fun i j => if decide ((-18446744073709551616 < i ∧ i < 18446744073709551616) ∨ (-18446744073709551616 < j ∧ j < 18446744073709551616)) = true then some (.int (i * j)) else none
def fdivD : D → D → Option D := ii fun i j => if decide (0 < j ∧ j < 1073741824) = true then some (.int (i / j)) else none
def modD : D → D → Option D := ii fun i j => if decide (0 < j) = true then some (.int (i % j)) else none
def powD : D → D → Option D := ii fun i j => if decide (0 ≤ j ∧ j ≤ 1000000 ∧ i.natAbs < 18446744073709551616) = true then some (.int (i ^ j.toNat)) else none
def shlD : D → D → Option D := ii fun i j => if decide (0 ≤ j ∧ j ≤ 1000000 ∧ i.natAbs < 18446744073709551616) = true then some (.int (i * 2 ^ j.toNat)) else none
def orD : D → D → Option D := ii fun i j => some (.int (Builtin.bitOr i j))
def xorD : D → D → Option D := ii fun i j => some (.int (Builtin.bitXor i j))
def andD : D → D → Option D := ii fun i j => some (.int (Builtin.bitAnd i j))
def ltD : D → D → Option D := ii fun i j => some (.bl (decide (i < j)))
def leD : D → D → Option D := ii fun i j => some (.bl (decide (i ≤ j)))
def gtD : D → D → Option D := ii fun i j => some (.bl (decide (j < i)))
def geD : D → D → Option D := ii fun i j => some (.bl (decide (j ≤ i)))
theorem op2_sub : Op2 W (rI0 fun i j => .int (i - j)) subD := op2_I0
theorem op2_mul : Op2 W (rI CMul fun i j => .int (i * j)) mulD := op2_I fun i j h => by
  have h := of_decide_eq_true h
  unfold CMul
  omega
theorem op2_fdiv : Op2 W (rI CDiv fun i j => .int (i / j)) fdivD := op2_I (C := CDiv) (c := fun i j => decide (0 < j ∧ j < 1073741824)) fun i j h => of_decide_eq_true (p := 0 < j ∧ j < 1073741824) h
theorem op2_mod : Op2 W (rI (fun _ j => 0 < j) fun i j => .int (i % j)) modD := op2_I (C := fun _ j => 0 < j) (c := fun _ j => decide (0 < j)) fun i j h => of_decide_eq_true h
theorem op2_pow : Op2 W (rI CPow fun i j => .int (i ^ j.toNat)) powD := op2_I fun i j h => by
  have h := of_decide_eq_true h
  unfold CPow
  exact ⟨h.1, h.2.1, by omega⟩
theorem op2_shl : Op2 W (rI CPow fun i j => .int (i * 2 ^ j.toNat)) shlD := op2_I fun i j h => by
  have h := of_decide_eq_true h
  unfold CPow
  exact ⟨h.1, h.2.1, by omega⟩
theorem op2_or : Op2 W (rI0 fun i j => .int (Builtin.bitOr i j)) orD := op2_I0
theorem op2_xor : Op2 W (rI0 fun i j => .int (Builtin.bitXor i j)) xorD := op2_I0
theorem op2_and : Op2 W (rI0 fun i j => .int (Builtin.bitAnd i j)) andD := op2_I0
theorem op2_lt : Op2 W (rI0 fun i j => .bl (decide (i < j))) ltD := op2_B0
theorem op2_le : Op2 W (rI0 fun i j => .bl (decide (i ≤ j))) leD := op2_B0
theorem op2_gt : Op2 W (rI0 fun i j => .bl (decide (j < i))) gtD := op2_B0
theorem op2_ge : Op2 W (rI0 fun i j => .bl (decide (j ≤ i))) geD := op2_B0
/-- + of ints, tuples, lists -/
def addD : D → D → Option D
  | .int a, .int b => some (.int (a + b))
  | .tup a, .tup b => if a.length + b.length ≤ 16777216 then some (.tup (a ++ b)) else none
  | .lst a, .lst b => if a.length + b.length ≤ 16777216 then some (.lst (a ++ b)) else none
  | _, _ => none
def catD : D → D → Option D
  | .lst a, .lst b => if a.length + b.length ≤ 16777216 then some (.lst (a ++ b)) else none
  | _, _ => none
theorem rep_tup {F : Hp} {a : Addr} {vs : List V} {xs : List D} (h : F a = some (.tup vs)) (hl : vs.length ≤ sizeLine) (r : RepL W F xs vs) : Rep W F (.tup xs) (.ref a) := by
  simp only [Rep]
  exact ⟨a, vs, rfl, h, hl, r⟩
theorem rep_lst {F : Hp} {a : Addr} {vs : List V} {xs : List D} (h : F a = some (.lst vs)) (hl : vs.length ≤ sizeLine) (r : RepL W F xs vs) : Rep W F (.lst xs) (.ref a) := by
  simp only [Rep]
  exact ⟨a, vs, rfl, h, hl, r⟩
/-- a new tuple is known at once -/
theorem new_tup {F H : Hp} {vs : List V} {xs : List D} {Q : VK} (fs : FS W F H) (hl : vs.length ≤ sizeLine) (r : RepL W F xs vs) (k : ∀ v F' H', FS W F' H' → Rep W F' (.tup xs) v → Ext NoA F H F' H' → Q v H') (p : Addr) (hp : H p = none) :
    Q (.ref p) (upd H p (.tup vs)) :=
  k _ _ _ (fs.newTup hp) (rep_tup upd_same hl (RepL.le (Le.new (fs.free hp)) r)) (Ext.known fs hp)
theorem new_lst {F H : Hp} {vs : List V} {xs : List D} {Q : VK} (fs : FS W F H) (hl : vs.length ≤ sizeLine) (r : RepL W F xs vs) (k : ∀ v F' H', FS W F' H' → Rep W F' (.lst xs) v → Ext NoA F H F' H' → Q v H') (p : Addr) (hp : H p = none) :
    Q (.ref p) (upd H p (.lst vs)) :=
  k _ _ _ (fs.newLst hp) (rep_lst upd_same hl (RepL.le (Le.new (fs.free hp)) r)) (Ext.known fs hp)
theorem new_lstO {F H : Hp} {vs : List V} {xs : List D} {Q : VK} (fs : FS W F H) (hl : vs.length ≤ sizeLine) (r : RepL W F xs vs) (k : ∀ p F' H', FS W F' H' → OwnAt W F' H' p (.lst xs) → F' p = none → H p = none → Ext NoA F H F' H' → Q (.ref p) H') (p : Addr) (hp : H p = none) :
    Q (.ref p) (upd H p (.lst vs)) :=
  k p F _ (fs.laid hp) ⟨vs, upd_same, hl, r⟩ (fs.free hp) hp (Ext.laid fs hp)
theorem op2_add : Op2 W (fun x y H Q => (rI0 fun i j => .int (i + j)) x y H Q ∨ (rCatA W.K x y H Q ∨ rCat x y H Q)) addD := by
  intro F H d e z x y Q fs hx hy h k
  have L := line_eq
  unfold addD at h
  split at h
  · cases h
    exact .inl ⟨_, _, hx.int, hy.int, k _ F H fs (by simp only [Rep]) Ext.refl⟩
  · rename_i a b
    split at h
    · rename_i hl
      cases h
      obtain ⟨p, vs, rfl, h1, h2, h3, h4⟩ := hx.tup fs
      obtain ⟨q, ws, rfl, g1, g2, g3, g4⟩ := hy.tup fs
      refine .inr (.inl ⟨p, q, vs, ws, rfl, rfl, SqT.of h2, SqT.of g2, by rw [← h4.length, ← g4.length]; omega, fun e => ?_, fun _ e => ?_, fun _ _ => ?_⟩)
      · have : a = [] := List.eq_nil_of_length_eq_zero (by rw [h4.length, e]; rfl)
        subst this
        exact k _ F H fs (rep_tup g1 g3 g4) Ext.refl
      · have : b = [] := List.eq_nil_of_length_eq_zero (by rw [g4.length, e]; rfl)
        subst this
        rw [List.append_nil] at k
        exact k _ F H fs (rep_tup h1 h3 h4) Ext.refl
      · exact new_tup fs (by rw [List.length_append, ← h4.length, ← g4.length]; omega) (h4.append g4) k
    · cases h
  · rename_i a b
    split at h
    · rename_i hl
      cases h
      obtain ⟨p, vs, rfl, h2, h3, h4⟩ := hx.lst fs
      obtain ⟨q, ws, rfl, g2, g3, g4⟩ := hy.lst fs
      exact .inr (.inr ⟨p, q, vs, ws, rfl, rfl, h2, g2, by rw [← h4.length, ← g4.length]; omega, new_lst fs (by rw [List.length_append, ← h4.length, ← g4.length]; omega) (h4.append g4) k⟩)
    · cases h
  · cases h
theorem op2_cat : Op2O W rCat catD := by
  intro F H d e z x y Q fs hx hy h k
  have L := line_eq
  unfold catD at h
  split at h
  · rename_i a b
    split at h
    · rename_i hl
      cases h
      obtain ⟨p, vs, rfl, h2, h3, h4⟩ := hx.lst fs
      obtain ⟨q, ws, rfl, g2, g3, g4⟩ := hy.lst fs
      exact ⟨p, q, vs, ws, rfl, rfl, h2, g2, by rw [← h4.length, ← g4.length]; omega, new_lstO fs (by rw [List.length_append, ← h4.length, ← g4.length]; omega) (h4.append g4) k⟩
    · cases h
  · cases h
theorem opr_add {X : Cx} : OpR X (binaryOp .Add) (fun x y H Q => (rI0 fun i j => .int (i + j)) x y H Q ∨ (rCatA X.K x y H Q ∨ rCat x y H Q)) := OpR.or op_add (OpR.or op_catA op_cat)

/-! ### == , is, in -/
mutual
def toPy : D → Option PyData
  | .non => some .none
  | .bl b => some (.bool b)
  | .int i => some (.int i)
  | .str x => some (.str x)
  | .tup xs => (toPyL xs).map .tuple
  | .lst xs => (toPyL xs).map .list
  | _ => none
def toPyL : List D → Option (List PyData)
  | [] => some []
  | d :: ds => (toPy d).bind fun p => (toPyL ds).bind fun r => some (p :: r)
end
mutual
theorem rep_dp {K : PySem.W.Frag} {cf : List D → D → Prop} {F H : Hp} (fs : FS ⟨K, cf⟩ F H) : ∀ {d : D} {v : V} {p : PyData}, Rep ⟨K, cf⟩ F d v → toPy d = some p → Dp K H v p
  | .non, _, _, h, e => by
    simp only [Rep] at h
    simp only [toPy] at e
    cases e
    subst h
    exact .non
  | .bl b, _, _, h, e => by
    simp only [Rep] at h
    simp only [toPy] at e
    cases e
    subst h
    exact .bl b
  | .int b, _, _, h, e => by
    simp only [Rep] at h
    simp only [toPy] at e
    cases e
    subst h
    exact .int b
  | .str b, _, _, h, e => by
    simp only [Rep] at h
    simp only [toPy] at e
    cases e
    subst h
    exact .str b
  | .tup xs, _, _, h, e => by
    simp only [Rep] at h
    simp only [toPy] at e
    obtain ⟨a, vs, rfl, h1, _, h3⟩ := h
    obtain ⟨ps, e1, rfl⟩ := Option.map_eq_some_iff.mp e
    exact .tup (SqT.of (fs.tup h1)) (repL_dp fs h3 e1)
  | .lst xs, _, _, h, e => by
    simp only [Rep] at h
    simp only [toPy] at e
    obtain ⟨a, vs, rfl, h1, _, h3⟩ := h
    obtain ⟨ps, e1, rfl⟩ := Option.map_eq_some_iff.mp e
    exact .lst (SqL.of (fs.lst h1)) (repL_dp fs h3 e1)
  | .dT _, _, _, h, e => by
    simp only [toPy] at e
    cases e
  | .dK _, _, _, h, e => by
    simp only [toPy] at e
    cases e
  | .obj _ _, _, _, h, e => by
    simp only [toPy] at e
    cases e
  | .scr _, _, _, h, e => by
    simp only [toPy] at e
    cases e
theorem repL_dp {K : PySem.W.Frag} {cf : List D → D → Prop} {F H : Hp} (fs : FS ⟨K, cf⟩ F H) : ∀ {ds : List D} {vs : List V} {ps : List PyData}, RepL ⟨K, cf⟩ F ds vs → toPyL ds = some ps → DpAll K H vs ps
  | [], _, _, h, e => by
    rw [repL_nil] at h
    simp only [toPyL] at e
    cases e
    subst h
    exact .nil
  | d :: ds, _, _, h, e => by
    simp only [toPyL] at e
    obtain ⟨p, e1, e⟩ := ob e
    obtain ⟨r, e2, e⟩ := ob e
    cases e
    obtain ⟨v, vs, rfl, h1, h2⟩ := h.inv
    exact .cons (rep_dp fs h1 e1) (repL_dp fs h2 e2)
end
theorem knb_dp {K : PySem.W.Frag} {cf : List D → D → Prop} {F H : Hp} (fs : FS ⟨K, cf⟩ F H) {d : D} {v : V} {p : PyData} (h : KnB ⟨K, cf⟩ F H d v) (e : toPy d = some p) : Dp K H v p := by
  rcases h with h | ⟨q, rfl, h⟩
  · exact rep_dp fs h e
  · cases d with
    | lst xs =>
      obtain ⟨vs, h1, _, h3⟩ := h
      simp only [toPy] at e
      obtain ⟨ps, e1, rfl⟩ := Option.map_eq_some_iff.mp e
      exact .lst (SqL.of h1) (repL_dp fs h3 e1)
    | dT _ =>
      simp only [toPy] at e
      cases e
    | dK _ =>
      simp only [toPy] at e
      cases e
    | _ => exact h.elim
/-- a == b of data -/
def eqD (d e : D) : Option D := (toPy d).bind fun p => (toPy e).bind fun q => if (SeqAt.shaped p && SeqAt.shaped q) = true then some (.bl (PyData.eqv p q)) else none
def neD (d e : D) : Option D := (toPy d).bind fun p => (toPy e).bind fun q => if (SeqAt.shaped p && SeqAt.shaped q) = true then some (.bl (!PyData.eqv p q)) else none
theorem op2_eq {K : PySem.W.Frag} {cf : List D → D → Prop} : Op2 ⟨K, cf⟩ (rEqD K) eqD := by
  intro F H d e z x y Q fs hx hy h k
  obtain ⟨p, h1, h⟩ := ob h
  obtain ⟨q, h2, h⟩ := ob h
  split at h
  · rename_i hs
    cases h
    obtain ⟨s1, s2⟩ := Bool.and_eq_true_iff.mp hs
    exact ⟨p, q, knb_dp fs hx h1, knb_dp fs hy h2, s1, s2, k _ F H fs (by simp only [Rep]) Ext.refl⟩
  · cases h
theorem op2_ne {K : PySem.W.Frag} {cf : List D → D → Prop} : Op2 ⟨K, cf⟩ (rNeD K) neD := by
  intro F H d e z x y Q fs hx hy h k
  obtain ⟨p, h1, h⟩ := ob h
  obtain ⟨q, h2, h⟩ := ob h
  split at h
  · rename_i hs
    cases h
    obtain ⟨s1, s2⟩ := Bool.and_eq_true_iff.mp hs
    exact ⟨p, q, knb_dp fs hx h1, knb_dp fs hy h2, s1, s2, k _ F H fs (by simp only [Rep]) Ext.refl⟩
  · cases h
def isNonB : D → Bool
  | .non => true
  | _ => false
theorem rep_non {F H : Hp} {d : D} {v : V} (h : KnB W F H d v) : decide (v = .non) = isNonB d := by
  rcases h with h | ⟨p, rfl, h⟩
  · cases d <;> simp only [Rep] at h <;> first
      | (subst h; rfl)
      | (obtain ⟨a, _, rfl, _⟩ := h; rfl)
      | (obtain ⟨a, _, _, rfl, _⟩ := h; rfl)
      | (obtain ⟨a, rfl, _⟩ := h; rfl)
  · cases d <;> first | rfl | exact h.elim
def isD : D → D → Option D
  | d, .non => some (.bl (isNonB d))
  | _, _ => none
def isnD : D → D → Option D
  | d, .non => some (.bl (!isNonB d))
  | _, _ => none
theorem op2_is : Op2 W (fun x y H Q => y = .non ∧ Q (.bl (decide (x = .non))) H) isD := by
  intro F H d e z x y Q fs hx hy h k
  cases e <;> first | cases h | skip
  exact ⟨hy.non, by rw [rep_non hx]; exact k _ F H fs (by simp only [Rep]) Ext.refl⟩
theorem op2_isn : Op2 W (fun x y H Q => y = .non ∧ Q (.bl (!decide (x = .non))) H) isnD := by
  intro F H d e z x y Q fs hx hy h k
  cases e <;> first | cases h | skip
  exact ⟨hy.non, by rw [rep_non hx]; exact k _ F H fs (by simp only [Rep]) Ext.refl⟩
/-- flat data -/
def flat : D → Option V
  | .non => some .non
  | .bl b => some (.bl b)
  | .int i => some (.int i)
  | .str x => some (.str x)
  | _ => none
def flats : List D → Option (List V)
  | [] => some []
  | d :: ds => (flat d).bind fun v => (flats ds).bind fun r => some (v :: r)
theorem flat_rep {F : Hp} {d : D} {v u : V} (h : Rep W F d v) (e : flat d = some u) : v = u ∧ flatV u = true := by
  cases d <;> simp only [Rep] at h <;> first | cases e | skip
  all_goals exact ⟨h, rfl⟩
theorem flat_knb {F H : Hp} {d : D} {v u : V} (h : KnB W F H d v) (e : flat d = some u) : v = u ∧ flatV u = true := by
  rcases h with h | ⟨p, rfl, h⟩
  · exact flat_rep h e
  · cases d <;> first | exact h.elim | cases e
theorem flats_rep {F : Hp} : ∀ {ds : List D} {vs us : List V}, RepL W F ds vs → flats ds = some us → vs = us ∧ us.all flatV = true
  | [], _, _, h, e => by
    rw [repL_nil] at h
    cases e
    exact ⟨h, rfl⟩
  | d :: ds, _, _, h, e => by
    obtain ⟨v, e1, e⟩ := ob e
    obtain ⟨r, e2, e⟩ := ob e
    cases e
    obtain ⟨v', vs, rfl, h1, h2⟩ := h.inv
    obtain ⟨q1, q2⟩ := flat_rep h1 e1
    obtain ⟨q3, q4⟩ := flats_rep h2 e2
    rw [q1, q3]
    exact ⟨rfl, by rw [List.all_cons, q2, q4]; rfl⟩
def inD0 (d : D) : D → Option Bool
  | .tup xs => (flat d).bind fun v => (flats xs).bind fun vs => some (inV v vs)
  | .lst xs => (flat d).bind fun v => (flats xs).bind fun vs => some (inV v vs)
  | c => (getDct c d).map (·.isSome)
def inD (d c : D) : Option D := (inD0 d c).map .bl
def ninD (d c : D) : Option D := (inD0 d c).map fun b => .bl (!b)
def rInA (K : PySem.W.Frag) (neg : Bool) : R2 := fun x y H Q => rIn K neg x y H Q ∨ ∃ a o, y = .ref a ∧ DGet H a x o ∧ Q (.bl (if neg then !o.isSome else o.isSome)) H
theorem inD_of {F H : Hp} {neg : Bool} {d c : D} {x y : V} {b : Bool} {Q : VK} (fs : FS W F H) (hx : KnB W F H d x) (hy : KnB W F H c y) (h : inD0 d c = some b) (q : Q (.bl (if neg then !b else b)) H) : rInA W.K neg x y H Q := by
  unfold inD0 at h
  split at h
  · obtain ⟨v, h1, h⟩ := ob h
    obtain ⟨vs, h2, h⟩ := ob h
    cases h
    obtain ⟨p, ws, rfl, g1, g2, g3, g4⟩ := hy.tup fs
    obtain ⟨rfl, f1⟩ := flat_knb hx h1
    obtain ⟨rfl, f2⟩ := flats_rep g4 h2
    exact .inl ⟨p, ws, rfl, .inr (SqT.of g2), f1, f2, q⟩
  · obtain ⟨v, h1, h⟩ := ob h
    obtain ⟨vs, h2, h⟩ := ob h
    cases h
    obtain ⟨p, ws, rfl, g2, g3, g4⟩ := hy.lst fs
    obtain ⟨rfl, f1⟩ := flat_knb hx h1
    obtain ⟨rfl, f2⟩ := flats_rep g4 h2
    exact .inl ⟨p, ws, rfl, .inl (SqL.of g2), f1, f2, q⟩
  · obtain ⟨o, e, rfl⟩ := Option.map_eq_some_iff.mp h
    obtain ⟨a, u, rfl, _, g, r⟩ := getDct_at fs hy hx e
    exact .inr ⟨a, u, rfl, g, by rw [← r.isSome]; exact q⟩
theorem op2_in : Op2 W (rInA W.K false) inD := by
  intro F H d e z x y Q fs hx hy h k
  obtain ⟨b, h1, rfl⟩ := Option.map_eq_some_iff.mp h
  exact inD_of fs hx hy h1 (k _ F H fs (by simp only [Rep]; rfl) Ext.refl)
theorem op2_nin : Op2 W (rInA W.K true) ninD := by
  intro F H d e z x y Q fs hx hy h k
  obtain ⟨b, h1, rfl⟩ := Option.map_eq_some_iff.mp h
  exact inD_of fs hx hy h1 (k _ F H fs (by simp only [Rep]; rfl) Ext.refl)
theorem opr_in {X : Cx} (hu : X.A.units + 1 < cLine) : OpR X (compareOp .In) (rInA X.K false) := OpR.or op_in_seq fun pins s σ H x y v u Q I rx ry h => by
  obtain ⟨a, o, rfl, g, q⟩ := h
  cases ry
  exact d_in hu I g rx fun s' I' => ⟨.bl o.isSome, H, I', rfl, q⟩
theorem opr_nin {X : Cx} (hu : X.A.units + 1 < cLine) : OpR X (compareOp .NotIn) (rInA X.K true) := OpR.or op_notIn_seq fun pins s σ H x y v u Q I rx ry h => by
  obtain ⟨a, o, rfl, g, q⟩ := h
  cases ry
  exact d_notIn hu I g rx fun s' I' => ⟨.bl (!o.isSome), H, I', rfl, q⟩

/-! ### subscripts -/
def ixD : D → D → Option D
  | .tup xs, .int i => atI xs i
  | .lst xs, .int i => atI xs i
  | .scr ns, .int i => (atI ns i).map .int
  | d, k => (getDct d k).bind fun o => o
def rIxA (K : PySem.W.Frag) : R2 := fun x y H Q => rIx K x y H Q ∨ ∃ a v, x = .ref a ∧ DGet H a y (some v) ∧ Q v H
theorem op2_ix : Op2 W (rIxA W.K) ixD := by
  intro F H d e z x y Q fs hx hy h k
  unfold ixD at h
  split at h
  · obtain ⟨p, ws, rfl, g1, g2, g3, g4⟩ := hx.tup fs
    obtain ⟨v, a1, a2⟩ := g4.atI h
    exact .inl (.inr (.inl ⟨p, ws, _, v, rfl, hy.int, SqT.of g2, a1, k _ F H fs a2 Ext.refl⟩))
  · obtain ⟨p, ws, rfl, g2, g3, g4⟩ := hx.lst fs
    obtain ⟨v, a1, a2⟩ := g4.atI h
    exact .inl (.inl ⟨p, ws, _, v, rfl, hy.int, SqL.of g2, a1, k _ F H fs a2 Ext.refl⟩)
  · rename_i ns i
    obtain ⟨p, rfl, g2, g3⟩ := hx.scr fs
    obtain ⟨n, a1, rfl⟩ := Option.map_eq_some_iff.mp h
    refine .inl (.inl ⟨p, _, _, .int n, rfl, hy.int, g2, ?_, k _ F H fs (by simp only [Rep]) Ext.refl⟩)
    unfold atI at a1 ⊢
    rw [List.length_map]
    obtain ⟨j, b1, b2⟩ := ob a1
    rw [b1]
    show (ns.map V.int)[j]? = _
    rw [List.getElem?_map, b2]
    rfl
  · obtain ⟨o, e1, e2⟩ := ob h
    cases e2
    obtain ⟨a, u, rfl, _, g, r⟩ := getDct_at fs hx hy e1
    obtain ⟨v, rfl, r⟩ := r.some_
    exact .inr ⟨a, v, rfl, g, k _ F H fs r Ext.refl⟩
theorem ixr_all {X : Cx} (hu : X.A.units + 1 < cLine) : IxR X (rIxA X.K) := IxR.or ix_seq fun value slice pins s σ H x y v u Q I rx ry h hs => by
  obtain ⟨a, w, rfl, g, q⟩ := h
  cases rx
  exact tail_any (dict_typeIs I g) PySem.F.slot_dict_getitem.lookup (d_getItem hu I g ry fun w' s3 I3 rw' => ⟨w, H, I3, rw', q⟩) hs
end
end Ov
/-! Ov: tests, displays, calls of built-ins, slices, attributes. -/
namespace Ov
open PySem PySem.Spec PyProof.Rows L2

theorem Ext.back {W : OC} {ρ : List Sl} {σ : L2.St} {F H F1 H1 F2 : Hp} {p : Addr} (x : Ext (Own ρ σ) F H F1 H1) (E : EnvOk W ρ σ F H) (hp : H1 p = none) (n : F2 p = none) (le : Le F1 F2) : H p = none ∨ Own ρ σ p := by
  cases q : H p with
  | none => exact .inl rfl
  | some o =>
    by_cases ho : Own ρ σ p
    · exact .inr ho
    · cases qf : F p with
      | none =>
        have := (x.h p o q qf ho).1
        rw [hp] at this
        cases this
      | some u =>
        have := le _ _ (x.f _ _ qf)
        rw [n] at this
        cases this
/-! ### tests -/
def cT (c : Ev) : Et := fun ρ => (c ρ).bind fun p => (toB p.1).bind fun b => some (b, p.2)
theorem rep_bl {W : OC} {F : Hp} {d : D} {v : V} {b : Bool} (h : Rep W F d v) (e : toB d = some b) : v = .bl b := by
  rw [toB_eq e] at h
  simpa only [Rep] using h
theorem tT_tX {W : OC} {c : Ev} {σ : L2.St} {H : Hp} {Q : Bool → Hp → Prop} (h : tT W (cT c) σ H Q) : tX W c σ H fun x H1 => ∃ k, x = .bl k ∧ Q k H1 := by
  obtain ⟨ρ, F, b, ρ', E, hc, k⟩ := h
  obtain ⟨⟨d, ρ1⟩, h1, hc⟩ := ob hc
  obtain ⟨b', h2, hc⟩ := ob hc
  cases hc
  exact ⟨ρ, F, d, ρ1, E, h1, fun v F' H' E' r x o => ⟨b, rep_bl r h2, k F' H' E' x o⟩⟩
section
variable {X : Cx} {cf : List D → D → Prop} {a b c e : Expr} {ca cb cc : Ev} {ta tb : Et} {r r' : R2} {f f' : D → D → Option D} {op op' : CmpOp} {pos : Pos} {i : Nat} {rest : List Expr}
theorem t_val (h : PX X cf e ca) (he : ∀ whole, isTrue e X.env whole = (do let v ← whole; standAt e.pos; holding [v] (truthy v)) := by intro _; rfl) : PXT X cf e (cT ca) := pt_imp (pt_val h he) fun _ _ _ q => tT_tX q
theorem t_cmp (ho : OpR X (compareOp op) r) (hf : Op2 ⟨X.K, cf⟩ r f) (ha : PX X cf a ca) (hb : PX X cf b cb) (hm : behindInMarks op b = false) : PXT X cf (.Compare a [op] [b] pos) (cT (c2 f ca cb)) :=
  pt_imp (pt_cmpR ho ha hb hm) fun _ _ _ q => op_imp hf (tT_tX q)
theorem t_cmpB (ho : OpR X (compareOp op) r) (hf : Op2 ⟨X.K, cf⟩ r f) (ha : PX X cf a ca) (hb : PE X b (tVar i)) (hm : behindInMarks op b = false) : PXT X cf (.Compare a [op] [b] pos) (cT (cB2 i f ca)) :=
  pt_imp (pt_cmpR ho ha hb hm) fun _ _ _ q => op_b2 hf (tT_tX q)
/-- a op b op' c -/
def cChain (f f' : D → D → Option D) (a b c : Ev) : Ev := fun ρ => (a ρ).bind fun p => (b p.2).bind fun q => (f p.1 q.1).bind fun z => (toB z).bind fun k =>
  if k = true then (c q.2).bind fun s => (f' q.1 s.1).bind fun y => some (y, s.2) else some (.bl false, q.2)
theorem chain_imp {W : OC} {σ : L2.St} {H : Hp} {Q : VK} (hf : Op2 W r f) (hf' : Op2 W r' f') (h : tX W (cChain f f' ca cb cc) σ H Q) : tChain r r' (tX W ca) (tX W cb) (tX W cc) σ H Q := by
  obtain ⟨ρ, F, d, ρ', E, hc, k⟩ := h
  obtain ⟨⟨d1, ρ1⟩, h1, hc⟩ := ob hc
  obtain ⟨⟨d2, ρ2⟩, h2, hc⟩ := ob hc
  obtain ⟨z, h3, hc⟩ := ob hc
  obtain ⟨b, h4, hc⟩ := ob hc
  refine ⟨ρ, F, d1, ρ1, E, h1, fun v F1 H1 E1 r1 x1 o1 => ⟨ρ1, F1, d2, ρ2, E1, h2, fun v2 F2 H2 E2 r2 x2 o2 => ?_⟩⟩
  have x12 := x1.trans x2 fun p z => .inl (o1 p z)
  refine hf F2 H2 d1 d2 _ v v2 _ E2.fs (.inl (Rep.le x2.f r1)) (.inl r2) h3 fun v3 F3 H3 fs3 r3 x3 => ⟨b, rep_bl r3 h4, ?_⟩
  have x13 := x12.trans x3 fun p z => z.elim
  cases b with
  | false =>
    cases hc
    exact iteF (k _ F3 H3 (E2.ext fs3 x3) (by simp only [Rep]) x13 fun a z => o1 a (o2 a z))
  | true =>
    obtain ⟨⟨d3, ρ3⟩, h5, hc⟩ := ob hc
    obtain ⟨y, h6, hc⟩ := ob hc
    cases hc
    refine iteT ⟨ρ2, F3, d3, ρ3, E2.ext fs3 x3, h5, fun v4 F4 H4 E4 r4 x4 o4 => ?_⟩
    have x14 := x13.trans x4 fun p z => .inl (o1 p (o2 p z))
    exact hf' F4 H4 d2 d3 _ v2 v4 Q E4.fs (.inl (Rep.le ((x3.f).trans x4.f) r2)) (.inl r4) h6 fun v5 F5 H5 fs5 r5 x5 => k _ F5 H5 (E4.ext fs5 x5) r5 (x14.trans x5 fun p z => z.elim) fun a z => o1 a (o2 a (o4 a z))
theorem x_chain (ho : OpR X (compareOp op) r) (ho' : OpR X (compareOp op') r') (hf : Op2 ⟨X.K, cf⟩ r f) (hf' : Op2 ⟨X.K, cf⟩ r' f') (ha : PX X cf a ca) (hb : PX X cf b cb) (hc : PX X cf c cc)
    (hm : lastMarks [op, op'] [b, c] = false := by with_unfolding_all rfl) : PX X cf (.Compare a [op, op'] [b, c] pos) (cChain f f' ca cb cc) := pe_imp (pe_chain ho ho' ha hb hc hm) fun _ _ _ q => chain_imp hf hf' q
theorem t_chain (ho : OpR X (compareOp op) r) (ho' : OpR X (compareOp op') r') (hf : Op2 ⟨X.K, cf⟩ r f) (hf' : Op2 ⟨X.K, cf⟩ r' f') (ha : PX X cf a ca) (hb : PX X cf b cb) (hc : PX X cf c cc)
    (hm : lastMarks [op, op'] [b, c] = false := by with_unfolding_all rfl) : PXT X cf (.Compare a [op, op'] [b, c] pos) (cT (cChain f f' ca cb cc)) := pt_imp (pt_chain ho ho' ha hb hc hm) fun _ _ _ q => chain_imp hf hf' (tT_tX q)
/-- truth of a value -/
def truB : D → Option Bool
  | .non => some false
  | .bl b => some b
  | .int i => some (i != 0)
  | .tup xs => some (!xs.isEmpty)
  | .lst xs => some (!xs.isEmpty)
  | _ => none
def cTr (c : Ev) : Et := fun ρ => (c ρ).bind fun p => (truB p.1).bind fun b => some (b, p.2)
theorem tru_of {W : OC} {F H : Hp} {d : D} {v : V} {k : Bool} (fs : FS W F H) (h : KnB W F H d v) (e : truB d = some k) : TruV W.K v H k := by
  cases d with
  | non =>
    cases e
    rw [h.non]
    rfl
  | bl b =>
    cases e
    rw [h.bl]
    rfl
  | int i =>
    cases e
    rw [h.int]
    rfl
  | tup xs =>
    cases e
    obtain ⟨a, vs, rfl, _, h2, _, h4⟩ := h.tup fs
    refine .inr (.inl ⟨vs, SqT.of h2, ?_⟩)
    have := h4.length
    cases xs <;> cases vs <;> first | rfl | cases this
  | lst xs =>
    cases e
    obtain ⟨a, vs, rfl, h2, _, h4⟩ := h.lst fs
    refine .inl ⟨vs, SqL.of h2, ?_⟩
    have := h4.length
    cases xs <;> cases vs <;> first | rfl | cases this
  | _ => cases e
theorem t_tru (h : PX X cf e ca) (he : ∀ whole, isTrue e X.env whole = (do let v ← whole; standAt e.pos; holding [v] (truthy v)) := by intro _; rfl) : PXT X cf e (cTr ca) := pt_imp (pt_truth h he) fun _ _ _ q => by
  obtain ⟨ρ, F, b, ρ', E, hc, k⟩ := q
  obtain ⟨⟨d, ρ1⟩, h1, hc⟩ := ob hc
  obtain ⟨b', h2, hc⟩ := ob hc
  cases hc
  exact ⟨ρ, F, d, ρ1, E, h1, fun v F' H' E' r x o => ⟨b, tru_of E'.fs (.inl r) h2, k F' H' E' x o⟩⟩
def cAnd (a b : Et) : Et := fun ρ => (a ρ).bind fun p => if p.1 = true then b p.2 else some (false, p.2)
def cOr (a b : Et) : Et := fun ρ => (a ρ).bind fun p => if p.1 = true then some (true, p.2) else b p.2
def cNot (a : Et) : Et := fun ρ => (a ρ).bind fun p => some (!p.1, p.2)
theorem and_imp {W : OC} {σ : L2.St} {H : Hp} {Q : Bool → Hp → Prop} (h : tT W (cAnd ta tb) σ H Q) : tAnd (tT W ta) (tT W tb) σ H Q := by
  obtain ⟨ρ, F, b, ρ', E, hc, k⟩ := h
  obtain ⟨⟨b1, ρ1⟩, h1, hc⟩ := ob hc
  refine ⟨ρ, F, b1, ρ1, E, h1, fun F1 H1 E1 x1 o1 => ?_⟩
  cases b1 with
  | true => exact iteT ⟨ρ1, F1, b, ρ', E1, hc, fun F2 H2 E2 x2 o2 => k F2 H2 E2 (x1.trans x2 fun p z => .inl (o1 p z)) fun a z => o1 a (o2 a z)⟩
  | false =>
    cases hc
    exact iteF (k F1 H1 E1 x1 o1)
theorem or_imp {W : OC} {σ : L2.St} {H : Hp} {Q : Bool → Hp → Prop} (h : tT W (cOr ta tb) σ H Q) : tOr (tT W ta) (tT W tb) σ H Q := by
  obtain ⟨ρ, F, b, ρ', E, hc, k⟩ := h
  obtain ⟨⟨b1, ρ1⟩, h1, hc⟩ := ob hc
  refine ⟨ρ, F, b1, ρ1, E, h1, fun F1 H1 E1 x1 o1 => ?_⟩
  cases b1 with
  | false => exact iteF ⟨ρ1, F1, b, ρ', E1, hc, fun F2 H2 E2 x2 o2 => k F2 H2 E2 (x1.trans x2 fun p z => .inl (o1 p z)) fun a z => o1 a (o2 a z)⟩
  | true =>
    cases hc
    exact iteT (k F1 H1 E1 x1 o1)
theorem not_imp {W : OC} {σ : L2.St} {H : Hp} {Q : Bool → Hp → Prop} (h : tT W (cNot ta) σ H Q) : tNot (tT W ta) σ H Q := by
  obtain ⟨ρ, F, b, ρ', E, hc, k⟩ := h
  obtain ⟨⟨b1, ρ1⟩, h1, hc⟩ := ob hc
  cases hc
  exact ⟨ρ, F, b1, _, E, h1, fun F1 H1 E1 x1 o1 => k F1 H1 E1 x1 o1⟩
abbrev PXW (X : Cx) (cf : List D → D → Prop) (e : Expr) (c : Et) : Prop := PW X e (tT ⟨X.K, cf⟩ c)
theorem pw_imp {t t' : TT} (h : PW X e t) (i : ∀ σ H Q, t' σ H Q → t σ H Q) : PW X e t' := ⟨fun wh pins s σ H Q I q => h.run wh pins s σ H Q I (i σ H Q q)⟩
theorem w_and1 (ha : PXT X cf a ta) : PXW X cf (.BoolOp .And [a] pos) ta := pw_and1 ha
theorem w_or1 (ha : PXT X cf a ta) : PXW X cf (.BoolOp .Or [a] pos) ta := pw_or1 ha
theorem w_and (ha : PXT X cf a ta) (hb : PXW X cf (.BoolOp .And (b :: rest) pos) tb) : PXW X cf (.BoolOp .And (a :: b :: rest) pos) (cAnd ta tb) := pw_imp (pw_and ha hb) fun _ _ _ q => and_imp q
theorem w_or (ha : PXT X cf a ta) (hb : PXW X cf (.BoolOp .Or (b :: rest) pos) tb) : PXW X cf (.BoolOp .Or (a :: b :: rest) pos) (cOr ta tb) := pw_imp (pw_or ha hb) fun _ _ _ q => or_imp q
theorem t_w (h : PXW X cf e ta) : PXT X cf e ta := h.pt
theorem t_not (ha : PXT X cf a ta) : PXT X cf (.UnaryOp .Not a pos) (cNot ta) := pt_imp (pt_not ha) fun _ _ _ q => not_imp q
/-- as values, of bools -/
def cAndV (a b : Ev) : Ev := fun ρ => (a ρ).bind fun p => (toB p.1).bind fun k => if k = true then b p.2 else some (.bl false, p.2)
def cOrV (a b : Ev) : Ev := fun ρ => (a ρ).bind fun p => (toB p.1).bind fun k => if k = true then some (.bl true, p.2) else b p.2
def cNotV (a : Ev) : Ev := fun ρ => (a ρ).bind fun p => (toB p.1).bind fun k => some (.bl (!k), p.2)
theorem x_one {bop : BoolOp} (h : PX X cf a ca) : PX X cf (.BoolOp bop [a] pos) ca := pe_one h
theorem x_and (ha : PX X cf a ca) (hb : PX X cf (.BoolOp .And (b :: rest) pos) cb) : PX X cf (.BoolOp .And (a :: b :: rest) pos) (cAndV ca cb) := pe_imp (pe_and ha hb) fun σ H Q q => by
  obtain ⟨ρ, F, d, ρ', E, hc, k⟩ := q
  obtain ⟨⟨d1, ρ1⟩, h1, hc⟩ := ob hc
  obtain ⟨b1, h2, hc⟩ := ob hc
  refine ⟨ρ, F, d1, ρ1, E, h1, fun v F1 H1 E1 r1 x1 o1 => ⟨b1, rep_bl r1 h2, ?_⟩⟩
  cases b1 with
  | true => exact iteT ⟨ρ1, F1, d, ρ', E1, hc, fun v F2 H2 E2 r2 x2 o2 => k v F2 H2 E2 r2 (x1.trans x2 fun p z => .inl (o1 p z)) fun a z => o1 a (o2 a z)⟩
  | false =>
    cases hc
    exact iteF (k _ F1 H1 E1 (by simp only [Rep]) x1 o1)
theorem x_or (ha : PX X cf a ca) (hb : PX X cf (.BoolOp .Or (b :: rest) pos) cb) : PX X cf (.BoolOp .Or (a :: b :: rest) pos) (cOrV ca cb) := pe_imp (pe_or ha hb) fun σ H Q q => by
  obtain ⟨ρ, F, d, ρ', E, hc, k⟩ := q
  obtain ⟨⟨d1, ρ1⟩, h1, hc⟩ := ob hc
  obtain ⟨b1, h2, hc⟩ := ob hc
  refine ⟨ρ, F, d1, ρ1, E, h1, fun v F1 H1 E1 r1 x1 o1 => ⟨b1, rep_bl r1 h2, ?_⟩⟩
  cases b1 with
  | false => exact iteF ⟨ρ1, F1, d, ρ', E1, hc, fun v F2 H2 E2 r2 x2 o2 => k v F2 H2 E2 r2 (x1.trans x2 fun p z => .inl (o1 p z)) fun a z => o1 a (o2 a z)⟩
  | true =>
    cases hc
    exact iteT (k _ F1 H1 E1 (by simp only [Rep]) x1 o1)
theorem x_not (ha : PX X cf a ca) : PX X cf (.UnaryOp .Not a pos) (cNotV ca) := pe_imp (pe_not ha) fun σ H Q q => by
  obtain ⟨ρ, F, d, ρ', E, hc, k⟩ := q
  obtain ⟨⟨d1, ρ1⟩, h1, hc⟩ := ob hc
  obtain ⟨b1, h2, hc⟩ := ob hc
  cases hc
  exact ⟨ρ, F, d1, _, E, h1, fun v F1 H1 E1 r1 x1 o1 => ⟨b1, rep_bl r1 h2, k _ F1 H1 E1 (by simp only [Rep]) x1 o1⟩⟩
/-- a if t else b -/
def cIf (t : Et) (a b : Ev) : Ev := fun ρ => (t ρ).bind fun p => if p.1 = true then a p.2 else b p.2
theorem x_if (hc : PXT X cf c ta) (ha : PX X cf a ca) (hb : PX X cf b cb) : PX X cf (.IfExp c a b pos) (cIf ta ca cb) := pe_imp (pe_ifExp hc ha hb) fun σ H Q q => by
  obtain ⟨ρ, F, d, ρ', E, hc, k⟩ := q
  obtain ⟨⟨b1, ρ1⟩, h1, hc⟩ := ob hc
  refine ⟨ρ, F, b1, ρ1, E, h1, fun F1 H1 E1 x1 o1 => ?_⟩
  cases b1 with
  | true => exact iteT ⟨ρ1, F1, d, ρ', E1, hc, fun v F2 H2 E2 r2 x2 o2 => k v F2 H2 E2 r2 (x1.trans x2 fun p z => .inl (o1 p z)) fun a z => o1 a (o2 a z)⟩
  | false => exact iteF ⟨ρ1, F1, d, ρ', E1, hc, fun v F2 H2 E2 r2 x2 o2 => k v F2 H2 E2 r2 (x1.trans x2 fun p z => .inl (o1 p z)) fun a z => o1 a (o2 a z)⟩
end

/-! ### arguments, displays -/
def aNil : Ea := fun ρ => some ([], ρ)
def aCons (a : Ev) (r : Ea) : Ea := fun ρ => (a ρ).bind fun p => (r p.2).bind fun q => some (p.1 :: q.1, q.2)
section
variable {X : Cx} {cf : List D → D → Prop} {e : Expr} {es : List Expr} {c : Ev} {ca : Ea} {pos : Pos}
theorem xa_nil : PXA X cf [] aNil := pa_imp pa_nil fun σ H Q q => by
  obtain ⟨ρ, F, ds, ρ', E, hc, k⟩ := q
  cases hc
  exact k [] F H E (repL_nil.mpr rfl) Ext.refl fun _ z => z
theorem xa_cons (ha : PX X cf e c) (hr : PXA X cf es ca) (hs : starEach (e :: es) X.env = (false, eval e X.env) :: starEach es X.env := by rfl) : PXA X cf (e :: es) (aCons c ca) := pa_imp (pa_cons ha hr hs) fun σ H Q q => by
  obtain ⟨ρ, F, ds, ρ', E, hc, k⟩ := q
  obtain ⟨⟨d1, ρ1⟩, h1, hc⟩ := ob hc
  obtain ⟨⟨d2, ρ2⟩, h2, hc⟩ := ob hc
  cases hc
  exact ⟨ρ, F, d1, ρ1, E, h1, fun v F1 H1 E1 r1 x1 o1 => ⟨ρ1, F1, d2, _, E1, h2, fun vs F2 H2 E2 r2 x2 o2 => k (v :: vs) F2 H2 E2 (repL_cons (Rep.le x2.f r1) r2) (x1.trans x2 fun p z => .inl (o1 p z)) fun a z => o1 a (o2 a z)⟩⟩
def cTup (a : Ea) : Ev := fun ρ => (a ρ).bind fun p => if p.1.length ≤ 16777216 then some (.tup p.1, p.2) else none
def cLst (a : Ea) : Ev := fun ρ => (a ρ).bind fun p => if p.1.length ≤ 16777216 then some (.lst p.1, p.2) else none
theorem x_tup {k : Nat} (h : PXA X cf es ca) : PX X cf (.Tuple es k pos) (cTup ca) := pe_imp (pe_tup h) fun σ H Q q => by
  obtain ⟨ρ, F, d, ρ', E, hc, k⟩ := q
  obtain ⟨⟨ds, ρ1⟩, h1, hc⟩ := ob hc
  split at hc
  · rename_i hl
    cases hc
    have L := line_eq
    refine ⟨ρ, F, ds, _, E, h1, fun vs F1 H1 E1 r1 x1 o1 => ?_⟩
    have hz : vs.length ≤ sizeLine := by
      rw [← r1.length, L]
      exact hl
    exact ⟨hz, new_tup E1.fs hz r1 fun v F2 H2 fs2 r2 x2 => k v F2 H2 (E1.ext fs2 x2) r2 (x1.trans x2 fun p z => z.elim) o1⟩
  · cases hc
theorem o_lst (h : PXA X cf es ca) : PXO X cf (.List es pos) (cLst ca) := pe_imp (pe_lst h) fun σ H Q q => by
  obtain ⟨ρ, F, d, ρ', E, hc, k⟩ := q
  obtain ⟨⟨ds, ρ1⟩, h1, hc⟩ := ob hc
  split at hc
  · rename_i hl
    cases hc
    have L := line_eq
    refine ⟨ρ, F, ds, _, E, h1, fun vs F1 H1 E1 r1 x1 o1 => ?_⟩
    have hz : vs.length ≤ sizeLine := by
      rw [← r1.length, L]
      exact hl
    refine ⟨hz, new_lstO E1.fs hz r1 fun p F2 H2 fs2 r2 n2 hp x2 => k p F2 H2 (E1.ext fs2 x2) r2 n2 (E1.ownNone hp) ?_ (x1.trans x2 fun p z => z.elim) o1⟩
    exact x1.back E hp n2 x2.f
  · cases hc
theorem o_dnewT : PXO X cf (.Dict [] [] pos) (cC (.dT [])) := pe_imp pe_dnewT fun σ H Q q => by
  obtain ⟨ρ, F, d, ρ', E, hc, k⟩ := q
  cases hc
  intro p hp
  exact k p F _ (E.ext (E.fs.laid hp) (Ext.laid E.fs hp)) ⟨[], upd_same, repT_nil.mpr rfl⟩ (E.fs.free hp) (E.ownNone hp) (.inl hp) (Ext.laid E.fs hp) fun _ z => z
theorem o_dnewK : PXO X cf (.Dict [] [] pos) (cC (.dK [])) := pe_imp pe_dnewK fun σ H Q q => by
  obtain ⟨ρ, F, d, ρ', E, hc, k⟩ := q
  cases hc
  intro p hp
  exact k p F _ (E.ext (E.fs.laid hp) (Ext.laid E.fs hp)) ⟨[], upd_same, repK_nil.mpr rfl⟩ (E.fs.free hp) (E.ownNone hp) (.inl hp) (Ext.laid E.fs hp) fun _ z => z
end
end Ov
/-! Ov: calls of built-ins, slices, attributes, methods. -/
namespace Ov
open PySem PySem.Spec PyProof.Rows L2

/-! ### one value in -/
abbrev RL := List V → Hp → VK → Prop
def Op1 (W : OC) (r : RL) (f : D → Option D) : Prop := ∀ F H d z x (Q : VK), FS W F H → KnB W F H d x → f d = some z →
  (∀ v F' H', FS W F' H' → Rep W F' z v → Ext NoA F H F' H' → Q v H') → r [x] H Q
def Op1O (W : OC) (r : RL) (f : D → Option D) : Prop := ∀ F H d z x (Q : VK), FS W F H → KnB W F H d x → f d = some z →
  (∀ p F' H', FS W F' H' → OwnAt W F' H' p z → F' p = none → H p = none → Ext NoA F H F' H' → Q (.ref p) H') → r [x] H Q
def c1 (f : D → Option D) (a : Ev) : Ev := fun ρ => (a ρ).bind fun p => (f p.1).bind fun z => some (z, p.2)
def cB0 (i : Nat) (f : D → Option D) : Ev := fun ρ => (getS ρ i).bind fun d => (f d).bind fun z => some (z, ρ)
section
variable {W : OC} {r : RL} {f : D → Option D} {ca : Ev} {σ : L2.St} {H : Hp} {Q : VK} {i : Nat}
theorem un_imp (hf : Op1 W r f) (h : tX W (c1 f ca) σ H Q) : tX W ca σ H fun x H1 => r [x] H1 Q := by
  obtain ⟨ρ, F, d, ρ', E, hc, k⟩ := h
  obtain ⟨⟨d1, ρ1⟩, h1, hc⟩ := ob hc
  obtain ⟨z, h3, hc⟩ := ob hc
  cases hc
  exact ⟨ρ, F, d1, _, E, h1, fun v F1 H1 E1 r1 x1 o1 => hf F1 H1 d1 _ v Q E1.fs (.inl r1) h3 fun v3 F3 H3 fs3 r3 x3 => k v3 F3 H3 (E1.ext fs3 x3) r3 (x1.trans x3 fun p z => z.elim) o1⟩
theorem un_impO (hf : Op1O W r f) (h : tO W (c1 f ca) σ H Q) : tX W ca σ H fun x H1 => r [x] H1 Q := by
  obtain ⟨ρ, F, d, ρ', E, hc, k⟩ := h
  obtain ⟨⟨d1, ρ1⟩, h1, hc⟩ := ob hc
  obtain ⟨z, h3, hc⟩ := ob hc
  cases hc
  exact ⟨ρ, F, d1, _, E, h1, fun v F1 H1 E1 r1 x1 o1 => hf F1 H1 d1 _ v Q E1.fs (.inl r1) h3 fun p F3 H3 fs3 r3 n3 hp x3 => k p F3 H3 (E1.ext fs3 x3) r3 n3 (E1.ownNone hp) (x1.back E hp n3 x3.f) (x1.trans x3 fun p z => z.elim) o1⟩
theorem un_b (hf : Op1 W r f) (h : tX W (cB0 i f) σ H Q) : tVar i σ H fun x H1 => r [x] H1 Q := by
  obtain ⟨ρ, F, d, ρ', E, hc, k⟩ := h
  obtain ⟨d1, h1, hc⟩ := ob hc
  obtain ⟨z, h3, hc⟩ := ob hc
  cases hc
  obtain ⟨v, e, r1⟩ := E.getS h1
  exact ⟨v, e, hf F H d1 _ v Q E.fs r1 h3 fun v3 F3 H3 fs3 r3 x3 => k v3 F3 H3 (E.ext fs3 x3) r3 (Ext.refl.trans x3 fun p z => z.elim) fun _ z => z⟩
theorem un_bO (hf : Op1O W r f) (h : tO W (cB0 i f) σ H Q) : tVar i σ H fun x H1 => r [x] H1 Q := by
  obtain ⟨ρ, F, d, ρ', E, hc, k⟩ := h
  obtain ⟨d1, h1, hc⟩ := ob hc
  obtain ⟨z, h3, hc⟩ := ob hc
  cases hc
  obtain ⟨v, e, r1⟩ := E.getS h1
  exact ⟨v, e, hf F H d1 _ v Q E.fs r1 h3 fun p F3 H3 fs3 r3 n3 hp x3 => k p F3 H3 (E.ext fs3 x3) r3 n3 (E.ownNone hp) (.inl hp) (Ext.refl.trans x3 fun p z => z.elim) fun _ z => z⟩
end
section
variable {X : Cx} {cf : List D → D → Prop} {a b : Expr} {ca cb : Ev} {r : RL} {f : D → Option D} {f2 : D → D → Option D} {i : Nat} {id T : String} {x : Str} {p pos : Pos}
theorem x_cb1 (hc : CallR X (.builtin id) r) (hf : Op1 ⟨X.K, cf⟩ r f) (hg : Gl X x) (hm : X.mg x = none) (hv : bootBuiltins x = some (.builtin id)) (ha : PX X cf a ca) (hn : x ≠ "__name__" := by decide) (hdb : (x == ("__debug__" : Str)) = false := by decide)
    (he : starEach [a] X.env = (false, eval a X.env) :: starEach [] X.env := by rfl) (hpl : (backTo pos (starEach [] X.env)).any (·.1) = false := by rfl) : PX X cf (.Call (.Name x p) [a] [] pos) (c1 f ca) :=
  pe_imp (pe_callB hc hg hm hv (pa_cons ha pa_nil he) hn hdb he hpl) fun _ _ _ q => un_imp hf q
theorem o_cb1 (hc : CallR X (.builtin id) r) (hf : Op1O ⟨X.K, cf⟩ r f) (hg : Gl X x) (hm : X.mg x = none) (hv : bootBuiltins x = some (.builtin id)) (ha : PX X cf a ca) (hn : x ≠ "__name__" := by decide) (hdb : (x == ("__debug__" : Str)) = false := by decide)
    (he : starEach [a] X.env = (false, eval a X.env) :: starEach [] X.env := by rfl) (hpl : (backTo pos (starEach [] X.env)).any (·.1) = false := by rfl) : PXO X cf (.Call (.Name x p) [a] [] pos) (c1 f ca) :=
  pe_imp (pe_callB hc hg hm hv (pa_cons ha pa_nil he) hn hdb he hpl) fun _ _ _ q => un_impO hf q
theorem x_cb1B (hc : CallR X (.builtin id) r) (hf : Op1 ⟨X.K, cf⟩ r f) (hg : Gl X x) (hm : X.mg x = none) (hv : bootBuiltins x = some (.builtin id)) (ha : PE X a (tVar i)) (hn : x ≠ "__name__" := by decide) (hdb : (x == ("__debug__" : Str)) = false := by decide)
    (he : starEach [a] X.env = (false, eval a X.env) :: starEach [] X.env := by rfl) (hpl : (backTo pos (starEach [] X.env)).any (·.1) = false := by rfl) : PX X cf (.Call (.Name x p) [a] [] pos) (cB0 i f) :=
  pe_imp (pe_callB hc hg hm hv (pa_cons ha pa_nil he) hn hdb he hpl) fun _ _ _ q => un_b hf q
theorem x_ct1 (hc : CallR X (.type T) r) (hf : Op1 ⟨X.K, cf⟩ r f) (hg : Gl X x) (hm : X.mg x = none) (hv : bootBuiltins x = some (.type T)) (ha : PX X cf a ca) (hn : x ≠ "__name__" := by decide) (hdb : (x == ("__debug__" : Str)) = false := by decide)
    (he : starEach [a] X.env = (false, eval a X.env) :: starEach [] X.env := by rfl) (hpl : (backTo pos (starEach [] X.env)).any (·.1) = false := by rfl) : PX X cf (.Call (.Name x p) [a] [] pos) (c1 f ca) :=
  pe_imp (pe_callTy hc hg hm hv (pa_cons ha pa_nil he) hn hdb he hpl) fun _ _ _ q => un_imp hf q
theorem o_ct1 (hc : CallR X (.type T) r) (hf : Op1O ⟨X.K, cf⟩ r f) (hg : Gl X x) (hm : X.mg x = none) (hv : bootBuiltins x = some (.type T)) (ha : PX X cf a ca) (hn : x ≠ "__name__" := by decide) (hdb : (x == ("__debug__" : Str)) = false := by decide)
    (he : starEach [a] X.env = (false, eval a X.env) :: starEach [] X.env := by rfl) (hpl : (backTo pos (starEach [] X.env)).any (·.1) = false := by rfl) : PXO X cf (.Call (.Name x p) [a] [] pos) (c1 f ca) :=
  pe_imp (pe_callTy hc hg hm hv (pa_cons ha pa_nil he) hn hdb he hpl) fun _ _ _ q => un_impO hf q
/-- two values in -/
theorem x_cb2 (hc : CallR X (.builtin id) r) (hf : Op2 ⟨X.K, cf⟩ (fun x y H Q => r [x, y] H Q) f2) (hg : Gl X x) (hm : X.mg x = none) (hv : bootBuiltins x = some (.builtin id)) (ha : PX X cf a ca) (hb : PX X cf b cb) (hn : x ≠ "__name__" := by decide) (hdb : (x == ("__debug__" : Str)) = false := by decide)
    (he : starEach [a, b] X.env = (false, eval a X.env) :: starEach [b] X.env := by rfl) (he2 : starEach [b] X.env = (false, eval b X.env) :: starEach [] X.env := by rfl) (hpl : (backTo pos (starEach [b] X.env)).any (·.1) = false := by rfl) : PX X cf (.Call (.Name x p) [a, b] [] pos) (c2 f2 ca cb) :=
  pe_imp (pe_callB hc hg hm hv (pa_cons ha (pa_cons hb pa_nil he2) he) hn hdb he hpl) fun _ _ _ q => op_imp hf q
end

/-! ### the built-ins -/
section
variable {W : OC}
def lenD : D → Option D
  | .tup xs => some (.int xs.length)
  | .lst xs => some (.int xs.length)
  | .scr ns => some (.int ns.length)
  | _ => none
abbrev rLenD (K : PySem.W.Frag) : RL := fun xs H Q => ∃ p ys, xs = [.ref p] ∧ (SqL K H p ys ∨ SqT K H p ys) ∧ Q (.int ys.length) H
theorem op1_len : Op1 W (rLenD W.K) lenD := by
  intro F H d z x Q fs hx h k
  cases d <;> first | cases h | skip
  · obtain ⟨a, vs, rfl, _, h2, _, h4⟩ := hx.tup fs
    exact ⟨a, vs, rfl, .inr (SqT.of h2), by rw [← h4.length]; exact k _ F H fs (by simp only [Rep]) Ext.refl⟩
  · obtain ⟨a, vs, rfl, h2, _, h4⟩ := hx.lst fs
    exact ⟨a, vs, rfl, .inl (SqL.of h2), by rw [← h4.length]; exact k _ F H fs (by simp only [Rep]) Ext.refl⟩
  · obtain ⟨a, rfl, h2, _⟩ := hx.scr fs
    refine ⟨a, _, rfl, .inl h2, ?_⟩
    rw [List.length_map]
    exact k _ F H fs (by simp only [Rep]) Ext.refl
/-- a list of ints -/
theorem lst_ints {F H : Hp} {xs : List D} {ns : List Int} {x : V} (fs : FS W F H) (hx : KnB W F H (.lst xs) x) (h : intsOf xs = some ns) : ∃ a, x = .ref a ∧ SqL W.K H a (ns.map V.int) ∧ ns.length ≤ sizeLine := by
  obtain ⟨a, vs, rfl, h2, h3, h4⟩ := hx.lst fs
  rw [intsOf_eq h] at h4
  have e := h4.ints
  subst e
  exact ⟨a, rfl, SqL.of h2, by simpa using h3⟩
def onInts (f : List Int → Option D) : D → Option D
  | .lst xs => (intsOf xs).bind f
  | _ => none
theorem onInts_inv {f : List Int → Option D} {d z : D} (h : onInts f d = some z) : ∃ ns, d = .lst (ns.map D.int) ∧ f ns = some z := by
  cases d <;> first | cases h | skip
  obtain ⟨ns, h1, h2⟩ := ob (show (intsOf _).bind f = some z from h)
  exact ⟨ns, by rw [intsOf_eq h1], h2⟩
def sumD : D → Option D := onInts fun ns => some (.int ns.sum)
theorem op1_sum : Op1 W (rSum W.K) sumD := by
  intro F H d z x Q fs hx h k
  obtain ⟨ns, rfl, h'⟩ := onInts_inv h
  cases h'
  obtain ⟨a, rfl, h2, _⟩ := lst_ints fs hx (intsOf_map ns)
  exact ⟨a, ns, rfl, h2, k _ F H fs (by simp only [Rep]) Ext.refl⟩
/-- the greatest of a row -/
def maxI : List Int → Option Int
  | [] => none
  | n :: ns => match maxI ns with
    | none => some n
    | some m => some (if n ≤ m then m else n)
theorem maxI_none {ns : List Int} (h : maxI ns = none) : ns = [] := by
  cases ns with
  | nil => rfl
  | cons n ns =>
    unfold maxI at h
    split at h <;> cases h
theorem maxI_spec : ∀ {ns : List Int} {m : Int}, maxI ns = some m → m ∈ ns ∧ ∀ y ∈ ns, y ≤ m
  | [], _, h => by cases h
  | n :: ns, m, h => by
    unfold maxI at h
    split at h
    · rename_i e
      cases h
      rw [maxI_none e]
      exact ⟨by simp, fun y hy => by simp at hy; omega⟩
    · rename_i k e
      obtain ⟨h1, h2⟩ := maxI_spec e
      by_cases hk : n ≤ k
      · rw [if_pos hk] at h
        cases h
        exact ⟨List.mem_cons_of_mem _ h1, fun y hy => by
          rcases List.mem_cons.mp hy with rfl | hy
          · exact hk
          · exact h2 y hy⟩
      · rw [if_neg hk] at h
        cases h
        refine ⟨List.mem_cons_self, fun y hy => ?_⟩
        rcases List.mem_cons.mp hy with rfl | hy
        · exact Int.le_refl _
        · have := h2 y hy
          omega
def maxD : D → Option D := onInts fun ns => (maxI ns).map .int
theorem op1_max : Op1 W (rMax W.K) maxD := by
  intro F H d z x Q fs hx h k
  obtain ⟨ns, rfl, h'⟩ := onInts_inv h
  obtain ⟨m, e, rfl⟩ := Option.map_eq_some_iff.mp h'
  obtain ⟨a, rfl, h2, _⟩ := lst_ints fs hx (intsOf_map ns)
  obtain ⟨s1, s2⟩ := maxI_spec e
  refine ⟨a, ns, rfl, h2, List.length_pos_of_mem s1, fun m' g1 g2 => ?_⟩
  have : m' = m := Int.le_antisymm (s2 m' g1) (g2 m s1)
  subst this
  exact k _ F H fs (by simp only [Rep]) Ext.refl
/-- sorted ints -/
def insI (n : Int) : List Int → List Int
  | [] => [n]
  | m :: ms => if n ≤ m then n :: m :: ms else m :: insI n ms
def sortI : List Int → List Int
  | [] => []
  | n :: ns => insI n (sortI ns)
theorem insI_perm (n : Int) : ∀ ms : List Int, (insI n ms).Perm (n :: ms)
  | [] => List.Perm.refl _
  | m :: ms => by
    unfold insI
    split
    · exact List.Perm.refl _
    · exact ((insI_perm n ms).cons m).trans (List.Perm.swap n m ms)
theorem sortI_perm : ∀ ns : List Int, (sortI ns).Perm ns
  | [] => List.Perm.refl _
  | n :: ns => (insI_perm n (sortI ns)).trans ((sortI_perm ns).cons n)
theorem insI_sorted (n : Int) : ∀ {ms : List Int}, ms.Pairwise (· ≤ ·) → (insI n ms).Pairwise (· ≤ ·)
  | [], _ => by
    show List.Pairwise (· ≤ ·) [n]
    exact List.pairwise_singleton _ _
  | m :: ms, h => by
    obtain ⟨h1, h2⟩ := List.pairwise_cons.mp h
    unfold insI
    split
    · rename_i hn
      refine List.pairwise_cons.mpr ⟨fun y hy => ?_, h⟩
      rcases List.mem_cons.mp hy with rfl | hy
      · exact hn
      · exact Int.le_trans hn (h1 y hy)
    · rename_i hn
      refine List.pairwise_cons.mpr ⟨fun y hy => ?_, insI_sorted n h2⟩
      rcases List.mem_cons.mp ((insI_perm n ms).mem_iff.mp hy) with rfl | hy
      · omega
      · exact h1 y hy
theorem sortI_sorted : ∀ ns : List Int, (sortI ns).Pairwise (· ≤ ·)
  | [] => List.Pairwise.nil
  | n :: ns => insI_sorted n (sortI_sorted ns)
theorem sorted_one : ∀ {a b : List Int}, a.Perm b → a.Pairwise (· ≤ ·) → b.Pairwise (· ≤ ·) → a = b
  | [], b, p, _, _ => (List.nil_perm.mp p).symm
  | x :: xs, [], p, _, _ => (List.perm_nil.mp p)
  | x :: xs, y :: ys, p, ha, hb => by
    obtain ⟨a1, a2⟩ := List.pairwise_cons.mp ha
    obtain ⟨b1, b2⟩ := List.pairwise_cons.mp hb
    have e : x = y := by
      have hx : x ∈ y :: ys := p.mem_iff.mp List.mem_cons_self
      have hy : y ∈ x :: xs := p.mem_iff.mpr List.mem_cons_self
      have l1 : y ≤ x := by
        rcases List.mem_cons.mp hx with e | h
        · omega
        · exact b1 x h
      have l2 : x ≤ y := by
        rcases List.mem_cons.mp hy with e | h
        · omega
        · exact a1 y h
      omega
    subst e
    rw [sorted_one (List.Perm.cons_inv p) a2 b2]
theorem sortI_of {ns ms : List Int} (p : ms.Perm ns) (h : ms.Pairwise (· ≤ ·)) : ms = sortI ns := sorted_one (p.trans (sortI_perm ns).symm) h (sortI_sorted ns)
section
open PySem.Sem (wp)
/-- what a tuple gives to be collected (after the library's rule for a list) -/
theorem collect_tuple {prog : Program} {w : World} {A : Around} {E : Value → Shared → Prop} {s : Shared} {l : Addr} {vs : List Value} {Q : List Value → Shared → Prop} (hl : s.heap.IsTuple l vs.toArray)
    (h : Q vs { s with heap := (s.heap.push (seqObj "list" #[] 0)).update s.heap.objs.size (Obj.mapSeq (· ++ vs.toArray)) }) (hsz : vs.length ≤ sizeLine) :
    wpAny (model prog w) A (collect (.ref l)) Q E s := by
  obtain ⟨o, ho, hc, n, hd⟩ := id hl
  unfold collect
  refine wpAny_bind (wpAny_runValue (codeAny_builtin entry_proto_collect' ?_))
  show wpAny _ _ (do again (.builtin "list.__iadd__" ⟨[← newList [], .ref l], []⟩)) _ _ s
  refine wpAny_bind (wpAny_newList (wpAny_pure ⟨Code.quiet_builtin _ (by decide +kernel), codeAny_builtin entry_list_iadd' ?_⟩))
  show wpAny _ _ (Builtin.List.listExtendWith (.ref s.heap.objs.size) (.ref l) (.ref s.heap.objs.size)) _ _ { s with heap := s.heap.push (seqObj "list" #[] 0) }
  unfold Builtin.List.listExtendWith
  have ho' : (s.heap.push (seqObj "list" #[] 0)).get? l = some o := Heap.get?_push_of_some _ ho
  refine wpAny_bind (wpAny_typeOf (T := "tuple") ⟨o, ho', hc⟩ ?_)
  have ht : (Value.type "tuple" == Value.type "tuple") = true := by rfl
  rw [if_pos (by rw [ht]; simp)]
  refine wpAny_bind (listItems_at ho' hd ?_)
  refine wpAny_bind (listItems_at (xs := #[]) (n := 0) (Heap.get?_push_size _ rfl) rfl ?_)
  rw [if_neg (by simp)]
  refine wpAny_bind (listUpdate_at (xs := #[]) (n := 0) (Heap.get?_push_size _ rfl) rfl ?_ (Nat.zero_le _) (by show (#[] ++ vs.toArray).size ≤ sizeLine + 1; simp only [Array.size_append, List.size_toArray, List.length_nil]; omega))
  refine wpAny_pure ?_
  show wpAny (model prog w) A (do
      let o ← load s.heap.objs.size
      match o.data with
      | .seq xs _ => pure xs.toList
      | _ => unsupported "internal:collect") Q E { s with heap := (s.heap.push (seqObj "list" #[] 0)).update s.heap.objs.size (Obj.mapSeq (· ++ vs.toArray)) }
  refine wpAny_bind (wpAny_load (get?_update_seq (Heap.get?_push_size _ rfl) _) ?_)
  show wpAny _ _ (pure ((#[] : Array Value) ++ vs.toArray).toList) Q E _
  rw [show ((#[] : Array Value) ++ vs.toArray).toList = vs by simp]
  exact wpAny_pure h
open SrtO in
theorem sorted_ordT {prog : Program} {w : World} {A : Around} {E : Value → Shared → Prop} {s : Shared} {l : Addr} {vs : List Value} {ltv : Value → Value → Bool} {Q : Value → Shared → Prop} (O : Swo ltv) (hl : s.heap.IsTuple l vs.toArray) (hz : vs.length ≤ sizeLine)
    (hS : 2 ≤ vs.length → ∀ (h₁ : Heap) (a : Addr), h₁.get? a = some (seqObj "list" vs.toArray 0) → (∀ b o, s.heap.get? b = some o → b ≠ a ∧ h₁.get? b = some o) → SortableO prog w A.in1.in1 { s with heap := h₁ } a vs ltv)
    (h : ∀ out : List Value, Srtd ltv out → Stb ltv out vs → Q (.ref (s.heap.objs.size + 1)) { s with heap := sortedAll s.heap vs out.toArray }) :
    wpAny (model prog w) A (call (.builtin "sorted") [.ref l]) Q E s := by
  refine Calls.call_function_entry kind_sorted plain_sorted entry_sorted (args_sorted1 _) ?_
  unfold Builtin.«sorted»
  refine wpAny_bind (m := checkCount "sorted" 1 1 _) (wpAny_pure ?_)
  refine wpAny_bind (collect_tuple hl ?_ hz)
  refine wpAny_bind (wpAny_newList ?_ hz)
  have hsz : ((s.heap.push (seqObj "list" #[] 0)).update s.heap.objs.size (Obj.mapSeq (· ++ vs.toArray))).objs.size = s.heap.objs.size + 1 := by
    rw [Heap.size_update, size_push']
  have hoL : (((s.heap.push (seqObj "list" #[] 0)).update s.heap.objs.size (Obj.mapSeq (· ++ vs.toArray))).push (seqObj "list" vs.toArray 0)).get? (s.heap.objs.size + 1) = some (seqObj "list" vs.toArray 0) := by
    rw [← hsz]; exact Heap.get?_push_size _ rfl
  have keep : ∀ b o, s.heap.get? b = some o → b ≠ s.heap.objs.size + 1 ∧ (((s.heap.push (seqObj "list" #[] 0)).update s.heap.objs.size (Obj.mapSeq (· ++ vs.toArray))).push (seqObj "list" vs.toArray 0)).get? b = some o := fun b o q => by
    have hlt : b < s.heap.objs.size := Heap.lt_size q
    refine ⟨Nat.ne_of_lt (Nat.lt_succ_of_lt hlt), Heap.get?_push_of_some _ ?_⟩
    rw [Heap.get?_update_ne _ _ _ _ (Nat.ne_of_lt hlt)]
    exact Heap.get?_push_of_some _ q
  show wpAny _ _ _ _ _ { s with heap := ((s.heap.push (seqObj "list" #[] 0)).update s.heap.objs.size (Obj.mapSeq (· ++ vs.toArray))).push (seqObj "list" vs.toArray 0) }
  rw [hsz]
  refine wpAny_bind (wpAny_holding (wpAny_call_entry slot_list_sort ⟨_, hoL, rfl⟩ entry_list_sort (list_sort_ord O hoL hz (fun h2 => hS h2 _ _ hoL keep) fun out hs hb => ⟨_, rfl, ?_⟩) (args_list_sort _)))
  exact wpAny_pure ⟨_, rfl, h out hs hb⟩
end
def rSortedIT (K : PySem.W.Frag) : RL := fun vs H Q => ∃ (a : Addr) (ns : List Int), vs = [V.ref a] ∧ SqT K H a (ns.map V.int) ∧
  ∀ (ns' : List Int) (p : Addr), ns'.Perm ns → ns'.Pairwise (· ≤ ·) → H p = none → Q (.ref p) (upd H p (.lst (ns'.map V.int)))
theorem cr_sortedIT {X : Cx} : CallR X (.builtin "sorted") (rSortedIT X.K) := by
  intro pins s σ H vs us Q I r h
  obtain ⟨a, ns, rfl, hs, q⟩ := h
  obtain ⟨its, rv, hl, hz⟩ := I.tuple hs
  rw [Vals.ref1 r]
  have hi := rv.ints
  refine sorted_ordT SrtO.swo_int (show s.heap.IsTuple a its.toArray from hl) (by rw [← rv.length]; exact hz) (fun h2 h₁ a' _ _ => SrtO.ints_sortable hi h2) fun out h1 h2 => ?_
  obtain ⟨k1, k2, k3⟩ := SrtO.ints_out hi h1 h2
  obtain ⟨ep, he'⟩ := PyProof.Rows.sortedAll_at s.heap its out.toArray
  have hlen : ((out.map SrtO.iv).map V.int).length ≤ sizeLine := by
    rw [List.length_map, k2.length_eq]
    rw [List.length_map] at hz
    exact hz
  exact ⟨.ref _, upd H (s.heap.objs.size + 1) (.lst ((out.map SrtO.iv).map V.int)), I.laid (t' := s.toks) (fun _ _ => PyProof.Rows.sortedAll_old) (Nat.le_succ _) ⟨hlen, out, ep, vals_of_ints k1, he'⟩, rfl, q _ _ k2 k3 (I.hok.fresh (Nat.le_succ _))⟩
abbrev rSortedA (K : PySem.W.Frag) : RL := fun vs H Q => rSortedI K vs H Q ∨ rSortedIT K vs H Q
theorem cr_sortedA {X : Cx} : CallR X (.builtin "sorted") (rSortedA X.K) := CallR.or cr_sortedI cr_sortedIT
def sortedD : D → Option D
  | .lst xs => (intsOf xs).bind fun ns => some (.lst ((sortI ns).map D.int))
  | .tup xs => (intsOf xs).bind fun ns => some (.lst ((sortI ns).map D.int))
  | _ => none
theorem op1_sorted : Op1O W (rSortedA W.K) sortedD := by
  intro F H d z x Q fs hx h k
  cases d <;> first | cases h | skip
  · obtain ⟨ns, h1, h⟩ := ob h
    cases h
    rw [intsOf_eq h1] at hx
    obtain ⟨a, vs, rfl, _, h2, h3, h4⟩ := hx.tup fs
    rw [h4.ints] at h2 h3
    refine .inr ⟨a, ns, rfl, SqT.of h2, fun ns' p pm so hp => ?_⟩
    have e := sortI_of pm so
    subst e
    exact new_lstO fs (by rw [List.length_map, (sortI_perm ns).length_eq]; simpa using h3) (repL_ints _) k p hp
  · obtain ⟨ns, h1, h⟩ := ob h
    cases h
    obtain ⟨a, rfl, h2, h3⟩ := lst_ints fs hx h1
    refine .inl ⟨a, ns, rfl, h2, fun ns' p pm so hp => ?_⟩
    have e := sortI_of pm so
    subst e
    exact new_lstO fs (by rw [List.length_map, (sortI_perm ns).length_eq]; exact h3) (repL_ints _) k p hp
/-- tuple(..) -/
def tupleD : D → Option D
  | .tup xs => some (.tup xs)
  | .lst xs => some (.tup xs)
  | _ => none
abbrev rTupleD (K : PySem.W.Frag) : RL := fun xs H Q => ∃ p ys, xs = [.ref p] ∧ ((SqL K H p ys ∧ ∀ l, H l = none → Q (.ref l) (upd H l (.tup ys))) ∨ (SqT K H p ys ∧ Q (.ref p) H))
theorem op1_tuple : Op1 W (rTupleD W.K) tupleD := by
  intro F H d z x Q fs hx h k
  cases d <;> first | cases h | skip
  · obtain ⟨a, vs, rfl, h1, h2, h3, h4⟩ := hx.tup fs
    exact ⟨a, vs, rfl, .inr ⟨SqT.of h2, k _ F H fs (rep_tup h1 h3 h4) Ext.refl⟩⟩
  · obtain ⟨a, vs, rfl, h2, h3, h4⟩ := hx.lst fs
    exact ⟨a, vs, rfl, .inl ⟨SqL.of h2, new_tup fs h3 h4 k⟩⟩
/-- list(..) of a list, a tuple: a copy -/
def listD : D → Option D
  | .tup xs => some (.lst xs)
  | .lst xs => some (.lst xs)
  | _ => none
abbrev rListD' (K : PySem.W.Frag) : RL := fun xs H Q => ∃ p ys, xs = [.ref p] ∧ (SqL K H p ys ∨ SqT K H p ys) ∧ ∀ l, H l = none → Q (.ref l) (upd H l (.lst ys))
theorem op1_list : Op1O W (rListD' W.K) listD := by
  intro F H d z x Q fs hx h k
  cases d <;> first | cases h | skip
  · obtain ⟨a, vs, rfl, h1, h2, h3, h4⟩ := hx.tup fs
    exact ⟨a, vs, rfl, .inr (SqT.of h2), new_lstO fs h3 h4 k⟩
  · obtain ⟨a, vs, rfl, h2, h3, h4⟩ := hx.lst fs
    exact ⟨a, vs, rfl, .inl (SqL.of h2), new_lstO fs h3 h4 k⟩
def intD : D → Option D
  | .int i => some (.int i)
  | .bl k => some (.int (if k then 1 else 0))
  | _ => none
theorem op1_int : Op1 W (fun xs H Q => (∃ i, xs = [.int i] ∧ Q (.int i) H) ∨ ∃ k, xs = [.bl k] ∧ Q (.int (if k then 1 else 0)) H) intD := by
  intro F H d z x Q fs hx h k
  cases d <;> first | cases h | skip
  · exact .inr ⟨_, by rw [hx.bl], k _ F H fs (by simp only [Rep]) Ext.refl⟩
  · exact .inl ⟨_, by rw [hx.int], k _ F H fs (by simp only [Rep]) Ext.refl⟩
def onBls (f : List Bool → Option D) : D → Option D
  | .lst xs => (blsOf xs).bind f
  | _ => none
theorem onBls_inv {f : List Bool → Option D} {d z : D} (h : onBls f d = some z) : ∃ ns, d = .lst (ns.map D.bl) ∧ f ns = some z := by
  cases d <;> first | cases h | skip
  obtain ⟨ns, h1, h2⟩ := ob (show (blsOf _).bind f = some z from h)
  exact ⟨ns, by rw [blsOf_eq h1], h2⟩
theorem lst_bls {F H : Hp} {ns : List Bool} {x : V} (fs : FS W F H) (hx : KnB W F H (.lst (ns.map D.bl)) x) : ∃ a, x = .ref a ∧ SqL W.K H a (ns.map V.bl) := by
  obtain ⟨a, vs, rfl, h2, h3, h4⟩ := hx.lst fs
  have e := h4.bls
  subst e
  exact ⟨a, rfl, SqL.of h2⟩
def anyD : D → Option D := onBls fun bs => some (.bl (bs.any id))
def allD : D → Option D := onBls fun bs => some (.bl (bs.all id))
theorem op1_any : Op1 W (rAny W.K) anyD := by
  intro F H d z x Q fs hx h k
  obtain ⟨ns, rfl, h'⟩ := onBls_inv h
  cases h'
  obtain ⟨a, rfl, h2⟩ := lst_bls fs hx
  exact ⟨a, ns, rfl, h2, k _ F H fs (by simp only [Rep]) Ext.refl⟩
theorem op1_all : Op1 W (rAll W.K) allD := by
  intro F H d z x Q fs hx h k
  obtain ⟨ns, rfl, h'⟩ := onBls_inv h
  cases h'
  obtain ⟨a, rfl, h2⟩ := lst_bls fs hx
  exact ⟨a, ns, rfl, h2, k _ F H fs (by simp only [Rep]) Ext.refl⟩
def minD : D → D → Option D := ii fun i j => some (.int (if j < i then j else i))
theorem op2_min : Op2 W (fun x y H Q => (fun xs H Q => ∃ i j, xs = [V.int i, V.int j] ∧ Q (.int (if j < i then j else i)) H : RL) [x, y] H Q) minD := by
  intro F H d e z x y Q fs hx hy h k
  obtain ⟨a, b, rfl, rfl, h'⟩ := ii_inv h
  cases h'
  exact ⟨a, b, by rw [hx.int, hy.int], k _ F H fs (by simp only [Rep]) Ext.refl⟩
end

/-! ### isinstance -/
def tyD : D → Option String
  | .non => some "NoneType"
  | .bl _ => some "bool"
  | .int _ => some "int"
  | .str _ => some "str"
  | .tup _ => some "tuple"
  | .lst _ => some "list"
  | .dT _ => some "dict"
  | .dK _ => some "dict"
  | _ => none
def isiD (T : String) (d : D) : Option D := (tyD d).bind fun t => (kitB t T).bind fun b => some (.bl b)
theorem tyx_of {W : OC} {F H : Hp} {d : D} {v : V} {t : String} (fs : FS W F H) (h : KnB W F H d v) (e : tyD d = some t) (hd : ∀ kvs, d ≠ .dT kvs) (hk : ∀ kvs, d ≠ .dK kvs) : TyX W.K H v (.type t) := by
  cases d <;> first | cases e | skip
  · rw [h.non]
    exact .base .non
  · rw [h.bl]
    exact .base (.bl _)
  · rw [h.int]
    exact .base (.int _)
  · rw [h.str]
    exact .base (.str _)
  · obtain ⟨a, vs, rfl, h1, h2, h3, h4⟩ := h.tup fs
    exact .base (.tup h2)
  · obtain ⟨a, vs, rfl, h2, h3, h4⟩ := h.lst fs
    exact .base (.lst h2)
  · exact (hd _ rfl).elim
  · exact (hk _ rfl).elim
def noDct : D → Bool
  | .dT _ => false
  | .dK _ => false
  | _ => true
def isiE (T : String) (d : D) : Option D := if noDct d = true then isiD T d else none
def isiE2 (T U : String) (d : D) : Option D := if noDct d = true then (tyD d).bind fun t => (kitB t T).bind fun b => if b = true then some (.bl true) else (kitB t U).bind fun b' => some (.bl b') else none
section
variable {X : Cx} {cf : List D → D → Prop} {a : Expr} {ca : Ev} {T U : String} {x xT xU : Str} {p pos pT pU pt : Pos}
theorem x_isi (hg : Gl X "isinstance") (hm : X.mg "isinstance" = none) (hgT : Gl X xT) (hmT : X.mg xT = none) (hvT : bootBuiltins xT = some (.type T)) (ha : PX X cf a ca) (hv : bootBuiltins ("isinstance" : Str) = some (.builtin "isinstance") := by decide +kernel) (hnT : xT ≠ "__name__" := by decide) (hdT : (xT == ("__debug__" : Str)) = false := by decide)
    (he : starEach [a, .Name xT pT] X.env = (false, eval a X.env) :: starEach [.Name xT pT] X.env := by rfl) (he2 : starEach [.Name xT pT] X.env = (false, eval (.Name xT pT) X.env) :: starEach [] X.env := by rfl) (hpl : (backTo pos (starEach [.Name xT pT] X.env)).any (·.1) = false := by rfl) :
    PX X cf (.Call (.Name "isinstance" p) [a, .Name xT pT] [] pos) (c1 (isiE T) ca) :=
  pe_imp (pe_callB call_isi hg hm hv (pa_cons ha (pa_cons (pe_bltn (v := .ty T) hgT hmT hvT rfl hnT hdT) pa_nil he2) he) (by decide) (by decide) he hpl) fun σ H Q q => by
    obtain ⟨ρ, F, d, ρ', E, hc, k⟩ := q
    obtain ⟨⟨d1, ρ1⟩, h1, hc⟩ := ob hc
    obtain ⟨z, h3, hc⟩ := ob hc
    cases hc
    unfold isiE at h3
    split at h3
    · rename_i nd
      obtain ⟨t, e1, h3⟩ := ob h3
      obtain ⟨b, e2, h3⟩ := ob h3
      cases h3
      refine ⟨ρ, F, d1, _, E, h1, fun v F1 H1 E1 r1 x1 o1 => ⟨v, .ty T, .type t, .type T, b, rfl, .ty T, tyx_of E1.fs (.inl r1) e1 (fun kvs z => by rw [z] at nd; cases nd) (fun kvs z => by rw [z] at nd; cases nd), kit_ty e2, k _ F1 H1 E1 (by simp only [Rep]) x1 o1⟩⟩
    · cases h3
theorem x_isi2 {kt : Nat} (hg : Gl X "isinstance") (hm : X.mg "isinstance" = none) (hgT : Gl X xT) (hmT : X.mg xT = none) (hvT : bootBuiltins xT = some (.type T)) (hgU : Gl X xU) (hmU : X.mg xU = none) (hvU : bootBuiltins xU = some (.type U)) (ha : PX X cf a ca)
    (hv : bootBuiltins ("isinstance" : Str) = some (.builtin "isinstance") := by decide +kernel) (hnT : xT ≠ "__name__" := by decide) (hdT : (xT == ("__debug__" : Str)) = false := by decide) (hnU : xU ≠ "__name__" := by decide) (hdU : (xU == ("__debug__" : Str)) = false := by decide)
    (he : starEach [a, .Tuple [.Name xT pT, .Name xU pU] kt pt] X.env = (false, eval a X.env) :: starEach [.Tuple [.Name xT pT, .Name xU pU] kt pt] X.env := by rfl) (he2 : starEach [.Tuple [.Name xT pT, .Name xU pU] kt pt] X.env = (false, eval (.Tuple [.Name xT pT, .Name xU pU] kt pt) X.env) :: starEach [] X.env := by rfl)
    (hpl : (backTo pos (starEach [.Tuple [.Name xT pT, .Name xU pU] kt pt] X.env)).any (·.1) = false := by rfl) (g1 : starEach [.Name xT pT, .Name xU pU] X.env = (false, eval (.Name xT pT) X.env) :: starEach [.Name xU pU] X.env := by rfl) (g2 : starEach [.Name xU pU] X.env = (false, eval (.Name xU pU) X.env) :: starEach [] X.env := by rfl) :
    PX X cf (.Call (.Name "isinstance" p) [a, .Tuple [.Name xT pT, .Name xU pU] kt pt] [] pos) (c1 (isiE2 T U) ca) :=
  pe_imp (pe_callB call_isiT hg hm hv (pa_cons ha (pa_cons (pe_tup (pa_cons (pe_bltn (v := .ty T) hgT hmT hvT rfl hnT hdT) (pa_cons (pe_bltn (v := .ty U) hgU hmU hvU rfl hnU hdU) pa_nil g2) g1)) pa_nil he2) he) (by decide) (by decide) he hpl) fun σ H Q q => by
    obtain ⟨ρ, F, d, ρ', E, hc, k⟩ := q
    obtain ⟨⟨d1, ρ1⟩, h1, hc⟩ := ob hc
    obtain ⟨z, h3, hc⟩ := ob hc
    cases hc
    unfold isiE2 at h3
    split at h3
    · rename_i nd
      obtain ⟨t, e1, h3⟩ := ob h3
      obtain ⟨b, e2, h3⟩ := ob h3
      refine ⟨ρ, F, d1, _, E, h1, fun v F1 H1 E1 r1 x1 o1 => ⟨by show 2 ≤ sizeLine; decide, fun q hq => ?_⟩⟩
      have fs2 := E1.fs.newTup (xs := [.ty T, .ty U]) hq
      have x2 : Ext NoA F1 H1 _ _ := Ext.known (u := .tup [.ty T, .ty U]) (o := .tup [.ty T, .ty U]) E1.fs hq
      have ty := tyx_of fs2 (.inl (Rep.le x2.f r1)) e1 (fun kvs z => by rw [z] at nd; cases nd) (fun kvs z => by rw [z] at nd; cases nd)
      have K := fun z (hz : _) => k z _ _ (E1.ext fs2 x2) hz (x1.trans x2 fun p z => z.elim) o1
      cases b with
      | true =>
        rw [if_pos rfl] at h3
        cases h3
        exact ⟨v, q, _, _, [.type T, .type U], true, rfl, upd_same, .cons (.ty T) (.cons (.ty U) .nil), ty, kitAny_cons (b := true) (kit_ty e2) (fun z => by cases z) (fun _ => rfl), K _ (by simp only [Rep])⟩
      | false =>
        rw [if_neg Bool.false_ne_true] at h3
        obtain ⟨b', e3, h3⟩ := ob h3
        cases h3
        exact ⟨v, q, _, _, [.type T, .type U], b', rfl, upd_same, .cons (.ty T) (.cons (.ty U) .nil), ty, kitAny_cons (b := false) (kit_ty e2) (fun _ => kitAny_cons (b := b') (kit_ty e3) (fun z => by rw [z]; exact kitAny_nil) (fun z => z)) (fun z => by cases z), K _ (by simp only [Rep])⟩
    · cases h3
end
end Ov
/-! Ov: ranges as rows, slices, attributes, dict.get, pop, calls. -/
namespace Ov
open PySem PySem.Spec PyProof.Rows L2

/-! ### list(range(n)), tuple(range(n)) -/
def rgI (a b : Int) : List Int := (List.range (b - a).toNat).map fun i => a + (i : Nat)
theorem rgV_map (a b : Int) : rgV a b = (rgI a b).map V.int := by
  unfold rgV rgI
  rw [List.map_map]
  rfl
def rgTD (f : List Int → D) : D → Option D
  | .int n => if 0 ≤ n ∧ n ≤ 1000000 then some (f (rgI 0 n)) else none
  | _ => none
section
variable {X : Cx} {cf : List D → D → Prop} {a : Expr} {ca : Ev} {p p2 pos pos2 : Pos}
theorem rg_small {n : Int} (h : 0 ≤ n ∧ n ≤ 1000000) : RgOk 0 n := .of_le (by omega) (by omega) (by omega) (by omega)
theorem rg_len {n : Int} (h : 0 ≤ n ∧ n ≤ 1000000) : (rgV 0 n).length ≤ sizeLine := by
  rw [rgV_length, line_eq]
  omega
theorem x_tupRg (hc : X.calm = true) (hg : Gl X "tuple") (hm : X.mg "tuple" = none) (hg2 : Gl X "range") (hm2 : X.mg "range" = none) (ha : PX X cf a ca) (na : starEach [a] X.env = (false, eval a X.env) :: starEach [] X.env := by rfl)
    (nb : starEach [.Call (.Name "range" p2) [a] [] pos2] X.env = (false, eval (.Call (.Name "range" p2) [a] [] pos2) X.env) :: starEach [] X.env := by rfl) :
    PX X cf (.Call (.Name "tuple" p) [.Call (.Name "range" p2) [a] [] pos2] [] pos) (c1 (rgTD fun ns => tI ns) ca) := pe_imp (pe_tupRg hc hg hm (prg_1 hg2 hm2 ha na) nb) fun σ H Q q => by
  obtain ⟨ρ, F, d, ρ', E, hc, k⟩ := q
  obtain ⟨⟨d1, ρ1⟩, h1, hc⟩ := ob hc
  obtain ⟨z, h3, hc⟩ := ob hc
  cases hc
  cases d1 with
  | int n =>
    obtain ⟨hn, h3'⟩ : ∃ _ : 0 ≤ n ∧ n ≤ 1000000, some (tI (rgI 0 n)) = some d := by
      by_cases hn : 0 ≤ n ∧ n ≤ 1000000
      · exact ⟨hn, by rw [← h3]; exact (if_pos hn).symm⟩
      · have : (none : Option D) = some d := by rw [← h3]; exact (if_neg hn).symm
        cases this
    · cases h3'
      refine ⟨ρ, F, _, _, E, h1, fun v F1 H1 E1 r1 x1 o1 => ⟨_, (KnB.of (H := H1) r1).int, rg_small hn, ?_⟩⟩
      exact new_tup E1.fs (rg_len hn) (by rw [rgV_map]; exact repL_ints _) fun v F2 H2 fs2 r2 x2 => k v F2 H2 (E1.ext fs2 x2) r2 (x1.trans x2 fun p z => z.elim) o1
  | _ => cases h3
theorem o_lstRg (hc : X.calm = true) (hg : Gl X "list") (hm : X.mg "list" = none) (hg2 : Gl X "range") (hm2 : X.mg "range" = none) (ha : PX X cf a ca) (na : starEach [a] X.env = (false, eval a X.env) :: starEach [] X.env := by rfl)
    (nb : starEach [.Call (.Name "range" p2) [a] [] pos2] X.env = (false, eval (.Call (.Name "range" p2) [a] [] pos2) X.env) :: starEach [] X.env := by rfl) :
    PXO X cf (.Call (.Name "list" p) [.Call (.Name "range" p2) [a] [] pos2] [] pos) (c1 (rgTD fun ns => .lst (ns.map D.int)) ca) := pe_imp (pe_listRg hc hg hm (prg_1 hg2 hm2 ha na) nb) fun σ H Q q => by
  obtain ⟨ρ, F, d, ρ', E, hc, k⟩ := q
  obtain ⟨⟨d1, ρ1⟩, h1, hc⟩ := ob hc
  obtain ⟨z, h3, hc⟩ := ob hc
  cases hc
  cases d1 with
  | int n =>
    obtain ⟨hn, h3'⟩ : ∃ _ : 0 ≤ n ∧ n ≤ 1000000, some (D.lst ((rgI 0 n).map D.int)) = some d := by
      by_cases hn : 0 ≤ n ∧ n ≤ 1000000
      · exact ⟨hn, by rw [← h3]; exact (if_pos hn).symm⟩
      · have : (none : Option D) = some d := by rw [← h3]; exact (if_neg hn).symm
        cases this
    · cases h3'
      refine ⟨ρ, F, _, _, E, h1, fun v F1 H1 E1 r1 x1 o1 => ⟨_, (KnB.of (H := H1) r1).int, rg_small hn, ?_⟩⟩
      exact new_lstO E1.fs (rg_len hn) (by rw [rgV_map]; exact repL_ints _) fun p F2 H2 fs2 r2 n2 hp x2 => k p F2 H2 (E1.ext fs2 x2) r2 n2 (E1.ownNone hp) (x1.back E hp n2 x2.f) (x1.trans x2 fun p z => z.elim) o1
  | _ => cases h3
end

/-! ### slices -/
def cutG {α : Type} (xs : List α) (lo hi : Option Int) : List α := (xs.drop (HT.sIx xs.length 0 lo)).take (HT.sIx xs.length xs.length hi - HT.sIx xs.length 0 lo)
theorem RepL.cut {W : OC} {F : Hp} {ds : List D} {vs : List V} (h : RepL W F ds vs) (lo hi : Option Int) : RepL W F (cutG ds lo hi) (cutV vs lo hi) := by
  unfold cutG cutV
  rw [h.length]
  exact (h.drop _).take _
abbrev Ep := List Sl → Option (Option Int × List Sl)
def pNone : Ep := fun ρ => some (none, ρ)
def pSome (c : Ev) : Ep := fun ρ => (c ρ).bind fun p => (toI p.1).bind fun i => some (some i, p.2)
def tP (W : OC) (c : Ep) : TO := fun σ H Q => ∃ ρ F o ρ', EnvOk W ρ σ F H ∧ c ρ = some (o, ρ') ∧
  ∀ F' H', EnvOk W ρ' σ F' H' → Ext (Own ρ σ) F H F' H' → (∀ a, Own ρ' σ a → Own ρ σ a) → Q o H'
abbrev PXP (X : Cx) (cf : List D → D → Prop) (e : Option Expr) (c : Ep) : Prop := PO X e (tP ⟨X.K, cf⟩ c)
theorem po_imp {X : Cx} {e : Option Expr} {t t' : TO} (h : PO X e t) (i : ∀ σ H Q, t' σ H Q → t σ H Q) : PO X e t' := ⟨fun pins s σ H Q I q => h.run pins s σ H Q I (i σ H Q q)⟩
def slD (d : D) (lo hi : Option Int) : Option D := match d with
  | .tup xs => some (.tup (cutG xs lo hi))
  | .lst xs => some (.lst (cutG xs lo hi))
  | _ => none
def cSl (a : Ev) (l h : Ep) : Ev := fun ρ => (a ρ).bind fun p => (l p.2).bind fun q => (h q.2).bind fun s => (slD p.1 q.1 s.1).bind fun z => some (z, s.2)
def cRev (a : Ev) : Ev := fun ρ => (a ρ).bind fun p => match p.1 with
  | .lst xs => some (.lst xs.reverse, p.2)
  | _ => none
section
variable {X : Cx} {cf : List D → D → Prop} {e : Expr} {lo hi : Option Expr} {ce : Ev} {cl ch : Ep} {p1 p2 p3 pos : Pos} {i : Nat}
theorem xp_none : PXP X cf none pNone := po_imp po_none fun σ H Q q => by
  obtain ⟨ρ, F, o, ρ', E, hc, k⟩ := q
  cases hc
  exact k F H E Ext.refl fun _ z => z
theorem xp_some (h : PX X cf e ce) : PXP X cf (some e) (pSome ce) := po_imp (po_some h) fun σ H Q q => by
  obtain ⟨ρ, F, o, ρ', E, hc, k⟩ := q
  obtain ⟨⟨d1, ρ1⟩, h1, hc⟩ := ob hc
  obtain ⟨z, h3, hc⟩ := ob hc
  cases hc
  refine ⟨ρ, F, d1, _, E, h1, fun v F1 H1 E1 r1 x1 o1 => ⟨z, ?_, k F1 H1 E1 x1 o1⟩⟩
  have h3' : toI d1 = some z := h3
  rw [toI_eq h3'] at r1
  exact (KnB.of (H := H1) r1).int
theorem x_slice (he : PX X cf e ce) (hl : PXP X cf lo cl) (hh : PXP X cf hi ch) : PX X cf (.Subscript e (.Slice lo hi none p2) pos) (cSl ce cl ch) := pe_imp (pe_slice (SlR.or sl_tupA sl_list) he hl hh) fun σ H Q q => by
  obtain ⟨ρ, F, d, ρ', E, hc, k⟩ := q
  obtain ⟨⟨d1, ρ1⟩, h1, hc⟩ := ob hc
  obtain ⟨⟨d2, ρ2⟩, h2, hc⟩ := ob hc
  obtain ⟨⟨d3, ρ3⟩, h3, hc⟩ := ob hc
  obtain ⟨z, h4, hc⟩ := ob hc
  cases hc
  refine ⟨ρ, F, d1, ρ1, E, h1, fun v F1 H1 E1 r1 x1 o1 => ⟨ρ1, F1, d2, ρ2, E1, h2, fun F2 H2 E2 x2 o2 => ⟨ρ2, F2, d3, _, E2, h3, fun F3 H3 E3 x3 o3 => ?_⟩⟩⟩
  have x13 := (x1.trans x2 fun p z => .inl (o1 p z)).trans x3 fun p z => .inl (o1 p (o2 p z))
  have o13 := fun a z => o1 a (o2 a (o3 a z))
  have r3 := Rep.le (x2.f.trans x3.f) r1
  cases d1 with
  | tup xs =>
    cases h4
    obtain ⟨a, vs, rfl, g1, g2, g3, g4⟩ := (KnB.of (H := H3) r3).tup E3.fs
    have hz : (cutV vs d2 d3).length ≤ sizeLine := Nat.le_trans (cutV_length _ _ _) g3
    refine .inl ⟨a, vs, rfl, SqT.of g2, fun hw => ?_, fun hw => new_tup E3.fs hz (g4.cut d2 d3) fun v F4 H4 fs4 r4 x4 => k v F4 H4 (E3.ext fs4 x4) r4 (x13.trans x4 fun p z => z.elim) o13⟩
    have e : cutG xs d2 d3 = xs := by
      unfold cutG
      rw [g4.length, hw.1, hw.2, List.drop_zero, Nat.sub_zero, ← g4.length, List.take_length]
    rw [e] at k
    exact k _ F3 H3 E3 (rep_tup g1 g3 g4) x13 o13
  | lst xs =>
    cases h4
    obtain ⟨a, vs, rfl, g2, g3, g4⟩ := (KnB.of (H := H3) r3).lst E3.fs
    have hz : (cutV vs d2 d3).length ≤ sizeLine := Nat.le_trans (cutV_length _ _ _) g3
    exact .inr ⟨a, vs, rfl, SqL.of g2, new_lst E3.fs hz (g4.cut d2 d3) fun v F4 H4 fs4 r4 x4 => k v F4 H4 (E3.ext fs4 x4) r4 (x13.trans x4 fun p z => z.elim) o13⟩
  | _ => cases h4
theorem o_rev {kk : Nat} (he : PX X cf e ce) : PXO X cf (.Subscript e (.Slice none none (some (.UnaryOp .USub (.Constant (.int 1) kk p1) p2)) p3) pos) (cRev ce) := pe_imp (pe_revL he) fun σ H Q q => by
  obtain ⟨ρ, F, d, ρ', E, hc, k⟩ := q
  obtain ⟨⟨d1, ρ1⟩, h1, hc⟩ := ob hc
  cases d1 <;> first | cases hc | skip
  refine ⟨ρ, F, _, _, E, h1, fun v F1 H1 E1 r1 x1 o1 => ?_⟩
  obtain ⟨a, vs, rfl, g2, g3, g4⟩ := (KnB.of (H := H1) r1).lst E1.fs
  exact ⟨a, vs, rfl, SqL.of g2, new_lstO E1.fs (by rw [List.length_reverse]; exact g3) g4.reverse fun p F2 H2 fs2 r2 n2 hp x2 => k p F2 H2 (E1.ext fs2 x2) r2 n2 (E1.ownNone hp) (x1.back E hp n2 x2.f) (x1.trans x2 fun p z => z.elim) o1⟩
end

/-! ### attributes of an instance with slots -/
def atD (x : Str) (i : Nat) : D → Option D
  | .obj y fs => if y = x then fs[i]? else none
  | _ => none
theorem atD_inv {x : Str} {i : Nat} {d z : D} (h : atD x i d = some z) : ∃ fs, d = .obj x fs ∧ fs[i]? = some z := by
  unfold atD at h
  split at h
  · split at h
    · rename_i y fs e
      subst e
      exact ⟨fs, rfl, h⟩
    · cases h
  · cases h
theorem obj_at {W : OC} {F H : Hp} {x : Str} {fs : List D} {v : V} (f : FS W F H) (h : Rep W F (.obj x fs) v) : ∃ a dx vs g, v = .ref a ∧ F a = some (mark (He.ga W.K x) dx vs) ∧ F dx = none ∧ RepL W F fs vs ∧ SlAt H a (He.ga W.K x) dx (lay (vs.map some ++ [some g])) ∧
    (g = .non ∨ ∃ q w d ds, g = .ref q ∧ F q = some (.tup [w]) ∧ Rep W F d w ∧ RepL W F ds vs ∧ W.cf ds d) := by
  simp only [Rep] at h
  obtain ⟨a, dx, vs, rfl, h1, h2⟩ := h
  obtain ⟨ds, g, l1, l2, l3, l4⟩ := f a _ h1
  have e1 : (vs.map fun v => (Str.empty, v)).map (·.2) = vs := by
    rw [List.map_map]
    show vs.map id = vs
    exact List.map_id _
  have e2 : (vs.map fun v => (Str.empty, v)).map (fun p => some p.2) = vs.map some := by
    rw [List.map_map]
    rfl
  rw [e1] at l1
  rw [e2] at l2
  refine ⟨a, dx, vs, g, rfl, h1, l3, h2, l2, ?_⟩
  rcases l4 with l4 | ⟨q, w, d, l4, l5, l6, l7⟩
  · exact .inl l4
  · exact .inr ⟨q, w, d, ds, l4, l5, l6, l1, l7⟩
section
variable {X : Cx} {cf : List D → D → Prop} {e : Expr} {ce : Ev} {pos : Pos} {x f : Str} {i : Nat} {p : Addr}
theorem x_at (c : L2.SCls X.K (He.ga X.K x)) (kk : L2.Slt X.K (He.ga X.K x) f (sx i) p) (he : PX X cf e ce) (hi7 : i < 7 := by decide) (hb : attributeBase e f X.env (eval e X.env) = eval e X.env := by rfl) : PX X cf (.Attribute e f pos) (c1 (atD x i) ce) := pe_imp (pe_slot c kk he hb) fun σ H Q q => by
  obtain ⟨ρ, F, d, ρ', E, hc, k⟩ := q
  obtain ⟨⟨d1, ρ1⟩, h1, hc⟩ := ob hc
  obtain ⟨z, h3, hc⟩ := ob hc
  cases hc
  obtain ⟨fs, rfl, h4⟩ := atD_inv (show atD x i d1 = some d from h3)
  · refine ⟨ρ, F, _, _, E, h1, fun v F1 H1 E1 r1 x1 o1 => ?_⟩
    obtain ⟨a, dx, vs, g, rfl, g1, g2, g3, g4, _⟩ := obj_at E1.fs r1
    obtain ⟨w, w1, w2⟩ := g3.get h4
    refine ⟨a, dx, _, w, rfl, g4, ?_, k w F1 H1 E1 w2 x1 o1⟩
    have hi : i < vs.length := (List.getElem?_eq_some_iff.mp w1).1
    rw [lay_get _ hi7, List.getElem?_append_left (by rw [List.length_map]; exact hi), List.getElem?_map, w1]
    rfl
end

/-! ### d.get(k) -/
def getDD (d k : D) : Option D := (getDct d k).bind fun o => some (o.getD .non)
section
variable {X : Cx} {cf : List D → D → Prop} {o e : Expr} {co ce : Ev} {apos cpos : Pos} {i : Nat}
theorem dct_isD {W : OC} {F H : Hp} {d k : D} {u : Option D} {v : V} (fs : FS W F H) (h : KnB W F H d v) (e : getDct d k = some u) : ∃ a, v = .ref a ∧ IsD H a := by
  cases d <;> first | cases e | skip
  · obtain ⟨a, vs, rfl, h1, _⟩ := h.dT fs
    exact ⟨a, rfl, .inr ⟨vs, h1⟩⟩
  · obtain ⟨a, vs, rfl, h1, _⟩ := h.dK fs
    exact ⟨a, rfl, .inl ⟨vs, h1⟩⟩
theorem x_get (hu : X.A.units + 1 < cLine) (ho : PX X cf o co) (he : PX X cf e ce) (m : M1 X o "get" apos e cpos) : PX X cf (.Call (.Attribute o "get" apos) [e] [] cpos) (c2 getDD co ce) := pe_imp (pe_dget1 hu ho he m) fun σ H Q q => by
  obtain ⟨ρ, F, d, ρ', E, hc, k⟩ := q
  obtain ⟨⟨d1, ρ1⟩, h1, hc⟩ := ob hc
  obtain ⟨⟨d2, ρ2⟩, h2, hc⟩ := ob hc
  obtain ⟨z, h3, hc⟩ := ob hc
  cases hc
  obtain ⟨u, h4, h5⟩ := ob h3
  cases h5
  refine ⟨ρ, F, d1, ρ1, E, h1, fun v F1 H1 E1 r1 x1 o1 => ?_⟩
  obtain ⟨a, rfl, hd⟩ := dct_isD E1.fs (.inl r1) h4
  refine ⟨a, rfl, hd, ρ1, F1, d2, _, E1, h2, fun v2 F2 H2 E2 r2 x2 o2 => ?_⟩
  obtain ⟨a', w, e, _, g, rr⟩ := getDct_at E2.fs (.inl (Rep.le x2.f r1)) (.inl r2) h4
  cases e
  exact ⟨w, g, k _ F2 H2 E2 rr.getD (x1.trans x2 fun p z => .inl (o1 p z)) fun a z => o1 a (o2 a z)⟩
/-- the dict a name's -/
def cGetB (i : Nat) (b : Ev) : Ev := fun ρ => (getS ρ i).bind fun d0 => (b ρ).bind fun q => (getS q.2 i).bind fun d => (getDct d0 q.1).bind fun _ => (getDct d q.1).bind fun o => some (o.getD .non, q.2)
theorem x_getB (hu : X.A.units + 1 < cLine) (ho : PE X o (tVar i)) (he : PX X cf e ce) (m : M1 X o "get" apos e cpos) : PX X cf (.Call (.Attribute o "get" apos) [e] [] cpos) (cGetB i ce) := pe_imp (pe_dget1 hu ho he m) fun σ H Q q => by
  obtain ⟨ρ, F, d, ρ', E, hc, k⟩ := q
  obtain ⟨d0, h0, hc⟩ := ob hc
  obtain ⟨⟨d2, ρ2⟩, h2, hc⟩ := ob hc
  obtain ⟨d1, h1, hc⟩ := ob hc
  obtain ⟨u0, h4, hc⟩ := ob hc
  obtain ⟨u, h5, hc⟩ := ob hc
  cases hc
  obtain ⟨v, e0, kn⟩ := E.getS h0
  obtain ⟨a, rfl, hd⟩ := dct_isD E.fs kn h4
  refine ⟨_, e0, a, rfl, hd, ρ, F, d2, _, E, h2, fun v2 F2 H2 E2 r2 x2 o2 => ?_⟩
  obtain ⟨v', e1, kn1⟩ := E2.getS h1
  rw [e0] at e1
  cases e1
  obtain ⟨a', w, e, _, g, rr⟩ := getDct_at E2.fs kn1 (.inl r2) h5
  cases e
  exact ⟨w, g, k _ F2 H2 E2 rr.getD x2 o2⟩
end

/-! ### xs.pop(), xs.pop(k) of a name's own list -/
theorem EnvOk.put {W : OC} {ρ : List Sl} {σ : L2.St} {F H : Hp} {i : Nat} {d d' : D} {p : Addr} {o : HO} (E : EnvOk W ρ σ F H) (h1 : ρ[i]? = some (.ow d)) (h2 : σ[i]? = some (some (.ref p))) (n : F p = none) (no : ∀ a, H p ≠ some (HO.own a))
    (r : OwnAt W F (upd H p o) p d') : EnvOk W (ρ.set i (.ow d')) σ F (upd H p o) :=
  ⟨E.fs.write n no, by rw [List.length_set]; exact E.len, fun j s u g1 g2 => by
    rcases set_get? g1 with ⟨e, e1, _⟩ | ⟨ne, g1⟩
    · subst e e1
      rw [h2] at g2
      cases g2
      exact ⟨p, rfl, n, r⟩
    · have q := E.sl j s u g1 g2
      cases s with
      | no => exact True.intro
      | fr d => exact q
      | ow d =>
        obtain ⟨q1, e, n1, r1⟩ := q
        have ne' : q1 ≠ p := fun z => ne (E.dis j i _ _ p g1 h1 (by rw [g2, e, z]) h2)
        exact ⟨q1, e, n1, r1.mono (Le.refl F) fun o h => by rw [upd_ne ne']; exact h⟩, fun j k dj dk q g1 g2 g3 g4 => by
    have f1 : ∃ d, ρ[j]? = some (.ow d) := by
      rcases set_get? g1 with ⟨e, _, _⟩ | ⟨_, g1⟩
      · exact ⟨d, by rw [e]; exact h1⟩
      · exact ⟨_, g1⟩
    have f2 : ∃ d, ρ[k]? = some (.ow d) := by
      rcases set_get? g2 with ⟨e, _, _⟩ | ⟨_, g2⟩
      · exact ⟨d, by rw [e]; exact h1⟩
      · exact ⟨_, g2⟩
    obtain ⟨_, f1⟩ := f1
    obtain ⟨_, f2⟩ := f2
    exact E.dis j k _ _ q f1 f2 g3 g4⟩
theorem Own.put {ρ : List Sl} {σ : L2.St} {i : Nat} {d d' : D} {a : Addr} (h1 : ρ[i]? = some (.ow d)) (h : Own (ρ.set i (.ow d')) σ a) : Own ρ σ a := by
  obtain ⟨j, e, g1, g2⟩ := h
  rcases set_get? g1 with ⟨z, _, _⟩ | ⟨_, g1⟩
  · exact ⟨i, d, h1, by rw [← z]; exact g2⟩
  · exact ⟨j, e, g1, g2⟩
theorem ext_put {W : OC} {ρ : List Sl} {σ : L2.St} {F H : Hp} {i : Nat} {d : D} {p : Addr} {o : HO} (h1 : ρ[i]? = some (.ow d)) (h2 : σ[i]? = some (some (.ref p))) (r : OwnAt W F H p d) : Ext (Own ρ σ) F H F (upd H p o) :=
  Ext.write ⟨i, d, h1, h2⟩ (fun o u z => by
    rcases r.there with ⟨_, e⟩ | ⟨_, e⟩ | ⟨_, e⟩ <;> (rw [e] at z; cases z)) fun xs z => by
    rcases r.there with ⟨_, e⟩ | ⟨_, e⟩ | ⟨_, e⟩ <;> (rw [e] at z; cases z)
def ownLst (ρ : List Sl) (i : Nat) : Option (List D) := match ρ[i]? with
  | some (.ow (.lst xs)) => some xs
  | _ => none
theorem ownLst_eq {ρ : List Sl} {i : Nat} {xs : List D} (h : ownLst ρ i = some xs) : ρ[i]? = some (.ow (.lst xs)) := by
  unfold ownLst at h
  split at h
  · rename_i e
    cases h
    exact e
  · cases h
def cPop (i : Nat) : Ev := fun ρ => (ownLst ρ i).bind fun xs => (xs[xs.length - 1]?).bind fun d => some (d, ρ.set i (.ow (.lst xs.dropLast)))
def cPopAt (i : Nat) (b : Ev) : Ev := fun ρ => (ownLst ρ i).bind fun _ => (b ρ).bind fun q => (ownLst q.2 i).bind fun xs => (toI q.1).bind fun k => if 0 ≤ k ∧ k < 1000000 then (xs[k.toNat]?).bind fun d => some (d, q.2.set i (.ow (.lst (xs.eraseIdx k.toNat)))) else none
section
variable {X : Cx} {cf : List D → D → Prop} {o e : Expr} {co ce : Ev} {apos cpos : Pos} {i : Nat}
theorem x_pop (ho : PE X o (tVar i)) (hbase : attributeBase o "pop" X.env (eval o X.env) = eval o X.env := by rfl) (hline : (apos.endLine == cpos.line) = true := by rfl) : PX X cf (.Call (.Attribute o "pop" apos) [] [] cpos) (cPop i) :=
  pe_imp (pe_bm0 PySem.F.plainAttrs_list PySem.F.slot_list_pop PySem.F.type_list_pop mt_pop ho hbase hline) fun σ H Q q => by
    obtain ⟨ρ, F, d, ρ', E, hc, k⟩ := q
    obtain ⟨xs, h1, hc⟩ := ob hc
    obtain ⟨z, h2, hc⟩ := ob hc
    cases hc
    have e0 := ownLst_eq h1
    obtain ⟨p, es, n, r⟩ := E.own e0
    obtain ⟨vs, g1, g2, g3⟩ := id r
    have h2' := h2
    rw [g3.length] at h2'
    obtain ⟨w, w1, w2⟩ := g3.get h2'
    refine ⟨_, es, .inl ⟨rfl, vs, SqL.of g1⟩, p, vs, w, rfl, rfl, g1, w1, ?_⟩
    exact k w F _ (E.put e0 es n r.noOwn ⟨_, upd_same, by rw [List.length_dropLast]; omega, g3.dropLast⟩) w2 (ext_put e0 es r) fun a => Own.put e0
theorem x_popAt (ho : PE X o (tVar i)) (he : PX X cf e ce) (hbase : attributeBase o "pop" X.env (eval o X.env) = eval o X.env := by rfl)
    (hfew : ((backTo cpos (starEach [e] X.env)).all (fun x => !x.1) && (backToKw cpos (keywordEach [] X.env)).all (fun x => x.1.isSome)
      && decide (([e] : List Expr).length + ([] : List Keyword).length + (if ([] : List Keyword).isEmpty then 0 else 1) < 30)) = true := by rfl)
    (hline : (apos.endLine == cpos.line) = true := by rfl) (hs : starEach [e] X.env = (false, eval e X.env) :: starEach [] X.env := by rfl) (hplain : (backTo cpos (starEach [] X.env)).any (·.1) = false := by rfl) : PX X cf (.Call (.Attribute o "pop" apos) [e] [] cpos) (cPopAt i ce) :=
  pe_imp (pe_bm PySem.F.plainAttrs_list PySem.F.slot_list_pop PySem.F.type_list_pop mt_popAt ho (pa_cons he pa_nil hs) hbase hfew hline hs hplain) fun σ H Q q => by
    obtain ⟨ρ, F, d, ρ', E, hc, k⟩ := q
    obtain ⟨xs0, h0, hc⟩ := ob hc
    obtain ⟨⟨d2, ρ2⟩, h2, hc⟩ := ob hc
    obtain ⟨xs, h1, hc⟩ := ob hc
    obtain ⟨kk, h3, hc⟩ := ob hc
    split at hc
    · rename_i hk
      obtain ⟨z, h4, hc⟩ := ob hc
      cases hc
      obtain ⟨p, es, n, r⟩ := E.own (ownLst_eq h0)
      obtain ⟨vs0, g0, _, _⟩ := id r
      refine ⟨_, es, .inl ⟨rfl, vs0, SqL.of g0⟩, ρ, F, d2, ρ2, E, h2, fun v2 F2 H2 E2 r2 x2 o2 => ?_⟩
      have e0 := ownLst_eq h1
      obtain ⟨p', es', n', r'⟩ := E2.own e0
      rw [es] at es'
      cases es'
      obtain ⟨vs, g1, g2, g3⟩ := id r'
      obtain ⟨w, w1, w2⟩ := g3.get h4
      have hl : kk.toNat < vs.length := (List.getElem?_eq_some_iff.mp w1).1
      have h3' : toI d2 = some kk := h3
      rw [toI_eq h3'] at r2
      refine ⟨p, vs, kk, kk.toNat, w, rfl, by rw [(KnB.of (H := H2) r2).int], g1, by omega, by omega, PySem.StrLaws.seqIndex_nonneg hk.1 (by omega), w1, ?_⟩
      exact k w F2 _ (E2.put e0 es n' r'.noOwn ⟨_, upd_same, Nat.le_trans (len_erase _ _) g2, g3.eraseIdx _⟩) w2 (x2.trans (ext_put e0 es r') fun p z => .inl (o2 p z)) fun a z => o2 a (Own.put e0 z)
    · cases hc
end
end Ov
/-! Ov: statements, targets, loops. -/
namespace Ov
open PySem PySem.Spec PyProof.Rows L2

inductive Fl where
  | nx | bk | ct | rt (d : D) | ro (d : D)
abbrev Es := List Sl → Option (Fl × List Sl)
def Post (W : OC) (D : Ends) (fl : Fl) (own : Addr → Prop) (H : Hp) (ρ' : List Sl) (σ' : L2.St) (F' H' : Hp) : Prop := match fl with
  | .nx => D.nx σ' H'
  | .bk => D.bk σ' H'
  | .ct => D.ct σ' H'
  | .rt d => ∀ v, Rep W F' d v → D.rt v H'
  | .ro d => ∀ p, OwnAt W F' H' p d → F' p = none → ¬ Own ρ' σ' p → (H p = none ∨ own p) → D.rt (.ref p) H'
/-- sl: the slots that are stored -/
def tS (W : OC) (sl : List Nat) (c : Es) : TS := fun D σ H => ∃ ρ F fl ρ', EnvOk W ρ σ F H ∧ c ρ = some (fl, ρ') ∧
  ∀ σ' F' H', EnvOk W ρ' σ' F' H' → Ext (Own ρ σ) F H F' H' → (∀ a, Own ρ' σ' a → Own ρ σ a ∨ H a = none) → (∀ j : Nat, j ∉ sl → σ'[j]? = σ[j]?) → Post W D fl (Own ρ σ) H ρ' σ' F' H'
abbrev PXS (X : Cx) (cf : List D → D → Prop) (st : Stmt) (sl : List Nat) (c : Es) : Prop := PS X st (tS ⟨X.K, cf⟩ sl c)
abbrev PXB (X : Cx) (cf : List D → D → Prop) (st : List Stmt) (sl : List Nat) (c : Es) : Prop := PSs X st (tS ⟨X.K, cf⟩ sl c)
theorem kp0 {σ : L2.St} {sl : List Nat} : ∀ j : Nat, j ∉ sl → σ[j]? = σ[j]? := fun _ _ => rfl
theorem kp1 {σ : L2.St} {i : Nat} {v : Option V} : ∀ j : Nat, j ∉ [i] → (σ.set i v)[j]? = σ[j]? := fun j h => List.getElem?_set_ne fun z => h (by rw [z]; simp)
theorem kp2 {σ σ1 σ2 : L2.St} {sl sl' : List Nat} (h1 : ∀ j : Nat, j ∉ sl → σ1[j]? = σ[j]?) (h2 : ∀ j : Nat, j ∉ sl' → σ2[j]? = σ1[j]?) : ∀ j : Nat, j ∉ sl ++ sl' → σ2[j]? = σ[j]? := fun j h => by
  rw [List.mem_append, not_or] at h
  exact (h2 j h.2).trans (h1 j h.1)
theorem kpL {σ σ1 : L2.St} {sl sl' : List Nat} (h1 : ∀ j : Nat, j ∉ sl → σ1[j]? = σ[j]?) : ∀ j : Nat, j ∉ sl ++ sl' → σ1[j]? = σ[j]? := fun j h => h1 j fun z => h (List.mem_append_left _ z)
theorem kpR {σ σ1 : L2.St} {sl sl' : List Nat} (h1 : ∀ j : Nat, j ∉ sl' → σ1[j]? = σ[j]?) : ∀ j : Nat, j ∉ sl ++ sl' → σ1[j]? = σ[j]? := fun j h => h1 j fun z => h (List.mem_append_right _ z)
def cNx : Es := fun ρ => some (.nx, ρ)
def cSeq (a b : Es) : Es := fun ρ => (a ρ).bind fun p => match p.1 with
  | .nx => b p.2
  | fl => some (fl, p.2)
section
variable {W : OC} {a b : Es} {D : Ends} {σ : L2.St} {H : Hp}
/-- the way back: what was no own object of the inner start is none of the outer one -/
theorem back_own {ρ ρ1 : List Sl} {σ σ1 : L2.St} {F F1 F2 H H1 : Hp} {p : Addr} (E : EnvOk W ρ σ F H) (x : Ext (Own ρ σ) F H F1 H1) (o1 : ∀ a, Own ρ1 σ1 a → Own ρ σ a ∨ H a = none) (n : F2 p = none) (le : Le F1 F2) (h : H1 p = none ∨ Own ρ1 σ1 p) : H p = none ∨ Own ρ σ p := by
  rcases h with h | h
  · exact x.back E h n le
  · exact (o1 p h).symm
theorem seq_imp {sl sl' : List Nat} (h : tS W (sl ++ sl') (cSeq a b) D σ H) : tSeq (tS W sl a) (tS W sl' b) D σ H := by
  obtain ⟨ρ, F, fl, ρ', E, hc, k⟩ := h
  obtain ⟨⟨f1, ρ1⟩, h1, hc⟩ := ob hc
  refine ⟨ρ, F, f1, ρ1, E, h1, fun σ1 F1 H1 E1 x1 o1 q1 => ?_⟩
  cases f1 with
  | nx =>
    refine ⟨ρ1, F1, fl, ρ', E1, hc, fun σ2 F2 H2 E2 x2 o2 q2 => ?_⟩
    have x := x1.trans x2 o1
    have o : ∀ a, Own ρ' σ2 a → Own ρ σ a ∨ H a = none := fun a z => by
      rcases o2 a z with z | z
      · exact o1 a z
      · exact (x1.back E z (E2.ownAt ‹_›).choose_spec.2 x2.f).symm
    have q := k σ2 F2 H2 E2 x o (kp2 q1 q2)
    cases fl with
    | nx => exact q
    | bk => exact q
    | ct => exact q
    | rt d => exact q
    | ro d => exact fun p h1 h2 h3 h4 => q p h1 h2 h3 (back_own E x1 o1 h2 x2.f h4)
  | bk =>
    cases hc
    exact k σ1 F1 H1 E1 x1 o1 (kpL q1)
  | ct =>
    cases hc
    exact k σ1 F1 H1 E1 x1 o1 (kpL q1)
  | rt d =>
    cases hc
    exact k σ1 F1 H1 E1 x1 o1 (kpL q1)
  | ro d =>
    cases hc
    exact k σ1 F1 H1 E1 x1 o1 (kpL q1)
end
section
variable {X : Cx} {cf : List D → D → Prop} {st : Stmt} {rest sa sb : List Stmt} {a b : Es} {e o : Expr} {c ce co : Ev} {t : Et} {pos pos' : Pos} {i : Nat} {x : Str} {sl sl' : List Nat}
theorem b_nil : PXB X cf [] [] cNx := pss_imp pss_nil fun D σ H q => by
  obtain ⟨ρ, F, fl, ρ', E, hc, k⟩ := q
  cases hc
  exact k σ F H E Ext.refl (fun _ z => .inl z) kp0
theorem b_cons (h1 : PXS X cf st sl a) (h2 : PXB X cf rest sl' b) : PXB X cf (st :: rest) (sl ++ sl') (cSeq a b) := pss_imp (pss_cons h1 h2) fun D σ H q => seq_imp q
theorem b_one (h1 : PXS X cf st sl a) : PXB X cf [st] sl a := pss_one h1
theorem s_pass : PXS X cf (.Pass pos) [] cNx := ps_imp ps_pass fun D σ H q => by
  obtain ⟨ρ, F, fl, ρ', E, hc, k⟩ := q
  cases hc
  exact k σ F H E Ext.refl (fun _ z => .inl z) kp0
def cBk : Es := fun ρ => some (.bk, ρ)
def cCt : Es := fun ρ => some (.ct, ρ)
theorem s_break : PXS X cf (.Break pos) [] cBk := ps_imp ps_break fun D σ H q => by
  obtain ⟨ρ, F, fl, ρ', E, hc, k⟩ := q
  cases hc
  exact k σ F H E Ext.refl (fun _ z => .inl z) kp0
theorem s_cont : PXS X cf (.Continue pos) [] cCt := ps_imp ps_continue fun D σ H q => by
  obtain ⟨ρ, F, fl, ρ', E, hc, k⟩ := q
  cases hc
  exact k σ F H E Ext.refl (fun _ z => .inl z) kp0
def cNever : Es := fun _ => none
theorem s_never : PXS X cf st [] cNever := ps_imp ps_never fun D σ H q => by
  obtain ⟨ρ, F, fl, ρ', E, hc, k⟩ := q
  cases hc
theorem b_never : PXB X cf sa [] cNever := pss_imp pss_never fun D σ H q => by
  obtain ⟨ρ, F, fl, ρ', E, hc, k⟩ := q
  cases hc
/-- a value dropped -/
def cDrop (c : Ev) : Es := fun ρ => (c ρ).bind fun p => some (.nx, p.2)
theorem s_expr (he : PX X cf e ce) (hs : swapsWith e none pos.line X.env = pure false := by rfl) : PXS X cf (.Expr e pos) [] (cDrop ce) := ps_imp (ps_expr he hs) fun D σ H q => by
  obtain ⟨ρ, F, fl, ρ', E, hc, k⟩ := q
  obtain ⟨⟨d, ρ1⟩, h1, hc⟩ := ob hc
  cases hc
  exact ⟨ρ, F, d, ρ1, E, h1, fun v F1 H1 E1 r1 x1 o1 => k σ F1 H1 E1 x1 (fun a z => .inl (o1 a z)) kp0⟩
def cRet (c : Ev) : Es := fun ρ => (c ρ).bind fun p => some (.rt p.1, p.2)
def cRetO (c : Ev) : Es := fun ρ => (c ρ).bind fun p => some (.ro p.1, p.2)
theorem s_ret (he : PX X cf e ce) : PXS X cf (.Return (some e) pos) [] (cRet ce) := ps_imp (ps_ret he) fun D σ H q => by
  obtain ⟨ρ, F, fl, ρ', E, hc, k⟩ := q
  obtain ⟨⟨d, ρ1⟩, h1, hc⟩ := ob hc
  cases hc
  exact ⟨ρ, F, d, ρ1, E, h1, fun v F1 H1 E1 r1 x1 o1 => k σ F1 H1 E1 x1 (fun a z => .inl (o1 a z)) kp0 v r1⟩
theorem s_retO (he : PXO X cf e ce) : PXS X cf (.Return (some e) pos) [] (cRetO ce) := ps_imp (ps_ret he) fun D σ H q => by
  obtain ⟨ρ, F, fl, ρ', E, hc, k⟩ := q
  obtain ⟨⟨d, ρ1⟩, h1, hc⟩ := ob hc
  cases hc
  exact ⟨ρ, F, d, ρ1, E, h1, fun p F1 H1 E1 r1 n1 no hp x1 o1 => k σ F1 H1 E1 x1 (fun a z => .inl (o1 a z)) kp0 p r1 n1 no hp⟩
def cRetN : Es := fun ρ => some (.rt .non, ρ)
theorem s_retN : PXS X cf (.Return none pos) [] cRetN := ps_imp ps_retN fun D σ H q => by
  obtain ⟨ρ, F, fl, ρ', E, hc, k⟩ := q
  cases hc
  exact k σ F H E Ext.refl (fun _ z => .inl z) kp0 .non (by simp only [Rep])
def cIfS (t : Et) (a b : Es) : Es := fun ρ => (t ρ).bind fun p => if p.1 = true then a p.2 else b p.2
theorem s_if {tst : Expr} (ht : PXT X cf tst t) (ha : PXB X cf sa sl a) (hb : PXB X cf sb sl' b) : PXS X cf (.If tst sa sb pos) (sl ++ sl') (cIfS t a b) := ps_imp (ps_if ht ha hb) fun D σ H q => by
  obtain ⟨ρ, F, fl, ρ', E, hc, k⟩ := q
  obtain ⟨⟨d, ρ1⟩, h1, hc⟩ := ob hc
  refine ⟨ρ, F, d, ρ1, E, h1, fun F1 H1 E1 x1 o1 => ?_⟩
  have go : ∀ {c : Es} {s1 : List Nat}, (∀ j, j ∈ s1 → j ∈ sl ++ sl') → c ρ1 = some (fl, ρ') → tS ⟨X.K, cf⟩ s1 c D σ H1 := fun {c s1} hs hc => by
    refine ⟨ρ1, F1, fl, ρ', E1, hc, fun σ2 F2 H2 E2 x2 o2 q2 => ?_⟩
    have x := x1.trans x2 fun p z => .inl (o1 p z)
    have o : ∀ a, Own ρ' σ2 a → Own ρ σ a ∨ H a = none := fun a z => by
      rcases o2 a z with z | z
      · exact .inl (o1 a z)
      · exact (x1.back E z (E2.ownAt ‹_›).choose_spec.2 x2.f).symm
    have q := k σ2 F2 H2 E2 x o fun j hj => q2 j fun z => hj (hs j z)
    cases fl with
    | nx => exact q
    | bk => exact q
    | ct => exact q
    | rt d => exact q
    | ro d => exact fun p h1 h2 h3 h4 => q p h1 h2 h3 (back_own E x1 (fun a z => .inl (o1 a z)) h2 x2.f h4)
  cases d with
  | true => exact iteT (go (fun j z => List.mem_append_left _ z) hc)
  | false => exact iteF (go (fun j z => List.mem_append_right _ z) hc)
/-- name = value -/
def cSet (i : Nat) (c : Ev) : Es := fun ρ => (c ρ).bind fun p => some (.nx, p.2.set i (.fr p.1))
def cSetO (i : Nat) (c : Ev) : Es := fun ρ => (c ρ).bind fun p => some (.nx, p.2.set i (.ow p.1))
theorem Own.setFr {ρ : List Sl} {σ : L2.St} {i : Nat} {d : D} {v : V} {a : Addr} (h : Own (ρ.set i (.fr d)) (σ.set i (some v)) a) : Own ρ σ a := by
  obtain ⟨j, e, h1, h2⟩ := h
  rcases set_get? h1 with ⟨_, z, _⟩ | ⟨ne, h1⟩
  · cases z
  · rcases set_get? h2 with ⟨z, _⟩ | ⟨_, h2⟩
    · exact (ne z).elim
    · exact ⟨j, e, h1, h2⟩
theorem Own.setOw {ρ : List Sl} {σ : L2.St} {i : Nat} {d : D} {p a : Addr} (h : Own (ρ.set i (.ow d)) (σ.set i (some (.ref p))) a) : Own ρ σ a ∨ a = p := by
  obtain ⟨j, e, h1, h2⟩ := h
  rcases set_get? h1 with ⟨z, _, _⟩ | ⟨ne, h1⟩
  · rcases set_get? h2 with ⟨_, y, _⟩ | ⟨y, _⟩
    · cases y
      exact .inr rfl
    · exact (y z).elim
  · rcases set_get? h2 with ⟨z, _⟩ | ⟨_, h2⟩
    · exact (ne z).elim
    · exact .inl ⟨j, e, h1, h2⟩
theorem asg_imp {W : OC} {D : Ends} {σ : L2.St} {H : Hp} (q : tS W [i] (cSet i ce) D σ H) : tAsg (tX W ce) (gName i) D σ H := by
  obtain ⟨ρ, F, fl, ρ', E, hc, k⟩ := q
  obtain ⟨⟨d, ρ1⟩, h1, hc⟩ := ob hc
  cases hc
  exact ⟨ρ, F, d, ρ1, E, h1, fun v F1 H1 E1 r1 x1 o1 => k _ F1 H1 (E1.setFr i r1) x1 (fun a z => .inl (o1 a z.setFr)) kp1⟩
theorem asgO_imp {W : OC} {D : Ends} {σ : L2.St} {H : Hp} (q : tS W [i] (cSetO i ce) D σ H) : tAsg (tO W ce) (gName i) D σ H := by
  obtain ⟨ρ, F, fl, ρ', E, hc, k⟩ := q
  obtain ⟨⟨d, ρ1⟩, h1, hc⟩ := ob hc
  cases hc
  refine ⟨ρ, F, d, ρ1, E, h1, fun p F1 H1 E1 r1 n1 no hp x1 o1 => k _ F1 H1 (E1.setOw i n1 r1 no) x1 (fun a z => ?_) kp1⟩
  rcases z.setOw with z | rfl
  · exact .inl (o1 a z)
  · exact hp.symm
theorem s_set (hN : X.N.Nodup) (hi : X.N[i]? = some x) (hx : Loc X.env.scope x) (he : PX X cf e ce) (hs : swapsWith e (some (.Name x pos')) pos.line X.env = pure false := by rfl) (hf : X.fn x = true ∨ X.env.scope.names.lookup x = some .local := by first | exact .inl rfl | exact .inr rfl | assumption) :
    PXS X cf (.Assign [.Name x pos'] e pos) [i] (cSet i ce) := ps_imp (ps_set hN hi hx he hs hf) fun D σ H q => asg_imp q
theorem s_setO (hN : X.N.Nodup) (hi : X.N[i]? = some x) (hx : Loc X.env.scope x) (he : PXO X cf e ce) (hs : swapsWith e (some (.Name x pos')) pos.line X.env = pure false := by rfl) (hf : X.fn x = true ∨ X.env.scope.names.lookup x = some .local := by first | exact .inl rfl | exact .inr rfl | assumption) :
    PXS X cf (.Assign [.Name x pos'] e pos) [i] (cSetO i ce) := ps_imp (ps_set hN hi hx he hs hf) fun D σ H q => asgO_imp q
/-- xs.append(e), xs a name's own list -/
def cApp (i : Nat) (c : Ev) : Es := fun ρ => (ownLst ρ i).bind fun _ => (c ρ).bind fun p => (ownLst p.2 i).bind fun xs => if xs.length < 16777216 then some (.nx, p.2.set i (.ow (.lst (xs ++ [p.1])))) else none
theorem s_app {apos cpos : Pos} (ho : PE X o (tVar i)) (he : PX X cf e ce) (hbase : attributeBase o "append" X.env (eval o X.env) = eval o X.env := by rfl)
    (hfew : ((backTo cpos (starEach [e] X.env)).all (fun x => !x.1) && (backToKw cpos (keywordEach [] X.env)).all (fun x => x.1.isSome)
      && decide (([e] : List Expr).length + ([] : List Keyword).length + (if ([] : List Keyword).isEmpty then 0 else 1) < 30)) = true := by rfl)
    (hline : (apos.endLine == cpos.line) = true := by rfl) (hs : starEach [e] X.env = (false, eval e X.env) :: starEach [] X.env := by rfl) (hplain : (backTo cpos (starEach [] X.env)).any (·.1) = false := by rfl)
    (hsw : swapsWith (.Call (.Attribute o "append" apos) [e] [] cpos) none pos.line X.env = pure false := by rfl) : PXS X cf (.Expr (.Call (.Attribute o "append" apos) [e] [] cpos) pos) [] (cApp i ce) :=
  ps_imp (ps_expr (pe_bm PySem.F.plainAttrs_list PySem.F.slot_list_append PySem.F.type_list_append mt_append ho (pa_cons he pa_nil hs) hbase hfew hline hs hplain) hsw) fun D σ H q => by
    obtain ⟨ρ, F, fl, ρ', E, hc, k⟩ := q
    obtain ⟨xs0, h0, hc⟩ := ob hc
    obtain ⟨⟨d2, ρ2⟩, h2, hc⟩ := ob hc
    obtain ⟨xs, h1, hc⟩ := ob hc
    split at hc
    · rename_i hl
      cases hc
      obtain ⟨p, es, n, r⟩ := E.own (ownLst_eq h0)
      obtain ⟨vs0, g0, _, _⟩ := id r
      refine ⟨_, es, .inl ⟨rfl, vs0, SqL.of g0⟩, ρ, F, d2, ρ2, E, h2, fun v2 F2 H2 E2 r2 x2 o2 => ?_⟩
      have e0 := ownLst_eq h1
      obtain ⟨p', es', n', r'⟩ := E2.own e0
      rw [es] at es'
      cases es'
      obtain ⟨vs, g1, g2, g3⟩ := id r'
      have L := line_eq
      have hz : vs.length < sizeLine := by
        rw [← g3.length, L]
        exact hl
      refine ⟨p, vs, v2, rfl, rfl, g1, hz, ?_⟩
      exact k σ F2 _ (E2.put e0 es n' r'.noOwn ⟨_, upd_same, by rw [List.length_append]; exact hz, g3.append (repL_cons r2 (repL_nil.mpr rfl))⟩) (x2.trans (ext_put e0 es r') fun p z => .inl (o2 p z)) (fun a z => .inl (o2 a (Own.put e0 z))) kp0
    · cases hc
/-- d[k] = v, d a name's own dict -/
def putDct (d k v : D) : Option D := match d with
  | .dT kvs => (keyOf k).bind fun ns => if kvs.length < 16777216 then some (.dT (putD kvs ns v)) else none
  | .dK kvs => (toI k).bind fun n => if kvs.length < 16777216 then some (.dK (putD kvs n v)) else none
  | _ => none
def ownS (ρ : List Sl) (i : Nat) : Option D := match ρ[i]? with
  | some (.ow d) => some d
  | _ => none
theorem ownS_eq {ρ : List Sl} {i : Nat} {d : D} (h : ownS ρ i = some d) : ρ[i]? = some (.ow d) := by
  unfold ownS at h
  split at h
  · rename_i e
    cases h
    exact e
  · cases h
def cPutD (i : Nat) (ck cv : Ev) : Es := fun ρ => (cv ρ).bind fun p => (ownS p.2 i).bind fun _ => (ck p.2).bind fun q => (ownS q.2 i).bind fun d => (putDct d q.1 p.1).bind fun d' => some (.nx, q.2.set i (.ow d'))
end
theorem RepT.length {W : OC} {F : Hp} : ∀ {ds : List (List Int × D)} {vs : List (List Key × V)}, RepT W F ds vs → ds.length = vs.length
  | [], _, h => by
    rw [repT_nil] at h
    rw [h]
    rfl
  | (k, d) :: ds, _, h => by
    obtain ⟨v, r, rfl, _, h⟩ := h.inv
    simp only [List.length_cons, RepT.length h]
theorem RepK.length {W : OC} {F : Hp} : ∀ {ds : List (Int × D)} {vs : List (Key × V)}, RepK W F ds vs → ds.length = vs.length
  | [], _, h => by
    rw [repK_nil] at h
    rw [h]
    rfl
  | (k, d) :: ds, _, h => by
    obtain ⟨v, r, rfl, _, h⟩ := h.inv
    simp only [List.length_cons, RepK.length h]
theorem RepT.any {W : OC} {F : Hp} (k : List Int) : ∀ {ds : List (List Int × D)} {vs : List (List Key × V)}, RepT W F ds vs → (ds.any fun kv => decide (kv.1 = k)) = vs.any fun kv => decide (kv.1 = k.map Sum.inl)
  | [], _, h => by
    rw [repT_nil] at h
    rw [h]
    rfl
  | (k', d) :: ds, _, h => by
    obtain ⟨v, r, rfl, _, h⟩ := h.inv
    rw [List.any_cons, List.any_cons, RepT.any k h]
    have : decide (k' = k) = decide (k'.map (Sum.inl : Int → Key) = k.map Sum.inl) := by
      by_cases e : k' = k
      · rw [e]
        simp
      · rw [decide_eq_false e, decide_eq_false fun z => e (map_inl_inj z)]
    rw [this]
theorem RepK.any {W : OC} {F : Hp} (k : Int) : ∀ {ds : List (Int × D)} {vs : List (Key × V)}, RepK W F ds vs → (ds.any fun kv => decide (kv.1 = k)) = vs.any fun kv => decide (kv.1 = Sum.inl k)
  | [], _, h => by
    rw [repK_nil] at h
    rw [h]
    rfl
  | (k', d) :: ds, _, h => by
    obtain ⟨v, r, rfl, _, h⟩ := h.inv
    rw [List.any_cons, List.any_cons, RepK.any k h]
    have : decide (k' = k) = decide ((Sum.inl k' : Key) = Sum.inl k) := by
      by_cases e : k' = k
      · rw [e]
        simp
      · rw [decide_eq_false e, decide_eq_false fun z => e (Sum.inl.inj z)]
    rw [this]
theorem RepT.repl {W : OC} {F : Hp} (k : List Int) {d : D} {v : V} (hv : Rep W F d v) : ∀ {ds : List (List Int × D)} {vs : List (List Key × V)}, RepT W F ds vs →
    RepT W F (ds.map fun kv => if kv.1 = k then (kv.1, d) else kv) (vs.map fun kv => if kv.1 = k.map Sum.inl then (kv.1, v) else kv)
  | [], _, h => by
    rw [repT_nil] at h
    rw [h]
    exact repT_nil.mpr rfl
  | (k', d') :: ds, _, h => by
    have h0 := h
    obtain ⟨v', r, rfl, h1, h⟩ := h.inv
    rw [List.map_cons, List.map_cons]
    by_cases e : k' = k
    · rw [if_pos e, if_pos (by rw [e])]
      exact repT_cons h0.klen hv (RepT.repl k hv h)
    · rw [if_neg e, if_neg fun z => e (map_inl_inj z)]
      exact repT_cons h0.klen h1 (RepT.repl k hv h)
theorem RepK.repl {W : OC} {F : Hp} (k : Int) {d : D} {v : V} (hv : Rep W F d v) : ∀ {ds : List (Int × D)} {vs : List (Key × V)}, RepK W F ds vs →
    RepK W F (ds.map fun kv => if kv.1 = k then (kv.1, d) else kv) (vs.map fun kv => if kv.1 = Sum.inl k then (kv.1, v) else kv)
  | [], _, h => by
    rw [repK_nil] at h
    rw [h]
    exact repK_nil.mpr rfl
  | (k', d') :: ds, _, h => by
    obtain ⟨v', r, rfl, h1, h⟩ := h.inv
    rw [List.map_cons, List.map_cons]
    by_cases e : k' = k
    · rw [if_pos e, if_pos (by rw [e])]
      exact repK_cons hv (RepK.repl k hv h)
    · rw [if_neg e, if_neg fun z => e (Sum.inl.inj z)]
      exact repK_cons h1 (RepK.repl k hv h)
theorem RepT.snoc {W : OC} {F : Hp} {k : List Int} {d : D} {v : V} (hk : k.length ≤ sizeLine) (hv : Rep W F d v) : ∀ {ds : List (List Int × D)} {vs : List (List Key × V)}, RepT W F ds vs → RepT W F (ds ++ [(k, d)]) (vs ++ [(k.map Sum.inl, v)])
  | [], _, h => by
    rw [repT_nil] at h
    rw [h]
    exact repT_cons hk hv (repT_nil.mpr rfl)
  | (k', d') :: ds, _, h => by
    have h0 := h
    obtain ⟨v', r, rfl, h1, h⟩ := h.inv
    exact repT_cons h0.klen h1 (RepT.snoc hk hv h)
theorem RepK.snoc {W : OC} {F : Hp} {k : Int} {d : D} {v : V} (hv : Rep W F d v) : ∀ {ds : List (Int × D)} {vs : List (Key × V)}, RepK W F ds vs → RepK W F (ds ++ [(k, d)]) (vs ++ [(Sum.inl k, v)])
  | [], _, h => by
    rw [repK_nil] at h
    rw [h]
    exact repK_cons hv (repK_nil.mpr rfl)
  | (k', d') :: ds, _, h => by
    obtain ⟨v', r, rfl, h1, h⟩ := h.inv
    exact repK_cons h1 (RepK.snoc hv h)
theorem RepT.put {W : OC} {F : Hp} (k : List Int) {d : D} {v : V} (hk : k.length ≤ sizeLine) (hv : Rep W F d v) {ds : List (List Int × D)} {vs : List (List Key × V)} (h : RepT W F ds vs) : RepT W F (putD ds k d) (putK vs (k.map Sum.inl) v) := by
  unfold putD putK
  rw [h.any k]
  split
  · exact h.repl k hv
  · exact h.snoc hk hv
theorem RepK.put {W : OC} {F : Hp} (k : Int) {d : D} {v : V} (hv : Rep W F d v) {ds : List (Int × D)} {vs : List (Key × V)} (h : RepK W F ds vs) : RepK W F (putD ds k d) (putK vs (Sum.inl k) v) := by
  unfold putD putK
  rw [h.any k]
  split
  · exact h.repl k hv
  · exact h.snoc hv
section
variable {X : Cx} {cf : List D → D → Prop} {e o k : Expr} {ce ck : Ev} {pos pos' : Pos} {i : Nat}
theorem s_putD (hu : X.A.units + 1 < cLine) (ho : PE X o (tVar i)) (hk : PX X cf k ck) (he : PX X cf e ce) (hs : swapsWith e (some (.Subscript o k pos')) pos.line X.env = pure false := by rfl) : PXS X cf (.Assign [.Subscript o k pos'] e pos) [] (cPutD i ck ce) :=
  ps_imp (ps_dput hu ho hk he hs) fun D σ H q => by
    obtain ⟨ρ, F, fl, ρ', E, hc, kk⟩ := q
    obtain ⟨⟨d1, ρ1⟩, h1, hc⟩ := ob hc
    obtain ⟨d0, h0, hc⟩ := ob hc
    obtain ⟨⟨d2, ρ2⟩, h2, hc⟩ := ob hc
    obtain ⟨d, h3, hc⟩ := ob hc
    obtain ⟨d', h4, hc⟩ := ob hc
    cases hc
    refine ⟨ρ, F, d1, ρ1, E, h1, fun v F1 H1 E1 r1 x1 o1 => ?_⟩
    obtain ⟨p, es, _, _⟩ := E1.own (ownS_eq h0)
    refine ⟨_, es, ρ1, F1, d2, ρ2, E1, h2, fun y F2 H2 E2 r2 x2 o2 => ?_⟩
    have e0 := ownS_eq h3
    obtain ⟨p', es', n', r'⟩ := E2.own e0
    rw [es] at es'
    cases es'
    have L := line_eq
    have r1' := Rep.le x2.f r1
    have x12 := x1.trans x2 fun p z => .inl (o1 p z)
    have fin : ∀ u, OwnAt ⟨X.K, cf⟩ F2 (upd H2 p u) p d' → D.nx σ (upd H2 p u) := fun u g => kk σ F2 _ (E2.put e0 es n' r'.noOwn g) (x12.trans (ext_put e0 es r') fun p z => .inl (o1 p (o2 p z))) (fun a z => .inl (o1 a (o2 a (Own.put e0 z)))) kp0
    cases d with
    | dT kvs =>
      obtain ⟨ns, h5, h6⟩ := ob (show (keyOf d2).bind _ = some d' from h4)
      split at h6
      · rename_i hl
        cases h6
        obtain ⟨vs, g1, g3⟩ := id r'
        rw [keyOf_eq h5] at r2
        have kl := key_len E2.fs (.inl r2)
        obtain ⟨b, rfl, hb⟩ := key_at E2.fs (.inl r2)
        exact ⟨p, _, rfl, .inr ⟨vs, _, b, g1, rfl, hb, by rw [← g3.length, L]; exact hl, rfl⟩, fin _ ⟨_, upd_same, g3.put ns kl r1'⟩⟩
      · cases h6
    | dK kvs =>
      obtain ⟨n, h5, h6⟩ := ob (show (toI d2).bind _ = some d' from h4)
      split at h6
      · rename_i hl
        cases h6
        obtain ⟨vs, g1, g3⟩ := id r'
        rw [toI_eq h5] at r2
        exact ⟨p, _, rfl, .inl ⟨vs, Sum.inl n, g1, (KnB.of (H := H2) r2).int, by rw [← g3.length, L]; exact hl, rfl⟩, fin _ ⟨_, upd_same, g3.put n r1'⟩⟩
      · cases h6
    | _ => cases h4
end

/-! ### targets -/
abbrev Eg := D → List Sl → Option (List Sl)
def tG (W : OC) (sl : List Nat) (g : Eg) : TG := fun v σ H Q => ∃ ρ F d ρ', EnvOk W ρ σ F H ∧ Rep W F d v ∧ g d ρ = some ρ' ∧
  ∀ σ', EnvOk W ρ' σ' F H → (∀ a, Own ρ' σ' a → Own ρ σ a) → σ'.length = σ.length → (∀ j : Nat, j ∉ sl → σ'[j]? = σ[j]?) → Q σ' H
abbrev PXG (X : Cx) (cf : List D → D → Prop) (tg : Expr) (sl : List Nat) (g : Eg) : Prop := PG X tg (tG ⟨X.K, cf⟩ sl g)
theorem pg_imp {X : Cx} {e : Expr} {t t' : TG} (h : PG X e t) (i : ∀ v σ H Q, t' v σ H Q → t v σ H Q) : PG X e t' := ⟨fun pins s σ H v u Q I r q => h.run pins s σ H v u Q I r (i v σ H Q q)⟩
theorem pgs_imp {X : Cx} {e : List Expr} {t t' : TGs} (h : PGs X e t) (i : ∀ v σ H Q, t' v σ H Q → t v σ H Q) : PGs X e t' := ⟨fun pins s σ H v u Q I r q => h.run pins s σ H v u Q I r (i v σ H Q q)⟩
def gN (i : Nat) : Eg := fun d ρ => some (ρ.set i (.fr d))
abbrev Egs := List D → List Sl → Option (List Sl)
def tGs (W : OC) (sl : List Nat) (g : Egs) : TGs := fun vs σ H Q => ∃ ρ F ds ρ', EnvOk W ρ σ F H ∧ RepL W F ds vs ∧ g ds ρ = some ρ' ∧
  ∀ σ', EnvOk W ρ' σ' F H → (∀ a, Own ρ' σ' a → Own ρ σ a) → σ'.length = σ.length → (∀ j : Nat, j ∉ sl → σ'[j]? = σ[j]?) → Q σ' H
abbrev PXGs (X : Cx) (cf : List D → D → Prop) (tg : List Expr) (sl : List Nat) (g : Egs) : Prop := PGs X tg (tGs ⟨X.K, cf⟩ sl g)
def gNil' : Egs := fun ds ρ => match ds with
  | [] => some ρ
  | _ => none
def gCons' (g : Eg) (r : Egs) : Egs := fun ds ρ => match ds with
  | d :: ds => (g d ρ).bind fun ρ1 => r ds ρ1
  | [] => none
def gT (n : Nat) (g : Egs) : Eg := fun d ρ => match d with
  | .tup xs => if xs.length = n then g xs ρ else none
  | _ => none
section
variable {X : Cx} {cf : List D → D → Prop} {e : Expr} {es : List Expr} {g : Eg} {gs : Egs} {sl sl' : List Nat} {pos : Pos} {i : Nat} {x : Str}
theorem g_name (hN : X.N.Nodup) (hi : X.N[i]? = some x) (hx : Loc X.env.scope x) (hf : X.fn x = true ∨ X.env.scope.names.lookup x = some .local := by first | exact .inl rfl | exact .inr rfl | assumption) : PXG X cf (.Name x pos) [i] (gN i) :=
  pg_imp (pg_name hN hi hx hf) fun v σ H Q q => by
    obtain ⟨ρ, F, d, ρ', E, r, hc, k⟩ := q
    cases hc
    exact k _ (E.setFr i r) (fun a z => z.setFr) (List.length_set ..) fun j hj => List.getElem?_set_ne fun z => hj (by rw [z]; simp)
theorem gs_nil : PXGs X cf [] [] gNil' := pgs_imp pgs_nil fun vs σ H Q q => by
  obtain ⟨ρ, F, ds, ρ', E, r, hc, k⟩ := q
  cases ds with
  | nil =>
    cases hc
    exact ⟨repL_nil.mp r, k σ E (fun _ z => z) rfl fun _ _ => rfl⟩
  | cons _ _ => cases hc
theorem gs_cons (h1 : PXG X cf e sl g) (h2 : PXGs X cf es sl' gs) (hs : (assignEach (e :: es) X.env).map (·.2) = assign e X.env :: (assignEach es X.env).map (·.2) := by rfl) : PXGs X cf (e :: es) (sl ++ sl') (gCons' g gs) :=
  pgs_imp (pgs_cons h1 h2 hs) fun vs σ H Q q => by
    obtain ⟨ρ, F, ds, ρ', E, r, hc, k⟩ := q
    cases ds with
    | nil => cases hc
    | cons d ds =>
      obtain ⟨ρ1, h1, hc⟩ := ob (show (g d ρ).bind _ = some ρ' from hc)
      obtain ⟨v, vs', rfl, r1, r2⟩ := r.inv
      refine ⟨v, vs', rfl, ρ, F, d, ρ1, E, r1, h1, fun σ1 E1 o1 l1 n1 => ⟨ρ1, F, ds, ρ', E1, r2, hc, fun σ2 E2 o2 l2 n2 => k σ2 E2 (fun a z => o1 a (o2 a z)) (l2.trans l1) fun j hj => ?_⟩⟩
      rw [List.mem_append, not_or] at hj
      exact (n2 j hj.2).trans (n1 j hj.1)
theorem g_tup {k : Nat} {n : Nat} (hc : X.calm = true) (h : PXGs X cf es sl gs) (hn : (assignEach es X.env).length = n := by rfl) (hst : (assignEach es X.env).findIdx? (·.1) = none := by rfl) : PXG X cf (.Tuple es k pos) sl (gT n gs) :=
  pg_imp (pg_tup hc h hn hst) fun v σ H Q q => by
    obtain ⟨ρ, F, d, ρ', E, r, hc, k⟩ := q
    cases d with
    | tup xs =>
      have hc' : (if xs.length = n then gs xs ρ else none) = some ρ' := hc
      split at hc'
      · rename_i hl
        obtain ⟨a, vs, rfl, g1, g2, g3, g4⟩ := (KnB.of (H := H) r).tup E.fs
        exact ⟨a, vs, rfl, SqT.of g2, by rw [← g4.length]; exact hl, ρ, F, xs, ρ', E, g4, hc', k⟩
      · cases hc'
    | _ => cases hc
end
theorem s_asg {X : Cx} {cf : List D → D → Prop} {tg e : Expr} {ce : Ev} {sl : List Nat} {g : Eg} {pos : Pos} (he : PX X cf e ce) (hg : PXG X cf tg sl g) (hs : swapsWithSole [tg] e pos.line X.env = pure false := by rfl) (hw : swappedStores [tg] e X.env = pure none := by rfl)
    (h1 : (assignEach [tg] X.env).map (·.2) = [assign tg X.env] := by rfl) : PXS X cf (.Assign [tg] e pos) sl (fun ρ => (ce ρ).bind fun p => (g p.1 p.2).bind fun ρ' => some (.nx, ρ')) := ps_imp (ps_asg he hg hs hw h1) fun D σ H q => by
  obtain ⟨ρ, F, fl, ρ', E, hc, k⟩ := q
  obtain ⟨⟨d, ρ1⟩, h1, hc⟩ := ob hc
  obtain ⟨ρ2, h2, hc⟩ := ob hc
  cases hc
  exact ⟨ρ, F, d, ρ1, E, h1, fun v F1 H1 E1 r1 x1 o1 => ⟨ρ1, F1, d, _, E1, r1, h2, fun σ' E' o' _ kp => k σ' F1 H1 E' x1 (fun a z => .inl (o1 a (o' a z))) kp⟩⟩
end Ov
/-! Ov: what is walked; for. -/
namespace Ov
open PySem PySem.Spec PyProof.Rows L2

/-- J gives the data of ds one by one, wherever F is known and L holds -/
structure WalkD (W : OC) (J : It) (ds : List D) (F : Hp) (L : Hp → Prop) : Prop where
  goes : ∀ i G H, i < ds.length → Le F G → FS W G H → L H → J.go i H
  stops : ∀ G H, Le F G → FS W G H → L H → J.stop ds.length H
  yields : ∀ i G H x H', i < ds.length → Le F G → FS W G H → L H → J.yld i H x H' → ∃ G' d, ds[i]? = some d ∧ FS W G' H' ∧ Rep W G' d x ∧ Ext NoA G H G' H'
  stay : ∀ own F H F' H', Ext own F H F' H' → L H → L H'
abbrev NoL : Hp → Prop := fun _ => True
abbrev Ei := List Sl → Option (List D × List Sl)
def tI' (W : OC) (c : Ei) : TI := fun σ H R => ∃ ρ F ds ρ', EnvOk W ρ σ F H ∧ c ρ = some (ds, ρ') ∧
  ∀ J L F' H', EnvOk W ρ' σ F' H' → ds.length ≤ sizeLine → WalkD W J ds F' L → L H' → Ext (Own ρ σ) F H F' H' → (∀ a, Own ρ' σ a → Own ρ σ a) → R J H'
abbrev PXI (X : Cx) (cf : List D → D → Prop) (tg e : Expr) (c : Ei) : Prop := PI X tg e (tI' ⟨X.K, cf⟩ c)
theorem pi_imp {X : Cx} {tg e : Expr} {t t' : TI} (h : PI X tg e t) (i : ∀ σ H R, t' σ H R → t σ H R) : PI X tg e t' := ⟨fun pins s σ H R I q => h.run pins s σ H R I (i σ H R q)⟩

/-! ### lists, tuples, ranges -/
def iSeq (c : Ev) : Ei := fun ρ => (c ρ).bind fun p => match p.1 with
  | .lst xs => some (xs, p.2)
  | .tup xs => some (xs, p.2)
  | _ => none
section
variable {W : OC} {F : Hp} {a : Addr} {xs : List D} {vs : List V}
theorem walkD_list (h : F a = some (.lst vs)) (hl : vs.length ≤ sizeLine) (r : RepL W F xs vs) : WalkD W (Itl W.K a) xs F NoL where
  stay _ _ _ _ _ _ h := h
  goes i G H hi le fs _ := ⟨vs, vs[i]'(by rw [← r.length]; exact hi), SqL.of (fs.lst (le _ _ h)), by simp [← r.length, hi]⟩
  stops G H le fs _ := ⟨vs, SqL.of (fs.lst (le _ _ h)), by rw [r.length]; exact Nat.le_refl _⟩
  yields i G H x H' hi le fs _ y := by
    obtain ⟨rfl, y2⟩ := y
    obtain ⟨d, h1, h2⟩ := r.back (y2 vs (SqL.of (fs.lst (le _ _ h))))
    exact ⟨G, d, h1, fs, Rep.le le h2, Ext.refl⟩
theorem walkD_tup (h : F a = some (.tup vs)) (hl : vs.length ≤ sizeLine) (r : RepL W F xs vs) : WalkD W (Itt W.K a) xs F NoL where
  stay _ _ _ _ _ _ h := h
  goes i G H hi le fs _ := ⟨vs, vs[i]'(by rw [← r.length]; exact hi), SqT.of (fs.tup (le _ _ h)), by simp [← r.length, hi]⟩
  stops G H le fs _ := ⟨vs, SqT.of (fs.tup (le _ _ h)), by rw [r.length]; exact Nat.le_refl _⟩
  yields i G H x H' hi le fs _ y := by
    obtain ⟨rfl, y2⟩ := y
    obtain ⟨d, h1, h2⟩ := r.back (y2 vs (SqT.of (fs.tup (le _ _ h))))
    exact ⟨G, d, h1, fs, Rep.le le h2, Ext.refl⟩
theorem walkD_rg {lo : Int} {n : Nat} : WalkD W (Itr lo n) ((List.range n).map fun i : Nat => D.int (lo + i)) F NoL where
  stay _ _ _ _ _ _ h := h
  goes i G H hi le fs _ := by
    show i < n
    simpa using hi
  stops G H le fs _ := by show n ≤ _; simp
  yields i G H x H' hi le fs _ y := by
    obtain ⟨rfl, rfl⟩ := y
    have hi' : i < n := by simpa using hi
    exact ⟨G, .int (lo + i), by simp [hi'], fs, by simp only [Rep], Ext.refl⟩
end
def rgL (lo hi : Int) : List D := (List.range (hi - lo).toNat).map fun i : Nat => D.int (lo + i)
theorem rgL_len {lo hi : Int} (h : hi - lo ≤ 16777216) : (rgL lo hi).length ≤ sizeLine := by
  have L := line_eq
  unfold rgL
  simp
  omega
def iRg1 (c : Ev) : Ei := fun ρ => (c ρ).bind fun p => (toI p.1).bind fun n => if decide (-4611686018427387904 ≤ n ∧ n ≤ 16777216) = true then some (rgL 0 n, p.2) else none
def iRg2 (a b : Ev) : Ei := fun ρ => (a ρ).bind fun p => (toI p.1).bind fun lo => (b p.2).bind fun q => (toI q.1).bind fun hi =>
  if decide (-4611686018427387904 ≤ lo ∧ lo < 4611686018427387904 ∧ -4611686018427387904 ≤ hi ∧ hi < 4611686018427387904 ∧ hi - lo ≤ 16777216) = true then some (rgL lo hi, q.2) else none
section
variable {X : Cx} {cf : List D → D → Prop} {tg e a b : Expr} {ce ca cb : Ev} {p pos : Pos}
/-- a list or a tuple -/
theorem pi_seq {l : Expr} {tl : TE} (hl : PE X l tl) : PI X tg l (fun σ H R => tl σ H fun x H1 => ∃ a, x = .ref a ∧ ((∃ xs, SqL X.K H1 a xs ∧ R (Itl X.K a) H1) ∨ ∃ xs, SqT X.K H1 a xs ∧ R (Itt X.K a) H1)) := by
  refine ⟨fun pins s σ H R I h => ?_⟩
  refine thn (hl.run pins s σ H _ I h) fun v s1 ⟨x, H1, I1, r1, q1⟩ => ?_
  obtain ⟨a, e, q⟩ := q1
  subst e
  cases r1
  rcases q with ⟨xs, hq, q⟩ | ⟨xs, hq, q⟩
  · obtain ⟨its, rv, p, hz⟩ := I1.list hq
    refine wpAny_pyIter_list p.isList ?_
    refine ⟨s1.heap.objs.size, [s1.heap.objs.size], _, _, H1, rfl, I1.kept (t' := s1.toks) fun b o e => Heap.get?_push_of_some _ e, turn_list a _, ⟨_, Heap.get?_push_size _ rfl, rfl, rfl⟩, fun b hb => ?_, q⟩
    have e : b = s1.heap.objs.size := by simpa using hb
    subst e
    exact I1.fpOk (Nat.le_refl _) (I1.hok.fresh (Nat.le_refl _))
  · obtain ⟨its, rv, p, hz⟩ := I1.tuple hq
    refine wpAny_pyIter_tuple (show s1.heap.IsTuple a its.toArray from p) ?_
    refine ⟨s1.heap.objs.size, [s1.heap.objs.size], _, _, H1, rfl, I1.kept (t' := s1.toks) fun b o e => Heap.get?_push_of_some _ e, turn_tuple a _, ⟨_, Heap.get?_push_size _ rfl, rfl, rfl⟩, fun b hb => ?_, q⟩
    have e : b = s1.heap.objs.size := by simpa using hb
    subst e
    exact I1.fpOk (Nat.le_refl _) (I1.hok.fresh (Nat.le_refl _))
theorem i_seq (he : PX X cf e ce) : PXI X cf tg e (iSeq ce) := pi_imp (pi_seq he) fun σ H R q => by
  obtain ⟨ρ, F, ds, ρ', E, hc, k⟩ := q
  obtain ⟨⟨d, ρ1⟩, h1, hc⟩ := ob hc
  cases d with
  | lst xs =>
    cases hc
    refine ⟨ρ, F, _, _, E, h1, fun v F1 H1 E1 r1 x1 o1 => ?_⟩
    have r1' := r1
    simp only [Rep] at r1'
    obtain ⟨a, vs, rfl, g1, g3, g4⟩ := r1'
    exact ⟨a, rfl, .inl ⟨vs, SqL.of (E1.fs.lst g1), k _ _ F1 H1 E1 (by rw [g4.length]; exact g3) (walkD_list (W := ⟨X.K, cf⟩) g1 g3 g4) True.intro x1 o1⟩⟩
  | tup xs =>
    cases hc
    refine ⟨ρ, F, _, _, E, h1, fun v F1 H1 E1 r1 x1 o1 => ?_⟩
    have r1' := r1
    simp only [Rep] at r1'
    obtain ⟨a, vs, rfl, g1, g3, g4⟩ := r1'
    exact ⟨a, rfl, .inr ⟨vs, SqT.of (E1.fs.tup g1), k _ _ F1 H1 E1 (by rw [g4.length]; exact g3) (walkD_tup (W := ⟨X.K, cf⟩) g1 g3 g4) True.intro x1 o1⟩⟩
  | _ => cases hc
theorem i_rg1 (hg : Gl X "range") (hm : X.mg "range" = none) (ha : PX X cf a ca) (hs : starEach [a] X.env = (false, eval a X.env) :: starEach [] X.env := by rfl) : PXI X cf tg (.Call (.Name "range" p) [a] [] pos) (iRg1 ca) := pi_imp (pi_range1 hg hm (xa_cons ha xa_nil hs) hs) fun σ H R q => by
  obtain ⟨ρ, F, ds, ρ', E, hc, k⟩ := q
  obtain ⟨⟨d, ρ1⟩, h1, hc⟩ := ob hc
  obtain ⟨n, h2, hc⟩ := ob hc
  split at hc
  · rename_i hn
    have hn := of_decide_eq_true hn
    cases hc
    refine ⟨ρ, F, [d], ρ1, E, by show (ca ρ).bind _ = _; rw [h1]; rfl, fun vs F1 H1 E1 r1 x1 o1 => ?_⟩
    obtain ⟨v, _, rfl, r, r'⟩ := r1.inv
    rw [repL_nil.mp r']
    have h2' : toI d = some n := h2
    rw [toI_eq h2'] at r
    have e : v = .int n := by simpa only [Rep] using r
    refine ⟨n, by rw [e], by omega, by omega, k _ NoL F1 H1 E1 (rgL_len (by omega)) ?_ True.intro x1 o1⟩
    have w := walkD_rg (W := ⟨X.K, cf⟩) (F := F1) (lo := 0) (n := n.toNat)
    have e2 : rgL 0 n = (List.range n.toNat).map fun i : Nat => D.int (0 + i) := by
      unfold rgL
      rw [Int.sub_zero]
    rw [e2]
    exact w
  · cases hc
theorem i_rg2 (hg : Gl X "range") (hm : X.mg "range" = none) (ha : PX X cf a ca) (hb : PX X cf b cb) (hs : starEach [a, b] X.env = (false, eval a X.env) :: starEach [b] X.env := by rfl) (hs2 : starEach [b] X.env = (false, eval b X.env) :: starEach [] X.env := by rfl) : PXI X cf tg (.Call (.Name "range" p) [a, b] [] pos) (iRg2 ca cb) := pi_imp (pi_range2 hg hm (xa_cons ha (xa_cons hb xa_nil hs2) hs) (by rw [hs, hs2]; rfl) hs2) fun σ H R q => by
  obtain ⟨ρ, F, ds, ρ', E, hc, k⟩ := q
  obtain ⟨⟨d, ρ1⟩, h1, hc⟩ := ob hc
  obtain ⟨n, h2, hc⟩ := ob hc
  obtain ⟨⟨d2, ρ2⟩, h3, hc⟩ := ob hc
  obtain ⟨m, h4, hc⟩ := ob hc
  split at hc
  · rename_i hn
    have hn := of_decide_eq_true hn
    cases hc
    refine ⟨ρ, F, [d, d2], ρ2, E, ?_, fun vs F1 H1 E1 r1 x1 o1 => ?_⟩
    · show (ca ρ).bind _ = _
      rw [h1]
      show ((cb ρ1).bind _).bind _ = _
      rw [h3]
      rfl
    obtain ⟨v, _, rfl, r, r'⟩ := r1.inv
    obtain ⟨v2, _, rfl, r2, r'⟩ := r'.inv
    rw [repL_nil.mp r']
    have h2' : toI d = some n := h2
    rw [toI_eq h2'] at r
    have h4' : toI d2 = some m := h4
    rw [toI_eq h4'] at r2
    have e : v = .int n := by simpa only [Rep] using r
    have e2 : v2 = .int m := by simpa only [Rep] using r2
    exact ⟨n, m, by rw [e, e2], by omega, k _ _ F1 H1 E1 (rgL_len (by omega)) (walkD_rg (W := ⟨X.K, cf⟩)) True.intro x1 o1⟩
  · cases hc
end

/-! ### for -/
def forL (g : Eg) (b : Es) : List D → Es
  | [] => cNx
  | d :: ds => fun ρ => (g d ρ).bind fun ρ1 => (b ρ1).bind fun p => match p.1 with
    | .nx => forL g b ds p.2
    | .ct => forL g b ds p.2
    | .bk => some (.nx, p.2)
    | .rt d => some (.rt d, p.2)
    | .ro d => some (.ro d, p.2)
def cFor (it : Ei) (g : Eg) (b : Es) : Es := fun ρ => (it ρ).bind fun p => forL g b p.1 p.2
theorem for_core {W : OC} {En : Ends} {σ σ0 : L2.St} {F H F1 H1 : Hp} {ds : List D} {J : It} {L : Hp → Prop} {g : Eg} {sl sl' : List Nat} {b : Es} {fl : Fl} {ρ ρ1 ρ' : List Sl} (E : EnvOk W ρ σ F H) (w : WalkD W J ds F1 L) (hL : L H1) (E1 : EnvOk W ρ1 σ0 F1 H1)
    (x1 : Ext (Own ρ σ) F H F1 H1) (o1 : ∀ a, Own ρ1 σ0 a → Own ρ σ a) (hc : forL g b ds ρ1 = some (fl, ρ'))
    (k : ∀ σ' F' H', EnvOk W ρ' σ' F' H' → Ext (Own ρ σ) F H F' H' → (∀ a, Own ρ' σ' a → Own ρ σ a ∨ H a = none) → (∀ j : Nat, j ∉ sl ++ sl' → σ'[j]? = σ0[j]?) → Post W En fl (Own ρ σ) H ρ' σ' F' H') :
    ∃ Wt : Nat → Nat → L2.St → Hp → Prop, (∃ m, Wt 0 m σ0 H1) ∧ ∀ i m σ H, Wt i m σ H →
  (J.stop i H ∧ En.nx σ H) ∨ (J.go i H ∧ ∃ N : L2.St → Hp → Prop, (∀ σ' H', N σ' H' → ∃ m', m' < m ∧ Wt (i + 1) m' σ' H') ∧ ∀ x H', J.yld i H x H' → tG W sl g x σ H' fun σ2 H2 => tS W sl' b { En with nx := N, ct := N, bk := En.nx } σ2 H2) := by
  refine ⟨fun i m σi Hi => m = ds.length - i ∧ i ≤ ds.length ∧ ∃ ρi Fi, EnvOk W ρi σi Fi Hi ∧ L Hi ∧ Le F1 Fi ∧ Ext (Own ρ σ) F H Fi Hi ∧ (∀ a, Own ρi σi a → Own ρ σ a ∨ H a = none) ∧ (∀ j : Nat, j ∉ sl ++ sl' → σi[j]? = σ0[j]?) ∧ forL g b (ds.drop i) ρi = some (fl, ρ'),
    ⟨ds.length, by simp, Nat.zero_le _, ρ1, F1, E1, hL, Le.refl F1, x1, fun a z => .inl (o1 a z), kp0, by rw [List.drop_zero]; exact hc⟩, ?_⟩
  rintro i m σi Hi ⟨rfl, hi, ρi, Fi, Ei, Li, lei, xi, oi, kpi, ci⟩
  by_cases hlt : i < ds.length
  · refine .inr ⟨w.goes i Fi Hi hlt lei Ei.fs Li, fun σ' H' => ∃ ρi Fi, EnvOk W ρi σ' Fi H' ∧ L H' ∧ Le F1 Fi ∧ Ext (Own ρ σ) F H Fi H' ∧ (∀ a, Own ρi σ' a → Own ρ σ a ∨ H a = none) ∧ (∀ j : Nat, j ∉ sl ++ sl' → σ'[j]? = σ0[j]?) ∧ forL g b (ds.drop (i + 1)) ρi = some (fl, ρ'),
      fun σ' H' p' => ⟨ds.length - (i + 1), by omega, rfl, hlt, p'⟩, fun x H' y => ?_⟩
    obtain ⟨G, d, hd, fsG, rG, xG⟩ := w.yields i Fi Hi x H' hlt lei Ei.fs Li y
    have hd' : ds.drop i = d :: ds.drop (i + 1) := by
      rw [List.drop_eq_getElem_cons hlt]
      have := (List.getElem?_eq_some_iff.mp hd).2
      rw [this]
    rw [hd'] at ci
    obtain ⟨ρ2, hg, ci⟩ := ob (show (g d ρi).bind _ = _ from ci)
    obtain ⟨⟨f1, ρ3⟩, hb, ci⟩ := ob ci
    have EG := Ei.ext fsG xG
    have xG' : Ext (Own ρ σ) F H G H' := xi.trans xG fun p z => z.elim
    refine ⟨ρi, G, d, ρ2, EG, rG, hg, fun σ2 E2 o2 _ kp2' => ⟨ρ2, G, f1, ρ3, E2, hb, fun σ3 F3 H3 E3 x3 o3 kp3 => ?_⟩⟩
    have own2 : ∀ a, Own ρ2 σ2 a → Own ρ σ a ∨ H a = none := fun a z => oi a (o2 a z)
    have x : Ext (Own ρ σ) F H F3 H3 := xG'.trans x3 own2
    have o : ∀ a, Own ρ3 σ3 a → Own ρ σ a ∨ H a = none := fun a z => by
      rcases o3 a z with z | z
      · exact own2 a z
      · exact (xG'.back E z (E3.ownAt ‹_›).choose_spec.2 x3.f).symm
    have kp : ∀ j : Nat, j ∉ sl ++ sl' → σ3[j]? = σ0[j]? := fun j hj => (kp2 kp2' kp3 j hj).trans (kpi j hj)
    have le3 : Le F1 F3 := (lei.trans xG.f).trans x3.f
    have L3 : L H3 := w.stay _ _ _ _ _ x3 (w.stay _ _ _ _ _ xG Li)
    cases f1 with
    | nx => exact ⟨ρ3, F3, E3, L3, le3, x, o, kp, ci⟩
    | ct => exact ⟨ρ3, F3, E3, L3, le3, x, o, kp, ci⟩
    | bk =>
      cases ci
      exact k σ3 F3 H3 E3 x o kp
    | rt d =>
      cases ci
      exact k σ3 F3 H3 E3 x o kp
    | ro d =>
      cases ci
      exact fun p g1 g2 g3 g4 => k σ3 F3 H3 E3 x o kp p g1 g2 g3 (back_own E xG' own2 g2 x3.f g4)
  · have e : i = ds.length := by omega
    subst e
    refine .inl ⟨w.stops Fi Hi lei Ei.fs Li, ?_⟩
    rw [List.drop_length] at ci
    cases ci
    exact k σi Fi Hi Ei xi oi kpi
theorem for_imp {W : OC} {En : Ends} {σ : L2.St} {H : Hp} {ti : Ei} {g : Eg} {sl sl' : List Nat} {b : Es} (q : tS W (sl ++ sl') (cFor ti g b) En σ H) : tFor (tI' W ti) (tG W sl g) (tS W sl' b) En σ H := by
  obtain ⟨ρ, F, fl, ρ', E, hc, k⟩ := q
  obtain ⟨⟨ds, ρ1⟩, h1, hc⟩ := ob hc
  exact ⟨ρ, F, ds, ρ1, E, h1, fun J L F1 H1 E1 _ w hL x1 o1 => for_core E w hL E1 x1 o1 hc k⟩
section
variable {X : Cx} {cf : List D → D → Prop} {tg iter : Expr} {body : List Stmt} {ti : Ei} {g : Eg} {sl sl' : List Nat} {b : Es} {pos : Pos}
theorem s_for (hp : PassesOwn (model X.prog X.w) X.A X.env X.xe) (hc : X.calm = true) (hi : PXI X cf tg iter ti) (hg : PXG X cf tg sl g) (hb : PXB X cf body sl' b) (hs : ∀ x, foldedSetIterable iter X.env x = pure x := by intro _; rfl) : PXS X cf (.For tg iter body [] pos) (sl ++ sl') (cFor ti g b) :=
  ps_imp (ps_for hp hc hi hg hb hs) fun D σ H q => for_imp q
end

/-! ### for k in d -/
theorem EnvOk.re {W : OC} {ρ : List Sl} {σ : L2.St} {F H : Hp} {p : Addr} {u o : HO} (E : EnvOk W ρ σ F H) (hF : F p = some u) (no : ∀ a, H p ≠ some (.own a)) (l : Live W F (upd H p o) p u) : EnvOk W ρ σ F (upd H p o) :=
  ⟨fun a v e => by
    by_cases ha : a = p
    · subst ha
      rw [hF] at e
      cases e
      exact l
    · exact (E.fs a v e).mono (Le.refl F) (fun b w hb q => by
        have ne : b ≠ p := by
          rcases hb with hb | hb
          · rw [hb]
            exact ha
          · intro z
            rw [z] at hb
            exact no a hb
        rw [upd_ne ne]
        exact q) fun b q _ => q, E.len, fun i s v h1 h2 => by
    have q := E.sl i s v h1 h2
    cases s with
    | no => exact True.intro
    | fr d => exact q
    | ow d =>
      obtain ⟨q1, e, n1, r⟩ := q
      have ne : q1 ≠ p := fun z => by
        rw [z, hF] at n1
        cases n1
      exact ⟨q1, e, n1, r.mono (Le.refl F) fun v h => by rw [upd_ne ne]; exact h⟩, E.dis⟩
theorem Ext.re {own : Addr → Prop} {F H F' H' : Hp} {p : Addr} {u o v : HO} (x : Ext own F (upd H p o) F' H') (hF : F p = some u) (nf : ∀ o u, H p ≠ some (.frz o u)) (nt : ∀ xs, H p ≠ some (.tup xs)) : Ext own F H F' (upd H' p v) :=
  ⟨x.f, fun a w e n no => by
    have ne : a ≠ p := fun z => by
      rw [z, hF] at n
      cases n
    obtain ⟨h1, h2⟩ := x.h a w (by rw [upd_ne ne]; exact e) n no
    exact ⟨by rw [upd_ne ne]; exact h1, h2⟩, fun a q w e => by
    have ne : a ≠ p := fun z => by
      rw [z] at e
      exact nf _ _ e
    rw [upd_ne ne]
    exact x.l a q w (by rw [upd_ne ne]; exact e), fun a xs e => by
    have ne : a ≠ p := fun z => by
      rw [z] at e
      exact nt _ e
    rw [upd_ne ne]
    exact x.t a xs (by rw [upd_ne ne]; exact e)⟩
theorem know_tup {W : OC} {G H : Hp} {q : Addr} {vs : List V} {xs : List D} (fs : FS W G H) (h : H q = some (.tup vs)) (hl : vs.length ≤ sizeLine) (r : RepL W G xs vs) : ∃ G', FS W G' H ∧ Rep W G' (.tup xs) (.ref q) ∧ Ext NoA G H G' H := by
  cases e : G q with
  | some u =>
    have l := fs q u e
    have eu : u = .tup vs := by
      cases u with
      | ins C dx fs =>
        obtain ⟨_, _, _, ⟨_, _, l⟩, _⟩ := l
        rcases l with l | ⟨_, l⟩ <;> (rw [h] at l; cases l)
      | dT kvs => rcases l with l | ⟨_, l⟩ <;> (rw [h] at l; cases l)
      | dK kvs => rcases l with l | ⟨_, l⟩ <;> (rw [h] at l; cases l)
      | _ => exact Option.some.inj (l.symm.trans h)
    subst eu
    exact ⟨G, fs, rep_tup e hl r, Ext.refl⟩
  | none =>
    refine ⟨upd G q (.tup vs), fs.freeze e (fun a z => by rw [h] at z; cases z) h, rep_tup upd_same hl (RepL.le (Le.new e) r), Le.new e, fun a o ha n _ => ⟨ha, ?_⟩, fun _ _ _ z => z, fun _ _ z => z⟩
    by_cases z : a = q
    · subst z
      rw [h] at ha
      cases ha
      exact .inr ⟨vs, rfl, upd_same⟩
    · rw [upd_ne z]
      exact .inl n
theorem RepT.key {W : OC} {F : Hp} : ∀ {ds : List (List Int × D)} {vs : List (List Key × V)} {i : Nat} {k : List Key} {v : V}, RepT W F ds vs → vs[i]? = some (k, v) → ∃ ns d, ds[i]? = some (ns, d) ∧ k = ns.map Sum.inl ∧ ns.length ≤ sizeLine
  | [], _, i, k, v, h, e => by
    rw [repT_nil] at h
    subst h
    cases e
  | (n, d) :: ds, _, i, k, v, h, e => by
    have h0 := h
    obtain ⟨v', r, rfl, h1, h⟩ := h.inv
    cases i with
    | zero =>
      cases e
      exact ⟨n, d, rfl, rfl, h0.klen⟩
    | succ i =>
      obtain ⟨a, b, h1, h2⟩ := RepT.key (ds := ds) h e
      exact ⟨a, b, h1, h2⟩
theorem RepK.key {W : OC} {F : Hp} : ∀ {ds : List (Int × D)} {vs : List (Key × V)} {i : Nat} {k : Key} {v : V}, RepK W F ds vs → vs[i]? = some (k, v) → ∃ n d, ds[i]? = some (n, d) ∧ k = Sum.inl n
  | [], _, i, k, v, h, e => by
    rw [repK_nil] at h
    subst h
    cases e
  | (n, d) :: ds, _, i, k, v, h, e => by
    obtain ⟨v', r, rfl, h1, h⟩ := h.inv
    cases i with
    | zero =>
      cases e
      exact ⟨n, d, rfl, rfl⟩
    | succ i =>
      obtain ⟨a, b, h1, h2⟩ := RepK.key (ds := ds) h e
      exact ⟨a, b, h1, h2⟩
def keysT (kvs : List (List Int × D)) : List D := kvs.map fun kv => Ov.tI kv.1
def keysK (kvs : List (Int × D)) : List D := kvs.map fun kv => D.int kv.1
theorem walkD_keysT {W : OC} {F : Hp} {p : Addr} {o : Obj} {kvs : List (List Int × D)} {vs : List (List Key × V)} (r : RepT W F kvs vs) : WalkD W (Itkt p o vs) (keysT kvs) F (fun H => H p = some (.frz o (.dT vs))) where
  stay _ _ _ _ _ x h := x.l _ _ _ h
  goes i G H hi le fs l := ⟨l, by rw [← r.length]; simpa [keysT] using hi⟩
  stops G H le fs l := ⟨l, by rw [← r.length]; simp [keysT]⟩
  yields i G H x H' hi le fs l y := by
    obtain ⟨rfl, k, v, q, y2, rfl, y4⟩ := y
    obtain ⟨ns, d, e1, rfl, hl⟩ := r.key y2
    rw [map_kV] at y4
    obtain ⟨G', f', r', x'⟩ := know_tup (xs := ns.map D.int) fs y4 (by rw [List.length_map]; exact hl) (repL_ints ns)
    exact ⟨G', Ov.tI ns, by simp [keysT, e1], f', r', x'⟩
theorem walkD_keysK {W : OC} {F : Hp} {p : Addr} {o : Obj} {kvs : List (Int × D)} {vs : List (Key × V)} (r : RepK W F kvs vs) : WalkD W (Itk p o vs) (keysK kvs) F (fun H => H p = some (.frz o (.dK vs))) where
  stay _ _ _ _ _ x h := x.l _ _ _ h
  goes i G H hi le fs l := ⟨l, by rw [← r.length]; simpa [keysK] using hi⟩
  stops G H le fs l := ⟨l, by rw [← r.length]; simp [keysK]⟩
  yields i G H x H' hi le fs l y := by
    obtain ⟨rfl, k, v, y2, rfl⟩ := y
    obtain ⟨n, d, e1, rfl⟩ := r.key y2
    exact ⟨G, .int n, by simp [keysK, e1], fs, by simp only [Rep]; rfl, Ext.refl⟩
def cForD (i : Nat) (g : Eg) (b : Es) : Es := fun ρ => (cV i ρ).bind fun p => match p.1 with
  | .dT kvs => forL g b (keysT kvs) p.2
  | .dK kvs => forL g b (keysK kvs) p.2
  | _ => none
/-- the slot's value, known from now on -/
theorem EnvOk.cV {W : OC} {ρ ρ1 : List Sl} {σ : L2.St} {F H : Hp} {i : Nat} {d : D} (E : EnvOk W ρ σ F H) (h : Ov.cV i ρ = some (d, ρ1)) : ∃ v F1, σ[i]? = some (some v) ∧ EnvOk W ρ1 σ F1 H ∧ Rep W F1 d v ∧ Ext (Own ρ σ) F H F1 H ∧ ∀ a, Own ρ1 σ a → Own ρ σ a := by
  unfold Ov.cV at h
  split at h
  · rename_i d0 e0
    cases h
    obtain ⟨v, e, r⟩ := E.get e0
    exact ⟨v, F, e, E, r, Ext.refl, fun _ z => z⟩
  · rename_i d0 e0
    cases h
    obtain ⟨p, e, n, r⟩ := E.own e0
    obtain ⟨u, hu, fs, rr⟩ := r.freeze E.fs n
    exact ⟨_, _, e, E.drop e0 e fs n rr, rr, Ext.refl.freeze n (.inr ⟨i, d, e0, e⟩), fun _ => Own.set⟩
  · cases h
/-- a known dict, the loop over its keys while it is locked -/
theorem forD_core {W : OC} {En : Ends} {σ : L2.St} {F H F1 : Hp} {ds : List D} {u : HO} {p : Addr} {g : Eg} {sl sl' : List Nat} {b : Es} {fl : Fl} {ρ ρ1 ρ' : List Sl} {wi : TI} (E : EnvOk W ρ σ F H) (E1 : EnvOk W ρ1 σ F1 H)
    (x1 : Ext (Own ρ σ) F H F1 H) (o1 : ∀ a, Own ρ1 σ a → Own ρ σ a) (hc : forL g b ds ρ1 = some (fl, ρ'))
    (k : ∀ σ' F' H', EnvOk W ρ' σ' F' H' → Ext (Own ρ σ) F H F' H' → (∀ a, Own ρ' σ' a → Own ρ σ a ∨ H a = none) → (∀ j : Nat, j ∉ sl ++ sl' → σ'[j]? = σ[j]?) → Post W En fl (Own ρ σ) H ρ' σ' F' H')
    (hF : F1 p = some u) (hu : (∃ kvs, u = .dT kvs) ∨ ∃ kvs, u = .dK kvs)
    (st : ∀ (o : Obj) (H1 : Hp) (En1 : Ends), H1 p = some (.frz o u) → (∀ (J : It), WalkD W J ds F1 (fun H => H p = some (.frz o u)) →
        ∃ Wt : Nat → Nat → L2.St → Hp → Prop, (∃ m, Wt 0 m σ H1) ∧ ∀ i m σ H, Wt i m σ H →
        (J.stop i H ∧ En1.nx σ H) ∨ (J.go i H ∧ ∃ N : L2.St → Hp → Prop, (∀ σ' H', N σ' H' → ∃ m', m' < m ∧ Wt (i + 1) m' σ' H') ∧ ∀ x H', J.yld i H x H' → tG W sl g x σ H' fun σ2 H2 => tS W sl' b { En1 with nx := N, ct := N, bk := En1.nx } σ2 H2)) →
        tFor wi (tG W sl g) (tS W sl' b) En1 σ H1) : tLock (tFor wi (tG W sl g) (tS W sl' b)) En σ H ∨ tFor wi (tG W sl g) (tS W sl' b) En σ H := by
  have live : H p = some u ∨ ∃ o, H p = some (.frz o u) := by
    have l := E1.fs p u hF
    rcases hu with ⟨kvs, rfl⟩ | ⟨kvs, rfl⟩ <;> exact l
  rcases live with live | ⟨o, live⟩
  · refine .inl ⟨p, u, live, by rcases hu with ⟨kvs, rfl⟩ | ⟨kvs, rfl⟩ <;> exact True.intro, fun od => ?_⟩
    have nown : ∀ a, H p ≠ some (.own a) := fun a z => by
      rw [live] at z
      rcases hu with ⟨kvs, rfl⟩ | ⟨kvs, rfl⟩ <;> cases z
    have nf : ∀ o u, H p ≠ some (.frz o u) := fun a b z => by
      rw [live] at z
      rcases hu with ⟨kvs, rfl⟩ | ⟨kvs, rfl⟩ <;> cases z
    have nt : ∀ xs, H p ≠ some (.tup xs) := fun a z => by
      rw [live] at z
      rcases hu with ⟨kvs, rfl⟩ | ⟨kvs, rfl⟩ <;> cases z
    have EL : EnvOk W ρ1 σ F1 (upd H p (.frz od u)) := E1.re hF nown (by
      rcases hu with ⟨kvs, rfl⟩ | ⟨kvs, rfl⟩ <;> exact .inr ⟨od, upd_same⟩)
    refine st od _ _ upd_same fun J w => for_core (F := F1) (ρ := ρ1) (fl := fl) (ρ' := ρ') EL w upd_same EL Ext.refl (fun _ z => z) hc fun σ' F' H' E' x' o' kp => ?_
    have fz : H' p = some (.frz od u) := x'.l p od u upd_same
    have E2 : EnvOk W ρ' σ' F' (upd H' p u) := E'.re (x'.f _ _ hF) (fun a z => by rw [fz] at z; cases z) (by
      rcases hu with ⟨kvs, rfl⟩ | ⟨kvs, rfl⟩ <;> exact .inl upd_same)
    have x2 : Ext (Own ρ1 σ) F1 H F' (upd H' p u) := x'.re hF nf nt
    have x := x1.trans x2 fun q z => .inl (o1 q z)
    have pn : ∀ a, upd H p (.frz od u) a = none → H a = none := fun a z => by
      by_cases ea : a = p
      · rw [ea, upd_same] at z
        cases z
      · rw [upd_ne ea] at z
        exact z
    have q := k σ' F' (upd H' p u) E2 x (fun a z => by
      rcases o' a z with z | z
      · exact .inl (o1 a z)
      · exact .inr (pn a z)) kp
    cases fl with
    | nx => exact ⟨fz, q⟩
    | bk => exact ⟨fz, q⟩
    | ct => exact ⟨fz, q⟩
    | rt d => exact fun v r => ⟨fz, q v r⟩
    | ro d =>
      refine fun a g1 g2 g3 g4 => ⟨fz, q a ?_ g2 g3 ?_⟩
      · refine g1.mono (Le.refl F') fun v hv => ?_
        have ne : a ≠ p := fun z => by
          rw [z, x'.f _ _ hF] at g2
          cases g2
        rw [upd_ne ne]
        exact hv
      · rcases g4 with z | z
        · exact .inl (pn a z)
        · exact .inr (o1 a z)
  · exact .inr (st o H En live fun J w => for_core E w live E1 x1 o1 hc k)
section
variable {X : Cx} {cf : List D → D → Prop} {tg iter : Expr} {body : List Stmt} {g : Eg} {sl sl' : List Nat} {b : Es} {pos : Pos} {i : Nat}
theorem s_forD (hp : PassesOwn (model X.prog X.w) X.A X.env X.xe) (hc : X.calm = true) (hi : PE X iter (tVar i)) (hg : PXG X cf tg sl g) (hb : PXB X cf body sl' b) (hs : ∀ x, foldedSetIterable iter X.env x = pure x := by intro _; rfl) : PXS X cf (.For tg iter body [] pos) (sl ++ sl') (cForD i g b) := by
  have h1 := ps_for (pos := pos) hp hc (pi_keys (tg := tg) hi) hg hb hs
  have h2 := ps_lock h1
  refine ⟨fun pins s σ H En I q => ?_⟩
  suffices z : tLock (tFor (iKeys (tVar i)) (tG ⟨X.K, cf⟩ sl g) (tS ⟨X.K, cf⟩ sl' b)) En σ H ∨ tFor (iKeys (tVar i)) (tG ⟨X.K, cf⟩ sl g) (tS ⟨X.K, cf⟩ sl' b) En σ H by
    rcases z with z | z
    · exact h2.run pins s σ H En I z
    · exact h1.run pins s σ H En I z
  obtain ⟨ρ, F, fl, ρ', E, hc, k⟩ := q
  obtain ⟨⟨d, ρ1⟩, h1, hc⟩ := ob hc
  obtain ⟨v, F1, es, E1, r1, x1, o1⟩ := E.cV h1
  cases d with
  | dT kvs =>
    simp only [Rep] at r1
    obtain ⟨p, vs, rfl, hF, r⟩ := r1
    exact forD_core (u := .dT vs) (p := p) E E1 x1 o1 hc k hF (.inl ⟨_, rfl⟩) fun o H1 En1 hf st => ⟨_, es, p, o, rfl, .inr ⟨vs, hf, st _ (walkD_keysT r)⟩⟩
  | dK kvs =>
    simp only [Rep] at r1
    obtain ⟨p, vs, rfl, hF, r⟩ := r1
    exact forD_core (u := .dK vs) (p := p) E E1 x1 o1 hc k hF (.inr ⟨_, rfl⟩) fun o H1 En1 hf st => ⟨_, es, p, o, rfl, .inl ⟨vs, hf, st _ (walkD_keysK r)⟩⟩
  | _ => cases hc
end
end Ov
/-! Ov: list comprehensions. -/
namespace Ov
open PySem PySem.Spec PyProof.Rows L2

def wipR (ρ : List Sl) : List Nat → List Sl
  | [] => ρ
  | v :: vs => (wipR ρ vs).set v .no
def restR (ρ0 ρ : List Sl) : List Nat → List Sl
  | [] => ρ
  | v :: vs => (restR ρ0 ρ vs).set v (match ρ0[v]? with | some (.fr d) => .fr d | _ => .no)
theorem wipR_length (ρ : List Sl) : ∀ vs, (wipR ρ vs).length = ρ.length
  | [] => rfl
  | v :: vs => by rw [wipR, List.length_set, wipR_length ρ vs]
theorem restR_length (ρ0 ρ : List Sl) : ∀ vs, (restR ρ0 ρ vs).length = ρ.length
  | [] => rfl
  | v :: vs => by rw [restR, List.length_set, restR_length ρ0 ρ vs]
theorem wipR_out {ρ : List Sl} {i : Nat} : ∀ {vs : List Nat}, i ∉ vs → (wipR ρ vs)[i]? = ρ[i]?
  | [], _ => rfl
  | v :: vs, h => by
    rw [wipR, List.getElem?_set_ne (fun e => h (by rw [e]; exact List.mem_cons_self))]
    exact wipR_out fun m => h (List.mem_cons_of_mem _ m)
theorem wipR_in {ρ : List Sl} {i : Nat} {s : Sl} : ∀ {vs : List Nat}, i ∈ vs → (wipR ρ vs)[i]? = some s → s = .no
  | v :: vs, h, e => by
    rw [wipR] at e
    rcases set_get? e with ⟨_, z, _⟩ | ⟨ne, e⟩
    · exact z
    · rcases List.mem_cons.mp h with z | z
      · exact (ne z).elim
      · exact wipR_in z e
theorem restR_out {ρ0 ρ : List Sl} {i : Nat} : ∀ {vs : List Nat}, i ∉ vs → (restR ρ0 ρ vs)[i]? = ρ[i]?
  | [], _ => rfl
  | v :: vs, h => by
    rw [restR, List.getElem?_set_ne (fun e => h (by rw [e]; exact List.mem_cons_self))]
    exact restR_out fun m => h (List.mem_cons_of_mem _ m)
theorem restR_in {ρ0 ρ : List Sl} {i : Nat} {s : Sl} : ∀ {vs : List Nat}, i ∈ vs → (restR ρ0 ρ vs)[i]? = some s → s = .no ∨ ∃ d, s = .fr d ∧ ρ0[i]? = some (.fr d)
  | v :: vs, h, e => by
    rw [restR] at e
    rcases set_get? e with ⟨ev, z, _⟩ | ⟨ne, e⟩
    · rw [ev]
      split at z
      · rename_i d0 e0
        exact .inr ⟨d0, z, e0⟩
      · exact .inl z
    · rcases List.mem_cons.mp h with z | z
      · exact (ne z).elim
      · exact restR_in z e
theorem wipe_in {σ : L2.St} {i : Nat} : ∀ {vs : List Nat}, i ∈ vs → (wipe σ vs)[i]? = if i < σ.length then some none else none
  | v :: vs, h => by
    rw [wipe, List.getElem?_set]
    by_cases e : v = i
    · subst e
      rw [if_pos rfl, wipe_length]
    · rw [if_neg e]
      rcases List.mem_cons.mp h with z | z
      · exact (e z.symm).elim
      · exact wipe_in z
theorem wipe_same {σ σ2 : L2.St} {vs sl : List Nat} (hs : ∀ j ∈ sl, j ∈ vs) (hl : σ2.length = σ.length) (hk : ∀ j : Nat, j ∉ sl → σ2[j]? = (wipe σ vs)[j]?) : wipe σ2 vs = wipe σ vs := by
  apply List.ext_getElem?
  intro j
  by_cases h : j ∈ vs
  · rw [wipe_in h, wipe_in h, hl]
  · rw [wipe_out h, hk j fun z => h (hs j z)]
theorem EnvOk.wip {W : OC} {ρ : List Sl} {σ σ2 : L2.St} {F H : Hp} {vs : List Nat} (E : EnvOk W ρ σ2 F H) (h : wipe σ2 vs = wipe σ vs) : EnvOk W (wipR ρ vs) (wipe σ vs) F H := by
  rw [← h]
  refine E.weak (by rw [wipR_length, wipe_length]; exact E.len) fun i s o h1 h2 => ?_
  by_cases hi : i ∈ vs
  · exact .inl (wipR_in hi h1)
  · rw [wipR_out hi] at h1
    rw [wipe_out hi] at h2
    exact .inr ⟨h1, h2⟩
theorem Own.wip {ρ : List Sl} {σ σ2 : L2.St} {vs : List Nat} {a : Addr} (h : wipe σ2 vs = wipe σ vs) (o : Own (wipR ρ vs) (wipe σ vs) a) : Own ρ σ2 a := by
  obtain ⟨i, d, h1, h2⟩ := o
  rw [← h] at h2
  by_cases hi : i ∈ vs
  · cases wipR_in hi h1
  · rw [wipR_out hi] at h1
    rw [wipe_out hi] at h2
    exact ⟨i, d, h1, h2⟩
/-- slots that are wiped in the frame of data say nothing of the store -/
theorem EnvOk.unwip {W : OC} {ρ : List Sl} {σ : L2.St} {F H : Hp} {vs : List Nat} (E : EnvOk W ρ (wipe σ vs) F H) : EnvOk W (wipR ρ vs) σ F H :=
  E.weak (by rw [wipR_length, E.len, wipe_length]) fun i s o h1 h2 => by
    by_cases hi : i ∈ vs
    · exact .inl (wipR_in hi h1)
    · rw [wipR_out hi] at h1
      exact .inr ⟨h1, by rw [wipe_out hi]; exact h2⟩
theorem Own.unwip {ρ : List Sl} {σ : L2.St} {vs : List Nat} {a : Addr} (o : Own (wipR ρ vs) σ a) : Own ρ (wipe σ vs) a := by
  obtain ⟨i, d, h1, h2⟩ := o
  by_cases hi : i ∈ vs
  · cases wipR_in hi h1
  · rw [wipR_out hi] at h1
    exact ⟨i, d, h1, by rw [wipe_out hi]; exact h2⟩
theorem EnvOk.rest {W : OC} {ρ0 ρ : List Sl} {σ : L2.St} {F0 H0 F H : Hp} {vs : List Nat} (E0 : EnvOk W ρ0 σ F0 H0) (E : EnvOk W ρ (wipe σ vs) F H) (le : Le F0 F) : EnvOk W (restR ρ0 ρ vs) σ F H :=
  ⟨E.fs, by rw [restR_length, E.len, wipe_length], fun i s o h1 h2 => by
    by_cases hi : i ∈ vs
    · rcases restR_in hi h1 with z | ⟨d, z, h0⟩
      · subst z
        exact True.intro
      · subst z
        obtain ⟨v, e, r⟩ := E0.get h0
        rw [h2] at e
        cases e
        exact ⟨v, rfl, Rep.le le r⟩
    · rw [restR_out hi] at h1
      exact E.sl i s o h1 (by rw [wipe_out hi]; exact h2), fun i j di dj p h1 h2 h3 h4 => by
    have f : ∀ {i : Nat} {di : D}, (restR ρ0 ρ vs)[i]? = some (.ow di) → σ[i]? = some (some (V.ref p)) → ρ[i]? = some (.ow di) ∧ (wipe σ vs)[i]? = some (some (V.ref p)) := fun {i di} h1 h3 => by
      by_cases hi : i ∈ vs
      · rcases restR_in hi h1 with z | ⟨d, z, h0⟩ <;> cases z
      · rw [restR_out hi] at h1
        exact ⟨h1, by rw [wipe_out hi]; exact h3⟩
    exact E.dis i j di dj p (f h1 h3).1 (f h2 h4).1 (f h1 h3).2 (f h2 h4).2⟩
theorem Own.rest {ρ0 ρ : List Sl} {σ : L2.St} {vs : List Nat} {a : Addr} (o : Own (restR ρ0 ρ vs) σ a) : Own ρ (wipe σ vs) a := by
  obtain ⟨i, d, h1, h3⟩ := o
  by_cases hi : i ∈ vs
  · rcases restR_in hi h1 with z | ⟨d, z, h0⟩ <;> cases z
  · rw [restR_out hi] at h1
    exact ⟨i, d, h1, by rw [wipe_out hi]; exact h3⟩
/-- a write at a place that is neither known nor a slot's own -/
theorem EnvOk.wr {W : OC} {ρ : List Sl} {σ : L2.St} {F H : Hp} {p : Addr} {o : HO} (E : EnvOk W ρ σ F H) (n : F p = none) (no : ∀ a, H p ≠ some (HO.own a)) (nw : ¬ Own ρ σ p) : EnvOk W ρ σ F (upd H p o) :=
  ⟨E.fs.write n no, E.len, fun i s v h1 h2 => by
    have q := E.sl i s v h1 h2
    cases s with
    | no => exact True.intro
    | fr d => exact q
    | ow d =>
      obtain ⟨q1, e, n1, r⟩ := q
      have ne : q1 ≠ p := fun z => nw ⟨i, d, h1, by rw [h2, e, z]⟩
      exact ⟨q1, e, n1, r.mono (Le.refl F) fun v h => by rw [upd_ne ne]; exact h⟩, E.dis⟩

/-- a step of a comprehension: what it appends -/
abbrev Ek := List Sl → Option (List D × List Sl)
abbrev TK := Addr → L2.St → Hp → (Hp → Prop) → Prop
/-- the own things and the new list -/
abbrev OwnD (ρ : List Sl) (σ : L2.St) (L : Addr) : Addr → Prop := fun a => Own ρ σ a ∨ a = L
def AtL (W : OC) (F H : Hp) (L : Addr) (xs : List D) : Prop := ∃ vs, H L = some (.lst vs) ∧ F L = none ∧ RepL W F xs vs
theorem AtL.step {W : OC} {own : Addr → Prop} {F H F' H' : Hp} {L : Addr} {xs : List D} (h : AtL W F H L xs) (x : Ext own F H F' H') (no : ¬ own L) : AtL W F' H' L xs := by
  obtain ⟨vs, h1, h2, h3⟩ := h
  obtain ⟨g1, g2⟩ := x.h L _ h1 h2 no
  refine ⟨vs, g1, ?_, RepL.le x.f h3⟩
  rcases g2 with g2 | ⟨_, g2, _⟩
  · exact g2
  · cases g2
def StOk (W : OC) (st : Ek) (T : TK) : Prop := ∀ (L : Addr) (σ : L2.St) (H : Hp) (Nx : Hp → Prop) (ρ : List Sl) (F : Hp) (xs out : List D) (ρ' : List Sl), EnvOk W ρ σ F H → AtL W F H L xs → ¬ Own ρ σ L → st ρ = some (out, ρ') → xs.length + out.length ≤ sizeLine →
  (∀ F' H', EnvOk W ρ' σ F' H' → Ext (OwnD ρ σ L) F H F' H' → (∀ a, Own ρ' σ a → Own ρ σ a) → AtL W F' H' L (xs ++ out) → Nx H') → T L σ H Nx
/-- the step of a plain comprehension -/
def stE (tt : Et) (te : Ev) : Ek := fun ρ => (tt ρ).bind fun p => if p.1 = true then (te p.2).bind fun q => some ([q.1], q.2) else some ([], p.2)
def tkE (tt : TT) (te : TE) : TK := fun L σ2 H2 Nx => tt σ2 H2 fun b H3 => if b = true then te σ2 H3 fun y H4 => ∃ acc, H4 L = some (.lst acc) ∧ acc.length < sizeLine ∧ Nx (upd H4 L (.lst (acc ++ [y]))) else Nx H3
theorem stOk_E {W : OC} {tt : Et} {te : Ev} : StOk W (stE tt te) (tkE (tT W tt) (tX W te)) := by
  intro L σ H Nx ρ F xs out ρ' E at0 no hs hl k
  obtain ⟨⟨b, ρ1⟩, h1, hs⟩ := ob hs
  refine ⟨ρ, F, b, ρ1, E, h1, fun F1 H1 E1 x1 o1 => ?_⟩
  have at1 := at0.step x1 no
  cases b with
  | false =>
    cases hs
    refine iteF (k F1 H1 E1 (x1.mono fun _ => .inl) o1 ?_)
    rw [List.append_nil]
    exact at1
  | true =>
    obtain ⟨⟨d, ρ2⟩, h2, hs⟩ := ob hs
    cases hs
    refine iteT ⟨ρ1, F1, d, _, E1, h2, fun v F2 H2 E2 r2 x2 o2 => ?_⟩
    obtain ⟨vs, g1, g2, g3⟩ := at1.step x2 fun z => no (o1 _ z)
    have hz : vs.length < sizeLine := by
      rw [← g3.length]
      have hl' : xs.length + 1 ≤ sizeLine := by simpa using hl
      exact hl'
    have nw : ¬ Own ρ2 σ L := fun z => no (o1 _ (o2 _ z))
    refine ⟨vs, g1, hz, k F2 _ (E2.wr g2 (fun a z => by rw [g1] at z; cases z) nw) ?_ (fun a z => o1 a (o2 a z)) ⟨_, upd_same, g2, g3.append (repL_cons r2 (repL_nil.mpr rfl))⟩⟩
    have x12 : Ext (OwnD ρ σ L) F H F2 H2 := (x1.trans x2 fun p z => .inl (o1 p z)).mono fun _ => .inl
    exact x12.trans (Ext.write (own := fun a => a = L) rfl (fun o u z => by rw [g1] at z; cases z) fun xs z => by rw [g1] at z; cases z) fun p z => .inl (.inr z)
/-- the turns -/
def lcG (vs : List Nat) (g : Eg) (st : Ek) : List D → Ek
  | [] => fun ρ => some ([], ρ)
  | d :: ds => fun ρ => (g d ρ).bind fun ρ1 => (st ρ1).bind fun q => (lcG vs g st ds (wipR q.2 vs)).bind fun r => some (q.1 ++ r.1, r.2)
theorem lc_loop {W : OC} {st : Ek} {T : TK} {L : Addr} {σ : L2.St} {F1 H1 : Hp} {ds out xs : List D} {J : It} {Lk : Hp → Prop} {g : Eg} {sl vs : List Nat} {ρ1 ρ' : List Sl} {End : Hp → Prop} (hst : StOk W st T) (hsl : ∀ j ∈ sl, j ∈ vs) (w : WalkD W J ds F1 Lk) (hL : Lk H1)
    (E1 : EnvOk W ρ1 σ F1 H1) (at1 : AtL W F1 H1 L xs) (no : ¬ Own ρ1 σ L) (hc : lcG vs g st ds (wipR ρ1 vs) = some (out, ρ')) (hl : xs.length + out.length ≤ sizeLine)
    (k : ∀ F' H', EnvOk W ρ' (wipe σ vs) F' H' → Ext (OwnD ρ1 σ L) F1 H1 F' H' → (∀ a, Own ρ' (wipe σ vs) a → Own ρ1 σ a) → AtL W F' H' L (xs ++ out) → End H') :
    ∃ Wt : Nat → Nat → Hp → Prop, (∃ m, Wt 0 m H1) ∧ ∀ i m H, Wt i m H →
      (J.stop i H ∧ End H) ∨ (J.go i H ∧ ∃ Nx : Hp → Prop, (∀ H', Nx H' → ∃ m', m' < m ∧ Wt (i + 1) m' H') ∧ ∀ x H', J.yld i H x H' → tG W sl g x (wipe σ vs) H' fun σ2 H2 => wipe σ2 vs = wipe σ vs ∧ T L σ2 H2 Nx) := by
  let P : Nat → Hp → Prop := fun i Hi => ∃ ρi Fi xi oi, EnvOk W ρi (wipe σ vs) Fi Hi ∧ Lk Hi ∧ Le F1 Fi ∧ Ext (OwnD ρ1 σ L) F1 H1 Fi Hi ∧ (∀ a, Own ρi (wipe σ vs) a → Own ρ1 σ a) ∧ AtL W Fi Hi L xi ∧ lcG vs g st (ds.drop i) ρi = some (oi, ρ') ∧ xi ++ oi = xs ++ out
  have tot : (xs ++ out).length ≤ sizeLine := by rw [List.length_append]; exact hl
  refine ⟨fun i m Hi => m = ds.length - i ∧ i ≤ ds.length ∧ P i Hi, ⟨ds.length, by simp, Nat.zero_le _, wipR ρ1 vs, F1, xs, out, E1.wip rfl, hL, Le.refl F1, Ext.refl, fun a z => z.wip rfl, at1, by rw [List.drop_zero]; exact hc, rfl⟩, ?_⟩
  rintro i m Hi ⟨rfl, hi, ρi, Fi, xi, oi, Ei, Li, lei, exi, owi, ati, ci, tl⟩
  by_cases hlt : i < ds.length
  · refine .inr ⟨w.goes i Fi Hi hlt lei Ei.fs Li, P (i + 1), fun H' p' => ⟨ds.length - (i + 1), by omega, rfl, hlt, p'⟩, fun x H' y => ?_⟩
    obtain ⟨G, d, hd, fsG, rG, xG⟩ := w.yields i Fi Hi x H' hlt lei Ei.fs Li y
    have hd' : ds.drop i = d :: ds.drop (i + 1) := by
      rw [List.drop_eq_getElem_cons hlt]
      have := (List.getElem?_eq_some_iff.mp hd).2
      rw [this]
    rw [hd'] at ci
    obtain ⟨ρ2, hg, ci⟩ := ob (show (g d ρi).bind _ = _ from ci)
    obtain ⟨⟨o1, ρ3⟩, hs, ci⟩ := ob ci
    obtain ⟨⟨o2, ρ4⟩, hr, ci⟩ := ob ci
    cases ci
    have EG := Ei.ext fsG xG
    have atG := ati.step xG fun z => z
    have noi : ¬ Own ρi (wipe σ vs) L := fun z => no (owi _ z)
    refine ⟨ρi, G, d, ρ2, EG, rG, hg, fun σ2 E2 ow2 l2 k2 => ?_⟩
    have hw : wipe σ2 vs = wipe σ vs := wipe_same hsl (by rw [l2, wipe_length]) k2
    refine ⟨hw, hst L σ2 H' (P (i + 1)) ρ2 G xi o1 ρ3 E2 atG (fun z => noi (ow2 _ z)) hs ?_ fun F3 H3 E3 x3 ow3 at3 => ?_⟩
    · rw [← tl] at tot
      simp only [List.length_append] at tot
      omega
    have own2 : ∀ a, OwnD ρ2 σ2 L a → OwnD ρ1 σ L a := fun a z => by
      rcases z with z | z
      · exact .inl (owi a (ow2 a z))
      · exact .inr z
    have x : Ext (OwnD ρ1 σ L) F1 H1 F3 H3 := (exi.trans xG fun p z => z.elim).trans x3 fun p z => .inl (own2 p z)
    exact ⟨wipR ρ3 vs, F3, xi ++ o1, o2, E3.wip hw, w.stay _ _ _ _ _ x3 (w.stay _ _ _ _ _ xG Li), (lei.trans xG.f).trans x3.f, x, fun a z => owi a (ow2 a (ow3 a (z.wip hw))), at3, hr, by rw [List.append_assoc]; exact tl⟩
  · have e : i = ds.length := by omega
    subst e
    rw [List.drop_length] at ci
    cases ci
    refine .inl ⟨w.stops Fi Hi lei Ei.fs Li, k Fi Hi Ei exi owi ?_⟩
    rw [List.append_nil] at tl
    rw [← tl]
    exact ati
theorem lcG_len {vs : List Nat} {g : Eg} {st : Ek} (h : ∀ ρ o ρ', st ρ = some (o, ρ') → o.length ≤ 1) : ∀ {ds out : List D} {ρ ρ' : List Sl}, lcG vs g st ds ρ = some (out, ρ') → out.length ≤ ds.length
  | [], out, ρ, ρ', e => by
    cases e
    exact Nat.le_refl _
  | d :: ds, out, ρ, ρ', e => by
    obtain ⟨ρ2, hg, e⟩ := ob (show (g d ρ).bind _ = _ from e)
    obtain ⟨⟨o1, ρ3⟩, hs, e⟩ := ob e
    obtain ⟨⟨o2, ρ4⟩, hr, e⟩ := ob e
    cases e
    have h1 := h _ _ _ hs
    have h2 := lcG_len h hr
    simp only [List.length_append, List.length_cons]
    omega
theorem stE_len {tt : Et} {te : Ev} (ρ : List Sl) (o : List D) (ρ' : List Sl) (h : stE tt te ρ = some (o, ρ')) : o.length ≤ 1 := by
  obtain ⟨⟨b, ρ1⟩, h1, h⟩ := ob h
  cases b with
  | false =>
    cases h
    exact Nat.zero_le _
  | true =>
    obtain ⟨⟨d, ρ2⟩, h2, h⟩ := ob h
    cases h
    exact Nat.le_refl _
def cLc (vs : List Nat) (it : Ei) (g : Eg) (tt : Et) (te : Ev) : Ev := fun ρ => (it ρ).bind fun p => (lcG vs g (stE tt te) p.1 (wipR p.2 vs)).bind fun q => some (.lst q.1, restR p.2 q.2 vs)
/-- the new list comes out -/
theorem lc_out {W : OC} {σ : L2.St} {F H F1 H1 : Hp} {ρ ρ1 ρ2 : List Sl} {L : Addr} {xs : List D} {vs : List Nat} {Q : VK} (E : EnvOk W ρ σ F H) (E1 : EnvOk W ρ1 σ F1 H1) (x1 : Ext (Own ρ σ) F H F1 H1) (o1 : ∀ a, Own ρ1 σ a → Own ρ σ a) (hL : H1 L = none) (hl : xs.length ≤ sizeLine)
    (k : ∀ p F' H', EnvOk W (restR ρ1 ρ2 vs) σ F' H' → OwnAt W F' H' p (.lst xs) → F' p = none → ¬ Own (restR ρ1 ρ2 vs) σ p → (H p = none ∨ Own ρ σ p) → Ext (Own ρ σ) F H F' H' → (∀ a, Own (restR ρ1 ρ2 vs) σ a → Own ρ σ a) → Q (.ref p) H')
    (F' H' : Hp) (E2 : EnvOk W ρ2 (wipe σ vs) F' H') (x2 : Ext (OwnD ρ1 σ L) F1 (upd H1 L (.lst [])) F' H') (o2 : ∀ a, Own ρ2 (wipe σ vs) a → Own ρ1 σ a) (at2 : AtL W F' H' L xs) : Q (.ref L) H' := by
  obtain ⟨ws, g1, g2, g3⟩ := at2
  have x : Ext (Own ρ σ) F H F' H' := by
    refine x1.trans (own1 := Own ρ1 σ) ?_ fun p z => .inl (o1 p z)
    refine (Ext.laid E1.fs hL).trans x2 fun p z => ?_
    rcases z with z | z
    · exact .inl z
    · exact .inr (by rw [z]; exact hL)
  refine k L F' H' (E1.rest E2 x2.f) ⟨ws, g1, by rw [← g3.length]; exact hl, g3⟩ g2 (fun z => E1.ownNone hL (o2 _ z.rest)) (x1.back E hL g2 x2.f) x fun a z => o1 a (o2 a z.rest)
theorem lc_imp {W : OC} {σ : L2.St} {H : Hp} {Q : VK} {ti : Ei} {g : Eg} {sl vs : List Nat} {tt : Et} {te : Ev} (hsl : ∀ j ∈ sl, j ∈ vs) (h : tO W (cLc vs ti g tt te) σ H Q) : tLc (tI' W ti) (tG W sl g) (tT W tt) (tX W te) vs σ H Q := by
  obtain ⟨ρ, F, d, ρ', E, hc, k⟩ := h
  obtain ⟨⟨ds, ρ1⟩, h1, hc⟩ := ob hc
  obtain ⟨⟨out, ρ2⟩, h2, hc⟩ := ob hc
  cases hc
  refine ⟨ρ, F, ds, ρ1, E, h1, fun J Lk F1 H1 E1 hl w hL x1 o1 L hLn => ?_⟩
  have ol : out.length ≤ sizeLine := Nat.le_trans (lcG_len stE_len h2) hl
  exact lc_loop (T := tkE (tT W tt) (tX W te)) (xs := []) (L := L) stOk_E hsl w (w.stay _ _ _ _ _ (Ext.laid (own := NoA) E1.fs hLn) hL) (E1.ext (E1.fs.laid hLn) (Ext.laid E1.fs hLn)) ⟨[], upd_same, E1.fs.free hLn, repL_nil.mpr rfl⟩ (E1.ownNone hLn) h2 (by simpa using ol)
    (lc_out E E1 x1 o1 hLn ol k)
/-- two clauses -/
def stI (vs1 : List Nat) (tt : Et) (it : Ei) (g : Eg) (st : Ek) : Ek := fun ρ => (tt ρ).bind fun p => if p.1 = true then (it p.2).bind fun q => (lcG vs1 g st q.1 (wipR q.2 vs1)).bind fun r => some (r.1, wipR r.2 vs1) else some ([], p.2)
def tkI (vs1 : List Nat) (tt : TT) (wi1 : TI) (g1 : TG) (T : TK) : TK := fun L σ2 H2 Nx => tt σ2 H2 fun b H3 =>
    if b = true then wi1 σ2 H3 fun J1 H4 => ∃ W1 : Nat → Nat → Hp → Prop, (∃ m, W1 0 m H4) ∧ ∀ j k H, W1 j k H →
      (J1.stop j H ∧ Nx H) ∨ (J1.go j H ∧ ∃ Nx1 : Hp → Prop, (∀ H', Nx1 H' → ∃ k', k' < k ∧ W1 (j + 1) k' H') ∧ ∀ x H', J1.yld j H x H' → g1 x (wipe σ2 vs1) H' fun σ3 H5 => wipe σ3 vs1 = wipe σ2 vs1 ∧ T L σ3 H5 Nx1)
    else Nx H3
theorem stOk_I {W : OC} {tt : Et} {ti : Ei} {g : Eg} {st : Ek} {T : TK} {sl vs1 : List Nat} (hsl : ∀ j ∈ sl, j ∈ vs1) (hst : StOk W st T) : StOk W (stI vs1 tt ti g st) (tkI vs1 (tT W tt) (tI' W ti) (tG W sl g) T) := by
  intro L σ H Nx ρ F xs out ρ' E at0 no hs hl k
  obtain ⟨⟨b, ρ1⟩, h1, hs⟩ := ob hs
  refine ⟨ρ, F, b, ρ1, E, h1, fun F1 H1 E1 x1 o1 => ?_⟩
  have at1 := at0.step x1 no
  cases b with
  | false =>
    cases hs
    refine iteF (k F1 H1 E1 (x1.mono fun _ => .inl) o1 ?_)
    rw [List.append_nil]
    exact at1
  | true =>
    obtain ⟨⟨ds, ρ2⟩, h2, hs⟩ := ob hs
    obtain ⟨⟨o, ρ3⟩, h3, hs⟩ := ob hs
    cases hs
    refine iteT ⟨ρ1, F1, ds, ρ2, E1, h2, fun J Lk F2 H2 E2 hlen w hL x2 o2 => ?_⟩
    have at2 := at1.step x2 fun z => no (o1 _ z)
    refine lc_loop hst hsl w hL E2 at2 (fun z => no (o1 _ (o2 _ z))) h3 hl fun F3 H3 E3 x3 o3 at3 => k F3 H3 E3.unwip ?_ (fun a z => o1 a (o2 a (o3 a z.unwip))) at3
    have x12 : Ext (OwnD ρ σ L) F H F2 H2 := (x1.trans x2 fun p z => .inl (o1 p z)).mono fun _ => .inl
    refine x12.trans x3 fun p z => .inl ?_
    rcases z with z | z
    · exact .inl (o1 p (o2 p z))
    · exact .inr z
def cLc2 (vs vs1 : List Nat) (it : Ei) (g : Eg) (tt : Et) (it1 : Ei) (g1 : Eg) (tt1 : Et) (te : Ev) : Ev := fun ρ => (it ρ).bind fun p => (lcG vs g (stI vs1 tt it1 g1 (stE tt1 te)) p.1 (wipR p.2 vs)).bind fun q => if q.1.length ≤ 16777216 then some (.lst q.1, restR p.2 q.2 vs) else none
theorem lc2_imp {W : OC} {σ : L2.St} {H : Hp} {Q : VK} {ti ti1 : Ei} {g g1 : Eg} {sl sl1 vs vs1 : List Nat} {tt tt1 : Et} {te : Ev} (hsl : ∀ j ∈ sl, j ∈ vs) (hsl1 : ∀ j ∈ sl1, j ∈ vs1) (h : tO W (cLc2 vs vs1 ti g tt ti1 g1 tt1 te) σ H Q) : tLc2 (tI' W ti) (tG W sl g) (tT W tt) (tI' W ti1) (tG W sl1 g1) (tT W tt1) (tX W te) vs vs1 σ H Q := by
  obtain ⟨ρ, F, d, ρ', E, hc, k⟩ := h
  obtain ⟨⟨ds, ρ1⟩, h1, hc⟩ := ob hc
  obtain ⟨⟨out, ρ2⟩, h2, hc⟩ := ob hc
  split at hc
  · rename_i hl
    cases hc
    refine ⟨ρ, F, ds, ρ1, E, h1, fun J Lk F1 H1 E1 _ w hL x1 o1 L hLn => ?_⟩
    have ol : out.length ≤ sizeLine := by
      rw [line_eq]
      exact hl
    exact lc_loop (T := tkI vs1 (tT W tt) (tI' W ti1) (tG W sl1 g1) (tkE (tT W tt1) (tX W te))) (xs := []) (L := L) (stOk_I hsl1 stOk_E) hsl w (w.stay _ _ _ _ _ (Ext.laid (own := NoA) E1.fs hLn) hL) (E1.ext (E1.fs.laid hLn) (Ext.laid E1.fs hLn)) ⟨[], upd_same, E1.fs.free hLn, repL_nil.mpr rfl⟩ (E1.ownNone hLn) h2 (by simpa using ol)
      (lc_out E E1 x1 o1 hLn ol k)
  · cases hc
abbrev PXTs (X : Cx) (cf : List D → D → Prop) (es : List Expr) (c : Et) : Prop := PTs X es (tT ⟨X.K, cf⟩ c)
def cYes : Et := fun ρ => some (true, ρ)
section
variable {X : Cx} {cf : List D → D → Prop}
theorem ts_nil : PXTs X cf [] cYes := ⟨fun pins s σ H Q I q => (pts_nil (X := X)).run pins s σ H Q I (by
  obtain ⟨ρ, F, b, ρ', E, hc, k⟩ := q
  cases hc
  exact k F H E Ext.refl fun _ z => z)⟩
theorem ts_one {c : Expr} {t : Et} (h : PXT X cf c t) : PXTs X cf [c] t := pts_one h
theorem o_lc {elt tg iter : Expr} {ifs : List Expr} {scope : Scope} {own : List (Str × Nat)} {pos : Pos} {ti : Ei} {g : Eg} {sl : List Nat} {tt : Et} {te : Ev} (hc : X.calm = true) (hN : X.N.Nodup) (hi : PXI X cf tg iter ti) (ok : BlkOk X.N X.env.scope scope own) (hsl : ∀ j ∈ sl, j ∈ own.map (·.2))
    (hg : ∀ (s : Shared) (H : Hp) (C : Addr) (cl : List (Str × Addr)) (fp : List Addr), PXG (X.blk s H scope (compEnvC scope cl C X.env) fp) cf tg sl g) (ht : ∀ (s : Shared) (H : Hp) (C : Addr) (cl : List (Str × Addr)) (fp : List Addr), PXTs (X.blk s H scope (compEnvC scope cl C X.env) fp) cf ifs tt)
    (he : ∀ (s : Shared) (H : Hp) (C : Addr) (cl : List (Str × Addr)) (fp : List Addr), PX (X.blk s H scope (compEnvC scope cl C X.env) fp) cf elt te) (hs : ∀ x, foldedSetIterable iter X.env x = pure x := by intro _; rfl) :
    PXO X cf (.ListComp elt [⟨tg, iter, ifs, 0⟩] scope pos) (cLc (own.map (·.2)) ti g tt te) := pe_imp (pe_lc hc hN hi ok hg ht he hs) fun σ H Q q => lc_imp hsl q
theorem o_lc2 {elt tg iter tg1 iter1 : Expr} {ifs ifs1 : List Expr} {scope : Scope} {own : List (Str × Nat)} {vs1 : List Nat} {pos : Pos} {ti ti1 : Ei} {g g1 : Eg} {sl sl1 : List Nat} {tt tt1 : Et} {te : Ev} (hc : X.calm = true) (hN : X.N.Nodup) (hi : PXI X cf tg iter ti) (ok : BlkOk X.N X.env.scope scope own) (hv : ∀ i ∈ vs1, i ∈ own.map (·.2)) (hsl : ∀ j ∈ sl, j ∈ own.map (·.2)) (hsl1 : ∀ j ∈ sl1, j ∈ vs1)
    (hg : ∀ (s : Shared) (H : Hp) (C : Addr) (cl : List (Str × Addr)) (fp : List Addr), PXG (X.blk s H scope (compEnvC scope cl C X.env) fp) cf tg sl g) (ht : ∀ (s : Shared) (H : Hp) (C : Addr) (cl : List (Str × Addr)) (fp : List Addr), PXTs (X.blk s H scope (compEnvC scope cl C X.env) fp) cf ifs tt)
    (hi1 : ∀ (s : Shared) (H : Hp) (C : Addr) (cl : List (Str × Addr)) (fp : List Addr), PXI (X.blk s H scope (compEnvC scope cl C X.env) fp) cf tg1 iter1 ti1)
    (hg1 : ∀ (s : Shared) (H : Hp) (C : Addr) (cl : List (Str × Addr)) (fp : List Addr), PXG (X.blk s H scope (compEnvC scope cl C X.env) fp) cf tg1 sl1 g1) (ht1 : ∀ (s : Shared) (H : Hp) (C : Addr) (cl : List (Str × Addr)) (fp : List Addr), PXTs (X.blk s H scope (compEnvC scope cl C X.env) fp) cf ifs1 tt1)
    (he : ∀ (s : Shared) (H : Hp) (C : Addr) (cl : List (Str × Addr)) (fp : List Addr), PX (X.blk s H scope (compEnvC scope cl C X.env) fp) cf elt te) (hs : ∀ x, foldedSetIterable iter X.env x = pure x := by intro _; rfl) (hs1 : ∀ env x, foldedSetIterable iter1 env x = pure x := by intro _ _; rfl) :
    PXO X cf (.ListComp elt [⟨tg, iter, ifs, 0⟩, ⟨tg1, iter1, ifs1, 0⟩] scope pos) (cLc2 (own.map (·.2)) vs1 ti g tt ti1 g1 tt1 te) := pe_imp (pe_lc2 hc hN hi ok hv hg ht hi1 hg1 ht1 he hs hs1) fun σ H Q q => lc2_imp hsl hsl1 q
/-- name = [..] on one line: the new list is the name's own, or known -/
theorem s_setLcO {i : Nat} {y : Str} {py : Pos} {elt tg iter : Expr} {ifs : List Expr} {scope : Scope} {own : List (Str × Nat)} {pos spos : Pos} {ti : Ei} {g : Eg} {sl : List Nat} {tt : Et} {te : Ev} (hc : X.calm = true) (hN : X.N.Nodup) (hy : X.N[i]? = some y) (hyl : X.env.scope.names.lookup y = some .local)
    (hsw : swapsWith (.ListComp elt [⟨tg, iter, ifs, 0⟩] scope pos) (some (.Name y py)) spos.line X.env = pure true) (hi : PXI X cf tg iter ti) (ok : BlkOk X.N X.env.scope scope own) (hsl : ∀ j ∈ sl, j ∈ own.map (·.2))
    (hg : ∀ (s : Shared) (H : Hp) (C : Addr) (cl : List (Str × Addr)) (fp : List Addr), PXG (X.blk s H scope (compEnvC scope cl C X.env) fp) cf tg sl g) (ht : ∀ (s : Shared) (H : Hp) (C : Addr) (cl : List (Str × Addr)) (fp : List Addr), PXTs (X.blk s H scope (compEnvC scope cl C X.env) fp) cf ifs tt)
    (he : ∀ (s : Shared) (H : Hp) (C : Addr) (cl : List (Str × Addr)) (fp : List Addr), PX (X.blk s H scope (compEnvC scope cl C X.env) fp) cf elt te) (hs : ∀ x, foldedSetIterable iter X.env x = pure x := by intro _; rfl) :
    PXS X cf (.Assign [.Name y py] (.ListComp elt [⟨tg, iter, ifs, 0⟩] scope pos) spos) [i] (cSetO i (cLc (own.map (·.2)) ti g tt te)) := ps_imp (ps_setLc hc hN hy hyl hsw hi ok hg ht he hs) fun En σ H q => by
  have z := asgO_imp q
  exact lc_imp hsl z
theorem s_setLc {i : Nat} {y : Str} {py : Pos} {elt tg iter : Expr} {ifs : List Expr} {scope : Scope} {own : List (Str × Nat)} {pos spos : Pos} {ti : Ei} {g : Eg} {sl : List Nat} {tt : Et} {te : Ev} (hc : X.calm = true) (hN : X.N.Nodup) (hy : X.N[i]? = some y) (hyl : X.env.scope.names.lookup y = some .local)
    (hsw : swapsWith (.ListComp elt [⟨tg, iter, ifs, 0⟩] scope pos) (some (.Name y py)) spos.line X.env = pure true) (hi : PXI X cf tg iter ti) (ok : BlkOk X.N X.env.scope scope own) (hsl : ∀ j ∈ sl, j ∈ own.map (·.2))
    (hg : ∀ (s : Shared) (H : Hp) (C : Addr) (cl : List (Str × Addr)) (fp : List Addr), PXG (X.blk s H scope (compEnvC scope cl C X.env) fp) cf tg sl g) (ht : ∀ (s : Shared) (H : Hp) (C : Addr) (cl : List (Str × Addr)) (fp : List Addr), PXTs (X.blk s H scope (compEnvC scope cl C X.env) fp) cf ifs tt)
    (he : ∀ (s : Shared) (H : Hp) (C : Addr) (cl : List (Str × Addr)) (fp : List Addr), PX (X.blk s H scope (compEnvC scope cl C X.env) fp) cf elt te) (hs : ∀ x, foldedSetIterable iter X.env x = pure x := by intro _; rfl) :
    PXS X cf (.Assign [.Name y py] (.ListComp elt [⟨tg, iter, ifs, 0⟩] scope pos) spos) [i] (cSet i (cLc (own.map (·.2)) ti g tt te)) := ps_imp (ps_setLc hc hN hy hyl hsw hi ok hg ht he hs) fun En σ H q => by
  have z : tX ⟨X.K, cf⟩ (cLc (own.map (·.2)) ti g tt te) σ H _ := asg_imp q
  exact lc_imp hsl (tX_of_tO z)
end
end Ov
/-! Ov: zip and enumerate of lists and tuples. -/
namespace Ov
open PySem PySem.Spec PyProof.Rows L2

def SqK (K : PySem.W.Frag) (H : Hp) (a : Addr) (xs : List V) : Bool → Prop
  | true => SqL K H a xs
  | false => SqT K H a xs
def ItK (h : Heap) (it a : Addr) (i : Nat) : Bool → Prop
  | true => h.IsListIter it a i
  | false => h.IsTupleIter it a i
def IsK (h : Heap) (a : Addr) (items : Array Value) : Bool → Prop
  | true => h.IsList a items
  | false => h.IsTuple a items
def objK (a : Addr) : Bool → Obj
  | true => { cls := .type "list_iterator", data := .fields #[.ref a, .int 0 0] }
  | false => { cls := .type "tuple_iterator", data := .fields #[.ref a, .int 0 0] }
section
variable {k : Bool}
theorem itK_obj {h : Heap} {it a : Addr} {i : Nat} (q : ItK h it a i k) : ∃ o, h.get? it = some o ∧ ∀ v, o.data ≠ .cell v := by
  cases k with
  | true => exact let ⟨o, e, _, d⟩ := q; ⟨o, e, fun v z => by rw [d] at z; cases z⟩
  | false => exact let ⟨o, e, _, d⟩ := q; ⟨o, e, fun v z => by rw [d] at z; cases z⟩
theorem itK_at {h h' : Heap} {it a : Addr} {i : Nat} (q : ItK h it a i k) (e : ∀ o, h.get? it = some o → h'.get? it = some o) : ItK h' it a i k := by
  cases k with
  | true => exact Heap.IsListIter.at (h := h) q e
  | false => exact Heap.IsTupleIter.at (h := h) q e
theorem itK_new {h : Heap} {it a : Addr} (e : h.get? it = some (objK a k)) : ItK h it a 0 k := by
  cases k with
  | true => exact ⟨_, e, rfl, rfl⟩
  | false => exact ⟨_, e, rfl, rfl⟩
theorem drawsK {prog : Program} {w : World} {A : Around} (hh : A.handled = none) (it a : Addr) (hne : a ≠ it) (items : Array Value) :
    Draws prog w A it [it, a] items.size (fun i v => items[i]? = some v) (fun i h => ItK h it a i k ∧ IsK h a items k) := by
  cases k with
  | true => exact Draws.list hh it a hne items
  | false => exact Draws.tuple hh it a hne items
theorem beginsK (a : Addr) (items : Array Value) : Begins (.ref a) (objK a k) fun h => IsK h a items k := by
  cases k with
  | true => exact begins_list a items
  | false => exact begins_tuple a items
theorem seqK {X : Cx} {pins : List (Addr × Obj)} {σ : L2.St} {H : Hp} {s : Shared} {a : Addr} {xs : List V} (I : Inv X pins σ H s) (q : SqK X.K H a xs k) : ∃ its : List Value, Vals xs its ∧ IsK s.heap a its.toArray k ∧ a < s.heap.objs.size := by
  cases k with
  | true =>
    obtain ⟨its, rv, p, _⟩ := I.list q
    exact ⟨its, rv, p.isList, p.lt⟩
  | false =>
    obtain ⟨its, rv, p, _⟩ := I.tuple q
    exact ⟨its, rv, p, let ⟨o, e, _⟩ := p; Heap.lt_size e⟩
theorem seqK_inj {X : Cx} {pins : List (Addr × Obj)} {σ : L2.St} {H : Hp} {s : Shared} {a : Addr} {xs ys : List V} (I : Inv X pins σ H s) (q : SqK X.K H a xs k) (q' : SqK X.K H a ys k) : xs = ys := by
  cases k with
  | true => exact I.list_inj q q'
  | false => exact I.tuple_inj q q'
end

/-! ### zip -/
def ItzK (K : PySem.W.Frag) (a b : Addr) (k l : Bool) : It :=
  ⟨fun i H => ∃ (xs ys : List V) (x y : V), SqK K H a xs k ∧ SqK K H b ys l ∧ xs[i]? = some x ∧ ys[i]? = some y,
    fun i H v H' => ∃ T x y, v = .ref T ∧ H T = none ∧ H' = upd H T (.tup [x, y]) ∧ (∀ xs, SqK K H a xs k → xs[i]? = some x) ∧ ∀ ys, SqK K H b ys l → ys[i]? = some y,
    fun i H => ∃ xs ys : List V, SqK K H a xs k ∧ SqK K H b ys l ∧ i ≤ xs.length ∧ i ≤ ys.length ∧ (i = xs.length ∨ i = ys.length)⟩
theorem turn_zipK {P : Program} {w : World} {K : PySem.W.Frag} {elts : List Expr} {kk : Nat} {tpos : Pos} {a b z TI TO i1 i2 : Addr} {k l : Bool} (D : ZipSep2 z TI TO i1 i2 [i1, a] [i2, b]) (ha : a ≠ i1) (hb : b ≠ i2) :
    Turn P w K (.Tuple elts kk tpos) (ItzK K a b k l) [z, TI, TO, i1, i2] z (fun i h => IsZip h z TI TO .none ∧ IsTupOf2 h TI (.ref i1) (.ref i2) ∧ (∃ x y, IsTupOf2 h TO x y) ∧ ItK h i1 a i k ∧ ItK h i2 b i l) where
  mem := by simp
  obj := fun i h st c hc => by
    obtain ⟨hz, hTI, ⟨x, y, hTO⟩, h1, h2⟩ := st
    have e' : c = z ∨ c = TI ∨ c = TO ∨ c = i1 ∨ c = i2 := by simpa using hc
    rcases e' with q | q | q | q | q
    · rw [q]; exact ⟨_, hz, fun v q => nomatch q⟩
    · rw [q]; exact ⟨_, hTI, fun v q => nomatch q⟩
    · rw [q]; exact ⟨_, hTO, fun v q => nomatch q⟩
    · rw [q]; exact itK_obj h1
    · rw [q]; exact itK_obj h2
  keep := fun i h h' st k => by
    obtain ⟨hz, hTI, ⟨x, y, hTO⟩, h1, h2⟩ := st
    exact ⟨k z (by simp) _ hz, k TI (by simp) _ hTI, ⟨x, y, k TO (by simp) _ hTO⟩, itK_at h1 fun o q => k i1 (by simp) o q, itK_at h2 fun o q => k i2 (by simp) o q⟩
  item := by
    intro X hP hw hK hc i pins s σ H E I hf st hg
    subst hP hw hK
    obtain ⟨hz, hTI, ⟨x0, y0, hTO⟩, h1, h2⟩ := st
    obtain ⟨xs, ys, x, y, hqx, hqy, hx, hy⟩ := hg
    obtain ⟨its, rv, p, _⟩ := seqK I hqx
    obtain ⟨its2, rv2, p2, _⟩ := seqK I hqy
    obtain ⟨u, hu, ru⟩ := rv.get hx
    obtain ⟨u2, hu2, ru2⟩ := rv2.get hy
    have hzl : z < s.heap.objs.size := Heap.lt_size hz
    have hh : X.A.in1.handled = none := I.ok.hd hc
    have n1 : i < its.toArray.size := by have := (List.getElem?_eq_some_iff.mp hu).1; simpa using this
    have n2 : i < its2.toArray.size := by have := (List.getElem?_eq_some_iff.mp hu2).1; simpa using this
    refine wpAny_pyNext_zipD2_item D (drawsK (k := k) hh i1 a ha its.toArray) (drawsK (k := l) hh i2 b hb its2.toArray) hz hTI hTO ⟨h1, p⟩ ⟨h2, p2⟩ n1 n2 fun y1 y2 h' tk e1 e2 z' TO' h1' h2' hT hsz hk => ?_
    have ey1 : y1 = u := by
      have := e1.symm.trans (show its.toArray[i]? = some u by simpa using hu)
      exact Option.some.inj this
    have ey2 : y2 = u2 := by
      have := e2.symm.trans (show its2.toArray[i]? = some u2 by simpa using hu2)
      exact Option.some.inj this
    subst ey1 ey2
    refine ⟨_, rfl, wpAny_letOwnedTupleGo_zip (s := { s with heap := h', toks := tk }) z' fun h'' z'' sb => ?_⟩
    have hT2 : h''.get? s.heap.objs.size = some { cls := .type "tuple", data := .seq #[y1, y2] } := (sb.2 _ (Nat.ne_of_gt hzl)).trans hT
    have new : ObjOk X.prog X.w (upd H s.heap.objs.size (.tup [x, y])) h'' s.heap.objs.size (.tup [x, y]) :=
      ⟨by show 2 ≤ sizeLine; decide, [y1, y2], .cons ru (.cons ru2 .nil), ⟨_, hT2, rfl, _, rfl⟩⟩
    have I1 : Inv X pins σ (upd H s.heap.objs.size (.tup [x, y])) { s with heap := h'', toks := tk } :=
      I.turnedNew (t' := tk) (ch := [z, TI, TO, i1, i2]) (fun c o hb q => (sb.2 c (fun q' => hb (by simp [q']))).trans (hk c o (fun q' => hb (by simp [q'])) (fun q' => hb (by simp [q'])) (fun q' => hb (by simp [q'])) (fun q' => hb (by simp [q'])) q)) hf (Nat.le_refl _) new
    refine ⟨.ref s.heap.objs.size, _, I1, rfl, ⟨_, x, y, rfl, I.hok.fresh (Nat.le_refl _), rfl, fun l hl => by rw [seqK_inj I hl hqx]; exact hx, fun l hl => by rw [seqK_inj I hl hqy]; exact hy⟩, ⟨z'', ?_, ⟨y1, y2, ?_⟩, ?_, ?_⟩, fun c hcm => ?_⟩
    · exact (sb.2 _ D.TIz).trans (hk _ _ D.TIz D.TITO D.TIi1 D.TIi2 hTI)
    · exact (sb.2 _ D.TOz).trans TO'
    · exact itK_at h1'.1 fun o q => (sb.2 _ D.zi1.symm).trans q
    · exact itK_at h2'.1 fun o q => (sb.2 _ D.zi2.symm).trans q
    · have hlt : c < s.heap.objs.size := by
        have e' : c = z ∨ c = TI ∨ c = TO ∨ c = i1 ∨ c = i2 := by simpa using hcm
        rcases e' with q | q | q | q | q
        · rw [q]; exact hzl
        · rw [q]; exact Heap.lt_size hTI
        · rw [q]; exact Heap.lt_size hTO
        · rw [q]; obtain ⟨_, e1, _⟩ := itK_obj h1; exact Heap.lt_size e1
        · rw [q]; obtain ⟨_, e2, _⟩ := itK_obj h2; exact Heap.lt_size e2
      rw [upd_ne (Nat.ne_of_lt hlt)]
      exact (hf c hcm).1
  done := by
    intro X hP hw hK hc i pins s σ H E I hf st hg
    subst hP hw hK
    obtain ⟨hz, hTI, ⟨x0, y0, hTO⟩, h1, h2⟩ := st
    obtain ⟨xs, ys, hqx, hqy, g1, g2, hend⟩ := hg
    obtain ⟨its, rv, p, _⟩ := seqK I hqx
    obtain ⟨its2, rv2, p2, _⟩ := seqK I hqy
    have l1 := rv.length
    have l2 := rv2.length
    have hh : X.A.in1.handled = none := I.ok.hd hc
    exact wpAny_pyNext_zipD2_end D (drawsK (k := k) hh i1 a ha its.toArray) (drawsK (k := l) hh i2 b hb its2.toArray) hz hTI hTO ⟨h1, p⟩ ⟨h2, p2⟩ (by simp; omega) (by simp; omega) (by simp; omega) fun h' tk hk => ⟨rfl, I.turnedL (t' := tk) (ch := [z, TI, TO, i1, i2]) (fun c o hb q =>
      hk c o (fun q' => hb (by simp [q'])) (fun q' => hb (by simp [q'])) (fun q' => hb (by simp [q'])) (fun q' => hb (by simp [q'])) q) hf⟩
  self := fun A i s Q E st h => wpAny_pyIter_zip st.1 h
def iZipK (K : PySem.W.Frag) (ta : TA) : TI := fun σ H R => ta σ H fun vs H1 => ∃ a b xs ys k l, vs = [.ref a, .ref b] ∧ SqK K H1 a xs k ∧ SqK K H1 b ys l ∧ R (ItzK K a b k l) H1
theorem pi_zipK {X : Cx} {e e2 : Expr} {ta : TA} {p pos tpos : Pos} {elts : List Expr} {kk : Nat} (hg : Gl X "zip") (hm : X.mg "zip" = none) (ha : PA X [e, e2] ta)
    (hs : starEach [e, e2] X.env = (false, eval e X.env) :: starEach [e2] X.env := by rfl) (hpl : (backTo pos (starEach [e2] X.env)).any (·.1) = false := by rfl) :
    PI X (.Tuple elts kk tpos) (.Call (.Name "zip" p) [e, e2] [] pos) (iZipK X.K ta) := by
  refine ⟨fun pins s σ H R I h => ?_⟩
  refine Call_ (ld_blt I hg hm PyProof.Rows.boot_zip (PyProof.Rows.callWith_type1 (thn (ha.run pos pins s σ H _ I h) fun us s1 ⟨vs, H1, I1, r1, q1⟩ => ?_) hs hpl))
  obtain ⟨a, b, xs, ys, k, l, ex, hqx, hqy, q⟩ := q1
  subst ex
  cases r1 with
  | cons r rr =>
    cases rr with
    | cons r' rr =>
      cases rr
      cases r
      cases r'
      have fresh5 : ∀ c, c ∈ [s1.heap.objs.size + 4, s1.heap.objs.size + 2, s1.heap.objs.size + 3, s1.heap.objs.size, s1.heap.objs.size + 1] → FpOk X pins H1 c := fun c hcm => by
        have e' : c = s1.heap.objs.size + 4 ∨ c = s1.heap.objs.size + 2 ∨ c = s1.heap.objs.size + 3 ∨ c = s1.heap.objs.size ∨ c = s1.heap.objs.size + 1 := by simpa using hcm
        have hle : s1.heap.objs.size ≤ c := by
          rcases e' with z | z | z | z | z
          · rw [z]; exact Nat.le_add_right _ _
          · rw [z]; exact Nat.le_add_right _ _
          · rw [z]; exact Nat.le_add_right _ _
          · rw [z]; exact Nat.le_refl _
          · rw [z]; exact Nat.le_add_right _ _
        exact I1.fpOk hle (I1.hok.fresh hle)
      obtain ⟨its, rv, p1, la⟩ := seqK I1 hqx
      obtain ⟨its2, rv2, p2, lb⟩ := seqK I1 hqy
      refine zip_begins2 (beginsK a its.toArray) (beginsK b its2.toArray) p1 p2 fun h' hz hTI hTO h1 h2 hsz hk => wpAny_pyIter_zip hz ?_
      have I2 : Inv X pins σ H1 { s1 with heap := h' } := I1.kept (t' := s1.toks) hk
      refine ⟨s1.heap.objs.size + 4, [s1.heap.objs.size + 4, s1.heap.objs.size + 2, s1.heap.objs.size + 3, s1.heap.objs.size, s1.heap.objs.size + 1], _, _, H1, rfl, I2, turn_zipK (zip_sep2 (fp1 := [a]) (fp2 := [b]) (fun c hc => by rw [List.mem_singleton.mp hc]; exact la) (fun c hc => by rw [List.mem_singleton.mp hc]; exact lb)) (Nat.ne_of_lt la) (Nat.ne_of_lt (Nat.lt_succ_of_lt lb)), ⟨hz, hTI, ⟨_, _, hTO⟩, itK_new h1, itK_new h2⟩, fresh5, q⟩

/-! ### enumerate -/
theorem meets_enumerate_new1 {v : Value} {o : Obj} {H : Heap → Prop} (B : Begins v o H) :
    Meets (Builtin.«enumerate.__new__» ⟨[.type "enumerate", v], []⟩) (fun _ R s => H s.heap ∧
      R (.ok (.ret (.ref (s.heap.push o).objs.size))) { s with heap := (s.heap.push o).push { cls := .type "enumerate", data := .fields #[.none, .bool false, .ref s.heap.objs.size, rawInt 0, .none, .none] } }) :=
  .of_wp fun prog w A R s h => by
    obtain ⟨hp, g, d, tk, os⟩ := s; obtain ⟨h1, h⟩ := h
    have hsub := sub_enumerate
    have q1 : ∀ {A' : Around} {E : Value → Shared → Prop} {Q : Value → Shared → Prop}, Q (.ref hp.objs.size) ⟨hp.push o, g, d, tk, os⟩ → wpAny (model prog w) A' (pyIter v) Q E ⟨hp, g, d, tk, os⟩ :=
      fun q => B.iter prog w _ _ ⟨hp, g, d, tk, os⟩ _ h1 q
    wp_walk using q1
    refine wpAny_stack_any fun st => wpAny_pure ?_
    split
    · rename_i c _ _ _ _ _
      cases (c == Value.type "enumerate")
      · wp_walk using q1
        exact ⟨_, rfl, h⟩
      · wp_walk using q1
        exact ⟨_, rfl, h⟩
    · wp_walk using q1
      exact ⟨_, rfl, h⟩
theorem enum_begins1 {prog : Program} {w : World} {A : Around} {E : Value → Shared → Prop} {s : Shared} {v : Value} {o : Obj} {H : Heap → Prop} {Q : Value → Shared → Prop} (B : Begins v o H) (h1 : H s.heap)
    (h : ∀ h', IsEnum h' (s.heap.objs.size + 1) s.heap.objs.size 0 .none → h'.get? s.heap.objs.size = some o → h'.objs.size = s.heap.objs.size + 2 →
      (∀ b o, s.heap.get? b = some o → h'.get? b = some o) → Q (.ref (s.heap.objs.size + 1)) { s with heap := h' }) :
    wpAny (model prog w) A (call (.type "enumerate") [v]) Q E s := by
  refine callType_new F.called_enumerate (by decide) (F.typeCall_enumerate_1 _) (F.newCall_enumerate_1 _) (fun obj => F.args_object_init_2 obj _) F.entry_enumerate_new
    (meets_enumerate_new1 B) ⟨h1, ?_⟩
  have hz : (s.heap.push o).objs.size = s.heap.objs.size + 1 := Heap.size_push ..
  show _ ∧ _
  rw [hz]
  have he : IsEnum ((s.heap.push o).push { cls := .type "enumerate", data := .fields #[.none, .bool false, .ref s.heap.objs.size, rawInt 0, .none, .none] }) (s.heap.objs.size + 1) s.heap.objs.size 0 .none := by
    have := Heap.get?_push_size (s.heap.push o) (o := { cls := .type "enumerate", data := .fields #[.none, .bool false, .ref s.heap.objs.size, rawInt 0, .none, .none] }) rfl
    rw [hz] at this; exact this
  refine ⟨⟨_, he, rfl⟩, h _ he (Heap.get?_push_of_some _ (Heap.get?_push_size _ B.free)) (by rw [Heap.size_push, hz]) fun b o x => Heap.get?_push_of_some _ (Heap.get?_push_of_some _ x)⟩
def IteK (K : PySem.W.Frag) (a : Addr) (k : Bool) : It :=
  ⟨fun i H => ∃ (xs : List V) (x : V), SqK K H a xs k ∧ xs[i]? = some x, fun i H v H' => ∃ T x, v = .ref T ∧ H T = none ∧ H' = upd H T (.tup [.int (i : Nat), x]) ∧ ∀ xs, SqK K H a xs k → xs[i]? = some x, fun i H => ∃ xs : List V, SqK K H a xs k ∧ xs.length = i⟩
theorem turn_enumK {P : Program} {w : World} {K : PySem.W.Frag} {elts : List Expr} {kk : Nat} {tpos : Pos} {k : Bool} (a e it : Addr) (ha : a ≠ it) (hae : a ≠ e) :
    Turn P w K (.Tuple elts kk tpos) (IteK K a k) [e, it] e (fun i h => (∃ old, IsEnum h e it ((i : Nat) : Int) old) ∧ ItK h it a i k ∧ e ≠ it) where
  mem := by simp
  obj := fun i h st b hb => by
    obtain ⟨⟨old, he⟩, h1, _⟩ := st
    have e' : b = e ∨ b = it := by simpa using hb
    rcases e' with z | z
    · rw [z]; exact ⟨_, he, fun v q => nomatch q⟩
    · rw [z]; exact itK_obj h1
  keep := fun i h h' st k => let ⟨⟨old, he⟩, hi, hne⟩ := st; ⟨⟨old, k e (by simp) _ he⟩, itK_at hi fun o q => k it (by simp) o q, hne⟩
  item := by
    intro X hP hw hK hc i pins s σ H E I hf st hg
    subst hP hw hK
    obtain ⟨⟨old, he⟩, hit, hne⟩ := st
    obtain ⟨xs, x, hq, hx⟩ := hg
    obtain ⟨its, rv, p, hz⟩ := seqK I hq
    obtain ⟨u, hu, ru⟩ := rv.get hx
    have hel : e < s.heap.objs.size := Heap.lt_size he
    have hil : it < s.heap.objs.size := by obtain ⟨_, q, _⟩ := itK_obj hit; exact Heap.lt_size q
    have hh : X.A.in1.handled = none := I.ok.hd hc
    have n1 : i < its.toArray.size := by have := (List.getElem?_eq_some_iff.mp hu).1; simpa using this
    refine wpAny_pyNext_enum_itemC (drawsK (k := k) hh it a ha its.toArray) he ⟨hit, p⟩ n1 hne (by simp; exact ⟨hne, fun z => hae z.symm⟩) fun y1 h' tk e1 ho hit' hT hsz hk => ?_
    have ey1 : y1 = u := by
      have := e1.symm.trans (show its.toArray[i]? = some u by simpa using hu)
      exact Option.some.inj this
    subst ey1
    refine ⟨_, rfl, wpAny_letOwnedTupleGo_enum (s := { s with heap := h', toks := tk + 1 }) ho fun h'' he' sb => ?_⟩
    have hT2 : h''.get? s.heap.objs.size = some { cls := .type "tuple", data := .seq #[.int i tk, y1] } := (sb.2 _ (Nat.ne_of_gt hel)).trans hT
    have new : ObjOk X.prog X.w (upd H s.heap.objs.size (.tup [.int (i : Nat), x])) h'' s.heap.objs.size (.tup [.int (i : Nat), x]) :=
      ⟨by show 2 ≤ sizeLine; decide, [.int i tk, y1], .cons ⟨_, rfl⟩ (.cons ru .nil), ⟨_, hT2, rfl, _, rfl⟩⟩
    have I1 : Inv X pins σ (upd H s.heap.objs.size (.tup [.int (i : Nat), x])) { s with heap := h'', toks := tk + 1 } :=
      I.turnedNew (ch := [e, it]) (fun b ob hb q => (sb.2 b (fun z => hb (by simp [z]))).trans (hk b ob (fun z => hb (by simp [z])) (fun z => hb (by simp [z])) q)) hf (Nat.le_refl _) new
    refine ⟨.ref s.heap.objs.size, _, I1, rfl, ⟨_, x, rfl, I.hok.fresh (Nat.le_refl _), rfl, fun ys hy => by rw [seqK_inj I hy hq]; exact hx⟩, ⟨⟨y1, ?_⟩, itK_at hit'.1 fun o q => (sb.2 it (Ne.symm hne)).trans q, hne⟩, fun b hb => ?_⟩
    · have e1 : ((i + 1 : Nat) : Int) = (i : Int) + 1 := by omega
      rw [e1]; exact he'
    · have hb' : b < s.heap.objs.size := by
        have e' : b = e ∨ b = it := by simpa using hb
        rcases e' with z | z
        · rw [z]; exact hel
        · rw [z]; exact hil
      rw [upd_ne (Nat.ne_of_lt hb')]
      exact (hf b hb).1
  done := by
    intro X hP hw hK hc i pins s σ H E I hf st hg
    subst hP hw hK
    obtain ⟨⟨old, he⟩, hit, hne⟩ := st
    obtain ⟨xs, hq, hx⟩ := hg
    obtain ⟨its, rv, p, hz⟩ := seqK I hq
    obtain ⟨f0, f1, f2, f3, f4, f5⟩ := hf it (by simp)
    have hl := rv.length
    have hh : X.A.in1.handled = none := I.ok.hd hc
    have ei : its.toArray.size = i := by simp; omega
    refine wpAny_pyNext_enum_endD (drawsK (k := k) hh it a ha its.toArray) he (by rw [ei]; exact ⟨hit, p⟩) fun h' eb => ⟨rfl, I.turned (t' := s.toks) (fun b o hb q => eb b o hb q) f0 f1 f3 f4 f5⟩
  self := fun A i s Q E st h => let ⟨⟨_, he⟩, _⟩ := st; wpAny_pyIter_enum he h
def iEnumK (K : PySem.W.Frag) (ta : TA) : TI := fun σ H R => ta σ H fun vs H1 => ∃ a xs k, vs = [.ref a] ∧ SqK K H1 a xs k ∧ R (IteK K a k) H1
theorem pi_enumK {X : Cx} {e : Expr} {ta : TA} {p pos tpos : Pos} {elts : List Expr} {kk : Nat} (hg : Gl X "enumerate") (hm : X.mg "enumerate" = none) (ha : PA X [e] ta) (hs : starEach [e] X.env = (false, eval e X.env) :: starEach [] X.env := by rfl) :
    PI X (.Tuple elts kk tpos) (.Call (.Name "enumerate" p) [e] [] pos) (iEnumK X.K ta) := by
  refine ⟨fun pins s σ H R I h => ?_⟩
  refine Call_ (ld_blt I hg hm boot_enumerate (PyProof.Rows.callWith_type1 (thn (ha.run pos pins s σ H _ I h) fun us s1 ⟨vs, H1, I1, r1, q1⟩ => ?_) hs rfl))
  obtain ⟨a, xs, k, ex, hq, q⟩ := q1
  subst ex
  cases r1 with
  | cons r rr =>
    cases rr
    cases r
    obtain ⟨its, rv, p', hz⟩ := seqK I1 hq
    refine enum_begins1 (beginsK a its.toArray) p' fun h' he hit hsz hk => wpAny_pyIter_enum he ?_
    have I2 : Inv X pins σ H1 { s1 with heap := h' } := I1.kept (t' := s1.toks) hk
    refine ⟨s1.heap.objs.size + 1, [s1.heap.objs.size + 1, s1.heap.objs.size], _, _, H1, rfl, I2, turn_enumK a (s1.heap.objs.size + 1) s1.heap.objs.size (Nat.ne_of_lt hz) (Nat.ne_of_lt (Nat.lt_succ_of_lt hz)), ⟨⟨.none, he⟩, itK_new hit, Nat.succ_ne_self _⟩, fun b hb => ?_, q⟩
    have e' : b = s1.heap.objs.size + 1 ∨ b = s1.heap.objs.size := by simpa using hb
    have hle : s1.heap.objs.size ≤ b := by
      rcases e' with z | z
      · rw [z]; exact Nat.le_add_right _ _
      · rw [z]; exact Nat.le_refl _
    exact I1.fpOk hle (I1.hok.fresh hle)

/-! ### as data -/
def seqOf : D → Option (List D)
  | .lst xs => some xs
  | .tup xs => some xs
  | _ => none
theorem seqOf_at {W : OC} {F : Hp} {d : D} {xs : List D} {v : V} (h : seqOf d = some xs) (r : Rep W F d v) : ∃ a vs k, v = .ref a ∧ vs.length ≤ sizeLine ∧ RepL W F xs vs ∧ ∀ G H, Le F G → FS W G H → SqK W.K H a vs k := by
  cases d with
  | lst ys =>
    cases h
    simp only [Rep] at r
    obtain ⟨a, vs, rfl, g1, g3, g4⟩ := r
    exact ⟨a, vs, true, rfl, g3, g4, fun G H le fs => SqL.of (fs.lst (le _ _ g1))⟩
  | tup ys =>
    cases h
    simp only [Rep] at r
    obtain ⟨a, vs, rfl, g1, g3, g4⟩ := r
    exact ⟨a, vs, false, rfl, g3, g4, fun G H le fs => SqT.of (fs.tup (le _ _ g1))⟩
  | _ => cases h
def zipL : List D → List D → List D
  | x :: xs, y :: ys => .tup [x, y] :: zipL xs ys
  | _, _ => []
theorem zipL_length : ∀ (xs ys : List D), (zipL xs ys).length = min xs.length ys.length
  | [], _ => by simp [zipL]
  | _ :: _, [] => by simp [zipL]
  | x :: xs, y :: ys => by simp only [zipL, List.length_cons, zipL_length xs ys]; omega
theorem zipL_get : ∀ {xs ys : List D} {i : Nat} {x y : D}, xs[i]? = some x → ys[i]? = some y → (zipL xs ys)[i]? = some (.tup [x, y])
  | x :: xs, y :: ys, 0, _, _, h1, h2 => by
    cases h1
    cases h2
    rfl
  | x :: xs, y :: ys, i + 1, _, _, h1, h2 => zipL_get (xs := xs) (ys := ys) (i := i) h1 h2
def enumL : Nat → List D → List D
  | _, [] => []
  | n, x :: xs => .tup [.int n, x] :: enumL (n + 1) xs
theorem enumL_length : ∀ (n : Nat) (xs : List D), (enumL n xs).length = xs.length
  | _, [] => rfl
  | n, x :: xs => by simp only [enumL, List.length_cons, enumL_length (n + 1) xs]
theorem enumL_get : ∀ {n : Nat} {xs : List D} {i : Nat} {x : D}, xs[i]? = some x → (enumL n xs)[i]? = some (.tup [.int ((n + i : Nat) : Int), x])
  | n, x :: xs, 0, _, h => by
    cases h
    rfl
  | n, x :: xs, i + 1, y, h => by
    have q := enumL_get (n := n + 1) (xs := xs) (i := i) (x := y) h
    have e : n + 1 + i = n + (i + 1) := by omega
    rw [e] at q
    exact q
theorem new_pair {W : OC} {G H : Hp} {T : Addr} {x y : V} {d e : D} (fs : FS W G H) (hT : H T = none) (rx : Rep W G d x) (ry : Rep W G e y) : ∃ G', FS W G' (upd H T (.tup [x, y])) ∧ Rep W G' (.tup [d, e]) (.ref T) ∧ Ext NoA G H G' (upd H T (.tup [x, y])) :=
  have le := Le.new (o := .tup [x, y]) (fs.free hT)
  ⟨upd G T (.tup [x, y]), fs.newTup hT, rep_tup upd_same (by show 2 ≤ sizeLine; decide) (repL_cons (Rep.le le rx) (repL_cons (Rep.le le ry) (repL_nil.mpr rfl))), Ext.known fs hT⟩
theorem walkD_zip {W : OC} {F : Hp} {a b : Addr} {k l : Bool} {xs ys : List D} {vs ws : List V} (hx : ∀ G H, Le F G → FS W G H → SqK W.K H a vs k) (hy : ∀ G H, Le F G → FS W G H → SqK W.K H b ws l) (r : RepL W F xs vs) (s : RepL W F ys ws) : WalkD W (ItzK W.K a b k l) (zipL xs ys) F NoL where
  stay _ _ _ _ _ _ h := h
  goes i G H hi le fs _ := by
    rw [zipL_length] at hi
    have h1 : i < vs.length := by rw [← r.length]; omega
    have h2 : i < ws.length := by rw [← s.length]; omega
    exact ⟨vs, ws, vs[i], ws[i], hx G H le fs, hy G H le fs, by simp [h1], by simp [h2]⟩
  stops G H le fs _ := ⟨vs, ws, hx G H le fs, hy G H le fs, by rw [zipL_length, ← r.length]; omega, by rw [zipL_length, ← s.length]; omega, by rw [zipL_length, ← s.length, ← r.length]; omega⟩
  yields i G H x H' hi le fs _ y := by
    obtain ⟨T, x, y, rfl, hT, rfl, y1, y2⟩ := y
    obtain ⟨d1, h1, r1⟩ := r.back (y1 vs (hx G H le fs))
    obtain ⟨d2, h2, r2⟩ := s.back (y2 ws (hy G H le fs))
    obtain ⟨G', f', r', x'⟩ := new_pair fs hT (Rep.le le r1) (Rep.le le r2)
    exact ⟨G', _, zipL_get h1 h2, f', r', x'⟩
theorem walkD_enum {W : OC} {F : Hp} {a : Addr} {k : Bool} {xs : List D} {vs : List V} (hx : ∀ G H, Le F G → FS W G H → SqK W.K H a vs k) (r : RepL W F xs vs) : WalkD W (IteK W.K a k) (enumL 0 xs) F NoL where
  stay _ _ _ _ _ _ h := h
  goes i G H hi le fs _ := by
    rw [enumL_length] at hi
    have h1 : i < vs.length := by rw [← r.length]; omega
    exact ⟨vs, vs[i], hx G H le fs, by simp [h1]⟩
  stops G H le fs _ := ⟨vs, hx G H le fs, by rw [enumL_length, r.length]⟩
  yields i G H x H' hi le fs _ y := by
    obtain ⟨T, x, rfl, hT, rfl, y1⟩ := y
    obtain ⟨d1, h1, r1⟩ := r.back (y1 vs (hx G H le fs))
    obtain ⟨G', f', r', x'⟩ := new_pair (x := .int (i : Nat)) (d := .int (i : Nat)) fs hT (by simp only [Rep]) (Rep.le le r1)
    have q := enumL_get (n := 0) h1
    rw [Nat.zero_add] at q
    exact ⟨G', _, q, f', r', x'⟩
def iZip (a b : Ev) : Ei := fun ρ => (a ρ).bind fun p => (seqOf p.1).bind fun xs => (b p.2).bind fun q => (seqOf q.1).bind fun ys => some (zipL xs ys, q.2)
def iEnum (a : Ev) : Ei := fun ρ => (a ρ).bind fun p => (seqOf p.1).bind fun xs => some (enumL 0 xs, p.2)
section
variable {X : Cx} {cf : List D → D → Prop} {a b : Expr} {ca cb : Ev} {p pos tpos : Pos} {elts : List Expr} {kk : Nat}
theorem i_zip (hg : Gl X "zip") (hm : X.mg "zip" = none) (ha : PX X cf a ca) (hb : PX X cf b cb) (hs : starEach [a, b] X.env = (false, eval a X.env) :: starEach [b] X.env := by rfl) (hs2 : starEach [b] X.env = (false, eval b X.env) :: starEach [] X.env := by rfl) (hpl : (backTo pos (starEach [b] X.env)).any (·.1) = false := by rfl) :
    PXI X cf (.Tuple elts kk tpos) (.Call (.Name "zip" p) [a, b] [] pos) (iZip ca cb) := pi_imp (pi_zipK hg hm (xa_cons ha (xa_cons hb xa_nil hs2) hs) hs hpl) fun σ H R q => by
  obtain ⟨ρ, F, ds, ρ', E, hc, k⟩ := q
  obtain ⟨⟨d, ρ1⟩, h1, hc⟩ := ob hc
  obtain ⟨xs, h2, hc⟩ := ob hc
  obtain ⟨⟨d2, ρ2⟩, h3, hc⟩ := ob hc
  obtain ⟨ys, h4, hc⟩ := ob hc
  cases hc
  refine ⟨ρ, F, [d, d2], ρ2, E, ?_, fun vs F1 H1 E1 r1 x1 o1 => ?_⟩
  · show (ca ρ).bind _ = _
    rw [h1]
    show ((cb ρ1).bind _).bind _ = _
    rw [h3]
    rfl
  obtain ⟨v, _, rfl, r, r'⟩ := r1.inv
  obtain ⟨v2, _, rfl, r2, r'⟩ := r'.inv
  rw [repL_nil.mp r']
  obtain ⟨a, vs, k1, rfl, l1, g1, s1⟩ := seqOf_at h2 r
  obtain ⟨b, ws, k2, rfl, l2, g2, s2⟩ := seqOf_at h4 r2
  refine ⟨a, b, vs, ws, k1, k2, rfl, s1 F1 H1 (Le.refl F1) E1.fs, s2 F1 H1 (Le.refl F1) E1.fs, k _ _ F1 H1 E1 ?_ (walkD_zip s1 s2 g1 g2) True.intro x1 o1⟩
  rw [zipL_length, g1.length]
  exact Nat.le_trans (Nat.min_le_left _ _) l1
theorem i_enum (hg : Gl X "enumerate") (hm : X.mg "enumerate" = none) (ha : PX X cf a ca) (hs : starEach [a] X.env = (false, eval a X.env) :: starEach [] X.env := by rfl) :
    PXI X cf (.Tuple elts kk tpos) (.Call (.Name "enumerate" p) [a] [] pos) (iEnum ca) := pi_imp (pi_enumK hg hm (xa_cons ha xa_nil hs) hs) fun σ H R q => by
  obtain ⟨ρ, F, ds, ρ', E, hc, k⟩ := q
  obtain ⟨⟨d, ρ1⟩, h1, hc⟩ := ob hc
  obtain ⟨xs, h2, hc⟩ := ob hc
  cases hc
  refine ⟨ρ, F, [d], ρ1, E, by show (ca ρ).bind _ = _; rw [h1]; rfl, fun vs F1 H1 E1 r1 x1 o1 => ?_⟩
  obtain ⟨v, _, rfl, r, r'⟩ := r1.inv
  rw [repL_nil.mp r']
  obtain ⟨a, vs, k1, rfl, l1, g1, s1⟩ := seqOf_at h2 r
  refine ⟨a, vs, k1, rfl, s1 F1 H1 (Le.refl F1) E1.fs, k _ _ F1 H1 E1 ?_ (walkD_enum s1 g1) True.intro x1 o1⟩
  rw [enumL_length, g1.length]
  exact l1
end
end Ov
/-! Ov: defs and their calls. -/
namespace Ov
open PySem PySem.Spec PyProof.Rows L2

/-- a def, plainly: the arguments in; how it ends, and what its own arguments are behind it -/
abbrev Df := List Sl → Option (Fl × List Sl)
abbrev vS (vs : List V) : L2.St := vs.map some
def ResAt (W : OC) (fl : Fl) (v : V) (F' H' H : Hp) (own own' : Addr → Prop) : Prop := match fl with
  | .nx => v = .non
  | .rt d => Rep W F' d v
  | .ro d => ∃ p, v = .ref p ∧ OwnAt W F' H' p d ∧ F' p = none ∧ ¬ own' p ∧ (H p = none ∨ own p)
  | _ => False
def spD (W : OC) (n : Nat) (df : Df) : Sp := fun vs H Q E => vs.length = n ∧ ∃ F as fl as', EnvOk W as (vS vs) F H ∧ df as = some (fl, as') ∧
  ∀ v F' H', EnvOk W as' (vS vs) F' H' → Ext (Own as (vS vs)) F H F' H' → (∀ a, Own as' (vS vs) a → Own as (vS vs) a) → ResAt W fl v F' H' H (Own as (vS vs)) (Own as' (vS vs)) → Q v H'
def FnD (P : Program) (w : World) (K : PySem.W.Frag) (mg : Str → Option Value) (base : Heap) (cf : List D → D → Prop) (k : Nat) (f : Addr) (fd : FuncData) (ps : List Str) (df : Df) : Prop :=
  ∀ CX : CXT, FnOk P w K mg base CX k f fd ps (spD ⟨K, cf⟩ ps.length df)
theorem FnD.imp {P : Program} {w : World} {K : PySem.W.Frag} {mg : Str → Option Value} {base : Heap} {cf : List D → D → Prop} {k : Nat} {f : Addr} {fd : FuncData} {ps : List Str} {df df' : Df} (F : FnD P w K mg base cf k f fd ps df) (h : ∀ as r, df' as = some r → df as = some r) : FnD P w K mg base cf k f fd ps df' := fun CX =>
  (F CX).imp fun vs H Q E q => by
    obtain ⟨l, F, as, fl, as', E0, hc, kk⟩ := q
    exact ⟨l, F, as, fl, as', E0, h _ _ hc, kk⟩
theorem FnD.mono {P : Program} {w : World} {K : PySem.W.Frag} {mg : Str → Option Value} {base : Heap} {cf : List D → D → Prop} {j k : Nat} {f : Addr} {fd : FuncData} {ps : List Str} {df : Df} (F : FnD P w K mg base cf j f fd ps df) (h : j ≤ k) : FnD P w K mg base cf k f fd ps df := fun CX => (F CX).mono h

/-- behind a def: what its own arguments are (those that were stored anew are lost) -/
def retA (sl : List Nat) : Nat → List Sl → List Sl → List Sl
  | _, [], _ => []
  | k, a :: as, ρ => (match a, ρ with | .ow _, s :: _ => if k ∈ sl then .no else s | _, _ => .no) :: retA sl (k + 1) as ρ.tail
theorem retA_get {sl : List Nat} : ∀ {as ρ : List Sl} {k i : Nat} {s : Sl}, (retA sl k as ρ)[i]? = some s → s = .no ∨ (ρ[i]? = some s ∧ k + i ∉ sl ∧ ∃ d, as[i]? = some (.ow d))
  | [], _, _, _, _, h => by simp [retA] at h
  | a :: as, ρ, k, 0, s, h => by
    have h' := Option.some.inj (show some _ = some s from h)
    cases a with
    | ow d =>
      cases ρ with
      | nil => exact .inl h'.symm
      | cons t ρ =>
        have h2 : (if k ∈ sl then Sl.no else t) = s := h'
        split at h2
        · exact .inl h2.symm
        · rename_i hk
          exact .inr ⟨by rw [← h2]; rfl, hk, d, rfl⟩
    | no => exact .inl h'.symm
    | fr d => exact .inl h'.symm
  | a :: as, ρ, k, i + 1, s, h => by
    have h' : (retA sl (k + 1) as ρ.tail)[i]? = some s := h
    rcases retA_get h' with q | ⟨q1, q2, q3⟩
    · exact .inl q
    · refine .inr ⟨?_, by rw [show k + (i + 1) = k + 1 + i by omega]; exact q2, q3⟩
      cases ρ with
      | nil => exact q1
      | cons t ρ => exact q1
theorem retA_length {sl : List Nat} : ∀ {as ρ : List Sl} {k : Nat}, (retA sl k as ρ).length = as.length
  | [], _, _ => rfl
  | a :: as, ρ, k => by simp only [retA, List.length_cons]; rw [retA_length]
/-- a def by its body; m: names that are no parameters -/
def mkDf (sl : List Nat) (m : Nat) (c : Es) : Df := fun as => (c (as ++ List.replicate m .no)).bind fun q => match q.1 with
  | .nx => some (.nx, retA sl 0 as q.2)
  | .rt d => some (.rt d, retA sl 0 as q.2)
  | .ro d => some (.ro d, retA sl 0 as q.2)
  | _ => none
theorem mkDf_inv {sl : List Nat} {m : Nat} {c : Es} {as as' : List Sl} {fl : Fl} (h : mkDf sl m c as = some (fl, as')) : ∃ ρ', c (as ++ List.replicate m .no) = some (fl, ρ') ∧ as' = retA sl 0 as ρ' ∧ (fl = .nx ∨ (∃ d, fl = .rt d) ∨ ∃ d, fl = .ro d) := by
  obtain ⟨⟨f1, ρ'⟩, h1, h⟩ := ob h
  cases f1 with
  | nx => cases h; exact ⟨ρ', h1, rfl, .inl rfl⟩
  | rt d => cases h; exact ⟨ρ', h1, rfl, .inr (.inl ⟨d, rfl⟩)⟩
  | ro d => cases h; exact ⟨ρ', h1, rfl, .inr (.inr ⟨d, rfl⟩)⟩
  | bk => cases h
  | ct => cases h
theorem EnvOk.starts {W : OC} {as : List Sl} {vs : List V} {F H : Hp} (E : EnvOk W as (vS vs) F H) {N : List Str} (h : vs.length ≤ N.length) : EnvOk W (as ++ List.replicate (N.length - vs.length) .no) (start N vs) F H :=
  have hl : as.length = vs.length := by rw [E.len]; simp
  have f : ∀ {i : Nat} {s : Sl}, (as ++ List.replicate (N.length - vs.length) Sl.no)[i]? = some s → s = .no ∨ (as[i]? = some s ∧ (start N vs)[i]? = (vS vs)[i]?) := fun {i s} h1 => by
    by_cases hi : i < as.length
    · rw [List.getElem?_append_left hi] at h1
      refine .inr ⟨h1, ?_⟩
      unfold L2.start
      rw [List.getElem?_append_left (by simpa [← hl] using hi)]
    · rw [List.getElem?_append_right (by omega), List.getElem?_replicate] at h1
      split at h1
      · cases h1
        exact .inl rfl
      · cases h1
  ⟨E.fs, by unfold L2.start; simp [hl], fun i s o h1 h2 => by
    rcases f h1 with z | ⟨z1, z2⟩
    · subst z
      exact True.intro
    · exact E.sl i s o z1 (by rw [← z2]; exact h2), fun i j di dj p h1 h2 h3 h4 => by
    rcases f h1 with z | ⟨z1, z2⟩
    · cases z
    · rcases f h2 with y | ⟨y1, y2⟩
      · cases y
      · exact E.dis i j di dj p z1 y1 (by rw [← z2]; exact h3) (by rw [← y2]; exact h4)⟩
theorem Own.starts {as : List Sl} {vs : List V} {N : List Str} {a : Addr} (hl : as.length = vs.length) (o : Own (as ++ List.replicate (N.length - vs.length) .no) (start N vs) a) : Own as (vS vs) a := by
  obtain ⟨i, d, h1, h2⟩ := o
  by_cases hi : i < as.length
  · rw [List.getElem?_append_left hi] at h1
    refine ⟨i, d, h1, ?_⟩
    unfold L2.start at h2
    rw [List.getElem?_append_left (by simpa [← hl] using hi)] at h2
    exact h2
  · rw [List.getElem?_append_right (by omega), List.getElem?_replicate] at h1
    split at h1 <;> cases h1
theorem fnD {P : Program} {w : World} {K : PySem.W.Frag} {mg : Str → Option Value} {base : Heap} {cf : List D → D → Prop} {x qual : Str} {params : Arguments} {body : List Stmt} {scope : Scope} {dvs : List V} {kws : List (Str × V)} {f : Addr} {fd : FuncData} {N ps : List Str} {k : Nat} {sl : List Nat} {c : Es} {m : Nat}
    (F : FunD K x qual params body scope dvs kws f fd) (S : FnScope N ps scope) (hm : m = N.length - ps.length)
    (hb : ∀ (CX : CXT) (cdv : Value) (A : Around) (outer : List Env) (s : Shared) (H : Hp) (E : XK), Room k (A.deeper (envOfC qual scope s.heap.objs.size f cdv)) → PXB (cxOf CX P w K mg base N qual scope f cdv A outer s H E).nox cf body sl c) :
    FnD P w K mg base cf (k + 1) f fd ps (mkDf sl m c) := fun CX => by
  have hpl : ps.length ≤ N.length := by have := congrArg List.length S.pre; rw [List.length_take] at this; omega
  refine F.ok S (fun vs H Q E q => q.1) fun cdv A outer s H vs Q E hr q => ?_
  refine ⟨_, PSs.nox (hb CX cdv A outer s H E hr), ?_⟩
  obtain ⟨l, F, as, fl, as', E0, hc, kk⟩ := q
  obtain ⟨ρ', h1, rfl, hfl⟩ := mkDf_inv hc
  have hl : as.length = vs.length := by rw [E0.len]; simp
  rw [hm, ← l] at h1
  refine ⟨_, F, fl, ρ', E0.starts (by rw [l]; exact hpl), h1, fun σ' F' H' E' x' o' kp => ?_⟩
  have lσ : (start N vs).length = N.length := by unfold L2.start; simp; omega
  have same : ∀ {i : Nat} {s : Sl} {o : Option V}, (retA sl 0 as ρ')[i]? = some s → (vS vs)[i]? = some o → s = .no ∨ (ρ'[i]? = some s ∧ σ'[i]? = some o ∧ ∃ d, as[i]? = some (.ow d)) := fun {i s o} g1 g2 => by
    rcases retA_get g1 with z | ⟨z1, z2, z3⟩
    · exact .inl z
    · refine .inr ⟨z1, ?_, z3⟩
      rw [kp i (by rw [Nat.zero_add] at z2; exact z2)]
      unfold L2.start
      rw [List.getElem?_append_left (List.getElem?_eq_some_iff.mp g2).1]
      exact g2
  have ret : EnvOk ⟨K, cf⟩ (retA sl 0 as ρ') (vS vs) F' H' := by
    refine ⟨E'.fs, ?_, fun i s o g1 g2 => ?_, fun i j di dj p g1 g2 g3 g4 => ?_⟩
    · rw [retA_length, hl]
      simp
    · rcases same g1 g2 with z | ⟨z1, z2, _⟩
      · subst z
        exact True.intro
      · exact E'.sl i s o z1 z2
    · rcases same g1 g3 with z | ⟨z1, z2, _⟩
      · cases z
      · rcases same g2 g4 with y | ⟨y1, y2, _⟩
        · cases y
        · exact E'.dis i j di dj p z1 y1 z2 y2
  have rown : ∀ a, Own (retA sl 0 as ρ') (vS vs) a → Own as (vS vs) a := fun a z => by
    obtain ⟨i, d, g1, g2⟩ := z
    rcases retA_get g1 with z | ⟨_, _, d', z3⟩
    · cases z
    · exact ⟨i, d', z3, g2⟩
  have rown' : ∀ a, Own (retA sl 0 as ρ') (vS vs) a → Own ρ' σ' a := fun a z => by
    obtain ⟨i, d, g1, g2⟩ := z
    rcases same g1 g2 with z | ⟨z1, z2, _⟩
    · cases z
    · exact ⟨i, d, z1, z2⟩
  have x : Ext (Own as (vS vs)) F H F' H' := x'.mono fun p z => z.starts hl
  have fin : ∀ v, ResAt ⟨K, cf⟩ fl v F' H' H (Own as (vS vs)) (Own (retA sl 0 as ρ') (vS vs)) → Q v H' := fun v r => kk v F' H' ret x rown r
  rcases hfl with rfl | ⟨d, rfl⟩ | ⟨d, rfl⟩
  · exact fin .non rfl
  · exact fun v r => fin v r
  · exact fun p g1 g2 g3 g4 => fin (.ref p) ⟨p, rfl, g1, g2, fun z => g3 (rown' p z), g4.imp_right fun z => z.starts hl⟩

/-! ### arguments -/
/-- a known value, or a slot's own thing -/
inductive Ar where
  | d (d : D) | o (i : Nat)
abbrev Eag := List Sl → Option (List Ar × List Sl)
def ArAt (W : OC) (F : Hp) (σ : L2.St) : List Ar → List V → Prop
  | [], vs => vs = []
  | .d d :: as, vs => ∃ v r, vs = v :: r ∧ Rep W F d v ∧ ArAt W F σ as r
  | .o i :: as, vs => ∃ v r, vs = v :: r ∧ σ[i]? = some (some v) ∧ ArAt W F σ as r
theorem ArAt.le {W : OC} {F F' : Hp} {σ : L2.St} (e : Le F F') : ∀ {as : List Ar} {vs : List V}, ArAt W F σ as vs → ArAt W F' σ as vs
  | [], _, h => h
  | .d d :: as, _, h => let ⟨v, r, h1, h2, h3⟩ := h; ⟨v, r, h1, Rep.le e h2, ArAt.le e h3⟩
  | .o i :: as, _, h => let ⟨v, r, h1, h2, h3⟩ := h; ⟨v, r, h1, h2, ArAt.le e h3⟩
def tAg (W : OC) (c : Eag) : TA := fun σ H Q => ∃ ρ F as ρ', EnvOk W ρ σ F H ∧ c ρ = some (as, ρ') ∧
  ∀ vs F' H', EnvOk W ρ' σ F' H' → ArAt W F' σ as vs → Ext (Own ρ σ) F H F' H' → (∀ a, Own ρ' σ a → Own ρ σ a) → Q vs H'
abbrev PXAg (X : Cx) (cf : List D → D → Prop) (es : List Expr) (c : Eag) : Prop := PA X es (tAg ⟨X.K, cf⟩ c)
def gNil : Eag := fun ρ => some ([], ρ)
def gCons (a : Ev) (r : Eag) : Eag := fun ρ => (a ρ).bind fun p => (r p.2).bind fun q => some (.d p.1 :: q.1, q.2)
def gOwn (i : Nat) (r : Eag) : Eag := fun ρ => (ownS ρ i).bind fun _ => (r ρ).bind fun q => some (.o i :: q.1, q.2)
section
variable {X : Cx} {cf : List D → D → Prop} {e : Expr} {es : List Expr} {c : Ev} {ca : Eag} {pos : Pos} {i : Nat}
theorem ag_nil : PXAg X cf [] gNil := pa_imp pa_nil fun σ H Q q => by
  obtain ⟨ρ, F, ds, ρ', E, hc, k⟩ := q
  cases hc
  exact k [] F H E rfl Ext.refl fun _ z => z
theorem ag_cons (ha : PX X cf e c) (hr : PXAg X cf es ca) (hs : starEach (e :: es) X.env = (false, eval e X.env) :: starEach es X.env := by rfl) : PXAg X cf (e :: es) (gCons c ca) := pa_imp (pa_cons ha hr hs) fun σ H Q q => by
  obtain ⟨ρ, F, ds, ρ', E, hc, k⟩ := q
  obtain ⟨⟨d1, ρ1⟩, h1, hc⟩ := ob hc
  obtain ⟨⟨d2, ρ2⟩, h2, hc⟩ := ob hc
  cases hc
  exact ⟨ρ, F, d1, ρ1, E, h1, fun v F1 H1 E1 r1 x1 o1 => ⟨ρ1, F1, d2, _, E1, h2, fun vs F2 H2 E2 r2 x2 o2 => k (v :: vs) F2 H2 E2 ⟨v, vs, rfl, Rep.le x2.f r1, r2⟩ (x1.trans x2 fun p z => .inl (o1 p z)) fun a z => o1 a (o2 a z)⟩⟩
theorem ag_own (ha : PE X e (tVar i)) (hr : PXAg X cf es ca) (hs : starEach (e :: es) X.env = (false, eval e X.env) :: starEach es X.env := by rfl) : PXAg X cf (e :: es) (gOwn i ca) := pa_imp (pa_cons ha hr hs) fun σ H Q q => by
  obtain ⟨ρ, F, ds, ρ', E, hc, k⟩ := q
  obtain ⟨d1, h1, hc⟩ := ob hc
  obtain ⟨⟨d2, ρ2⟩, h2, hc⟩ := ob hc
  cases hc
  obtain ⟨p, es, _, _⟩ := E.own (ownS_eq h1)
  exact ⟨_, es, ρ, F, d2, _, E, h2, fun vs F2 H2 E2 r2 x2 o2 => k (.ref p :: vs) F2 H2 E2 ⟨_, vs, rfl, es, r2⟩ x2 o2⟩
end
/-- the callee's slots -/
def argS (ρ : List Sl) : List Ar → Option (List Sl)
  | [] => some []
  | .d d :: as => (argS ρ as).map (.fr d :: ·)
  | .o i :: as => (ownS ρ i).bind fun d => (argS ρ as).map (.ow d :: ·)
/-- the caller's slots behind the call -/
def backS (ρ : List Sl) : List Ar → List Sl → List Sl
  | .o i :: as, s :: ss => (backS ρ as ss).set i s
  | .d _ :: as, _ :: ss => backS ρ as ss
  | _, _ => ρ
def oIx : List Ar → List Nat
  | [] => []
  | .d _ :: as => oIx as
  | .o i :: as => i :: oIx as
def nodupB : List Nat → Bool
  | [] => true
  | i :: is => !is.contains i && nodupB is
theorem nodupB_iff : ∀ {l : List Nat}, nodupB l = true → l.Nodup
  | [], _ => List.nodup_nil
  | i :: is, h => by
    simp only [nodupB, Bool.and_eq_true, Bool.not_eq_true'] at h
    refine List.nodup_cons.mpr ⟨fun z => ?_, nodupB_iff h.2⟩
    have q := List.contains_iff_mem.mpr z
    rw [h.1] at q
    cases q
/-- argument by argument: where it comes from -/
theorem argS_get {W : OC} {ρ : List Sl} {F : Hp} {σ : L2.St} : ∀ {as : List Ar} {ss : List Sl} {vs : List V}, argS ρ as = some ss → ArAt W F σ as vs → ss.length = vs.length ∧ ∀ (k : Nat) s, ss[k]? = some s →
    (∃ d v, s = .fr d ∧ vs[k]? = some v ∧ Rep W F d v) ∨ ∃ i d v, s = .ow d ∧ as[k]? = some (.o i) ∧ ρ[i]? = some (.ow d) ∧ vs[k]? = some v ∧ σ[i]? = some (some v)
  | [], ss, vs, h, a => by
    cases h
    have a' : vs = [] := a
    subst a'
    exact ⟨rfl, fun k s z => by simp at z⟩
  | .d d :: as, ss, vs, h, a => by
    obtain ⟨v, r, rfl, h2, h3⟩ := a
    obtain ⟨ss', h1, rfl⟩ := Option.map_eq_some_iff.mp (show (argS ρ as).map (Sl.fr d :: ·) = some ss from h)
    obtain ⟨l, q⟩ := argS_get h1 h3
    refine ⟨by simp [l], fun k s z => ?_⟩
    cases k with
    | zero =>
      cases z
      exact .inl ⟨d, v, rfl, rfl, h2⟩
    | succ k => exact q k s z
  | .o i :: as, ss, vs, h, a => by
    obtain ⟨v, r, rfl, h2, h3⟩ := a
    obtain ⟨d, h0, h⟩ := ob (show (ownS ρ i).bind _ = some ss from h)
    obtain ⟨ss', h1, rfl⟩ := Option.map_eq_some_iff.mp h
    obtain ⟨l, q⟩ := argS_get h1 h3
    refine ⟨by simp [l], fun k s z => ?_⟩
    cases k with
    | zero =>
      cases z
      exact .inr ⟨i, d, v, rfl, rfl, ownS_eq h0, rfl, h2⟩
    | succ k => exact q k s z
theorem oIx_get : ∀ {as : List Ar} {k i : Nat}, as[k]? = some (.o i) → i ∈ oIx as
  | .d _ :: as, k + 1, i, h => oIx_get (as := as) (k := k) h
  | .o j :: as, 0, i, h => by
    cases h
    exact List.mem_cons_self
  | .o j :: as, k + 1, i, h => List.mem_cons_of_mem _ (oIx_get (as := as) (k := k) h)
theorem oIx_inj : ∀ {as : List Ar} {k l i : Nat}, (oIx as).Nodup → as[k]? = some (.o i) → as[l]? = some (.o i) → k = l
  | .d _ :: as, k + 1, l + 1, i, n, h, h' => congrArg Nat.succ (oIx_inj (as := as) n h h')
  | .o j :: as, 0, 0, i, n, h, h' => rfl
  | .o j :: as, 0, l + 1, i, n, h, h' => by
    cases h
    exact ((List.nodup_cons.mp n).1 (oIx_get (as := as) (k := l) h')).elim
  | .o j :: as, k + 1, 0, i, n, h, h' => by
    cases h'
    exact ((List.nodup_cons.mp n).1 (oIx_get (as := as) (k := k) h)).elim
  | .o j :: as, k + 1, l + 1, i, n, h, h' => congrArg Nat.succ (oIx_inj (as := as) (List.nodup_cons.mp n).2 h h')
theorem EnvOk.args {W : OC} {ρ : List Sl} {σ : L2.St} {F H : Hp} {as : List Ar} {ss : List Sl} {vs : List V} (E : EnvOk W ρ σ F H) (h : argS ρ as = some ss) (a : ArAt W F σ as vs) (n : (oIx as).Nodup) : EnvOk W ss (vS vs) F H := by
  obtain ⟨l, q⟩ := argS_get h a
  refine ⟨E.fs, by simp [l], fun k s o h1 h2 => ?_, fun k j dk dj p h1 h2 h3 h4 => ?_⟩
  · rcases q k s h1 with ⟨d, v, rfl, hv, r⟩ | ⟨i, d, v, rfl, _, hr, hv, hs⟩
    · have e : o = some v := by
        have : (vS vs)[k]? = some (some v) := by show (vs.map some)[k]? = _; rw [List.getElem?_map, hv]; rfl
        rw [this] at h2
        exact (Option.some.inj h2).symm
      exact ⟨v, e, r⟩
    · have e : o = some v := by
        have : (vS vs)[k]? = some (some v) := by show (vs.map some)[k]? = _; rw [List.getElem?_map, hv]; rfl
        rw [this] at h2
        exact (Option.some.inj h2).symm
      obtain ⟨p, e2, n2, r2⟩ := E.own hr
      rw [hs] at e2
      cases e2
      exact ⟨p, e, n2, r2⟩
  · have f : ∀ {k : Nat} {dk : D}, ss[k]? = some (.ow dk) → (vS vs)[k]? = some (some (V.ref p)) → ∃ i, as[k]? = some (.o i) ∧ (∃ d, ρ[i]? = some (.ow d)) ∧ σ[i]? = some (some (.ref p)) := fun {k dk} h1 h3 => by
      rcases q k _ h1 with ⟨d, v, z, _⟩ | ⟨i, d, v, z, ha, hr, hv, hs⟩
      · cases z
      · refine ⟨i, ha, ⟨d, hr⟩, ?_⟩
        have : (vS vs)[k]? = some (some v) := by show (vs.map some)[k]? = _; rw [List.getElem?_map, hv]; rfl
        rw [this] at h3
        cases h3
        exact hs
    obtain ⟨i, a1, ⟨d1, r1⟩, s1⟩ := f h1 h3
    obtain ⟨i', a2, ⟨d2, r2⟩, s2⟩ := f h2 h4
    have ei := E.dis i i' d1 d2 p r1 r2 s1 s2
    subst ei
    exact oIx_inj n a1 a2
theorem Own.args {W : OC} {ρ : List Sl} {σ : L2.St} {F : Hp} {as : List Ar} {ss : List Sl} {vs : List V} {p : Addr} (h : argS ρ as = some ss) (a : ArAt W F σ as vs) (o : Own ss (vS vs) p) : ∃ (i k : Nat) (d : D), as[k]? = some (.o i) ∧ ρ[i]? = some (.ow d) ∧ σ[i]? = some (some (.ref p)) := by
  obtain ⟨k, d, h1, h3⟩ := o
  rcases (argS_get h a).2 k _ h1 with ⟨d, v, z, _⟩ | ⟨i, d, v, z, ha, hr, hv, hs⟩
  · cases z
  · refine ⟨i, k, d, ha, hr, ?_⟩
    have : (vS vs)[k]? = some (some v) := by show (vs.map some)[k]? = _; rw [List.getElem?_map, hv]; rfl
    rw [this] at h3
    cases h3
    exact hs
theorem backS_length {ρ : List Sl} : ∀ {as : List Ar} {ss : List Sl}, (backS ρ as ss).length = ρ.length
  | [], _ => rfl
  | .d _ :: as, [] => rfl
  | .o _ :: as, [] => rfl
  | .d _ :: as, _ :: ss => backS_length (as := as)
  | .o _ :: as, _ :: ss => by rw [backS, List.length_set, backS_length (as := as)]
theorem backS_get {ρ : List Sl} : ∀ {as : List Ar} {ss : List Sl} {j : Nat} {s : Sl}, as.length = ss.length → (backS ρ as ss)[j]? = some s → (∃ k : Nat, as[k]? = some (Ar.o j) ∧ ss[k]? = some s) ∨ (j ∉ oIx as ∧ ρ[j]? = some s)
  | [], _, j, s, _, h => .inr ⟨by simp [oIx], h⟩
  | .d _ :: as, [], _, _, l, _ => by cases l
  | .o _ :: as, [], _, _, l, _ => by cases l
  | .d _ :: as, t :: ss, j, s, l, h => by
    rcases backS_get (as := as) (Nat.succ.inj l) h with ⟨k, h1, h2⟩ | ⟨h1, h2⟩
    · exact .inl ⟨k + 1, h1, h2⟩
    · exact .inr ⟨h1, h2⟩
  | .o i :: as, t :: ss, j, s, l, h => by
    rw [backS] at h
    rcases set_get? h with ⟨e, e1, _⟩ | ⟨ne, h⟩
    · exact .inl ⟨0, by rw [e]; rfl, by rw [e1]; rfl⟩
    · rcases backS_get (as := as) (Nat.succ.inj l) h with ⟨k, h1, h2⟩ | ⟨h1, h2⟩
      · exact .inl ⟨k + 1, h1, h2⟩
      · exact .inr ⟨fun z => by
          rcases List.mem_cons.mp z with z | z
          · exact ne z
          · exact h1 z, h2⟩
theorem ArAt.length {W : OC} {F : Hp} {σ : L2.St} : ∀ {as : List Ar} {vs : List V}, ArAt W F σ as vs → as.length = vs.length
  | [], _, h => by
    have h' : _ = [] := h
    rw [h']
    rfl
  | .d d :: as, _, h => by
    obtain ⟨v, r, rfl, _, h3⟩ := h
    simp [h3.length]
  | .o i :: as, _, h => by
    obtain ⟨v, r, rfl, _, h3⟩ := h
    simp [h3.length]
theorem ArAt.own {W : OC} {F : Hp} {σ : L2.St} : ∀ {as : List Ar} {vs : List V} {k i : Nat}, ArAt W F σ as vs → as[k]? = some (.o i) → ∃ v, vs[k]? = some v ∧ σ[i]? = some (some v)
  | .d d :: as, _, k + 1, i, h, e => by
    obtain ⟨v, r, rfl, _, h3⟩ := h
    exact h3.own (k := k) e
  | .o j :: as, _, 0, i, h, e => by
    obtain ⟨v, r, rfl, h2, h3⟩ := h
    cases e
    exact ⟨v, rfl, h2⟩
  | .o j :: as, _, k + 1, i, h, e => by
    obtain ⟨v, r, rfl, _, h3⟩ := h
    exact h3.own (k := k) e
theorem argS_own {ρ : List Sl} : ∀ {as : List Ar} {ss : List Sl} {k i : Nat}, argS ρ as = some ss → as[k]? = some (Ar.o i) → ∃ d, ss[k]? = some (.ow d)
  | [], ss, k, i, _, z => by simp at z
  | .d d :: as, ss, k, i, h, z => by
    obtain ⟨ss', h1, rfl⟩ := Option.map_eq_some_iff.mp (show (argS ρ as).map (Sl.fr d :: ·) = some ss from h)
    cases k with
    | zero => cases z
    | succ k => exact argS_own (as := as) (ss := ss') (k := k) h1 z
  | .o j :: as, ss, k, i, h, z => by
    obtain ⟨d, h0, h⟩ := ob (show (ownS ρ j).bind _ = some ss from h)
    obtain ⟨ss', h1, rfl⟩ := Option.map_eq_some_iff.mp h
    cases k with
    | zero => exact ⟨d, rfl⟩
    | succ k => exact argS_own (as := as) (ss := ss') (k := k) h1 z
/-- behind a call -/
theorem EnvOk.behind {W : OC} {ρ : List Sl} {σ : L2.St} {F H F' H' : Hp} {as : List Ar} {ss ss' : List Sl} {vs : List V} (E : EnvOk W ρ σ F H) (h : argS ρ as = some ss) (a : ArAt W F σ as vs) (n : (oIx as).Nodup)
    (E' : EnvOk W ss' (vS vs) F' H') (x : Ext (Own ss (vS vs)) F H F' H') (o : ∀ p, Own ss' (vS vs) p → Own ss (vS vs) p) :
    EnvOk W (backS ρ as ss') σ F' H' ∧ (∀ p, Own ss (vS vs) p → Own ρ σ p) ∧ (∀ p, Own (backS ρ as ss') σ p → Own ρ σ p) ∧ (∀ p, ¬ Own ss' (vS vs) p → (H p = none ∨ Own ss (vS vs) p) → ¬ Own (backS ρ as ss') σ p) := by
  have la : as.length = ss'.length := by rw [a.length, E'.len]; simp
  have own1 : ∀ p, Own ss (vS vs) p → Own ρ σ p := fun p z => let ⟨i, _, d, _, h2, h3⟩ := z.args h a; ⟨i, d, h2, h3⟩
  have vAt : ∀ {k i : Nat} {v : V}, as[k]? = some (.o i) → σ[i]? = some (some v) → (vS vs)[k]? = some (some v) := fun {k i v} e1 e2 => by
    obtain ⟨w, e3, e4⟩ := a.own e1
    rw [e2] at e4
    cases e4
    show (vs.map some)[k]? = _
    rw [List.getElem?_map, e3]
    rfl
  -- an own slot of the frame behind is an own slot of the frame ahead
  have was : ∀ {j : Nat} {d : D} {p : Addr}, (backS ρ as ss')[j]? = some (.ow d) → σ[j]? = some (some (V.ref p)) → ∃ d', ρ[j]? = some (.ow d') := fun {j d p} g1 g2 => by
    rcases backS_get la g1 with ⟨k, e1, e2⟩ | ⟨_, e2⟩
    · have oo := o p ⟨k, d, e2, vAt e1 g2⟩
      obtain ⟨i, k', d', f1, f2, f3⟩ := oo.args h a
      obtain ⟨kk, dd, m1, m2⟩ := oo
      -- the k-th argument is own j
      have q := (argS_get h a).2
      have hk : k < ss.length := by rw [(argS_get h a).1, ← a.length]; exact (List.getElem?_eq_some_iff.mp e1).1
      rcases q k ss[k] (by simp [hk]) with ⟨d0, v0, z, hv, r⟩ | ⟨i0, d0, v0, z, ha, hr, hv, hs⟩
      · exfalso
        obtain ⟨d1, w⟩ := argS_own h e1
        have w2 : ss[k]? = some ss[k] := by simp [hk]
        rw [w2, z] at w
        cases w
      · rw [e1] at ha
        cases ha
        exact ⟨d0, hr⟩
    · exact ⟨d, e2⟩
  refine ⟨⟨E'.fs, by rw [backS_length]; exact E.len, fun j s v g1 g2 => ?_, fun i j di dj p g1 g2 g3 g4 => ?_⟩, own1, fun p z => ?_, fun p z1 z2 z3 => ?_⟩
  · rcases backS_get la g1 with ⟨k, e1, e2⟩ | ⟨e1, e2⟩
    · cases v with
      | none =>
        obtain ⟨w, _, e4⟩ := a.own e1
        rw [g2] at e4
        cases e4
      | some v => exact E'.sl k s (some v) e2 (vAt e1 g2)
    · have q := E.sl j s v e2 g2
      cases s with
      | no => exact True.intro
      | fr d => exact let ⟨v, e, r⟩ := q; ⟨v, e, Rep.le x.f r⟩
      | ow d =>
        obtain ⟨p, e, n1, r⟩ := q
        have np : ¬ Own ss (vS vs) p := fun z => by
          obtain ⟨i, k, d', f1, f2, f3⟩ := z.args h a
          have := E.dis i j d' d p f2 e2 f3 (by rw [g2, e])
          subst this
          exact e1 (oIx_get f1)
        obtain ⟨u, hu⟩ := r.obj
        have nn : F' p = none := by
          rcases (x.h p u hu n1 np).2 with z | ⟨xs, z, _⟩
          · exact z
          · rcases r.there with ⟨_, q⟩ | ⟨_, q⟩ | ⟨_, q⟩ <;> (rw [q, z] at hu; cases hu)
        exact ⟨p, e, nn, r.mono x.f fun u hu => (x.h p u hu n1 np).1⟩
  · obtain ⟨d1, w1⟩ := was g1 g3
    obtain ⟨d2, w2⟩ := was g2 g4
    exact E.dis i j d1 d2 p w1 w2 g3 g4
  · obtain ⟨j, d, g1, g2⟩ := z
    obtain ⟨d1, w1⟩ := was g1 g2
    exact ⟨j, d1, w1, g2⟩
  · obtain ⟨j, d, g1, g2⟩ := z3
    obtain ⟨d1, w1⟩ := was g1 g2
    rcases backS_get la g1 with ⟨k, e1, e2⟩ | ⟨e1, e2⟩
    · exact z1 ⟨k, d, e2, vAt e1 g2⟩
    · rcases z2 with z2 | z2
      · obtain ⟨_, e, _⟩ := E.ownAt ⟨j, d1, w1, g2⟩
        rw [z2] at e
        cases e
      · obtain ⟨i, k, d', f1, f2, f3⟩ := z2.args h a
        have := E.dis i j d' d1 p f2 w1 f3 g2
        subst this
        exact e1 (oIx_get f1)
def cCall (n : Nat) (df : Df) (ag : Eag) : Ev := fun ρ => (ag ρ).bind fun p => if (nodupB (oIx p.1) && decide (p.1.length = n)) = true then (argS p.2 p.1).bind fun as => (df as).bind fun q => match q.1 with
  | .rt d => some (d, backS p.2 p.1 q.2)
  | .nx => some (.non, backS p.2 p.1 q.2)
  | _ => none
  else none
def cCallO (n : Nat) (df : Df) (ag : Eag) : Ev := fun ρ => (ag ρ).bind fun p => if (nodupB (oIx p.1) && decide (p.1.length = n)) = true then (argS p.2 p.1).bind fun as => (df as).bind fun q => match q.1 with
  | .ro d => some (d, backS p.2 p.1 q.2)
  | _ => none
  else none
/-- what a def's promise gives at a call -/
theorem call_sp {W : OC} {n : Nat} {df : Df} {ρ : List Sl} {σ : L2.St} {F H : Hp} {as : List Ar} {ss as' : List Sl} {vs : List V} {fl : Fl} {Q : VK} {E0 : XK} (hl : as.length = n) (E : EnvOk W ρ σ F H) (h : argS ρ as = some ss) (a : ArAt W F σ as vs) (n0 : (oIx as).Nodup) (hd : df ss = some (fl, as'))
    (k : ∀ v F' H', EnvOk W (backS ρ as as') σ F' H' → Ext (Own ρ σ) F H F' H' → (∀ p, Own (backS ρ as as') σ p → Own ρ σ p) → ResAt W fl v F' H' H (Own ρ σ) (Own (backS ρ as as') σ) → Q v H') : spD W n df vs H Q E0 := by
  refine ⟨by rw [← a.length]; exact hl, F, ss, fl, as', E.args h a n0, hd, fun v F' H' E' x o r => ?_⟩
  obtain ⟨E2, o1, o2, o3⟩ := E.behind h a n0 E' x o
  refine k v F' H' E2 (x.mono o1) o2 ?_
  cases fl with
  | nx => exact r
  | rt d => exact r
  | ro d => exact let ⟨p, h1, h2, h3, h4, h5⟩ := r; ⟨p, h1, h2, h3, o3 p h4 h5, h5.imp_right (o1 p)⟩
  | bk => exact r.elim
  | ct => exact r.elim
abbrev CXN : CXT := fun _ _ _ _ _ _ => False
abbrev EN : XK := fun _ _ _ => False
section
variable {X : Cx} {cf : List D → D → Prop} {k : Nat} {f : Addr} {fd : FuncData} {ps : List Str} {df : Df} {x : Str} {e : Expr} {es : List Expr} {ag : Eag} {p pos : Pos}
theorem passN : Passes CXN X EN := fun _ _ _ _ _ _ _ h => False.elim h
theorem x_call (F : FnD X.prog X.w X.K X.mg X.base cf k f fd ps df) (hr : Room k X.A) (hg : Gl X x) (hm : X.mg x = some (.ref f)) (hk : PySem.W.keepIn X.K (.ref f) = true) (hb : Binds X.K fd ps [])
    (ha : PXAg X cf (e :: es) ag) (hdb : (x == ("__debug__" : Str)) = false := by decide) (he : starEach (e :: es) X.env = (false, eval e X.env) :: starEach es X.env := by rfl) (hpl : (backTo pos (starEach es X.env)).any (·.1) = false := by rfl) : PX X cf (.Call (.Name x p) (e :: es) [] pos) (cCall ps.length df ag) :=
  pe_imp (pe_call (F CXN) hr hg hm hk hb .nil passN ha hdb he hpl) fun σ H Q q => by
    obtain ⟨ρ, F0, d, ρ', E, hc, kk⟩ := q
    obtain ⟨⟨as, ρ1⟩, h1, hc⟩ := ob hc
    split at hc
    · rename_i hd
      obtain ⟨ss, h2, hc⟩ := ob hc
      obtain ⟨⟨fl, as'⟩, h3, hc⟩ := ob hc
      refine ⟨ρ, F0, as, ρ1, E, h1, fun vs F1 H1 E1 a1 x1 o1 => ?_⟩
      show spD _ _ df (vs ++ []) H1 _ EN
      rw [List.append_nil]
      refine call_sp (of_decide_eq_true (Bool.and_eq_true_iff.mp hd).2) E1 h2 a1 (nodupB_iff (Bool.and_eq_true_iff.mp hd).1) h3 fun v F2 H2 E2 x2 o2 r => ?_
      have x12 := x1.trans x2 fun p z => .inl (o1 p z)
      have o12 := fun a z => o1 a (o2 a z)
      cases fl with
      | rt d =>
        cases hc
        exact kk v F2 H2 E2 r x12 o12
      | nx =>
        cases hc
        exact kk v F2 H2 E2 (by rw [show v = .non from r]; simp only [Rep]) x12 o12
      | _ => cases hc
    · cases hc
theorem o_call (F : FnD X.prog X.w X.K X.mg X.base cf k f fd ps df) (hr : Room k X.A) (hg : Gl X x) (hm : X.mg x = some (.ref f)) (hk : PySem.W.keepIn X.K (.ref f) = true) (hb : Binds X.K fd ps [])
    (ha : PXAg X cf (e :: es) ag) (hdb : (x == ("__debug__" : Str)) = false := by decide) (he : starEach (e :: es) X.env = (false, eval e X.env) :: starEach es X.env := by rfl) (hpl : (backTo pos (starEach es X.env)).any (·.1) = false := by rfl) : PXO X cf (.Call (.Name x p) (e :: es) [] pos) (cCallO ps.length df ag) :=
  pe_imp (pe_call (F CXN) hr hg hm hk hb .nil passN ha hdb he hpl) fun σ H Q q => by
    obtain ⟨ρ, F0, d, ρ', E, hc, kk⟩ := q
    obtain ⟨⟨as, ρ1⟩, h1, hc⟩ := ob hc
    split at hc
    · rename_i hd
      obtain ⟨ss, h2, hc⟩ := ob hc
      obtain ⟨⟨fl, as'⟩, h3, hc⟩ := ob hc
      refine ⟨ρ, F0, as, ρ1, E, h1, fun vs F1 H1 E1 a1 x1 o1 => ?_⟩
      show spD _ _ df (vs ++ []) H1 _ EN
      rw [List.append_nil]
      refine call_sp (of_decide_eq_true (Bool.and_eq_true_iff.mp hd).2) E1 h2 a1 (nodupB_iff (Bool.and_eq_true_iff.mp hd).1) h3 fun v F2 H2 E2 x2 o2 r => ?_
      have x12 := x1.trans x2 fun p z => .inl (o1 p z)
      have o12 := fun a z => o1 a (o2 a z)
      cases fl with
      | ro d =>
        cases hc
        obtain ⟨p, rfl, g1, g2, g3, g4⟩ := r
        refine kk p F2 H2 E2 g1 g2 g3 ?_ x12 o12
        rcases g4 with z | z
        · exact x1.back E z g2 x2.f
        · exact .inr (o1 p z)
      | _ => cases hc
    · cases hc
end
end Ov
/-! Ov: what a proof of a def takes by name. -/
namespace Ov
open PySem PySem.Spec PyProof.Rows L2

theorem _root_.L2.Room.units1 {k : Nat} {A : Around} (r : Room k A) : A.units + 1 < cLine := by have := r.units; omega
/-- no global of the text has a built-in's name -/
structure Bs (mg : Str → Option Value) : Prop where
  len : mg "len" = none
  range : mg "range" = none
  sorted : mg "sorted" = none
  tuple : mg "tuple" = none
  list : mg "list" = none
  int : mg "int" = none
  any : mg "any" = none
  all : mg "all" = none
  min : mg "min" = none
  max : mg "max" = none
  sum : mg "sum" = none
  zip : mg "zip" = none
  enumerate : mg "enumerate" = none
  isinstance : mg "isinstance" = none
  bool : mg "bool" = none
/-- a def of the text by its name -/
structure CalD (P : Program) (w : World) (K : PySem.W.Frag) (mg : Str → Option Value) (base : Heap) (cf : List D → D → Prop) (k : Nat) (x : Str) (ps : List Str) (df : Df) : Prop where
  ex : ∃ f fd, FnD P w K mg base cf k f fd ps df ∧ mg x = some (.ref f) ∧ PySem.W.keepIn K (.ref f) = true ∧ Binds K fd ps []
section
variable {X : Cx} {cf : List D → D → Prop} {k j n : Nat} {ps : List Str} {df : Df} {x : Str} {e : Expr} {es : List Expr} {ag : Eag} {p pos : Pos} {ca : Ev} {a : Expr}
theorem x_callC (C : CalD X.prog X.w X.K X.mg X.base cf k x ps df) (hr : Room j X.A) (hk : k ≤ j) (hg : Gl X x) (ha : PXAg X cf (e :: es) ag) (hdb : (x == ("__debug__" : Str)) = false := by decide)
    (he : starEach (e :: es) X.env = (false, eval e X.env) :: starEach es X.env := by rfl) (hpl : (backTo pos (starEach es X.env)).any (·.1) = false := by rfl) (hn : ps.length = n := by rfl) : PX X cf (.Call (.Name x p) (e :: es) [] pos) (cCall n df ag) := by
  subst hn
  obtain ⟨f, fd, F, hm, kp, hb⟩ := C.ex
  exact x_call F (hr.mono hk) hg hm kp hb ha hdb he hpl
theorem o_callC (C : CalD X.prog X.w X.K X.mg X.base cf k x ps df) (hr : Room j X.A) (hk : k ≤ j) (hg : Gl X x) (ha : PXAg X cf (e :: es) ag) (hdb : (x == ("__debug__" : Str)) = false := by decide)
    (he : starEach (e :: es) X.env = (false, eval e X.env) :: starEach es X.env := by rfl) (hpl : (backTo pos (starEach es X.env)).any (·.1) = false := by rfl) (hn : ps.length = n := by rfl) : PXO X cf (.Call (.Name x p) (e :: es) [] pos) (cCallO n df ag) := by
  subst hn
  obtain ⟨f, fd, F, hm, kp, hb⟩ := C.ex
  exact o_call F (hr.mono hk) hg hm kp hb ha hdb he hpl
def negD : D → Option D := fun d => (toI d).map fun i => .int (-i)
theorem x_neg (ha : PX X cf a ca) : PX X cf (.UnaryOp .USub a pos) (c1 negD ca) := pe_imp (pe_un un_neg ha) fun σ H Q q => by
  obtain ⟨ρ, F, d, ρ', E, hc, k⟩ := q
  obtain ⟨⟨d1, ρ1⟩, h1, hc⟩ := ob hc
  obtain ⟨z, h3, hc⟩ := ob hc
  cases hc
  obtain ⟨i, h4, rfl⟩ := Option.map_eq_some_iff.mp (show (toI d1).map _ = some d from h3)
  refine ⟨ρ, F, d1, _, E, h1, fun v F1 H1 E1 r1 x1 o1 => ⟨i, ?_, k _ F1 H1 E1 (by simp only [Rep]) x1 o1⟩⟩
  rw [toI_eq h4] at r1
  simpa only [Rep] using r1
end
/-- by its data: a def of the text -/
theorem CalD.of {P : Program} {w : World} {K : PySem.W.Frag} {mg : Str → Option Value} {base : Heap} {cf : List D → D → Prop} {k : Nat} {x qual : Str} {params : Arguments} {body : List Stmt} {scope : Scope} {kws : List (Str × V)} {f : Addr} {fd : FuncData} {ps : List Str} {df : Df}
    (G : FunD K x qual params body scope [] kws f fd) (hm : mg x = some (.ref f)) (F : FnD P w K mg base cf k f fd ps df)
    (hb : ∀ (kV doc pm : Value) (an : Option Addr) (cdv ct : Value) (us : List Value), us.length = ps.length → bindArgs (PySem.W.fnOf x qual params body scope .none kV doc pm an cdv ct) ⟨us, []⟩ = pure (ps.zip us)) : CalD P w K mg base cf k x ps df :=
  ⟨f, fd, F, hm, G.kp, G.bindsN hb⟩
end Ov
namespace Ov
open PySem PySem.Spec PyProof.Rows L2
section
variable {X : Cx} {cf : List D → D → Prop}
theorem s_setLc2O {i : Nat} {y : Str} {py : Pos} {elt tg iter tg1 iter1 : Expr} {ifs ifs1 : List Expr} {scope : Scope} {own : List (Str × Nat)} {vs1 : List Nat} {pos spos : Pos} {ti ti1 : Ei} {g g1 : Eg} {sl sl1 : List Nat} {tt tt1 : Et} {te : Ev} (hc : X.calm = true) (hN : X.N.Nodup) (hy : X.N[i]? = some y) (hyl : X.env.scope.names.lookup y = some .local)
    (hsw : swapsWith (.ListComp elt [⟨tg, iter, ifs, 0⟩, ⟨tg1, iter1, ifs1, 0⟩] scope pos) (some (.Name y py)) spos.line X.env = pure true) (hi : PXI X cf tg iter ti) (ok : BlkOk X.N X.env.scope scope own) (hv : ∀ i ∈ vs1, i ∈ own.map (·.2)) (hsl : ∀ j ∈ sl, j ∈ own.map (·.2)) (hsl1 : ∀ j ∈ sl1, j ∈ vs1)
    (hg : ∀ (s : Shared) (H : Hp) (C : Addr) (cl : List (Str × Addr)) (fp : List Addr), PXG (X.blk s H scope (compEnvC scope cl C X.env) fp) cf tg sl g) (ht : ∀ (s : Shared) (H : Hp) (C : Addr) (cl : List (Str × Addr)) (fp : List Addr), PXTs (X.blk s H scope (compEnvC scope cl C X.env) fp) cf ifs tt)
    (hi1 : ∀ (s : Shared) (H : Hp) (C : Addr) (cl : List (Str × Addr)) (fp : List Addr), PXI (X.blk s H scope (compEnvC scope cl C X.env) fp) cf tg1 iter1 ti1)
    (hg1 : ∀ (s : Shared) (H : Hp) (C : Addr) (cl : List (Str × Addr)) (fp : List Addr), PXG (X.blk s H scope (compEnvC scope cl C X.env) fp) cf tg1 sl1 g1) (ht1 : ∀ (s : Shared) (H : Hp) (C : Addr) (cl : List (Str × Addr)) (fp : List Addr), PXTs (X.blk s H scope (compEnvC scope cl C X.env) fp) cf ifs1 tt1)
    (he : ∀ (s : Shared) (H : Hp) (C : Addr) (cl : List (Str × Addr)) (fp : List Addr), PX (X.blk s H scope (compEnvC scope cl C X.env) fp) cf elt te) (hs : ∀ x, foldedSetIterable iter X.env x = pure x := by intro _; rfl) (hs1 : ∀ env x, foldedSetIterable iter1 env x = pure x := by intro _ _; rfl) :
    PXS X cf (.Assign [.Name y py] (.ListComp elt [⟨tg, iter, ifs, 0⟩, ⟨tg1, iter1, ifs1, 0⟩] scope pos) spos) [i] (cSetO i (cLc2 (own.map (·.2)) vs1 ti g tt ti1 g1 tt1 te)) := ps_imp (ps_setLc2 hc hN hy hyl hsw hi ok hv hg ht hi1 hg1 ht1 he hs hs1) fun En σ H q => by
  have z := asgO_imp q
  exact lc2_imp hsl hsl1 z
theorem s_setLc2 {i : Nat} {y : Str} {py : Pos} {elt tg iter tg1 iter1 : Expr} {ifs ifs1 : List Expr} {scope : Scope} {own : List (Str × Nat)} {vs1 : List Nat} {pos spos : Pos} {ti ti1 : Ei} {g g1 : Eg} {sl sl1 : List Nat} {tt tt1 : Et} {te : Ev} (hc : X.calm = true) (hN : X.N.Nodup) (hy : X.N[i]? = some y) (hyl : X.env.scope.names.lookup y = some .local)
    (hsw : swapsWith (.ListComp elt [⟨tg, iter, ifs, 0⟩, ⟨tg1, iter1, ifs1, 0⟩] scope pos) (some (.Name y py)) spos.line X.env = pure true) (hi : PXI X cf tg iter ti) (ok : BlkOk X.N X.env.scope scope own) (hv : ∀ i ∈ vs1, i ∈ own.map (·.2)) (hsl : ∀ j ∈ sl, j ∈ own.map (·.2)) (hsl1 : ∀ j ∈ sl1, j ∈ vs1)
    (hg : ∀ (s : Shared) (H : Hp) (C : Addr) (cl : List (Str × Addr)) (fp : List Addr), PXG (X.blk s H scope (compEnvC scope cl C X.env) fp) cf tg sl g) (ht : ∀ (s : Shared) (H : Hp) (C : Addr) (cl : List (Str × Addr)) (fp : List Addr), PXTs (X.blk s H scope (compEnvC scope cl C X.env) fp) cf ifs tt)
    (hi1 : ∀ (s : Shared) (H : Hp) (C : Addr) (cl : List (Str × Addr)) (fp : List Addr), PXI (X.blk s H scope (compEnvC scope cl C X.env) fp) cf tg1 iter1 ti1)
    (hg1 : ∀ (s : Shared) (H : Hp) (C : Addr) (cl : List (Str × Addr)) (fp : List Addr), PXG (X.blk s H scope (compEnvC scope cl C X.env) fp) cf tg1 sl1 g1) (ht1 : ∀ (s : Shared) (H : Hp) (C : Addr) (cl : List (Str × Addr)) (fp : List Addr), PXTs (X.blk s H scope (compEnvC scope cl C X.env) fp) cf ifs1 tt1)
    (he : ∀ (s : Shared) (H : Hp) (C : Addr) (cl : List (Str × Addr)) (fp : List Addr), PX (X.blk s H scope (compEnvC scope cl C X.env) fp) cf elt te) (hs : ∀ x, foldedSetIterable iter X.env x = pure x := by intro _; rfl) (hs1 : ∀ env x, foldedSetIterable iter1 env x = pure x := by intro _ _; rfl) :
    PXS X cf (.Assign [.Name y py] (.ListComp elt [⟨tg, iter, ifs, 0⟩, ⟨tg1, iter1, ifs1, 0⟩] scope pos) spos) [i] (cSet i (cLc2 (own.map (·.2)) vs1 ti g tt ti1 g1 tt1 te)) := ps_imp (ps_setLc2 hc hN hy hyl hsw hi ok hv hg ht hi1 hg1 ht1 he hs hs1) fun En σ H q => by
  have z : tX ⟨X.K, cf⟩ (cLc2 (own.map (·.2)) vs1 ti g tt ti1 g1 tt1 te) σ H _ := asg_imp q
  exact lc2_imp hsl hsl1 (tX_of_tO z)
end
end Ov
/-! Ov: dict comprehensions. -/
namespace Ov
open PySem PySem.Spec PyProof.Rows L2
/-- d[k] = v by a comprehension, k a tuple -/
theorem d_dictSetT {X : Cx} {pins : List (Addr × Obj)} {σ : L2.St} {H : Hp} {s : Shared} {E : Value → Shared → Prop} {D b : Addr} {kvs : List (List Key × V)} {k : List Key} {v : V} {r : Value} {Q : Unit → Shared → Prop} (hu : X.A.units < cLine) (I : Inv X pins σ H s) (hD : H D = some (.dT kvs)) (eb : H b = some (.tup (k.map kV))) (hz : kvs.length < sizeLine)
    (rv : RelV v r) (h : ∀ s', Inv X pins σ (upd H D (.dT (putK kvs k v))) s' → Q () s') : wpAny (model X.prog X.w) X.A (dictSet D (.ref b) r) Q E s := by
  obtain ⟨z, hd, xs, rel, dd⟩ := dt_of I.hok hD
  have hzv : xs.length ≤ sizeLine := by rw [← Paired.length rel]; exact z
  have hl : (putK kvs k v).length ≤ sizeLine := by have := length_putK kvs k v; omega
  refine wpAny_dictSet_heap (knd := tupleKind (mixKind X.prog X.w)) (hsz := hzv) (show X.A.units < cLine from hu) (key_of I.hok eb) dd fun h' dd' hs => h _ ?_
  obtain ⟨q, es, ep, hq, h2, h3, h4, _, h5⟩ := dd'
  refine d_write I (by rw [hD]; exact True.intro) hs ⟨q, hq⟩ ⟨hl, hd, _, (rel.put k eb rv).keeps fun c ys ec => ?_, q, es, ep, hq, h2, h3, h4, h5⟩
  rw [upd_ne (ne_of ec hD (fun z => nomatch z))]
  exact ec
section
variable {X : Cx}
/-- {k: v for target in iter if ..}, keys tuples (after HandS.DictComp's rule for keys that are ints) -/
def tDcT (wi : TI) (g : TG) (tt : TT) (tk tv : TE) (vs : List Nat) : TE := fun σ H Q => wi σ H fun J H1 => ∀ D, H1 D = none → ∃ W : Nat → Nat → Hp → Prop, (∃ m, W 0 m (upd H1 D (.dT []))) ∧ ∀ i m H, W i m H →
  (J.stop i H ∧ Q (.ref D) H) ∨ (J.go i H ∧ ∃ Nx : Hp → Prop, (∀ H', Nx H' → ∃ m', m' < m ∧ W (i + 1) m' H') ∧ ∀ x H', J.yld i H x H' → g x (wipe σ vs) H' fun σ2 H2 => wipe σ2 vs = wipe σ vs ∧ tt σ2 H2 fun b H3 =>
    if b = true then tk σ2 H3 fun y H4 => tv σ2 H4 fun z H5 => ∃ kvs k b, y = .ref b ∧ H5 b = some (.tup (k.map kV)) ∧ H5 D = some (.dT kvs) ∧ kvs.length < sizeLine ∧ Nx (upd H5 D (.dT (putK kvs k z))) else Nx H3)
theorem dcT_core {pins : List (Addr × Obj)} {s : Shared} {σ : L2.St} {H : Hp} {Q : VK} {kx vx tg iter : Expr} {ifs : List Expr} {scope : Scope} {own : List (Str × Nat)} {pos pos' : Pos} {wi : TI} {g : TG} {tt : TT} {tk tv : TE} {use : Option (Value → Sem Unit)} {Qf : Value → Shared → Prop}
    (hu : X.A.units < cLine) (hc : X.calm = true) (hN : X.N.Nodup) (I : Inv X pins σ H s) (hi : PI X tg iter wi) (ok : BlkOk X.N X.env.scope scope own)
    (hg : ∀ (s : Shared) (H : Hp) (C : Addr) (cl : List (Str × Addr)) (fp : List Addr), PG (X.blk s H scope (compEnvC scope cl C X.env) fp) tg g) (ht : ∀ (s : Shared) (H : Hp) (C : Addr) (cl : List (Str × Addr)) (fp : List Addr), PTs (X.blk s H scope (compEnvC scope cl C X.env) fp) ifs tt)
    (hk : ∀ (s : Shared) (H : Hp) (C : Addr) (cl : List (Str × Addr)) (fp : List Addr), PE (X.blk s H scope (compEnvC scope cl C X.env) fp) kx tk)
    (he : ∀ (s : Shared) (H : Hp) (C : Addr) (cl : List (Str × Addr)) (fp : List Addr), PE (X.blk s H scope (compEnvC scope cl C X.env) fp) vx tv) (hs : ∀ x, foldedSetIterable iter X.env x = pure x)
    (h : tDcT wi g tt tk tv (own.map (·.2)) σ H Q)
    (hRR : ∀ D C s' m H', Inv X pins σ H' s' → Q (.ref D) H' → s'.heap.Ns C m → FpOk X pins H' C → compPost (model X.prog X.w) X.A X.xe use Qf (.ref D) C (.ok .next) s') :
    wpAny (model X.prog X.w) X.A (comprehension (.DictComp kx vx [⟨tg, iter, ifs, 0⟩] scope pos) scope X.env pos' newDict false (eval iter X.env) use) Qf X.xe s := by
  have hfree : ∀ y ∈ scope.names, y.2 = .free → ∃ c, X.env.cells.lookup y.1 = some c := fun y hy e => by
    rcases ok.free y hy e with k | k
    · exact I.ok.has _ (.inl k)
    · exact I.ok.has _ (.inr k)
  refine wpAny_comprehension_free (use := use) rfl hs (closure_ok hfree) ok.kind (fun y hy e => by rw [ok.uniq y hy, e])
    (thn (hi.run pins s σ H _ I h) fun xv s1 hx => thn hx fun itv s2 h2 => ?_)
  obtain ⟨it, fp, tn, J, H2, e, I2, T, st2, f2, q⟩ := h2
  subst e
  refine wpAny_newObj_type (newEnv_comp ?_)
  generalize hD : s2.heap.objs.size = D
  have hDn : H2 D = none := I2.hok.fresh (Nat.le_of_eq hD)
  obtain ⟨W, ⟨m0, w0⟩, turn⟩ := q D hDn
  -- the new list
  generalize hs3 : ({ s2 with heap := s2.heap.push { cls := .type "dict", data := .dict #[] } } : Shared) = s3
  have I3 : Inv X pins σ (upd H2 D (.dT [])) s3 := by
    rw [← hs3]
    refine I2.laid (t' := s2.toks) (fun b o e => Heap.get?_push_of_some _ e) (Nat.le_of_eq hD) ?_
    rw [← hD]
    exact dt_empty s2.heap I2.big
  have h3 : s3.heap = s2.heap.push { cls := .type "dict", data := .dict #[] } := by rw [← hs3]
  have sz : ∀ b ∈ fp, b < s2.heap.objs.size := fun b hb => by
    obtain ⟨o, e, _⟩ := T.obj _ _ st2 b hb
    exact Heap.lt_size e
  have f3 : ∀ b ∈ fp, FpOk X pins (upd H2 D (.dT [])) b ∧ b < s3.heap.objs.size := fun b hb => by
    have hlt := sz b hb
    refine ⟨⟨?_, (f2 b hb).2⟩, by rw [h3, Heap.size_push]; exact Nat.lt_succ_of_lt hlt⟩
    rw [upd_ne (by rw [← hD]; exact Nat.ne_of_lt hlt)]
    exact (f2 b hb).1
  have st3 : tn 0 s3.heap := T.keep _ _ _ st2 fun b _ o e => by rw [h3]; exact Heap.get?_push_of_some _ e
  have I4 := block_start I3 ok hN f3
  have pg := hg s3 (upd H2 D (.dT [])) s3.heap.objs.size (cellsFrom (s3.heap.objs.size + 1) scope.names (cloFrom X.env.cells scope.names [])) fp
  have pt := ht s3 (upd H2 D (.dT [])) s3.heap.objs.size (cellsFrom (s3.heap.objs.size + 1) scope.names (cloFrom X.env.cells scope.names [])) fp
  have pk := hk s3 (upd H2 D (.dT [])) s3.heap.objs.size (cellsFrom (s3.heap.objs.size + 1) scope.names (cloFrom X.env.cells scope.names [])) fp
  have pe := he s3 (upd H2 D (.dT [])) s3.heap.objs.size (cellsFrom (s3.heap.objs.size + 1) scope.names (cloFrom X.env.cells scope.names [])) fp
  show codeAny _ _ (.compStart (.DictComp kx vx [⟨tg, iter, ifs, 0⟩] scope pos) 0 (.ref it) (.ref D) (compEnvC scope (cellsFrom (s3.heap.objs.size + 1) scope.names (cloFrom X.env.cells scope.names [])) s3.heap.objs.size X.env)) (compPost (model X.prog X.w) X.A X.xe use Qf (.ref D) s3.heap.objs.size) { s3 with heap := pushCells (s3.heap.push { cls := .type "dict", data := .dict #[] }) scope.names }
  have nfp : ∀ b ∈ fp, (upd H2 D (.dT [])) b = none := fun b hb => (f3 b hb).1.1
  generalize hce : compEnvC scope (cellsFrom (s3.heap.objs.size + 1) scope.names (cloFrom X.env.cells scope.names [])) s3.heap.objs.size X.env = ce at I4 pg pt pk pe ⊢
  have cL : ce.locals = s3.heap.objs.size := by subst hce; rfl
  generalize hH3 : upd H2 D (.dT []) = H3 at I3 I4 pg pt pk pe w0 nfp f3
  generalize hs4 : ({ s3 with heap := pushCells (s3.heap.push { cls := .type "dict", data := .dict #[] }) scope.names } : Shared) = s4 at I4 ⊢
  have st4 : tn 0 s4.heap := T.keep _ _ _ st3 fun b _ o e => by rw [← hs4]; exact pushCells_keeps _ _ _ _ (Heap.get?_push_of_some _ e)
  have stat : ∀ {σ' : L2.St} {H' : Hp} {s' : Shared}, Inv (X.blk s3 H3 scope ce fp) [] σ' H' s' → (∀ b ∈ fp, H' b = none) → ∀ b ∈ fp, FpOk (X.blk s3 H3 scope ce fp) [] H' b := fun {σ' H' s'} I' hn b hb =>
    ⟨hn b hb, (I'.ok.exf b hb).1, I'.ok.exfs b hb, .inl hb, fun x c e => (I'.ok.exf b hb).2 x c e, fun p hp => absurd (show p ∈ ([] : List (Addr × Obj)) ++ [] from hp) (by simp)⟩
  have loop : codeAny (model X.prog X.w) X.A (.compLoop (.DictComp kx vx [⟨tg, iter, ifs, 0⟩] scope pos) 0 (.ref it) (.ref D) ce) (compPost (model X.prog X.w) X.A X.xe use Qf (.ref D) s3.heap.objs.size) s4 := by
    refine compLoop_anyD (fun n s' => ∃ i H', Inv (X.blk s3 H3 scope ce fp) [] (wipe σ (own.map (·.2))) H' s' ∧ tn i s'.heap ∧ (∀ b ∈ fp, H' b = none) ∧ W i n H') ?_ m0 ⟨0, H3, I4, st4, nfp, w0⟩
    rintro n s5 ⟨i, H5, I5, st5, n5, w5⟩
    rcases turn i n H5 w5 with ⟨stop, qq⟩ | ⟨go, Nx, hNx, step⟩
    · have td := T.done (X.blk s3 H3 scope ce fp) rfl rfl rfl hc i [] s5 _ H5 (fun _ _ => False) I5 (stat I5 n5) st5 stop
      refine thnF td fun r s6 ⟨hr, I6⟩ => ?_
      subst hr
      -- back in the def's context
      have I7 : Inv X pins σ H5 s6 := I3.call' (ch := fp) I6.os I6.base I6.hok I6.bare fun b hb => ⟨(f3 b hb).1.2.2.2.1, (f3 b hb).1.2.1, (f3 b hb).1.2.2.2.2.1, (f3 b hb).1.2.2.2.2.2⟩
      have nC : H5 s3.heap.objs.size = none := by
        have z : H5 ce.locals = none := I6.free
        rw [cL] at z
        exact z
      obtain ⟨m, hn, _⟩ := I6.loc
      have hn : s6.heap.Ns ce.locals m := hn
      rw [cL] at hn
      exact hRR D s3.heap.objs.size s6 m H5 I7 qq hn (I3.fpOk (Nat.le_refl _) nC)
    · have ti := T.item (X.blk s3 H3 scope ce fp) rfl rfl rfl hc i [] s5 _ H5 (fun _ _ => False) I5 (stat I5 n5) st5 go
      refine thnF ti fun r s6 ⟨u, hr, h6⟩ => ?_
      subst hr
      refine thnF h6 fun _ s7 ⟨x, H7, I7, r7, y7, st7, n7⟩ => ?_
      have I7' := I7.pinned (stat I7 n7) (T.obj _ _ st7)
      refine thnF (pg.run _ s7 _ H7 x u _ I7' r7 (step x H7 y7)) fun _ s8 ⟨σ8, H8, I8, hw8, q8⟩ => ?_
      refine thnF (pt.run _ s8 σ8 H8 _ I8 q8) fun b s9 ⟨H9, I9, q9⟩ => ?_
      -- the turn's end
      have fin : ∀ {s' : Shared} {H' : Hp}, Inv (X.blk s3 H3 scope ce fp) ([] ++ pinsAt fp s7.heap) σ8 H' s' → Nx H' → ∃ m, m < n ∧ ∃ i H', Inv (X.blk s3 H3 scope ce fp) [] (wipe σ (own.map (·.2))) H' s' ∧ tn i s'.heap ∧ (∀ b ∈ fp, H' b = none) ∧ W i m H' := fun {s' H'} I' nx => by
        obtain ⟨m', hm, w'⟩ := hNx H' nx
        have pin' : ∀ b ∈ fp, ∀ o, s7.heap.get? b = some o → s'.heap.get? b = some o ∧ H' b = none := fun b hb o e =>
          let z := I'.pin (b, o) (List.mem_append_right _ (List.mem_append_right _ (mem_pinsAt hb e)))
          ⟨z.1, z.2.1⟩
        have hl : (wipe σ (own.map (·.2))).length = σ8.length := by rw [← hw8, wipe_length]
        refine ⟨m', hm, i + 1, H', (I'.unpinned (pins := [])).weak hl (fun j v e => ?_), T.keep _ _ _ st7 fun b hb o e => (pin' b hb o e).1, fun b hb => ?_, w'⟩
        · rw [← hw8] at e
          exact (wipe_some e).1
        · obtain ⟨o, e, _⟩ := T.obj _ _ st7 b hb
          exact (pin' b hb o e).2
      cases b with
      | false =>
        simp only [Bool.false_eq_true, if_false] at q9 ⊢
        exact fin I9 q9
      | true =>
        simp only [if_true] at q9 ⊢
        refine thnF (pk.run _ s9 σ8 H9 _ I9 q9) fun z s10 ⟨yk, H10, I10, r10, q10⟩ => ?_
        refine thnF (pe.run _ s10 σ8 H10 _ I10 q10) fun z2 s11 ⟨yv, H11, I11, r11, kvs, k, b, ek, eb, hD11, hz11, nx⟩ => ?_
        subst ek
        obtain rfl : z = Value.ref b := r10
        exact d_dictSetT (X := X.blk s3 H3 scope ce fp) hu I11 hD11 eb hz11 r11 fun s12 I12 => fin I12 nx
  exact codeAny_compStart_dict loop (T.self X.A 0 _ _ _ st4 loop)
/-- as a value -/
theorem pe_dcT {kx vx tg iter : Expr} {ifs : List Expr} {scope : Scope} {own : List (Str × Nat)} {pos : Pos} {wi : TI} {g : TG} {tt : TT} {tk tv : TE} (hu : X.A.units < cLine) (hc : X.calm = true) (hN : X.N.Nodup) (hi : PI X tg iter wi) (ok : BlkOk X.N X.env.scope scope own)
    (hg : ∀ (s : Shared) (H : Hp) (C : Addr) (cl : List (Str × Addr)) (fp : List Addr), PG (X.blk s H scope (compEnvC scope cl C X.env) fp) tg g) (ht : ∀ (s : Shared) (H : Hp) (C : Addr) (cl : List (Str × Addr)) (fp : List Addr), PTs (X.blk s H scope (compEnvC scope cl C X.env) fp) ifs tt)
    (hk : ∀ (s : Shared) (H : Hp) (C : Addr) (cl : List (Str × Addr)) (fp : List Addr), PE (X.blk s H scope (compEnvC scope cl C X.env) fp) kx tk)
    (he : ∀ (s : Shared) (H : Hp) (C : Addr) (cl : List (Str × Addr)) (fp : List Addr), PE (X.blk s H scope (compEnvC scope cl C X.env) fp) vx tv) (hs : ∀ x, foldedSetIterable iter X.env x = pure x := by intro _; rfl) :
    PE X (.DictComp kx vx [⟨tg, iter, ifs, 0⟩] scope pos) (tDcT wi g tt tk tv (own.map (·.2))) := by
  refine ⟨fun pins s σ H Q I h => ?_⟩
  rw [arm_eval_DictComp]
  refine dcT_core hu hc hN I hi ok hg ht hk he hs h fun D C s' m H' I' q hn f => ⟨m, hn, fun h'' sb => ?_⟩
  obtain ⟨f0, f1, f2, f3, f4, f5⟩ := f
  exact ⟨.ref D, H', I'.turned (t' := s'.toks) (fun b o hb e => (sb.2 b hb).trans e) f0 f1 f3 f4 f5, rfl, q⟩
end

/-! ### as data -/
def AtD (W : OC) (F H : Hp) (L : Addr) (z : D) : Prop := F L = none ∧ OwnAt W F H L z
theorem AtD.step {W : OC} {own : Addr → Prop} {F H F' H' : Hp} {L : Addr} {z : D} (h : AtD W F H L z) (x : Ext own F H F' H') (no : ¬ own L) : AtD W F' H' L z := by
  obtain ⟨n, r⟩ := h
  obtain ⟨u, hu⟩ := r.obj
  refine ⟨?_, r.mono x.f fun o ho => (x.h L o ho n no).1⟩
  rcases (x.h L u hu n no).2 with q | ⟨xs, q, _⟩
  · exact q
  · rcases r.there with ⟨_, e⟩ | ⟨_, e⟩ | ⟨_, e⟩ <;> (rw [e, q] at hu; cases hu)
/-- a step: the dict ahead, the dict behind -/
abbrev Ed := D → List Sl → Option (D × List Sl)
def StOkD (W : OC) (ok : D → Prop) (st : Ed) (T : TK) : Prop := ∀ (L : Addr) (σ : L2.St) (H : Hp) (Nx : Hp → Prop) (ρ : List Sl) (F : Hp) (z z' : D) (ρ' : List Sl), ok z → EnvOk W ρ σ F H → AtD W F H L z → ¬ Own ρ σ L → st z ρ = some (z', ρ') →
  (∀ F' H', ok z' → EnvOk W ρ' σ F' H' → Ext (OwnD ρ σ L) F H F' H' → (∀ a, Own ρ' σ a → Own ρ σ a) → AtD W F' H' L z' → Nx H') → T L σ H Nx
def stD (tt : Et) (tk tv : Ev) : Ed := fun z ρ => (tt ρ).bind fun p => if p.1 = true then (tk p.2).bind fun q => (tv q.2).bind fun r => (putDct z q.1 r.1).bind fun z' => some (z', r.2) else some (z, p.2)
def tkDT (tt : TT) (tk tv : TE) : TK := fun L σ2 H2 Nx => tt σ2 H2 fun b H3 => if b = true then tk σ2 H3 fun y H4 => tv σ2 H4 fun z H5 => ∃ kvs k b, y = .ref b ∧ H5 b = some (.tup (k.map kV)) ∧ H5 L = some (.dT kvs) ∧ kvs.length < sizeLine ∧ Nx (upd H5 L (.dT (putK kvs k z))) else Nx H3
def tkDK (tt : TT) (tk tv : TE) : TK := fun L σ2 H2 Nx => tt σ2 H2 fun b H3 => if b = true then tk σ2 H3 fun y H4 => tv σ2 H4 fun z H5 => ∃ kvs k, y = kV k ∧ H5 L = some (.dK kvs) ∧ kvs.length < sizeLine ∧ Nx (upd H5 L (.dK (putK kvs k z))) else Nx H3
def isDT : D → Prop | .dT _ => True | _ => False
def isDK : D → Prop | .dK _ => True | _ => False
theorem stOk_D {W : OC} {tt : Et} {tk tv : Ev} {L : Addr} {σ : L2.St} {H : Hp} {Nx : Hp → Prop} {ρ ρ' : List Sl} {F : Hp} {z z' : D} {tn : V → V → Hp → Prop} (E : EnvOk W ρ σ F H) (at0 : AtD W F H L z) (no : ¬ Own ρ σ L) (hs : stD tt tk tv z ρ = some (z', ρ'))
    (k : ∀ F' H', EnvOk W ρ' σ F' H' → Ext (OwnD ρ σ L) F H F' H' → (∀ a, Own ρ' σ a → Own ρ σ a) → AtD W F' H' L z' → Nx H')
    (step : ∀ F2 H2 dk dv y v ρ2, EnvOk W ρ2 σ F2 H2 → AtD W F2 H2 L z → ¬ Own ρ2 σ L → Rep W F2 dk y → Rep W F2 dv v → putDct z dk dv = some z' → (∀ u, OwnAt W F2 (upd H2 L u) L z' → Nx (upd H2 L u)) → tn y v H2) :
    tT W tt σ H fun b H3 => if b = true then tX W tk σ H3 fun y H4 => tX W tv σ H4 fun v H5 => tn y v H5 else Nx H3 := by
  obtain ⟨⟨b, ρ1⟩, h1, hs⟩ := ob hs
  refine ⟨ρ, F, b, ρ1, E, h1, fun F1 H1 E1 x1 o1 => ?_⟩
  have at1 := at0.step x1 no
  cases b with
  | false =>
    cases hs
    exact iteF (k F1 H1 E1 (x1.mono fun _ => .inl) o1 at1)
  | true =>
    obtain ⟨⟨d, ρ2⟩, h2, hs⟩ := ob hs
    obtain ⟨⟨e, ρ3⟩, h3, hs⟩ := ob hs
    obtain ⟨z1, h4, hs⟩ := ob hs
    cases hs
    refine iteT ⟨ρ1, F1, d, ρ2, E1, h2, fun y F2 H2 E2 r2 x2 o2 => ⟨ρ2, F2, e, _, E2, h3, fun v F3 H3 E3 r3 x3 o3 => ?_⟩⟩
    have n1 : ¬ Own ρ1 σ L := fun q => no (o1 _ q)
    have n2 : ¬ Own ρ2 σ L := fun q => n1 (o2 _ q)
    have n3 : ¬ Own ρ3 σ L := fun q => n2 (o3 _ q)
    have at3 := (at1.step x2 n1).step x3 n2
    refine step F3 H3 d e y v ρ3 E3 at3 n3 (Rep.le x3.f r2) r3 h4 fun u hu => ?_
    have x13 : Ext (OwnD ρ σ L) F H F3 H3 := ((x1.trans x2 fun p q => .inl (o1 p q)).trans x3 fun p q => .inl (o1 p (o2 p q))).mono fun _ => .inl
    refine k F3 _ (E3.wr at3.1 at3.2.noOwn n3) ?_ (fun a q => o1 a (o2 a (o3 a q))) ⟨at3.1, hu⟩
    exact x13.trans (Ext.write (own := fun a => a = L) rfl (fun o w q => by
      rcases at3.2.there with ⟨_, e⟩ | ⟨_, e⟩ | ⟨_, e⟩ <;> (rw [e] at q; cases q)) fun xs q => by
      rcases at3.2.there with ⟨_, e⟩ | ⟨_, e⟩ | ⟨_, e⟩ <;> (rw [e] at q; cases q)) fun p q => .inl (.inr q)
theorem stOk_DT {W : OC} {tt : Et} {tk tv : Ev} : StOkD W isDT (stD tt tk tv) (tkDT (tT W tt) (tX W tk) (tX W tv)) := by
  intro L σ H Nx ρ F z z' ρ' hz E at0 no hs k
  cases z with
  | dT kvs =>
    refine stOk_D (z' := z') E at0 no hs (fun F' H' E' x' o' a' => k F' H' ?_ E' x' o' a') fun F2 H2 dk dv y v ρ2 E2 at2 n2 rk rv hp fin => ?_
    · obtain ⟨_, _, hs⟩ := ob hs
      split at hs
      · obtain ⟨_, _, hs⟩ := ob hs
        obtain ⟨_, _, hs⟩ := ob hs
        obtain ⟨z1, h4, hs⟩ := ob hs
        cases hs
        obtain ⟨ns, _, h6⟩ := ob (show (keyOf _).bind _ = some _ from h4)
        split at h6
        · cases h6
          exact True.intro
        · cases h6
      · cases hs
        exact True.intro
    · obtain ⟨ns, h5, h6⟩ := ob (show (keyOf dk).bind _ = some z' from hp)
      split at h6
      · rename_i hl
        cases h6
        obtain ⟨vs, g1, g3⟩ := at2.2
        rw [keyOf_eq h5] at rk
        have kl := key_len E2.fs (.inl rk)
        obtain ⟨b, rfl, hb⟩ := key_at E2.fs (.inl rk)
        have Ln := line_eq
        exact ⟨vs, _, b, rfl, hb, g1, by rw [← g3.length, Ln]; exact hl, fin _ ⟨_, upd_same, g3.put ns kl rv⟩⟩
      · cases h6
  | _ => exact hz.elim
theorem stOk_DK {W : OC} {tt : Et} {tk tv : Ev} : StOkD W isDK (stD tt tk tv) (tkDK (tT W tt) (tX W tk) (tX W tv)) := by
  intro L σ H Nx ρ F z z' ρ' hz E at0 no hs k
  cases z with
  | dK kvs =>
    refine stOk_D (z' := z') E at0 no hs (fun F' H' E' x' o' a' => k F' H' ?_ E' x' o' a') fun F2 H2 dk dv y v ρ2 E2 at2 n2 rk rv hp fin => ?_
    · obtain ⟨_, _, hs⟩ := ob hs
      split at hs
      · obtain ⟨_, _, hs⟩ := ob hs
        obtain ⟨_, _, hs⟩ := ob hs
        obtain ⟨z1, h4, hs⟩ := ob hs
        cases hs
        obtain ⟨ns, _, h6⟩ := ob (show (toI _).bind _ = some _ from h4)
        split at h6
        · cases h6
          exact True.intro
        · cases h6
      · cases hs
        exact True.intro
    · obtain ⟨n, h5, h6⟩ := ob (show (toI dk).bind _ = some z' from hp)
      split at h6
      · rename_i hl
        cases h6
        obtain ⟨vs, g1, g3⟩ := at2.2
        rw [toI_eq h5] at rk
        have Ln := line_eq
        exact ⟨vs, Sum.inl n, (KnB.of (H := H2) rk).int, g1, by rw [← g3.length, Ln]; exact hl, fin _ ⟨_, upd_same, g3.put n rv⟩⟩
      · cases h6
  | _ => exact hz.elim
def dcG (vs : List Nat) (g : Eg) (st : Ed) : List D → Ed
  | [] => fun z ρ => some (z, ρ)
  | d :: ds => fun z ρ => (g d ρ).bind fun ρ1 => (st z ρ1).bind fun q => dcG vs g st ds q.1 (wipR q.2 vs)
theorem dc_loop {W : OC} {ok : D → Prop} {st : Ed} {T : TK} {L : Addr} {σ : L2.St} {F1 H1 : Hp} {ds : List D} {z0 z' : D} {J : It} {Lk : Hp → Prop} {g : Eg} {sl vs : List Nat} {ρ1 ρ' : List Sl} {End : Hp → Prop} (hst : StOkD W ok st T) (hsl : ∀ j ∈ sl, j ∈ vs) (w : WalkD W J ds F1 Lk) (hL : Lk H1) (hz : ok z0)
    (E1 : EnvOk W ρ1 σ F1 H1) (at1 : AtD W F1 H1 L z0) (no : ¬ Own ρ1 σ L) (hc : dcG vs g st ds z0 (wipR ρ1 vs) = some (z', ρ'))
    (k : ∀ F' H', EnvOk W ρ' (wipe σ vs) F' H' → Ext (OwnD ρ1 σ L) F1 H1 F' H' → (∀ a, Own ρ' (wipe σ vs) a → Own ρ1 σ a) → AtD W F' H' L z' → End H') :
    ∃ Wt : Nat → Nat → Hp → Prop, (∃ m, Wt 0 m H1) ∧ ∀ i m H, Wt i m H →
      (J.stop i H ∧ End H) ∨ (J.go i H ∧ ∃ Nx : Hp → Prop, (∀ H', Nx H' → ∃ m', m' < m ∧ Wt (i + 1) m' H') ∧ ∀ x H', J.yld i H x H' → tG W sl g x (wipe σ vs) H' fun σ2 H2 => wipe σ2 vs = wipe σ vs ∧ T L σ2 H2 Nx) := by
  let Pr : Nat → Hp → Prop := fun i Hi => ∃ ρi Fi zi, ok zi ∧ EnvOk W ρi (wipe σ vs) Fi Hi ∧ Lk Hi ∧ Le F1 Fi ∧ Ext (OwnD ρ1 σ L) F1 H1 Fi Hi ∧ (∀ a, Own ρi (wipe σ vs) a → Own ρ1 σ a) ∧ AtD W Fi Hi L zi ∧ dcG vs g st (ds.drop i) zi ρi = some (z', ρ')
  refine ⟨fun i m Hi => m = ds.length - i ∧ i ≤ ds.length ∧ Pr i Hi, ⟨ds.length, by simp, Nat.zero_le _, wipR ρ1 vs, F1, z0, hz, E1.wip rfl, hL, Le.refl F1, Ext.refl, fun a q => q.wip rfl, at1, by rw [List.drop_zero]; exact hc⟩, ?_⟩
  rintro i m Hi ⟨rfl, hi, ρi, Fi, zi, hzi, Ei, Li, lei, exi, owi, ati, ci⟩
  by_cases hlt : i < ds.length
  · refine .inr ⟨w.goes i Fi Hi hlt lei Ei.fs Li, Pr (i + 1), fun H' p' => ⟨ds.length - (i + 1), by omega, rfl, hlt, p'⟩, fun x H' y => ?_⟩
    obtain ⟨G, d, hd, fsG, rG, xG⟩ := w.yields i Fi Hi x H' hlt lei Ei.fs Li y
    have hd' : ds.drop i = d :: ds.drop (i + 1) := by
      rw [List.drop_eq_getElem_cons hlt]
      have := (List.getElem?_eq_some_iff.mp hd).2
      rw [this]
    rw [hd'] at ci
    obtain ⟨ρ2, hg, ci⟩ := ob (show (g d ρi).bind _ = _ from ci)
    obtain ⟨⟨z1, ρ3⟩, hs, ci⟩ := ob ci
    have EG := Ei.ext fsG xG
    have atG := ati.step xG fun q => q
    have noi : ¬ Own ρi (wipe σ vs) L := fun q => no (owi _ q)
    refine ⟨ρi, G, d, ρ2, EG, rG, hg, fun σ2 E2 ow2 l2 k2 => ?_⟩
    have hw : wipe σ2 vs = wipe σ vs := wipe_same hsl (by rw [l2, wipe_length]) k2
    refine ⟨hw, hst L σ2 H' (Pr (i + 1)) ρ2 G zi z1 ρ3 hzi E2 atG (fun q => noi (ow2 _ q)) hs fun F3 H3 hz1 E3 x3 ow3 at3 => ?_⟩
    have own2 : ∀ a, OwnD ρ2 σ2 L a → OwnD ρ1 σ L a := fun a q => by
      rcases q with q | q
      · exact .inl (owi a (ow2 a q))
      · exact .inr q
    have x : Ext (OwnD ρ1 σ L) F1 H1 F3 H3 := (exi.trans xG fun p q => q.elim).trans x3 fun p q => .inl (own2 p q)
    exact ⟨wipR ρ3 vs, F3, z1, hz1, E3.wip hw, w.stay _ _ _ _ _ x3 (w.stay _ _ _ _ _ xG Li), (lei.trans xG.f).trans x3.f, x, fun a q => owi a (ow2 a (ow3 a (q.wip hw))), at3, ci⟩
  · have e : i = ds.length := by omega
    subst e
    rw [List.drop_length] at ci
    cases ci
    exact .inl ⟨w.stops Fi Hi lei Ei.fs Li, k Fi Hi Ei exi owi ati⟩
def cDc (z0 : D) (vs : List Nat) (it : Ei) (g : Eg) (tt : Et) (tk tv : Ev) : Ev := fun ρ => (it ρ).bind fun p => (dcG vs g (stD tt tk tv) p.1 z0 (wipR p.2 vs)).bind fun q => some (q.1, restR p.2 q.2 vs)
theorem dc_out {W : OC} {σ : L2.St} {F H F1 H1 : Hp} {ρ ρ1 ρ2 : List Sl} {L : Addr} {u0 : HO} {z : D} {vs : List Nat} {Q : VK} (E : EnvOk W ρ σ F H) (E1 : EnvOk W ρ1 σ F1 H1) (x1 : Ext (Own ρ σ) F H F1 H1) (o1 : ∀ a, Own ρ1 σ a → Own ρ σ a) (hL : H1 L = none)
    (k : ∀ p F' H', EnvOk W (restR ρ1 ρ2 vs) σ F' H' → OwnAt W F' H' p z → F' p = none → ¬ Own (restR ρ1 ρ2 vs) σ p → (H p = none ∨ Own ρ σ p) → Ext (Own ρ σ) F H F' H' → (∀ a, Own (restR ρ1 ρ2 vs) σ a → Own ρ σ a) → Q (.ref p) H')
    (F' H' : Hp) (E2 : EnvOk W ρ2 (wipe σ vs) F' H') (x2 : Ext (OwnD ρ1 σ L) F1 (upd H1 L u0) F' H') (o2 : ∀ a, Own ρ2 (wipe σ vs) a → Own ρ1 σ a) (at2 : AtD W F' H' L z) : Q (.ref L) H' := by
  have x : Ext (Own ρ σ) F H F' H' := by
    refine x1.trans (own1 := Own ρ1 σ) ?_ fun p z => .inl (o1 p z)
    refine (Ext.laid E1.fs hL).trans x2 fun p z => ?_
    rcases z with z | z
    · exact .inl z
    · exact .inr (by rw [z]; exact hL)
  exact k L F' H' (E1.rest E2 x2.f) at2.2 at2.1 (fun z => E1.ownNone hL (o2 _ z.rest)) (x1.back E hL at2.1 x2.f) x fun a z => o1 a (o2 a z.rest)
section
variable {X : Cx} {cf : List D → D → Prop} {kx vx tg iter : Expr} {ifs : List Expr} {scope : Scope} {own : List (Str × Nat)} {pos : Pos} {ti : Ei} {g : Eg} {sl : List Nat} {tt : Et} {tk tv : Ev}
theorem o_dcT (hu : X.A.units < cLine) (hc : X.calm = true) (hN : X.N.Nodup) (hi : PXI X cf tg iter ti) (ok : BlkOk X.N X.env.scope scope own) (hsl : ∀ j ∈ sl, j ∈ own.map (·.2))
    (hg : ∀ (s : Shared) (H : Hp) (C : Addr) (cl : List (Str × Addr)) (fp : List Addr), PXG (X.blk s H scope (compEnvC scope cl C X.env) fp) cf tg sl g) (ht : ∀ (s : Shared) (H : Hp) (C : Addr) (cl : List (Str × Addr)) (fp : List Addr), PXTs (X.blk s H scope (compEnvC scope cl C X.env) fp) cf ifs tt)
    (hk : ∀ (s : Shared) (H : Hp) (C : Addr) (cl : List (Str × Addr)) (fp : List Addr), PX (X.blk s H scope (compEnvC scope cl C X.env) fp) cf kx tk)
    (he : ∀ (s : Shared) (H : Hp) (C : Addr) (cl : List (Str × Addr)) (fp : List Addr), PX (X.blk s H scope (compEnvC scope cl C X.env) fp) cf vx tv) (hs : ∀ x, foldedSetIterable iter X.env x = pure x := by intro _; rfl) :
    PXO X cf (.DictComp kx vx [⟨tg, iter, ifs, 0⟩] scope pos) (cDc (.dT []) (own.map (·.2)) ti g tt tk tv) := pe_imp (pe_dcT hu hc hN hi ok hg ht hk he hs) fun σ H Q h => by
  obtain ⟨ρ, F, d, ρ', E, hc, k⟩ := h
  obtain ⟨⟨ds, ρ1⟩, h1, hc⟩ := ob hc
  obtain ⟨⟨out, ρ2⟩, h2, hc⟩ := ob hc
  cases hc
  refine ⟨ρ, F, ds, ρ1, E, h1, fun J Lk F1 H1 E1 hl w hL x1 o1 L hLn => ?_⟩
  exact dc_loop (T := tkDT (tT ⟨X.K, cf⟩ tt) (tX ⟨X.K, cf⟩ tk) (tX ⟨X.K, cf⟩ tv)) (z0 := .dT []) (L := L) stOk_DT hsl w (w.stay _ _ _ _ _ (Ext.laid (own := NoA) E1.fs hLn) hL) True.intro (E1.ext (E1.fs.laid hLn) (Ext.laid E1.fs hLn)) ⟨E1.fs.free hLn, [], upd_same, repT_nil.mpr rfl⟩ (E1.ownNone hLn) h2
    (dc_out E E1 x1 o1 hLn k)
theorem o_dcK (hc : X.calm = true) (hN : X.N.Nodup) (hi : PXI X cf tg iter ti) (ok : BlkOk X.N X.env.scope scope own) (hsl : ∀ j ∈ sl, j ∈ own.map (·.2))
    (hg : ∀ (s : Shared) (H : Hp) (C : Addr) (cl : List (Str × Addr)) (fp : List Addr), PXG (X.blk s H scope (compEnvC scope cl C X.env) fp) cf tg sl g) (ht : ∀ (s : Shared) (H : Hp) (C : Addr) (cl : List (Str × Addr)) (fp : List Addr), PXTs (X.blk s H scope (compEnvC scope cl C X.env) fp) cf ifs tt)
    (hk : ∀ (s : Shared) (H : Hp) (C : Addr) (cl : List (Str × Addr)) (fp : List Addr), PX (X.blk s H scope (compEnvC scope cl C X.env) fp) cf kx tk)
    (he : ∀ (s : Shared) (H : Hp) (C : Addr) (cl : List (Str × Addr)) (fp : List Addr), PX (X.blk s H scope (compEnvC scope cl C X.env) fp) cf vx tv) (hs : ∀ x, foldedSetIterable iter X.env x = pure x := by intro _; rfl) :
    PXO X cf (.DictComp kx vx [⟨tg, iter, ifs, 0⟩] scope pos) (cDc (.dK []) (own.map (·.2)) ti g tt tk tv) := pe_imp (pe_dc hc hN hi ok hg ht hk he hs) fun σ H Q h => by
  obtain ⟨ρ, F, d, ρ', E, hc, k⟩ := h
  obtain ⟨⟨ds, ρ1⟩, h1, hc⟩ := ob hc
  obtain ⟨⟨out, ρ2⟩, h2, hc⟩ := ob hc
  cases hc
  refine ⟨ρ, F, ds, ρ1, E, h1, fun J Lk F1 H1 E1 hl w hL x1 o1 L hLn => ?_⟩
  exact dc_loop (T := tkDK (tT ⟨X.K, cf⟩ tt) (tX ⟨X.K, cf⟩ tk) (tX ⟨X.K, cf⟩ tv)) (z0 := .dK []) (L := L) stOk_DK hsl w (w.stay _ _ _ _ _ (Ext.laid (own := NoA) E1.fs hLn) hL) True.intro (E1.ext (E1.fs.laid hLn) (Ext.laid E1.fs hLn)) ⟨E1.fs.free hLn, [], upd_same, repK_nil.mpr rfl⟩ (E1.ownNone hLn) h2
    (dc_out E E1 x1 o1 hLn k)
end
end Ov
/-! Ov: instances with slots are made; a last slot that is a memory. -/
namespace Ov
open PySem PySem.Spec PyProof.Rows L2

def RelF (W : OC) (F : Hp) : List (Option D) → List (Option V) → Prop
  | [], vs => vs = []
  | o :: os, vs => ∃ v r, vs = v :: r ∧ RepO W F o v ∧ RelF W F os r
theorem RepO.le {W : OC} {F F' : Hp} (e : Le F F') {o : Option D} {v : Option V} (h : RepO W F o v) : RepO W F' o v := by
  cases o <;> cases v <;> first | exact h | exact h.elim | exact Rep.le e h
theorem RelF.le {W : OC} {F F' : Hp} (e : Le F F') : ∀ {os : List (Option D)} {vs : List (Option V)}, RelF W F os vs → RelF W F' os vs
  | [], _, h => h
  | o :: os, _, h => let ⟨v, r, h1, h2, h3⟩ := h; ⟨v, r, h1, h2.le e, RelF.le e h3⟩
theorem RelF.length {W : OC} {F : Hp} : ∀ {os : List (Option D)} {vs : List (Option V)}, RelF W F os vs → os.length = vs.length
  | [], _, h => by
    have h' : _ = [] := h
    rw [h']
    rfl
  | o :: os, _, h => by
    obtain ⟨v, r, rfl, _, h3⟩ := h
    simp [h3.length]
theorem RelF.append {W : OC} {F : Hp} : ∀ {os ps : List (Option D)} {vs ws : List (Option V)}, RelF W F os vs → RelF W F ps ws → RelF W F (os ++ ps) (vs ++ ws)
  | [], _, _, _, h, h' => by
    have e : _ = [] := h
    rw [e]
    exact h'
  | o :: os, _, _, _, h, h' => by
    obtain ⟨v, r, rfl, h2, h3⟩ := h
    exact ⟨v, r ++ _, rfl, h2, h3.append h'⟩
theorem RelF.nones {W : OC} {F : Hp} : ∀ n : Nat, RelF W F (List.replicate n none) (List.replicate n none)
  | 0 => rfl
  | n + 1 => ⟨none, _, rfl, True.intro, RelF.nones n⟩
theorem RelF.set {W : OC} {F : Hp} {d : D} {v : V} (r : Rep W F d v) : ∀ {os : List (Option D)} {vs : List (Option V)} (i : Nat), RelF W F os vs → RelF W F (os.set i (some d)) (vs.set i (some v))
  | [], _, _, h => by
    have e : _ = [] := h
    rw [e]
    exact (rfl : _ = _)
  | o :: os, _, 0, h => by
    obtain ⟨w, s, rfl, h2, h3⟩ := h
    exact ⟨some v, s, rfl, r, h3⟩
  | o :: os, _, i + 1, h => by
    obtain ⟨w, s, rfl, h2, h3⟩ := h
    exact ⟨w, _, rfl, h2, h3.set r i⟩
def putO (i : Nat) (d : D) (os : List (Option D)) : List (Option D) := (os ++ List.replicate (i + 1 - os.length) none).set i (some d)
theorem RelF.put {W : OC} {F : Hp} {d : D} {v : V} (r : Rep W F d v) (i : Nat) {os : List (Option D)} {vs : List (Option V)} (h : RelF W F os vs) : RelF W F (putO i d os) (putS i v vs) := by
  unfold putO putS
  rw [h.length]
  exact (h.append (RelF.nones _)).set r i
/-- all fields are there -/
def fulls : List (Option D) → Option (List D)
  | [] => some []
  | some d :: os => (fulls os).map (d :: ·)
  | none :: _ => none
theorem RelF.full {W : OC} {F : Hp} : ∀ {os : List (Option D)} {vs : List (Option V)} {ds : List D}, RelF W F os vs → fulls os = some ds → ∃ ws, vs = ws.map some ∧ RepL W F ds ws
  | [], _, _, h, e => by
    cases e
    exact ⟨[], h, repL_nil.mpr rfl⟩
  | some d :: os, _, _, h, e => by
    obtain ⟨v, r, rfl, h2, h3⟩ := h
    obtain ⟨ds, e1, rfl⟩ := Option.map_eq_some_iff.mp (show (fulls os).map (d :: ·) = some _ from e)
    cases v with
    | none => exact h2.elim
    | some v =>
      obtain ⟨ws, rfl, r'⟩ := h3.full e1
      exact ⟨v :: ws, rfl, repL_cons h2 r'⟩

theorem SlAt.notOwn {W : OC} {ρ : List Sl} {σ : L2.St} {F H : Hp} {p C dx : Addr} {vs : List (Option V)} (s : SlAt H p C dx vs) (E : EnvOk W ρ σ F H) : ¬ Own ρ σ p ∧ ¬ Own ρ σ dx := by
  have no : ∀ a o, H a = some o → (∀ vs, o ≠ .lst vs) → (∀ vs, o ≠ .dT vs) → (∀ vs, o ≠ .dK vs) → ¬ Own ρ σ a := fun a o e h1 h2 h3 z => by
    obtain ⟨i, d, g1, g2⟩ := z
    obtain ⟨q, e1, _, r⟩ := E.own g1
    rw [g2] at e1
    cases e1
    rcases r.there with ⟨vs, e'⟩ | ⟨vs, e'⟩ | ⟨vs, e'⟩
    · rw [e] at e'; cases e'; exact h1 _ rfl
    · rw [e] at e'; cases e'; exact h2 _ rfl
    · rw [e] at e'; cases e'; exact h3 _ rfl
  refine ⟨?_, no dx _ s.1 (fun _ z => nomatch z) (fun _ z => nomatch z) fun _ z => nomatch z⟩
  rcases s.2.2 with e | ⟨_, e⟩
  · exact no p _ e (fun _ z => nomatch z) (fun _ z => nomatch z) fun _ z => nomatch z
  · exact no p _ e (fun _ z => nomatch z) (fun _ z => nomatch z) fun _ z => nomatch z
theorem SlAt.step {own : Addr → Prop} {F H F' H' : Hp} {p C dx : Addr} {vs : List (Option V)} (s : SlAt H p C dx vs) (x : Ext own F H F' H') (n : F p = none) (nd : F dx = none) (no : ¬ own p) (nod : ¬ own dx) : SlAt H' p C dx vs ∧ F' p = none ∧ F' dx = none := by
  have h1 := x.h dx _ s.1 nd nod
  have hp : ∃ o, H p = some o ∧ ∀ xs, o ≠ .tup xs := by
    rcases s.2.2 with e | ⟨_, e⟩
    · exact ⟨_, e, fun _ z => nomatch z⟩
    · exact ⟨_, e, fun _ z => nomatch z⟩
  obtain ⟨o, hp, nt⟩ := hp
  have h2 := x.h p o hp n no
  refine ⟨⟨h1.1, s.2.1, ?_⟩, ?_, ?_⟩
  · rcases s.2.2 with e | ⟨e0, e⟩
    · exact .inl (x.h p _ e n no).1
    · exact .inr ⟨e0, (x.h p _ e n no).1⟩
  · rcases h2.2 with z | ⟨xs, z, _⟩
    · exact z
    · exact (nt xs z).elim
  · rcases h1.2 with z | ⟨xs, z, _⟩
    · exact z
    · cases z
/-- statements of __init__ (self: slot 0) -/
abbrev Ein := List Sl → List (Option D) → Option (List Sl × List (Option D))
def tIn (W : OC) (C : Addr) (c : Ein) : TS := fun En σ H => ∃ ρ F fs p dx vs ρ' fs', EnvOk W ρ σ F H ∧ σ[0]? = some (some (.ref p)) ∧ SlAt H p C dx vs ∧ F p = none ∧ F dx = none ∧ RelF W F fs vs ∧ c ρ fs = some (ρ', fs') ∧
  ∀ σ' F' H' vs', EnvOk W ρ' σ' F' H' → σ'[0]? = some (some (.ref p)) → SlAt H' p C dx vs' → F' p = none → F' dx = none → RelF W F' fs' vs' → Ext (fun a => Own ρ σ a ∨ a = p) F H F' H' → (∀ a, Own ρ' σ' a → Own ρ σ a ∨ H a = none) → En.nx σ' H'
def nIn (c : Es) : Ein := fun ρ fs => (c ρ).bind fun p => match p.1 with
  | .nx => some (p.2, fs)
  | _ => none
def nSl (i : Nat) (ce : Ev) : Ein := fun ρ fs => (ce ρ).bind fun p => some (p.2, putO (sx i) p.1 fs)
def nSeq (a b : Ein) : Ein := fun ρ fs => (a ρ fs).bind fun p => b p.1 p.2
section
variable {X : Cx} {cf : List D → D → Prop} {st : Stmt} {rest : List Stmt} {C p : Addr} {sl : List Nat} {c : Es} {a b : Ein} {o value : Expr} {f : Str} {pos pos' : Pos} {i : Nat} {ce : Ev}
theorem in_st (h : PXS X cf st sl c) (h0 : 0 ∉ sl) : PS X st (tIn ⟨X.K, cf⟩ C (nIn c)) := ps_imp h fun En σ H q => by
  obtain ⟨ρ, F, fs, p, dx, vs, ρ', fs', E, e0, s, n, nd, rf, hc, k⟩ := q
  obtain ⟨⟨fl, ρ1⟩, h1, hc⟩ := ob (show (c ρ).bind _ = some (ρ', fs') from hc)
  cases fl with
  | nx =>
    cases hc
    refine ⟨ρ, F, .nx, _, E, h1, fun σ' F' H' E' x' o' kp => ?_⟩
    obtain ⟨no, nod⟩ := SlAt.notOwn s E
    obtain ⟨s', n', nd'⟩ := SlAt.step s x' n nd no nod
    exact k σ' F' H' vs E' (by rw [kp 0 h0]; exact e0) s' n' nd' (rf.le x'.f) (x'.mono fun _ => .inl) o'
  | _ => cases hc
theorem in_sl (cc : SCls X.K C) (kk : Slt X.K C f (sx i) p) (ho : PE X o (tVar 0)) (hv : PX X cf value ce) (hs : swapsWith value (some (.Attribute o f pos')) pos.line X.env = pure false := by rfl) :
    PS X (.Assign [.Attribute o f pos'] value pos) (tIn ⟨X.K, cf⟩ C (nSl i ce)) := ps_imp (ps_slot cc kk ho hv hs) fun En σ H q => by
  obtain ⟨ρ, F, fs, p, dx, vs, ρ', fs', E, e0, s, n, nd, rf, hc, k⟩ := q
  obtain ⟨⟨d, ρ1⟩, h1, hc⟩ := ob (show (ce ρ).bind _ = some (ρ', fs') from hc)
  cases hc
  refine ⟨ρ, F, d, _, E, h1, fun y F1 H1 E1 r1 x1 o1 => ⟨_, e0, p, dx, vs, rfl, ?_⟩⟩
  obtain ⟨no, nod⟩ := SlAt.notOwn s E
  obtain ⟨s1, n1, nd1⟩ := SlAt.step s x1 n nd no nod
  refine ⟨s1, ?_⟩
  obtain ⟨no1, nod1⟩ := SlAt.notOwn s1 E1
  have hp : ∃ o, H1 p = some o ∧ (∀ a, o ≠ .own a) ∧ (∀ a u, o ≠ .frz a u) ∧ ∀ xs, o ≠ .tup xs := by
    rcases s1.2.2 with e | ⟨_, e⟩
    · exact ⟨_, e, (fun _ z => nomatch z), (fun _ _ z => nomatch z), (fun _ z => nomatch z)⟩
    · exact ⟨_, e, (fun _ z => nomatch z), (fun _ _ z => nomatch z), (fun _ z => nomatch z)⟩
  obtain ⟨o, hp, q1, q2, q3⟩ := hp
  refine k σ F1 _ _ (E1.wr n1 (fun a z => by rw [hp] at z; exact q1 a (Option.some.inj z)) no1) e0 s1.here n1 nd1 ((rf.le x1.f).put r1 (sx i)) ?_ fun a z => .inl (o1 a z)
  exact (x1.mono fun _ => .inl).trans (Ext.write (own := fun a => a = p) rfl (fun o u z => by rw [hp] at z; exact q2 o u (Option.some.inj z)) fun xs z => by rw [hp] at z; exact q3 xs (Option.some.inj z)) fun q z => .inl (.inr z)
theorem in_one (h : PS X st (tIn ⟨X.K, cf⟩ C a)) : PSs X [st] (tIn ⟨X.K, cf⟩ C a) := pss_one h
theorem in_cons (h1 : PS X st (tIn ⟨X.K, cf⟩ C a)) (h2 : PSs X rest (tIn ⟨X.K, cf⟩ C b)) : PSs X (st :: rest) (tIn ⟨X.K, cf⟩ C (nSeq a b)) := pss_imp (pss_cons h1 h2) fun En σ H q => by
  obtain ⟨ρ, F, fs, p, dx, vs, ρ', fs', E, e0, s, n, nd, rf, hc, k⟩ := q
  obtain ⟨⟨ρ1, fs1⟩, h1, hc⟩ := ob (show (a ρ fs).bind _ = some (ρ', fs') from hc)
  refine ⟨ρ, F, fs, p, dx, vs, ρ1, fs1, E, e0, s, n, nd, rf, h1, fun σ1 F1 H1 vs1 E1 e1 s1 n1 nd1 rf1 x1 o1 => ?_⟩
  refine ⟨ρ1, F1, fs1, p, dx, vs1, ρ', fs', E1, e1, s1, n1, nd1, rf1, hc, fun σ2 F2 H2 vs2 E2 e2 s2 n2 nd2 rf2 x2 o2 => ?_⟩
  refine k σ2 F2 H2 vs2 E2 e2 s2 n2 nd2 rf2 (x1.trans x2 fun q z => ?_) fun q z => ?_
  · rcases z with z | z
    · rcases o1 q z with z | z
      · exact .inl (.inl z)
      · exact .inr z
    · exact .inl (.inr z)
  · rcases o2 q z with z | z
    · exact o1 q z
    · -- not there behind the first part, so not ahead of it
      cases hq : H q with
      | none => exact .inr rfl
      | some o =>
        by_cases ho : Own ρ σ q
        · exact .inl ho
        · by_cases hp : q = p
          · subst hp
            rcases s1.2.2 with e | ⟨_, e⟩ <;> (rw [z] at e; cases e)
          · cases hF : F q with
            | none =>
              have := (x1.h q o hq hF (fun y => y.elim ho hp)).1
              rw [z] at this
              cases this
            | some u =>
              obtain ⟨_, e⟩ := (E1.fs q u (x1.f _ _ hF)).there
              rw [z] at e
              cases e
end
/-- the promise of an __init__: the written arguments are known; the fields behind it, the last one (a memory) None -/
def spI (W : OC) (C : Addr) (n : Nat) (dI : List D → Option (List D)) : Sp := fun vs H Q E => vs.length = n + 1 ∧ ∃ F p dx args ds fs, vs = .ref p :: args ∧ FS W F H ∧ SlAt H p C dx [] ∧ F p = none ∧ F dx = none ∧ RepL W F ds args ∧ dI ds = some fs ∧
  ∀ F' H' ws, FS W F' H' → Ext (fun a => a = p) F H F' H' → SlAt H' p C dx (lay (ws.map some ++ [some .non])) → F' p = none → F' dx = none → RepL W F' fs ws → Q .non H'
/-- by its statements; m: names that are no parameters -/
def mkI (m : Nat) (c : Ein) (ds : List D) : Option (List D) := (c (.no :: (ds.map Sl.fr ++ List.replicate m .no)) []).bind fun p => (fulls p.2).bind fun fs => match fs with
  | [a, b, .non, c, d, e, f] => some [e, d, f, c, b, a]
  | _ => none
theorem envArgs {W : OC} {F H : Hp} {ds : List D} {vs : List V} (fs : FS W F H) (r : RepL W F ds vs) (x : V) : EnvOk W (.no :: ds.map Sl.fr) (vS (x :: vs)) F H :=
  ⟨fs, by simp [r.length], fun i s o h1 h2 => by
    cases i with
    | zero =>
      cases h1
      exact True.intro
    | succ i =>
      have h1' : (ds.map Sl.fr)[i]? = some s := h1
      have h2' : (vs.map some)[i]? = some o := h2
      rw [List.getElem?_map] at h1' h2'
      obtain ⟨d, e1, rfl⟩ := Option.map_eq_some_iff.mp h1'
      obtain ⟨v, e2, rfl⟩ := Option.map_eq_some_iff.mp h2'
      obtain ⟨w, e3, e4⟩ := r.get e1
      rw [e2] at e3
      cases e3
      exact ⟨v, rfl, e4⟩, fun i j di dj p h1 _ _ _ => by
    cases i with
    | zero => cases h1
    | succ i =>
      have h1' : (ds.map Sl.fr)[i]? = some (.ow di) := h1
      rw [List.getElem?_map] at h1'
      obtain ⟨d, _, z⟩ := Option.map_eq_some_iff.mp h1'
      cases z⟩
theorem fnI {P : Program} {w : World} {K : PySem.W.Frag} {mg : Str → Option Value} {base : Heap} {cf : List D → D → Prop} {x qual : Str} {params : Arguments} {body : List Stmt} {scope : Scope} {dvs : List V} {kws : List (Str × V)} {f : Addr} {fd : FuncData} {N ps : List Str} {k n : Nat} {C : Addr} {c : Ein} {m : Nat} {CX : CXT}
    (F : FunD K x qual params body scope dvs kws f fd) (S : FnScope N ps scope) (hm : m = N.length - ps.length) (hn : ps.length = n + 1)
    (hb : ∀ (cdv : Value) (A : Around) (outer : List Env) (s : Shared) (H : Hp) (E : XK), Room k (A.deeper (envOfC qual scope s.heap.objs.size f cdv)) → PSs (cxOf CX P w K mg base N qual scope f cdv A outer s H E).nox body (tIn ⟨K, cf⟩ C c)) :
    FnOk P w K mg base CX (k + 1) f fd ps (spI ⟨K, cf⟩ C n (mkI m c)) := by
  have hpl : ps.length ≤ N.length := by have := congrArg List.length S.pre; rw [List.length_take] at this; omega
  refine F.ok S (fun vs H Q E q => by rw [q.1, hn]) fun cdv A outer s H vs Q E hr q => ?_
  refine ⟨_, PSs.nox (hb cdv A outer s H E hr), ?_⟩
  obtain ⟨l, F, p, dx, args, ds, fs, rfl, ff, sl, np, nd, r, hc, kk⟩ := q
  obtain ⟨⟨ρ', fs'⟩, h1, hc⟩ := ob (show (c _ _).bind _ = some fs from hc)
  obtain ⟨full, h2, hc⟩ := ob hc
  have E0 := envArgs ff r (.ref p)
  have E1 := E0.starts (N := N) (by rw [l, ← hn]; exact hpl)
  have em : N.length - (V.ref p :: args).length = m := by rw [l, hm, hn]
  rw [em] at E1
  have hst : (start N (V.ref p :: args))[0]? = some (some (.ref p)) := by
    unfold L2.start
    rfl
  refine ⟨_, F, [], p, dx, [], ρ', fs', E1, hst, sl, np, nd, (rfl : ([] : List (Option V)) = []), h1, fun σ' F' H' vs' E' e' s' n' nd' rf' x' o' => ?_⟩
  have nown : ∀ a, ¬ Own (Sl.no :: ds.map Sl.fr ++ List.replicate m Sl.no) (start N (V.ref p :: args)) a := fun a z => by
    have z' := z
    rw [← em] at z'
    obtain ⟨i, d, g1, _⟩ := Own.starts (as := Sl.no :: ds.map Sl.fr) (by simp [r.length]) z'
    cases i with
    | zero => cases g1
    | succ i =>
      have h1' : (ds.map Sl.fr)[i]? = some (.ow d) := g1
      rw [List.getElem?_map] at h1'
      obtain ⟨d, _, z⟩ := Option.map_eq_some_iff.mp h1'
      cases z
  obtain ⟨ws, rfl, rw'⟩ := rf'.full h2
  split at hc
  · rename_i a b c d e f
    cases hc
    obtain ⟨xa, r1, rfl, ha, w1⟩ := rw'.inv
    obtain ⟨xb, r2, rfl, hb, w2⟩ := w1.inv
    obtain ⟨xn, r3, rfl, hnn, w3⟩ := w2.inv
    obtain ⟨xc, r4, rfl, hcc, w4⟩ := w3.inv
    obtain ⟨xd, r5, rfl, hd, w5⟩ := w4.inv
    obtain ⟨xe, r6, rfl, he, w6⟩ := w5.inv
    obtain ⟨xf, r7, rfl, hf, w7⟩ := w6.inv
    have ev : xn = .non := by simpa only [Rep] using hnn
    subst ev
    have e7 := repL_nil.mp w7
    subst e7
    exact kk F' H' [xe, xd, xf, xc, xb, xa] E'.fs (x'.mono fun a z => z.elim (fun z => (nown a z).elim) id) s' n' nd' (repL_cons he (repL_cons hd (repL_cons hf (repL_cons hcc (repL_cons hb (repL_cons ha (repL_nil.mpr rfl)))))))
  · cases hc
/-- Class(..), the arguments known -/
def cMake (x : Str) (dI : List D → Option (List D)) (a : Ea) : Ev := fun ρ => (a ρ).bind fun p => (dI p.1).bind fun fs => some (.obj x fs, p.2)
section
variable {X : Cx} {cf : List D → D → Prop} {k n j : Nat} {f C : Addr} {fd : FuncData} {ps : List Str} {dI : List D → Option (List D)} {x : Str} {e : Expr} {es : List Expr} {ca : Ea} {p pos : Pos}
theorem x_make (M : Mk X.K C f) (F : FnOk X.prog X.w X.K X.mg X.base CXN k f fd ps (spI ⟨X.K, cf⟩ C n dI)) (hC : C = He.ga X.K x) (hr : Room j X.A) (hj : k + 1 ≤ j) (hg : Gl X x) (hm : X.mg x = some (.ref C)) (hb : Binds X.K fd ps [])
    (ha : PXA X cf (e :: es) ca) (hn : (e :: es).length = n) (hdb : (x == ("__debug__" : Str)) = false := by decide) (he : starEach (e :: es) X.env = (false, eval e X.env) :: starEach es X.env := by rfl) (hpl : (backTo pos (starEach es X.env)).any (·.1) = false := by rfl) :
    PX X cf (.Call (.Name x p) (e :: es) [] pos) (fun ρ => (ca ρ).bind fun p => if p.1.length = n then (dI p.1).bind fun fs => some (.obj x fs, p.2) else none) :=
  pe_imp (pe_make M F (hr.mono hj) hg hm hb .nil passN ha hdb he hpl) fun σ H Q q => by
    obtain ⟨ρ, F0, d, ρ', E, hc, kk⟩ := q
    obtain ⟨⟨ds, ρ1⟩, h1, hc⟩ := ob hc
    split at hc
    · rename_i hl
      obtain ⟨fs, h2, hc⟩ := ob hc
      cases hc
      refine ⟨ρ, F0, ds, _, E, h1, fun vs F1 H1 E1 r1 x1 o1 => ?_⟩
      intro q dx hq hdx hne
      show spI _ _ _ _ (V.ref q :: (vs ++ [])) _ _ _
      rw [List.append_nil]
      have hl' : ds.length = n := hl
      have fq : F1 q = none := E1.fs.free hq
      have fdx : F1 dx = none := E1.fs.free hdx
      have hq2 : upd H1 dx (HO.own q) q = none := by rw [upd_ne (Ne.symm hne)]; exact hq
      have fsA := (E1.fs.laid (o := .own q) hdx).laid (o := .ins C dx []) hq2
      have xA : Ext NoA F1 H1 F1 (upd (upd H1 dx (.own q)) q (.ins C dx [])) := (Ext.laid (own := NoA) E1.fs hdx).trans (Ext.laid (own := NoA) (E1.fs.laid hdx) hq2) fun p z => z.elim
      have EA := E1.ext fsA xA
      refine ⟨by simp [← r1.length, hl'], F1, q, dx, vs, ds, fs, rfl, fsA, SlAt.made hne, fq, fdx, r1, h2, fun F2 H2 ws fs2 x2 s2 n2 nd2 rw2 => ⟨rfl, ?_⟩⟩
      -- the new instance is known from now on
      have nown : H2 q = none ∨ True := .inr True.intro
      have hqo : ∃ o, H2 q = some o ∧ (∀ a, o ≠ .own a) := by
        rcases s2.2.2 with e | ⟨_, e⟩
        · exact ⟨_, e, fun _ z => nomatch z⟩
        · exact ⟨_, e, fun _ z => nomatch z⟩
      obtain ⟨o, hqo, no⟩ := hqo
      have le2 : Le F2 (upd F2 q (mark (He.ga X.K x) dx ws)) := Le.new n2
      have fs3 : FS ⟨X.K, cf⟩ (upd F2 q (mark (He.ga X.K x) dx ws)) H2 := fs2.freeze n2 (fun a z => by rw [hqo] at z; exact no a (Option.some.inj z)) (by
        refine ⟨fs, .non, ?_, ?_, ?_, .inl rfl⟩
        · rw [List.map_map]
          show RepL _ _ fs (ws.map id)
          rw [List.map_id]
          exact RepL.le le2 rw2
        · rw [List.map_map, ← hC]
          exact s2
        · rw [upd_ne hne]
          exact nd2)
      have x3 : Ext (Own ρ1 σ) F1 H1 (upd F2 q (mark (He.ga X.K x) dx ws)) H2 := by
        have x12 : Ext (Own ρ1 σ) F1 H1 F2 H2 := (xA.no (own := Own ρ1 σ)).trans x2 fun p z => .inr (by rw [z]; exact hq)
        exact x12.freeze n2 (.inl hq)
      have E3 : EnvOk ⟨X.K, cf⟩ ρ1 σ (upd F2 q (mark (He.ga X.K x) dx ws)) H2 := by
        have x12 : Ext NoA F1 H1 F2 H2 := xA.trans x2 fun p z => .inr (by rw [z]; exact hq)
        exact E1.ext fs3 (x12.freeze n2 (.inl hq))
      refine kk (.ref q) _ H2 E3 ?_ (x1.trans x3 fun p z => .inl (o1 p z)) o1
      simp only [Rep]
      exact ⟨q, dx, ws, rfl, upd_same, RepL.le le2 rw2⟩
    · cases hc
end
end Ov
/-! Ov: a last slot that is a memory. -/
namespace Ov
open PySem PySem.Spec PyProof.Rows L2

mutual
/-- no instance, no script within -/
def plD : D → Bool
  | .tup xs => plL xs
  | .lst xs => plL xs
  | .dT kvs => plT kvs
  | .dK kvs => plK kvs
  | .obj _ _ => false
  | .scr _ => false
  | _ => true
def plL : List D → Bool
  | [] => true
  | d :: ds => plD d && plL ds
def plT : List (List Int × D) → Bool
  | [] => true
  | (_, d) :: ds => plD d && plT ds
def plK : List (Int × D) → Bool
  | [] => true
  | (_, d) :: ds => plD d && plK ds
end
mutual
theorem rep_inj {W : OC} {F : Hp} : ∀ {d d' : D} {v : V}, plD d = true → plD d' = true → Rep W F d v → Rep W F d' v → d = d'
  | .non, d', v, p, p', h, h' => by
    simp only [Rep] at h
    subst h
    cases d' with
    | non => rfl
    | _ => simp [Rep] at h'
  | .bl b, d', v, p, p', h, h' => by
    simp only [Rep] at h
    subst h
    cases d' with
    | bl b' =>
      simp only [Rep] at h'
      cases h'
      rfl
    | _ => simp [Rep] at h'
  | .int b, d', v, p, p', h, h' => by
    simp only [Rep] at h
    subst h
    cases d' with
    | int b' =>
      simp only [Rep] at h'
      cases h'
      rfl
    | _ => simp [Rep] at h'
  | .str b, d', v, p, p', h, h' => by
    simp only [Rep] at h
    subst h
    cases d' with
    | str b' =>
      simp only [Rep] at h'
      cases h'
      rfl
    | _ => simp [Rep] at h'
  | .tup xs, d', v, p, p', h, h' => by
    simp only [Rep] at h
    obtain ⟨a, vs, rfl, e, _, r⟩ := h
    cases d' with
    | tup ys =>
      simp only [Rep] at h'
      obtain ⟨a', vs', e1, e2, _, r'⟩ := h'
      cases e1
      rw [e] at e2
      cases e2
      rw [repL_inj (by simpa only [plD] using p) (by simpa only [plD] using p') r r']
    | obj x fs => simp only [plD] at p'; cases p'
    | scr x => simp only [plD] at p'; cases p'
    | lst ys =>
      simp only [Rep] at h'
      obtain ⟨a', vs', e1, e2, _, r'⟩ := h'
      cases e1
      rw [e] at e2
      cases e2
    | dT ys =>
      simp only [Rep] at h'
      obtain ⟨a', vs', e1, e2, r'⟩ := h'
      cases e1
      rw [e] at e2
      cases e2
    | dK ys =>
      simp only [Rep] at h'
      obtain ⟨a', vs', e1, e2, r'⟩ := h'
      cases e1
      rw [e] at e2
      cases e2
    | _ => simp only [Rep] at h'; cases h'
  | .lst xs, d', v, p, p', h, h' => by
    simp only [Rep] at h
    obtain ⟨a, vs, rfl, e, _, r⟩ := h
    cases d' with
    | lst ys =>
      simp only [Rep] at h'
      obtain ⟨a', vs', e1, e2, _, r'⟩ := h'
      cases e1
      rw [e] at e2
      cases e2
      rw [repL_inj (by simpa only [plD] using p) (by simpa only [plD] using p') r r']
    | obj x fs => simp only [plD] at p'; cases p'
    | scr x => simp only [plD] at p'; cases p'
    | tup ys =>
      simp only [Rep] at h'
      obtain ⟨a', vs', e1, e2, _, r'⟩ := h'
      cases e1
      rw [e] at e2
      cases e2
    | dT ys =>
      simp only [Rep] at h'
      obtain ⟨a', vs', e1, e2, r'⟩ := h'
      cases e1
      rw [e] at e2
      cases e2
    | dK ys =>
      simp only [Rep] at h'
      obtain ⟨a', vs', e1, e2, r'⟩ := h'
      cases e1
      rw [e] at e2
      cases e2
    | _ => simp only [Rep] at h'; cases h'
  | .dT xs, d', v, p, p', h, h' => by
    simp only [Rep] at h
    obtain ⟨a, vs, rfl, e, r⟩ := h
    cases d' with
    | dT ys =>
      simp only [Rep] at h'
      obtain ⟨a', vs', e1, e2, r'⟩ := h'
      cases e1
      rw [e] at e2
      cases e2
      rw [repT_inj (by simpa only [plD] using p) (by simpa only [plD] using p') r r']
    | obj x fs => simp only [plD] at p'; cases p'
    | scr x => simp only [plD] at p'; cases p'
    | tup ys =>
      simp only [Rep] at h'
      obtain ⟨a', vs', e1, e2, _, r'⟩ := h'
      cases e1
      rw [e] at e2
      cases e2
    | lst ys =>
      simp only [Rep] at h'
      obtain ⟨a', vs', e1, e2, _, r'⟩ := h'
      cases e1
      rw [e] at e2
      cases e2
    | dK ys =>
      simp only [Rep] at h'
      obtain ⟨a', vs', e1, e2, r'⟩ := h'
      cases e1
      rw [e] at e2
      cases e2
    | _ => simp only [Rep] at h'; cases h'
  | .dK xs, d', v, p, p', h, h' => by
    simp only [Rep] at h
    obtain ⟨a, vs, rfl, e, r⟩ := h
    cases d' with
    | dK ys =>
      simp only [Rep] at h'
      obtain ⟨a', vs', e1, e2, r'⟩ := h'
      cases e1
      rw [e] at e2
      cases e2
      rw [repK_inj (by simpa only [plD] using p) (by simpa only [plD] using p') r r']
    | obj x fs => simp only [plD] at p'; cases p'
    | scr x => simp only [plD] at p'; cases p'
    | tup ys =>
      simp only [Rep] at h'
      obtain ⟨a', vs', e1, e2, _, r'⟩ := h'
      cases e1
      rw [e] at e2
      cases e2
    | lst ys =>
      simp only [Rep] at h'
      obtain ⟨a', vs', e1, e2, _, r'⟩ := h'
      cases e1
      rw [e] at e2
      cases e2
    | dT ys =>
      simp only [Rep] at h'
      obtain ⟨a', vs', e1, e2, r'⟩ := h'
      cases e1
      rw [e] at e2
      cases e2
    | _ => simp only [Rep] at h'; cases h'
  | .obj x fs, d', v, p, p', h, h' => by simp only [plD] at p; cases p
  | .scr x, d', v, p, p', h, h' => by simp only [plD] at p; cases p
theorem repL_inj {W : OC} {F : Hp} : ∀ {ds es : List D} {vs : List V}, plL ds = true → plL es = true → RepL W F ds vs → RepL W F es vs → ds = es
  | [], es, vs, p, p', h, h' => by
    rw [repL_nil] at h
    subst h
    cases es with
    | nil => rfl
    | cons e es =>
      obtain ⟨_, _, z, _⟩ := h'.inv
      cases z
  | d :: ds, es, vs, p, p', h, h' => by
    obtain ⟨v, r, rfl, h1, h2⟩ := h.inv
    cases es with
    | nil =>
      rw [repL_nil] at h'
      cases h'
    | cons e es =>
      obtain ⟨v', r', z, h1', h2'⟩ := h'.inv
      cases z
      simp only [plL, Bool.and_eq_true] at p p'
      rw [rep_inj p.1 p'.1 h1 h1', repL_inj p.2 p'.2 h2 h2']
theorem repT_inj {W : OC} {F : Hp} : ∀ {ds es : List (List Int × D)} {vs : List (List Key × V)}, plT ds = true → plT es = true → RepT W F ds vs → RepT W F es vs → ds = es
  | [], es, vs, p, p', h, h' => by
    rw [repT_nil] at h
    subst h
    cases es with
    | nil => rfl
    | cons e es =>
      obtain ⟨k, e⟩ := e
      obtain ⟨_, _, z, _⟩ := h'.inv
      cases z
  | (k, d) :: ds, es, vs, p, p', h, h' => by
    obtain ⟨v, r, rfl, h1, h2⟩ := h.inv
    cases es with
    | nil =>
      rw [repT_nil] at h'
      cases h'
    | cons e es =>
      obtain ⟨k', e⟩ := e
      obtain ⟨v', r', z, h1', h2'⟩ := h'.inv
      injection z with z1 z2
      injection z1 with z3 z4
      subst z2 z4
      simp only [plT, Bool.and_eq_true] at p p'
      rw [rep_inj p.1 p'.1 h1 h1', repT_inj p.2 p'.2 h2 h2', map_inl_inj z3]
theorem repK_inj {W : OC} {F : Hp} : ∀ {ds es : List (Int × D)} {vs : List (Key × V)}, plK ds = true → plK es = true → RepK W F ds vs → RepK W F es vs → ds = es
  | [], es, vs, p, p', h, h' => by
    rw [repK_nil] at h
    subst h
    cases es with
    | nil => rfl
    | cons e es =>
      obtain ⟨k, e⟩ := e
      obtain ⟨_, _, z, _⟩ := h'.inv
      cases z
  | (k, d) :: ds, es, vs, p, p', h, h' => by
    obtain ⟨v, r, rfl, h1, h2⟩ := h.inv
    cases es with
    | nil =>
      rw [repK_nil] at h'
      cases h'
    | cons e es =>
      obtain ⟨k', e⟩ := e
      obtain ⟨v', r', z, h1', h2'⟩ := h'.inv
      injection z with z1 z2
      injection z1 with z3 z4
      subst z2 z4
      simp only [plK, Bool.and_eq_true] at p p'
      rw [rep_inj p.1 p'.1 h1 h1', repK_inj p.2 p'.2 h2 h2', Sum.inl.inj z3]
end

/-- what the memory holds, by the fields: brk -/
def cfM (brk : List D → Option D) : List D → D → Prop := fun ds d => plL ds = true ∧ brk ds = some d
/-- the value that S1 finds -/
def brkOf (x : Str) (ce : Ev) (ds : List D) : Option D := (ce [.fr (.obj x ds), .no]).bind fun p => if p.2.length = 2 then some p.1 else none
def dMemo (x : Str) (n : Nat) (brk : List D → Option D) : Df := fun as => match as with
  | [.fr (.obj y ds)] => if y = x ∧ ds.length = n ∧ plL ds = true then (brk ds).map fun d => (.rt d, [.no]) else none
  | _ => none
def tMemo (W : OC) (x : Str) (n : Nat) (brk : List D → Option D) : TS := fun En σ H => ∃ F ds d, EnvOk W [.fr (.obj x ds), .no] σ F H ∧ ds.length = n ∧ plL ds = true ∧ brk ds = some d ∧
  ∀ v F' H', FS W F' H' → Rep W F' d v → Ext NoA F H F' H' → En.rt v H'
theorem iteF' {A B : Prop} {c : Bool} (e : c = false) (h : B) : if c = true then A else B := by
  rw [e, if_neg Bool.false_ne_true]
  exact h
section
variable {X : Cx} {brk : List D → Option D} {x f : Str} {n k kk k2 : Nat} {p : Addr} {o o2 o3 y1 : Expr} {st1 : Stmt} {ce : Ev} {p2 p3 p4 p6 p8 p9 p10 p12 p13 p14 p15 : Pos}
theorem b_memo (cc : L2.SCls X.K (He.ga X.K x)) (hn6 : n = 6) (kl : L2.Slt X.K (He.ga X.K x) f (sx n) p) (ho : PE X o (tVar 0)) (ho2 : PE X o2 (tVar 0)) (ho3 : PE X o3 (tVar 0)) (hy : PX X (cfM brk) y1 (cV 1)) (h1 : PXS X (cfM brk) st1 [1] (cSet 1 ce))
    (hbrk : ∀ ds, brk ds = brkOf x ce ds) (hb : attributeBase o f X.env (eval o X.env) = eval o X.env := by rfl) (hb3 : attributeBase o3 f X.env (eval o3 X.env) = eval o3 X.env := by rfl)
    (hs : swapsWith (.Tuple [y1] kk p8) (some (.Attribute o2 f p6)) p9.line X.env = pure false := by rfl) (hstar : starEach [y1] X.env = (false, eval y1 X.env) :: starEach [] X.env := by rfl) (hu : X.A.units + 1 < cLine) (hpl : PlainIx (.Constant (.int 0) k2 p13)) :
    PSs X [.If (.Compare (.Attribute o f p2) [.Is] [.Constant .none k p3] p4) [st1, .Assign [.Attribute o2 f p6] (.Tuple [y1] kk p8) p9] [] p10, .Return (some (.Subscript (.Attribute o3 f p12) (.Constant (.int 0) k2 p13) p14)) p15] (tMemo ⟨X.K, cfM brk⟩ x n brk) := by
  have ptest : PT X (.Compare (.Attribute o f p2) [.Is] [.Constant .none k p3] p4) (tTest (tOp (fun x y H Q => y = .non ∧ Q (.bl (decide (x = .non))) H) (tSlot (He.ga X.K x) (sx n) (tVar 0)) (tC .non))) := pt_cmpR op_isN (pe_slot cc kl ho hb) pe_non (nomark _)
  have pset : PS X (.Assign [.Attribute o2 f p6] (.Tuple [y1] kk p8) p9) (sSlot (He.ga X.K x) (sx n) (tVar 0) (tX ⟨X.K, cfM brk⟩ (cTup (aCons (cV 1) aNil)))) := ps_slot cc kl ho2 (x_tup (xa_cons hy xa_nil hstar)) hs
  have pret : PS X (.Return (some (.Subscript (.Attribute o3 f p12) (.Constant (.int 0) k2 p13) p14)) p15) (tRet (tOp (rIxA X.K) (tSlot (He.ga X.K x) (sx n) (tVar 0)) (tC (.int 0)))) := ps_ret (pe_ix (ixr_all hu) (pe_slot cc kl ho3 hb3) pe_int hpl)
  refine pss_imp (pss_cons (ps_if ptest (pss_cons h1 (pss_one pset)) pss_nil) (pss_one pret)) fun En σ H q => ?_
  obtain ⟨F, ds, d, E, hn, hp, hd, kont⟩ := q
  obtain ⟨v, ev, rv⟩ := E.get (i := 0) rfl
  -- the return, from where the memory holds d
  have fin : ∀ (σ' : L2.St) (F2 : Hp) (H2 : Hp) (a dx q : Addr) (ws : List V) (w : V), σ'[0]? = some (some (.ref a)) → FS ⟨X.K, cfM brk⟩ F2 H2 → SlAt H2 a (He.ga X.K x) dx (lay (ws.map some ++ [some (.ref q)])) → ws.length = n → F2 q = some (.tup [w]) → Rep ⟨X.K, cfM brk⟩ F2 d w → Ext NoA F H F2 H2 →
      tRet (tOp (rIxA X.K) (tSlot (He.ga X.K x) (sx n) (tVar 0)) (tC (.int 0))) En σ' H2 := fun σ' F2 H2 a dx q ws w e0 fs2 sl hl hq rw x2 => by
    refine ⟨_, e0, a, dx, _, .ref q, rfl, sl, ?_, ?_⟩
    · rw [lay_get _ (by omega), List.getElem?_append_right (by simp [hl])]
      simp [hl]
    · refine op2_ix (W := ⟨X.K, cfM brk⟩) F2 H2 (.tup [d]) (.int 0) d (.ref q) (.int 0) _ fs2 (.inl (rep_tup hq (by show 1 ≤ sizeLine; decide) (repL_cons rw (repL_nil.mpr rfl)))) (.inl (by simp only [Rep])) rfl fun u F3 H3 fs3 r3 x3 => ?_
      exact kont u F3 H3 fs3 r3 (x2.trans x3 fun p z => z.elim)
  obtain ⟨a, dx, vs, g, rfl, hF, hdx, rvs, sl, hg⟩ := obj_at E.fs rv
  have hvl : vs.length = n := by rw [← rvs.length]; exact hn
  have no0 : ∀ c, ¬ Own [.fr (.obj x ds), .no] σ c := fun c z => by
    obtain ⟨i, d, g1, _⟩ := z
    match i, g1 with
    | 0, g1 => cases g1
    | 1, g1 => cases g1
    | i + 2, g1 => simp at g1
  refine ⟨_, ev, a, dx, _, g, rfl, sl, ?_, rfl, _, rfl, ?_⟩
  · rw [lay_get _ (by omega), List.getElem?_append_right (by simp [hvl])]
    simp [hvl]
  by_cases hgn : g = .non
  · subst hgn
    have hd' := hd
    rw [hbrk] at hd'
    obtain ⟨⟨d1, ρ1⟩, hce, e1⟩ := ob (show (ce [.fr (.obj x ds), .no]).bind _ = some d from hd')
    obtain ⟨hρ, e1'⟩ : ρ1.length = 2 ∧ d1 = d := by
      split at e1
      · rename_i hh
        exact ⟨hh, Option.some.inj e1⟩
      · cases e1
    subst e1'
    refine iteT ⟨[.fr (.obj x ds), .no], F, .nx, ρ1.set 1 (.fr d1), E, by show (ce _).bind _ = _; rw [hce]; rfl, fun σ1 F1 H1 E1 x1 o1 kp => ?_⟩
    -- the store: the table in slot 0, the value in slot 1
    have e0 : σ1[0]? = some (some (.ref a)) := by rw [kp 0 (by simp)]; exact ev
    have x1n : Ext NoA F H F1 H1 := x1.mono fun c z => (no0 c z).elim
    have rv1 := Rep.le x1.f rv
    obtain ⟨a', dx', vs', g', e', hF', hdx', rvs', sl', _⟩ := obj_at E1.fs rv1
    cases e'
    have hvl' : vs'.length = n := by rw [← rvs'.length]; exact hn
    have get1 : (ρ1.set 1 (Sl.fr d1))[1]? = some (.fr d1) := by simp [hρ]
    have hcv : cV 1 (ρ1.set 1 (Sl.fr d1)) = some (d1, ρ1.set 1 (Sl.fr d1)) := by
      unfold Ov.cV
      rw [get1]
    refine ⟨ρ1.set 1 (.fr d1), F1, .tup [d1], ρ1.set 1 (.fr d1), E1, ?_, fun y F2 H2 E2 r2 x2 o2 => ?_⟩
    · show ((cV 1 _).bind _).bind _ = _
      rw [hcv]
      rfl
    have x12 : Ext NoA F H F2 H2 := x1n.trans x2 fun c z => by
      rcases o1 c z with z | z
      · exact (no0 c z).elim
      · exact .inr z
    simp only [Rep] at r2
    obtain ⟨q, us, rfl, hq, _, ru⟩ := r2
    obtain ⟨w, us', rfl, rw1, ru'⟩ := ru.inv
    rw [repL_nil.mp ru'] at hq
    obtain ⟨a2, dx2, vs2, g2, e2, hF2, hdx2, rvs2, sl2, _⟩ := obj_at E2.fs (Rep.le x2.f rv1)
    cases e2
    have hvl2 : vs2.length = n := by rw [← rvs2.length]; exact hn
    refine ⟨_, e0, a, dx2, _, rfl, sl2, ?_⟩
    have eput : putS (sx n) (V.ref q) (lay (vs2.map some ++ [some g2])) = lay (vs2.map some ++ [some (.ref q)]) := by
      subst hn6
      match vs2, hvl2 with
      | [_, _, _, _, _, _], _ => rfl
    rw [eput]
    have hnown : ∀ c, H2 a ≠ some (HO.own c) := fun c z => by
      rcases sl2.2.2 with e | ⟨_, e⟩ <;> (rw [e] at z; cases z)
    have sl3 := sl2.here (ws := lay (vs2.map some ++ [some (V.ref q)]))
    have E3 : EnvOk ⟨X.K, cfM brk⟩ (ρ1.set 1 (.fr d1)) σ1 F2 (upd H2 a (SlO (He.ga X.K x) dx2 a (lay (vs2.map some ++ [some (V.ref q)])))) := E2.re hF2 hnown (by
      refine ⟨ds, .ref q, ?_, ?_, hdx2, .inr ⟨q, w, d1, rfl, hq, rw1, hp, hd⟩⟩
      · rw [List.map_map]
        show RepL _ _ ds (vs2.map id)
        rw [List.map_id]
        exact rvs2
      · rw [List.map_map]
        exact sl3)
    have x3 : Ext NoA F H F2 (upd H2 a (SlO (He.ga X.K x) dx2 a (lay (vs2.map some ++ [some (V.ref q)])))) := by
      have nf : ∀ o u, H2 a ≠ some (.frz o u) := fun o u z => by
        rcases sl2.2.2 with e | ⟨_, e⟩ <;> (rw [e] at z; cases z)
      have nt : ∀ xs, H2 a ≠ some (.tup xs) := fun xs z => by
        rcases sl2.2.2 with e | ⟨_, e⟩ <;> (rw [e] at z; cases z)
      refine ⟨x12.f, fun c u e nn no => ?_, fun c o u e => ?_, fun c xs e => ?_⟩
      · have ne : c ≠ a := fun z => by
          rw [z, hF] at nn
          cases nn
        rw [upd_ne ne]
        exact x12.h c u e nn no
      · have e' := x12.l c o u e
        rw [upd_ne (fun z => nf o u (by rw [← z]; exact e'))]
        exact e'
      · have e' := x12.t c xs e
        rw [upd_ne (fun z => nt xs (by rw [← z]; exact e'))]
        exact e'
    exact fin σ1 F2 _ a dx2 q vs2 w e0 E3.fs sl3 hvl2 hq rw1 x3
  · refine iteF' (by simp [hgn]) ?_
    rcases hg with hg | ⟨q, w, d', ds', rfl, hq, rw1, rds, hcf⟩
    · exact (hgn hg).elim
    · have eds : ds' = ds := repL_inj hcf.1 hp rds rvs
      subst eds
      have ed : d' = d := Option.some.inj (hcf.2.symm.trans hd)
      subst ed
      exact fin σ F H a dx q vs w ev E.fs sl hvl hq rw1 Ext.refl
end
/-- the def -/
theorem fnMemo {P : Program} {w : World} {K : PySem.W.Frag} {mg : Str → Option Value} {base : Heap} {brk : List D → Option D} {x nm qual : Str} {n : Nat} {params : Arguments} {body : List Stmt} {scope : Scope} {dvs : List V} {kws : List (Str × V)} {f : Addr} {fd : FuncData} {t y : Str} {k : Nat}
    (F : FunD K nm qual params body scope dvs kws f fd) (S : FnScope [t, y] [t] scope)
    (hb : ∀ (CX : CXT) (cdv : Value) (A : Around) (outer : List Env) (s : Shared) (H : Hp) (E : XK), Room k (A.deeper (envOfC qual scope s.heap.objs.size f cdv)) → PSs (cxOf CX P w K mg base [t, y] qual scope f cdv A outer s H E).nox body (tMemo ⟨K, cfM brk⟩ x n brk)) :
    FnD P w K mg base (cfM brk) (k + 1) f fd [t] (dMemo x n brk) := fun CX => by
  refine F.ok S (fun vs H Q E q => q.1) fun cdv A outer s H vs Q E hr q => ?_
  refine ⟨_, PSs.nox (hb CX cdv A outer s H E hr), ?_⟩
  obtain ⟨l, F, as, fl, as', E0, hc, kk⟩ := q
  unfold dMemo at hc
  split at hc
  · rename_i z ds
    split at hc
    · rename_i hh
      obtain ⟨hz, hn, hp⟩ := hh
      subst hz
      obtain ⟨d, hd, e⟩ := Option.map_eq_some_iff.mp hc
      cases e
      have E1 := E0.starts (N := [t, y]) (by rw [l]; exact Nat.le_succ 1)
      have em : ([t, y] : List Str).length - vs.length = 1 := by rw [l]; rfl
      rw [em] at E1
      refine ⟨F, ds, d, E1, hn, hp, hd, fun v F' H' fs r x => ?_⟩
      have lv : vs.length = 1 := l
      have EE : EnvOk ⟨K, cfM brk⟩ [.no] (vS vs) F' H' := ⟨fs, by simp [lv], fun i s o h1 _ => by
        match i, h1 with
        | 0, h1 =>
          cases h1
          exact True.intro
        | i + 1, h1 => simp at h1, fun i j di dj p h1 _ _ _ => by
        match i, h1 with
        | 0, h1 => cases h1
        | i + 1, h1 => simp at h1⟩
      refine kk v F' H' EE x.no (fun a z => ?_) r
      obtain ⟨i, d, g1, _⟩ := z
      match i, g1 with
      | 0, g1 => cases g1
      | i + 1, g1 => simp at g1
    · cases hc
  · cases hc
end Ov
namespace K09
open PySem PySem.Spec PyProof.Rows L2 Ov
def top (i : Nat) : Stmt := PySem.Challenge.pw_singlyseen_k09_fours_through_one_thing.main.body.getD i (.Pass ⟨0, 0, 0, 0⟩)
abbrev FnP (K : PySem.W.Frag) (x : Str) (st : Stmt) (f : Addr) (fd : FuncData) : Prop := FunD K x x (defArgs st) (defBody st) (defScope st) [] [] f fd
/-- the statements of a class -/
def inClass (s : Stmt) : List Stmt := match s with
  | .ClassDef _ _ _ b _ _ _ _ _ _ _ => b
  | _ => []
end K09
/-! Ov: the plain functions, step by step (for simp only). -/
namespace Ov
open PySem PySem.Spec PyProof.Rows L2
section
variable {ρ as : List Sl} {i m n : Nat} {a b c ce : Ev} {t u : Et} {s s1 s2 : Es} {f f' : D → D → Option D} {g1 : D → Option D} {d e : D} {x y : D} {ds : List D} {g : Eg} {gs : Egs} {ea : Ea} {it it1 : Ei} {df : Df} {ag : Eag} {z : Int} {k : Bool}
theorem e_cC : cC d ρ = some (d, ρ) := rfl
theorem e_cV : cV i ρ = (match ρ[i]? with | some (.fr d) => some (d, ρ) | some (.ow d) => some (d, ρ.set i (.fr d)) | _ => none) := rfl
theorem e_cVO : cVO i ρ = (match ρ[i]? with | some (.ow d) => some (d, ρ.set i .no) | _ => none) := rfl
theorem e_c1 : c1 g1 a ρ = (a ρ).bind fun p => (g1 p.1).bind fun z => some (z, p.2) := rfl
theorem e_c2 : c2 f a b ρ = (a ρ).bind fun p => (b p.2).bind fun q => (f p.1 q.1).bind fun z => some (z, q.2) := rfl
theorem e_cB0 : cB0 i g1 ρ = (getS ρ i).bind fun d => (g1 d).bind fun z => some (z, ρ) := rfl
theorem e_cB1 : cB1 i f b ρ = (getS ρ i).bind fun _ => (b ρ).bind fun q => (getS q.2 i).bind fun d => (f d q.1).bind fun z => some (z, q.2) := rfl
theorem e_cB2 : cB2 i f a ρ = (a ρ).bind fun p => (getS p.2 i).bind fun d => (f p.1 d).bind fun z => some (z, p.2) := rfl
theorem e_cT : cT c ρ = (c ρ).bind fun p => (toB p.1).bind fun b => some (b, p.2) := rfl
theorem e_cTr : cTr c ρ = (c ρ).bind fun p => (truB p.1).bind fun b => some (b, p.2) := rfl
theorem e_cAnd : cAnd t u ρ = (t ρ).bind fun p => if p.1 = true then u p.2 else some (false, p.2) := rfl
theorem e_cOr : cOr t u ρ = (t ρ).bind fun p => if p.1 = true then some (true, p.2) else u p.2 := rfl
theorem e_cNot : cNot t ρ = (t ρ).bind fun p => some (!p.1, p.2) := rfl
theorem e_cYes : cYes ρ = some (true, ρ) := rfl
theorem e_cAndV : cAndV a b ρ = (a ρ).bind fun p => (toB p.1).bind fun k => if k = true then b p.2 else some (.bl false, p.2) := rfl
theorem e_cOrV : cOrV a b ρ = (a ρ).bind fun p => (toB p.1).bind fun k => if k = true then some (.bl true, p.2) else b p.2 := rfl
theorem e_cNotV : cNotV a ρ = (a ρ).bind fun p => (toB p.1).bind fun k => some (.bl (!k), p.2) := rfl
theorem e_cIf : cIf t a b ρ = (t ρ).bind fun p => if p.1 = true then a p.2 else b p.2 := rfl
theorem e_cChain : cChain f f' a b c ρ = (a ρ).bind fun p => (b p.2).bind fun q => (f p.1 q.1).bind fun z => (toB z).bind fun k =>
  if k = true then (c q.2).bind fun s => (f' q.1 s.1).bind fun y => some (y, s.2) else some (.bl false, q.2) := rfl
theorem e_aNil : aNil ρ = some ([], ρ) := rfl
theorem e_aCons : aCons a ea ρ = (a ρ).bind fun p => (ea p.2).bind fun q => some (p.1 :: q.1, q.2) := rfl
theorem e_cTup : cTup ea ρ = (ea ρ).bind fun p => if p.1.length ≤ 16777216 then some (.tup p.1, p.2) else none := rfl
theorem e_cLst : cLst ea ρ = (ea ρ).bind fun p => if p.1.length ≤ 16777216 then some (.lst p.1, p.2) else none := rfl
theorem e_cSl {l h : Ep} : cSl a l h ρ = (a ρ).bind fun p => (l p.2).bind fun q => (h q.2).bind fun s => (slD p.1 q.1 s.1).bind fun z => some (z, s.2) := rfl
theorem e_pNone : pNone ρ = some (none, ρ) := rfl
theorem e_pSome : pSome c ρ = (c ρ).bind fun p => (toI p.1).bind fun i => some (some i, p.2) := rfl
theorem e_cRev : cRev a ρ = (a ρ).bind fun p => (match p.1 with | .lst xs => some (.lst xs.reverse, p.2) | _ => none) := rfl
theorem e_cGetB : cGetB i b ρ = (getS ρ i).bind fun d0 => (b ρ).bind fun q => (getS q.2 i).bind fun d => (getDct d0 q.1).bind fun _ => (getDct d q.1).bind fun o => some (o.getD .non, q.2) := rfl
theorem e_cPop : cPop i ρ = (ownLst ρ i).bind fun xs => (xs[xs.length - 1]?).bind fun d => some (d, ρ.set i (.ow (.lst xs.dropLast))) := rfl
theorem e_cPopAt : cPopAt i b ρ = (ownLst ρ i).bind fun _ => (b ρ).bind fun q => (ownLst q.2 i).bind fun xs => (toI q.1).bind fun k => if 0 ≤ k ∧ k < 1000000 then (xs[k.toNat]?).bind fun d => some (d, q.2.set i (.ow (.lst (xs.eraseIdx k.toNat)))) else none := rfl
theorem e_cNx : cNx ρ = some (.nx, ρ) := rfl
theorem e_cNever : cNever ρ = none := rfl
theorem e_cSeq : cSeq s1 s2 ρ = (s1 ρ).bind fun p => (match p.1 with | .nx => s2 p.2 | fl => some (fl, p.2)) := rfl
theorem e_cDrop : cDrop c ρ = (c ρ).bind fun p => some (.nx, p.2) := rfl
theorem e_cRet : cRet c ρ = (c ρ).bind fun p => some (.rt p.1, p.2) := rfl
theorem e_cRetO : cRetO c ρ = (c ρ).bind fun p => some (.ro p.1, p.2) := rfl
theorem e_cRetN : cRetN ρ = some (.rt .non, ρ) := rfl
theorem e_cIfS : cIfS t s1 s2 ρ = (t ρ).bind fun p => if p.1 = true then s1 p.2 else s2 p.2 := rfl
theorem e_cSet : cSet i c ρ = (c ρ).bind fun p => some (.nx, p.2.set i (.fr p.1)) := rfl
theorem e_cSetO : cSetO i c ρ = (c ρ).bind fun p => some (.nx, p.2.set i (.ow p.1)) := rfl
theorem e_cApp : cApp i c ρ = (ownLst ρ i).bind fun _ => (c ρ).bind fun p => (ownLst p.2 i).bind fun xs => if xs.length < 16777216 then some (.nx, p.2.set i (.ow (.lst (xs ++ [p.1])))) else none := rfl
theorem e_cPutD : cPutD i a b ρ = (b ρ).bind fun p => (ownS p.2 i).bind fun _ => (a p.2).bind fun q => (ownS q.2 i).bind fun d => (putDct d q.1 p.1).bind fun d' => some (.nx, q.2.set i (.ow d')) := rfl
theorem e_gN : gN i d ρ = some (ρ.set i (.fr d)) := rfl
theorem e_gT : gT n gs d ρ = (match d with | .tup xs => if xs.length = n then gs xs ρ else none | _ => none) := rfl
theorem e_gCons : gCons' g gs ds ρ = (match ds with | d :: ds => (g d ρ).bind fun ρ1 => gs ds ρ1 | [] => none) := rfl
theorem e_gNil : gNil' ds ρ = (match ds with | [] => some ρ | _ => none) := rfl
theorem e_iSeq : iSeq a ρ = (a ρ).bind fun p => (match p.1 with | .lst xs => some (xs, p.2) | .tup xs => some (xs, p.2) | _ => none) := rfl
theorem e_iRg1 : iRg1 a ρ = (a ρ).bind fun p => (toI p.1).bind fun n => if decide (-4611686018427387904 ≤ n ∧ n ≤ 16777216) = true then some (rgL 0 n, p.2) else none := rfl
theorem e_iRg2 : iRg2 a b ρ = (a ρ).bind fun p => (toI p.1).bind fun lo => (b p.2).bind fun q => (toI q.1).bind fun hi =>
  if decide (-4611686018427387904 ≤ lo ∧ lo < 4611686018427387904 ∧ -4611686018427387904 ≤ hi ∧ hi < 4611686018427387904 ∧ hi - lo ≤ 16777216) = true then some (rgL lo hi, q.2) else none := rfl
theorem e_iZip : iZip a b ρ = (a ρ).bind fun p => (seqOf p.1).bind fun xs => (b p.2).bind fun q => (seqOf q.1).bind fun ys => some (zipL xs ys, q.2) := rfl
theorem e_iEnum : iEnum a ρ = (a ρ).bind fun p => (seqOf p.1).bind fun xs => some (enumL 0 xs, p.2) := rfl
theorem e_cFor : cFor it g s ρ = (it ρ).bind fun p => forL g s p.1 p.2 := rfl
theorem e_cForD : cForD i g s ρ = (cV i ρ).bind fun p => (match p.1 with | .dT kvs => forL g s (keysT kvs) p.2 | .dK kvs => forL g s (keysK kvs) p.2 | _ => none) := rfl
theorem e_forN : forL g s [] ρ = some (.nx, ρ) := rfl
theorem e_forC : forL g s (d :: ds) ρ = (g d ρ).bind fun ρ1 => (s ρ1).bind fun p => (match p.1 with
    | .nx => forL g s ds p.2
    | .ct => forL g s ds p.2
    | .bk => some (.nx, p.2)
    | .rt d => some (.rt d, p.2)
    | .ro d => some (.ro d, p.2)) := rfl
theorem e_stE : stE t a ρ = (t ρ).bind fun p => if p.1 = true then (a p.2).bind fun q => some ([q.1], q.2) else some ([], p.2) := rfl
theorem e_lcN {vs : List Nat} {st : Ek} : lcG vs g st [] ρ = some ([], ρ) := rfl
theorem e_lcC {vs : List Nat} {st : Ek} : lcG vs g st (d :: ds) ρ = (g d ρ).bind fun ρ1 => (st ρ1).bind fun q => (lcG vs g st ds (wipR q.2 vs)).bind fun r => some (q.1 ++ r.1, r.2) := rfl
theorem e_cLc {vs : List Nat} : cLc vs it g t a ρ = (it ρ).bind fun p => (lcG vs g (stE t a) p.1 (wipR p.2 vs)).bind fun q => some (.lst q.1, restR p.2 q.2 vs) := rfl
theorem e_mkDf {sl : List Nat} : mkDf sl m s as = (s (as ++ List.replicate m .no)).bind fun q => (match q.1 with
  | .nx => some (.nx, retA sl 0 as q.2)
  | .rt d => some (.rt d, retA sl 0 as q.2)
  | .ro d => some (.ro d, retA sl 0 as q.2)
  | _ => none) := rfl
theorem e_cCall : cCall n df ag ρ = (ag ρ).bind fun p => if (nodupB (oIx p.1) && decide (p.1.length = n)) = true then (argS p.2 p.1).bind fun as => (df as).bind fun q => (match q.1 with
  | .rt d => some (d, backS p.2 p.1 q.2)
  | .nx => some (.non, backS p.2 p.1 q.2)
  | _ => none)
  else none := rfl
theorem e_cCallO : cCallO n df ag ρ = (ag ρ).bind fun p => if (nodupB (oIx p.1) && decide (p.1.length = n)) = true then (argS p.2 p.1).bind fun as => (df as).bind fun q => (match q.1 with
  | .ro d => some (d, backS p.2 p.1 q.2)
  | _ => none)
  else none := rfl
theorem e_agN : gNil ρ = some ([], ρ) := rfl
theorem e_agC : gCons a ag ρ = (a ρ).bind fun p => (ag p.2).bind fun q => some (.d p.1 :: q.1, q.2) := rfl
theorem e_agO : gOwn i ag ρ = (ownS ρ i).bind fun _ => (ag ρ).bind fun q => some (.o i :: q.1, q.2) := rfl
/-! operations on ints -/
variable {p q : Int}
theorem e_add : addD (.int p) (.int q) = some (.int (p + q)) := rfl
theorem e_sub : subD (.int p) (.int q) = some (.int (p - q)) := rfl
theorem e_neg : negD (.int p) = some (.int (-p)) := rfl
theorem e_lt : ltD (.int p) (.int q) = some (.bl (decide (p < q))) := rfl
theorem e_le : leD (.int p) (.int q) = some (.bl (decide (p ≤ q))) := rfl
theorem e_gt : gtD (.int p) (.int q) = some (.bl (decide (q < p))) := rfl
theorem e_ge : geD (.int p) (.int q) = some (.bl (decide (q ≤ p))) := rfl
theorem e_or : orD (.int p) (.int q) = some (.int (Builtin.bitOr p q)) := rfl
theorem e_xor : xorD (.int p) (.int q) = some (.int (Builtin.bitXor p q)) := rfl
theorem e_shl (h : 0 ≤ q ∧ q ≤ 1000000) (h' : p.natAbs < 18446744073709551616) : shlD (.int p) (.int q) = some (.int (p * 2 ^ q.toNat)) := by
  unfold shlD ii
  simp [h.1, h.2, h']
theorem e_mul (h : (-18446744073709551616 < p ∧ p < 18446744073709551616) ∨ (-18446744073709551616 < q ∧ q < 18446744073709551616)) : mulD (.int p) (.int q) = some (.int (p * q)) := by
  unfold mulD ii
  simp only [decide_eq_true_eq]
  rw [if_pos h]
theorem e_mod (h : 0 < q) : modD (.int p) (.int q) = some (.int (p % q)) := by
  unfold modD ii
  simp [h]
theorem e_fdiv (h : 0 < q ∧ q < 1073741824) : fdivD (.int p) (.int q) = some (.int (p / q)) := by
  unfold fdivD ii
  simp [h.1, h.2]
theorem e_pow (h : 0 ≤ q ∧ q ≤ 1000000) (h' : p.natAbs < 18446744073709551616) : powD (.int p) (.int q) = some (.int (p ^ q.toNat)) := by
  unfold powD ii
  simp [h.1, h.2, h']
theorem e_toI : toI (.int p) = some p := rfl
theorem e_toB : toB (.bl k) = some k := rfl
end
end Ov
/-! Ov: loops and comprehensions of plain functions, told once. -/
namespace Ov
open PySem PySem.Spec PyProof.Rows L2
def contL (g : Eg) (b : Es) (ds : List D) (p : Fl × List Sl) : Option (Fl × List Sl) := match p.1 with
    | .nx => forL g b ds p.2
    | .ct => forL g b ds p.2
    | .bk => some (.nx, p.2)
    | .rt d => some (.rt d, p.2)
    | .ro d => some (.ro d, p.2)
theorem e_forB {g : Eg} {b : Es} {d : D} {ds : List D} {ρ : List Sl} : forL g b (d :: ds) ρ = ((g d ρ).bind b).bind (contL g b ds) := by
  rw [e_forC]
  cases g d ρ <;> rfl
/-- a loop over states: on, or out with an end -/
def runL {α β : Type} (step : α → β → Sum α (Fl × List Sl)) : α → List β → Sum α (Fl × List Sl)
  | a, [] => .inl a
  | a, x :: xs => match step a x with
    | .inl a' => runL step a' xs
    | .inr r => .inr r
def outS {α : Type} (env : α → List Sl) : Sum α (Fl × List Sl) → Option (Fl × List Sl)
  | .inl a => some (.nx, env a)
  | .inr r => some r
def isOut : Fl → Bool
  | .rt _ => true
  | .ro _ => true
  | _ => false
theorem forL_run {α β : Type} {g : Eg} {b : Es} {f : β → D} {env : α → List Sl} {step : α → β → Sum α (Fl × List Sl)} {inv : α → Prop} : ∀ {xs : List β} {a : α}, inv a →
    (∀ a x, x ∈ xs → inv a → (g (f x) (env a)).bind b = outS env (step a x) ∧ (∀ a', step a x = .inl a' → inv a') ∧ ∀ r, step a x = .inr r → isOut r.1 = true) →
    forL g b (xs.map f) (env a) = outS env (runL step a xs) ∧ ∀ a', runL step a xs = .inl a' → inv a'
  | [], a, h0, _ => ⟨rfl, fun a' e => by
    cases e
    exact h0⟩
  | x :: xs, a, h0, h => by
    obtain ⟨h1, h2, h3⟩ := h a x List.mem_cons_self h0
    rw [List.map_cons, e_forB, h1]
    unfold runL
    cases q : step a x with
    | inl a' => exact forL_run (h2 a' q) fun a y hy => h a y (List.mem_cons_of_mem _ hy)
    | inr r =>
      obtain ⟨fl, ρ⟩ := r
      have := h3 _ q
      refine ⟨?_, fun a' e => by cases e⟩
      cases fl with
      | rt d => rfl
      | ro d => rfl
      | _ => cases this
/-- a loop that goes through -/
theorem forL_fold {α β : Type} {g : Eg} {b : Es} {f : β → D} {env : α → List Sl} {step : α → β → α} : ∀ {xs : List β} {a : α}, (∀ a x, x ∈ xs → (g (f x) (env a)).bind b = some (.nx, env (step a x))) →
    forL g b (xs.map f) (env a) = some (.nx, env (xs.foldl step a))
  | [], a, _ => rfl
  | x :: xs, a, h => by
    have h1 := h a x List.mem_cons_self
    rw [List.map_cons, e_forB, h1]
    exact forL_fold fun a y hy => h a y (List.mem_cons_of_mem _ hy)
/-- .. with an invariant -/
theorem forL_foldI {α β : Type} {g : Eg} {b : Es} {f : β → D} {env : α → List Sl} {step : α → β → α} {inv : α → Prop} : ∀ {xs : List β} {a : α}, inv a → (∀ a x, x ∈ xs → inv a → (g (f x) (env a)).bind b = some (.nx, env (step a x)) ∧ inv (step a x)) →
    forL g b (xs.map f) (env a) = some (.nx, env (xs.foldl step a)) ∧ inv (xs.foldl step a)
  | [], a, h0, _ => ⟨rfl, h0⟩
  | x :: xs, a, h0, h => by
    obtain ⟨h1, h2⟩ := h a x List.mem_cons_self h0
    rw [List.map_cons, e_forB, h1]
    exact forL_foldI h2 fun a y hy => h a y (List.mem_cons_of_mem _ hy)
/-- a comprehension that leaves the frame as it was -/
theorem lcG_pure {β : Type} {vs : List Nat} {g : Eg} {st : Ek} {f : β → D} {o : β → List D} {ρ : List Sl} : ∀ {xs : List β}, (∀ x ∈ xs, ∃ ρ', (g (f x) ρ).bind st = some (o x, ρ') ∧ wipR ρ' vs = ρ) →
    lcG vs g st (xs.map f) ρ = some (xs.flatMap o, ρ)
  | [], _ => rfl
  | x :: xs, h => by
    obtain ⟨ρ', h1, h2⟩ := h x List.mem_cons_self
    rw [List.map_cons, e_lcC]
    have e : ((g (f x) ρ).bind fun ρ1 => (st ρ1).bind fun q => (lcG vs g st (xs.map f) (wipR q.2 vs)).bind fun r => some (q.1 ++ r.1, r.2)) = ((g (f x) ρ).bind st).bind fun q => (lcG vs g st (xs.map f) (wipR q.2 vs)).bind fun r => some (q.1 ++ r.1, r.2) := by
      cases g (f x) ρ <;> rfl
    rw [e, h1]
    show (lcG vs g st (xs.map f) (wipR ρ' vs)).bind _ = _
    rw [h2, lcG_pure fun y hy => h y (List.mem_cons_of_mem _ hy)]
    rfl
/-- a comprehension that changes an own thing -/
theorem lcG_run {α β : Type} {vs : List Nat} {g : Eg} {st : Ek} {f : β → D} {env : α → List Sl} {o : α → β → List D} {step : α → β → α} {run : α → List β → List D × α} (r0 : ∀ a, run a [] = ([], a)) (r1 : ∀ a x xs, run a (x :: xs) = (o a x ++ (run (step a x) xs).1, (run (step a x) xs).2)) :
    ∀ {xs : List β} {a : α}, (∀ a x, x ∈ xs → ∃ ρ', (g (f x) (env a)).bind st = some (o a x, ρ') ∧ wipR ρ' vs = env (step a x)) → lcG vs g st (xs.map f) (env a) = some ((run a xs).1, env (run a xs).2)
  | [], a, _ => by rw [r0]; rfl
  | x :: xs, a, h => by
    obtain ⟨ρ', h1, h2⟩ := h a x List.mem_cons_self
    rw [List.map_cons, e_lcC]
    have e : ((g (f x) (env a)).bind fun ρ1 => (st ρ1).bind fun q => (lcG vs g st (xs.map f) (wipR q.2 vs)).bind fun r => some (q.1 ++ r.1, r.2)) = ((g (f x) (env a)).bind st).bind fun q => (lcG vs g st (xs.map f) (wipR q.2 vs)).bind fun r => some (q.1 ++ r.1, r.2) := by
      cases g (f x) (env a) <;> rfl
    rw [e, h1]
    show (lcG vs g st (xs.map f) (wipR ρ' vs)).bind _ = _
    rw [h2, lcG_run r0 r1 fun a y hy => h a y (List.mem_cons_of_mem _ hy), r1]
    rfl
end Ov
/-! Ov: loops that look for something; plain mirrors of dicts. -/
namespace Ov
open PySem PySem.Spec PyProof.Rows L2
/-- on, or out with a value -/
def flO : Option D → Fl
  | none => .nx
  | some d => .rt d
theorem forL_find {α β : Type} {g : Eg} {b : Es} {f : β → D} {env : α → List Sl} {t : β → Option D} : ∀ {xs : List β} {a : α}, (∀ a x, x ∈ xs → ∃ a', (g (f x) (env a)).bind b = some (flO (t x), env a')) →
    ∃ a', forL g b (xs.map f) (env a) = some (flO (xs.findSome? t), env a')
  | [], a, _ => ⟨a, rfl⟩
  | x :: xs, a, h => by
    obtain ⟨a1, h1⟩ := h a x List.mem_cons_self
    rw [List.map_cons, e_forB, h1, List.findSome?_cons]
    cases q : t x with
    | none => exact forL_find fun a y hy => h a y (List.mem_cons_of_mem _ hy)
    | some d => exact ⟨a1, rfl⟩
/-- a comprehension's own value -/
theorem e_lc1 {v : Nat} {it : Ei} {t : Et} {a : Ev} {ρ ρ1 : List Sl} {β : Type} {xs : List β} {f : β → D} {o : β → List D} (hi : it ρ = some (xs.map f, ρ1))
    (h : ∀ x ∈ xs, ∃ ρ', (gN v (f x) (wipR ρ1 [v])).bind (stE t a) = some (o x, ρ') ∧ wipR ρ' [v] = wipR ρ1 [v]) : cLc [v] it (gN v) t a ρ = some (.lst (xs.flatMap o), restR ρ1 (wipR ρ1 [v]) [v]) := by
  rw [e_cLc, hi, Option.bind_some, lcG_pure h]
  rfl
def lk (at_ : List (Int × Int)) (m : Int) : Option Int := (at_.find? fun kv => decide (kv.1 = m)).map (·.2)
def atD' (at_ : List (Int × Int)) : D := .dK (at_.map fun kv => (kv.1, .int kv.2))
theorem look_at (m : Int) : ∀ at_ : List (Int × Int), look (at_.map fun kv => (kv.1, D.int kv.2)) m = (lk at_ m).map D.int
  | [] => rfl
  | kv :: r => by
    have ih := look_at m r
    unfold look lk at ih ⊢
    rw [List.map_cons, List.find?_cons, List.find?_cons]
    by_cases h : kv.1 = m
    · simp [h]
    · simp only [decide_eq_false h]
      exact ih
def oI : Option Int → D
  | none => .non
  | some i => .int i
theorem get_at (at_ : List (Int × Int)) (m : Int) : getDD (atD' at_) (.int m) = some (oI (lk at_ m)) := by
  have e : getDD (atD' at_) (.int m) = some ((look (at_.map fun kv => (kv.1, D.int kv.2)) m).getD .non) := rfl
  rw [e, look_at]
  cases lk at_ m <;> rfl
theorem in_at (at_ : List (Int × Int)) (m : Int) : inD (.int m) (atD' at_) = some (.bl (lk at_ m).isSome) := by
  have e : inD0 (.int m) (atD' at_) = some ((look (at_.map fun kv => (kv.1, D.int kv.2)) m).isSome) := rfl
  unfold inD
  rw [e, look_at]
  cases lk at_ m <;> rfl
theorem ix_at {at_ : List (Int × Int)} {m x : Int} (h : lk at_ m = some x) : ixD (atD' at_) (.int m) = some (.int x) := by
  have e : ixD (atD' at_) (.int m) = look (at_.map fun kv => (kv.1, D.int kv.2)) m := rfl
  rw [e, look_at, h]
  rfl
end Ov
/-! Ov: loops and comprehensions by what holds between two turns; dicts that are filled. -/
namespace Ov
open PySem PySem.Spec PyProof.Rows L2
theorem forL_inv {β : Type} {g : Eg} {b : Es} {f : β → D} {I : List β → List Sl → Prop} {all : List β} : ∀ {xs pre : List β} {ρ : List Sl}, all = pre ++ xs →
    (∀ pre x post ρ, all = pre ++ x :: post → I pre ρ → ∃ ρ', (g (f x) ρ).bind b = some (.nx, ρ') ∧ I (pre ++ [x]) ρ') → I pre ρ →
    ∃ ρ', forL g b (xs.map f) ρ = some (.nx, ρ') ∧ I all ρ'
  | [], pre, ρ, e, _, h0 => ⟨ρ, rfl, by rw [e, List.append_nil]; exact h0⟩
  | x :: xs, pre, ρ, e, h, h0 => by
    obtain ⟨ρ1, h1, h2⟩ := h pre x xs ρ e h0
    rw [List.map_cons, e_forB, h1]
    exact forL_inv (pre := pre ++ [x]) (by rw [e, List.append_assoc]; rfl) h h2
theorem forL_inv0 {β : Type} {g : Eg} {b : Es} {f : β → D} {I : List β → List Sl → Prop} {all : List β} {ρ : List Sl}
    (h : ∀ pre x post ρ, all = pre ++ x :: post → I pre ρ → ∃ ρ', (g (f x) ρ).bind b = some (.nx, ρ') ∧ I (pre ++ [x]) ρ') (h0 : I [] ρ) :
    ∃ ρ', forL g b (all.map f) ρ = some (.nx, ρ') ∧ I all ρ' := forL_inv (pre := []) rfl h h0
theorem lcG_inv {β γ : Type} {vs : List Nat} {g : Eg} {st : Ek} {f : β → D} {h : γ → D} {P : γ → Prop} {I : List Sl → Prop} : ∀ {xs : List β} {ρ : List Sl},
    (∀ x ρ, x ∈ xs → I ρ → ∃ y ρ', (g (f x) ρ).bind st = some ([h y], ρ') ∧ P y ∧ I (wipR ρ' vs)) → I ρ → ∃ (ys : List γ) (ρ' : List Sl), lcG vs g st (xs.map f) ρ = some (ys.map h, ρ') ∧ ys.length = xs.length ∧ (∀ y ∈ ys, P y) ∧ I ρ'
  | [], ρ, _, h0 => ⟨[], ρ, rfl, rfl, fun _ z => (by cases z), h0⟩
  | x :: xs, ρ, hs, h0 => by
    obtain ⟨y, ρ1, h1, hp, h2⟩ := hs x ρ List.mem_cons_self h0
    obtain ⟨ys, ρ2, r1, r2, r3, r4⟩ := lcG_inv (xs := xs) (fun x ρ hx => hs x ρ (List.mem_cons_of_mem _ hx)) h2
    refine ⟨y :: ys, ρ2, ?_, by rw [List.length_cons, List.length_cons, r2], fun z hz => ?_, r4⟩
    · rw [List.map_cons, e_lcC]
      have e : ((g (f x) ρ).bind fun ρ1 => (st ρ1).bind fun q => (lcG vs g st (xs.map f) (wipR q.2 vs)).bind fun r => some (q.1 ++ r.1, r.2)) = ((g (f x) ρ).bind st).bind fun q => (lcG vs g st (xs.map f) (wipR q.2 vs)).bind fun r => some (q.1 ++ r.1, r.2) := by
        cases g (f x) ρ <;> rfl
      rw [e, h1]
      show (lcG vs g st (xs.map f) (wipR ρ1 vs)).bind _ = _
      rw [r1]
      rfl
    · rcases List.mem_cons.mp hz with q | q
      · rw [q]
        exact hp
      · exact r3 z q
/-- .. with a test: none or one -/
theorem lcG_invO {β γ : Type} {vs : List Nat} {g : Eg} {st : Ek} {f : β → D} {h : γ → D} {P : γ → Prop} {I : List Sl → Prop} : ∀ {xs : List β} {ρ : List Sl},
    (∀ x ρ, x ∈ xs → I ρ → ∃ (o : Option γ) (ρ' : List Sl), (g (f x) ρ).bind st = some ((o.map h).toList, ρ') ∧ (∀ y, o = some y → P y) ∧ I (wipR ρ' vs)) → I ρ → ∃ (ys : List γ) (ρ' : List Sl), lcG vs g st (xs.map f) ρ = some (ys.map h, ρ') ∧ ys.length ≤ xs.length ∧ (∀ y ∈ ys, P y) ∧ I ρ'
  | [], ρ, _, h0 => ⟨[], ρ, rfl, Nat.le_refl _, fun _ z => (by cases z), h0⟩
  | x :: xs, ρ, hs, h0 => by
    obtain ⟨o, ρ1, h1, hp, h2⟩ := hs x ρ List.mem_cons_self h0
    obtain ⟨ys, ρ2, r1, r2, r3, r4⟩ := lcG_invO (xs := xs) (fun x ρ hx => hs x ρ (List.mem_cons_of_mem _ hx)) h2
    refine ⟨o.toList ++ ys, ρ2, ?_, ?_, fun z hz => ?_, r4⟩
    · rw [List.map_cons, e_lcC]
      have e : ((g (f x) ρ).bind fun ρ1 => (st ρ1).bind fun q => (lcG vs g st (xs.map f) (wipR q.2 vs)).bind fun r => some (q.1 ++ r.1, r.2)) = ((g (f x) ρ).bind st).bind fun q => (lcG vs g st (xs.map f) (wipR q.2 vs)).bind fun r => some (q.1 ++ r.1, r.2) := by
        cases g (f x) ρ <;> rfl
      rw [e, h1]
      show (lcG vs g st (xs.map f) (wipR ρ1 vs)).bind _ = _
      rw [r1]
      cases o <;> rfl
    · rw [List.length_append, List.length_cons]
      cases o
      · simp
        omega
      · simp
        omega
    · rcases List.mem_append.mp hz with q | q
      · cases o with
        | none => cases q
        | some w =>
          rw [List.mem_singleton.mp q]
          exact hp w rfl
      · exact r3 z q
/-! a dict that is filled -/
theorem keys_any {κ : Type} [DecidableEq κ] (g : κ → D) (k : κ) : ∀ ls : List κ, ((ls.map fun l => (l, g l)).any fun kv => decide (kv.1 = k)) = decide (k ∈ ls)
  | [] => rfl
  | l :: ls => by
    rw [List.map_cons, List.any_cons, keys_any g k ls]
    by_cases h : l = k
    · simp [h]
    · have h' : ¬ k = l := fun z => h z.symm
      simp [h, h']
theorem putD_new {κ : Type} [DecidableEq κ] (g : κ → D) (k : κ) (d : D) (ls : List κ) (h : k ∉ ls) : putD (ls.map fun l => (l, g l)) k d = (ls.map fun l => (l, g l)) ++ [(k, d)] := by
  unfold putD
  rw [keys_any, if_neg (by simp [h])]
theorem putD_old {κ : Type} [DecidableEq κ] (g : κ → D) (k : κ) (d : D) (ls : List κ) (h : k ∈ ls) : putD (ls.map fun l => (l, g l)) k d = ls.map fun l => (l, if l = k then d else g l) := by
  unfold putD
  rw [keys_any, if_pos (by simp [h]), List.map_map]
  apply List.map_congr_left
  intro l _
  show (if l = k then (l, d) else (l, g l)) = _
  split <;> rfl
/-- a filled dict, a key more -/
theorem map_ext_new {κ : Type} [DecidableEq κ] (g : κ → D) (k : κ) (d : D) (ls : List κ) (h : k ∉ ls) : (ls.map fun l => (l, g l)) ++ [(k, d)] = (ls ++ [k]).map fun l => (l, if l = k then d else g l) := by
  rw [List.map_append]
  congr 1
  · apply List.map_congr_left
    intro l hl
    rw [if_neg (fun z => h (by rw [← z]; exact hl))]
  · simp
theorem intD_int (i : Int) : intD (.int i) = some (.int i) := rfl
theorem minD_int (i j : Int) : minD (.int i) (.int j) = some (.int (if j < i then j else i)) := rfl
end Ov
/-! Ov: an own exception over an own class over Exception; its __init__ says super().__init__(f'..{f}') and self.f = f. -/
namespace PySem
namespace XcX
open PySem.W PySem.Calls PyProof.Rows PySem.HandSPX
def xA (fld : Str) (p1 p2 : Pos) : Arguments := { posonlyargs := [], args := [{ arg := "self", annotation := none, pos := p1 }, { arg := fld, annotation := none, pos := p2 }], vararg := none, kwonlyargs := [], kw_defaults := [], kwarg := none, defaults := [] }
def xB (pre fld : Str) (a1 a2 a3 a4 a5 a6 a7 a8 a9 b1 b2 b3 b4 : Pos) : List Stmt :=
  [.Expr (.Call (.Attribute (.Call (.Name "super" a1) [] [] a2) "__init__" a3) [.JoinedStr [.Constant (.str pre) 0 a4, .FormattedValue (.Name fld a5) (-1) none a6] a7] [] a8) a9, .Assign [.Attribute (.Name "self" b1) fld b2] (.Name fld b3) b4]
def xS (fld : Str) : Scope := { kind := .function, names := [(PySem.Str.ofString "self", .local), (fld, .local), (PySem.Str.ofString "__class__", .free), (PySem.Str.ofString "super", .globalImplicit)], isGenerator := false, isCoroutine := false, more := [] }
structure FldOk (fld : Str) : Prop where
  s1 : (("self" : Str) == fld) = false
  s2 : (fld == ("self" : Str)) = false
  c1 : (("__class__" : Str) == fld) = false
  u1 : (("super" : Str) == fld) = false
  d1 : (fld == ("__debug__" : Str)) = false
  bd : ∀ (qual : Str) (p1 p2 : Pos) (body : List Stmt) (sc : Scope) (doc pm : Value) (an : Option Addr) (cdv ct : Value) (cc : Addr) (a v : Value), bindArgs (ksFn "__init__" qual (xA fld p1 p2) body sc .none .none doc pm an cdv ct cc) ⟨[a, v], []⟩ = pure [(("self" : Str), a), (fld, v)]
structure BadC (K : Frag) (P : Program) (C S fI : Addr) (fld pre : Str) : Prop where
  cls : ∃ nm q N bs sn sub ab col dd k0 k1 k2 k3 k5, K.lookup C = some (excClassObj nm q C N bs (.ref S :: ESX.exTail) true sn sub ab col dd k0 k1 k2 k3 k5 "Exception.__new__")
  sa : findIn K (.ref C) "__setattr__" = some (some (.builtin "object.__setattr__"))
  noN : findIn K (.ref C) fld = some none
  iC : findIn K (.ref C) "__init__" = some (some (.ref fI))
  tI : typeIn K (.ref fI) = some (.type "function")
  kC : keepIn K (.ref C) = true
  exC : subIn K (.ref C) (.type "BaseException") = some true
  exE : subIn K (.ref C) (.type "Exception") = some true
  tyC : typeIn K (.ref C) = some (.type "type")
  mroC : mroIn K C (.ref C) = some true
  sup : ks_superIn K C C "__init__" = some (some (.builtin "Exception.__init__"))
  opq : nsIn K cStatics "thirdparty.any" = some none
  fn : ∃ (oc : Value) (od : Option Addr) (qual : Str) (doc pm : Value) (an : Option Addr) (cda : Addr) (ct : Value) (cc : Addr) (osl : Array (Option Value)) (p1 p2 a1 a2 a3 a4 a5 a6 a7 a8 a9 b1 b2 b3 b4 : Pos),
    K.lookup fI = some ⟨oc, od, .func (ksFn "__init__" qual (xA fld p1 p2) (xB pre fld a1 a2 a3 a4 a5 a6 a7 a8 a9 b1 b2 b3 b4) (xS fld) .none .none doc pm an (.ref cda) ct cc), osl⟩ ∧ (a3.endLine == a8.line) = true ∧ codeIn K (.ref cda) qual = true ∧
    (∃ (ccl : Value) (cdd : Option Addr) (vs : Array Value) (ccs : Array (Option Value)) (file : Str) (tf : Tok), K.lookup cda = some ⟨ccl, cdd, .fields vs, ccs⟩ ∧ vs[2]? = some (.str file tf) ∧ ((P.main.file : Str) == file) = true) ∧
    ∃ (cl : Value) (cld : Option Addr) (csl : Array (Option Value)), K.lookup cc = some ⟨cl, cld, .cell (some (.ref C)), csl⟩
/-- what __init__ leaves of a fresh exception at x -/
structure InitEnd (h h' : Heap) (fld : Str) (x C dx t1 : Addr) (v : Value) : Prop where
  keep : ∀ b o, b ≠ x → h.get? b = some o → h'.get? b = some o
  obj : h'.get? x = some { cls := .ref C, dict := some dx, data := .fields #[.ref t1, .none, .none, .none, .bool false, .none] }
  dbig : h.objs.size ≤ dx
  dne : dx ≠ x
  ns : h'.Ns1 dx (fun y => if y = fld then some v else none)
theorem mro_all {C S : Addr} (X : String) (hX : ESX.exTail.contains (.type X) = true) : (Value.ref C :: Value.ref S :: ESX.exTail).contains (.type X) = true := by
  rw [List.contains_cons, List.contains_cons, hX, Bool.or_true, Bool.or_true]
theorem bm_contains (S : Addr) (X : String) : (Value.ref S :: ESX.exTail).contains (.type X) = ([.type "Exception", .type "BaseException", .type "object"] : List Value).contains (.type X) := by
  rw [List.contains_cons]
  have : ((Value.type X) == (Value.ref S)) = false := by simp
  rw [this, Bool.false_or]
section
open Builtin Builtin.ObjectAttr
variable {prog : Program} {w : World} {A : Around} {E : Value → Shared → Prop} {R : Result → Shared → Prop} {hp : Heap} {g : Array GenState} {d : Drawn} {t : Nat} {os : OsState}
theorem over_of {K : W.Frag} {C S : Addr} {cd : ClassData} (hcd : W.clsIn K C = some cd) (hm : cd.mro = .ref C :: .ref S :: ESX.exTail) : excOver K C [.type "Exception", .type "BaseException", .type "object"] = true := by
  unfold excOver
  rw [hcd]
  show (match cd.mro with | .ref C' :: bm => C' == C && excTail _ bm | _ => false) = true
  rw [hm]
  show (C == C && excTail _ (Value.ref S :: ESX.exTail)) = true
  rw [beq_self_eq_true, Bool.true_and]
  rfl
/-- the first field of such an exception -/
theorem first_field {K : W.Frag} {fld : Str} {tk : Tok} {v : Value} {x C S : Addr} {fv : Array Value} {cd : ClassData} (X : K.In hp) (hx : hp.get? x = some { cls := .ref C, data := .fields fv }) (hcd : W.clsIn K C = some cd)
    (hm : cd.mro = .ref C :: .ref S :: ESX.exTail) (hh : cd.hasDict = true) (no : W.findIn K (.ref C) fld = some none)
    (hq : ∀ h' tk' dx, (∀ b o, b ≠ x → hp.get? b = some o → h'.get? b = some o) → hp.objs.size ≤ dx → dx ≠ x → h'.get? x = some { cls := .ref C, dict := some dx, data := .fields fv } → h'.Ns1 dx (fun y => if y = fld then some v else none) → R (.ok (.ret .none)) ⟨h', g, d, tk', os⟩) :
    codeAny (model prog w) A (.call (.builtin "object.__setattr__") ⟨[.ref x, .str fld tk, v], []⟩) R ⟨hp, g, d, t, os⟩ := by
  have ht : takerIn K C fld = some none := by
    unfold takerIn
    rw [no]
    rfl
  have away : hp.objs.size ≠ x := Nat.ne_of_gt (Heap.lt_size hx)
  have data : W.Looks (model prog w) hp (classData C) cd := W.looks_clsIn X hcd
  refine osa_openX (s := ⟨hp, g, d, t, os⟩) F.store_Exception X (⟨hx, rfl, rfl, trivial⟩ : W.InstAt hp x { cls := .ref C, data := .fields fv } C none) (over_of hcd hm) ht fun b => ?_
  show wpAny _ _ (storeInOwnDict (.ref x) (.ref C) (.str fld tk) fld v b) _ _ _
  have hd1 : cd.hasDict = true := hh
  unfold storeInOwnDict ownDictForStores
  repeat (first | with_reducible refine HandSPX.store_in_new ?_ ?_ | with_reducible refine wpAny_loadPart_at hx ?_ | with_reducible refine data.at ?_ | (rw [hd1]) | wp_step)
  · exact ⟨_, #[], _, (Heap.get?_update_ne _ _ _ _ away).trans (Heap.get?_push_at rfl rfl), rfl, fun e he => absurd he (by simp), fun _ => rfl⟩
  · intro h2 tk2 ns2 same
    have there := Heap.get?_push_of_some { cls := .type "dict", data := .dict #[] } hx
    exact hq h2 tk2 hp.objs.size (fun c o hc ho => (same.2 c (Nat.ne_of_lt (Heap.lt_size ho))).trans ((Heap.get?_update_ne _ _ _ _ hc).trans (Heap.get?_push_of_some _ ho))) (Nat.le_refl _) away
      ((same.2 x away.symm).trans (Heap.get?_update_self _ there rfl)) ns2
end
/-- what a field may be: a text or an int of known size -/
def FmtOk (v : Value) (pre : Str) : Prop := (∃ (y : Str) (t : Tok), v = .str y t ∧ y.length ≤ 1000000) ∨ ∃ (i : Int) (t : Tok), v = .int i t ∧ i.natAbs.log2 < 1920
section
variable {prog : Program} {w : World} {A : Around} {E : Value → Shared → Prop} {R : Result → Shared → Prop} {s : Shared} {K : Frag} {mg mb : Str → Option Value} {C S fI : Addr} {fld pre : Str}
theorem kept_but {K : Frag} {h h' : Heap} {x : Addr} (X : K.In h) (hx : K.lookup x = none) (k : ∀ b o, b ≠ x → h.get? b = some o → h'.get? b = some o) : K.In h' := fun a o e =>
  k a o (fun z => by rw [z, hx] at e; cases e) (X a o e)
theorem bad_init (T : BadC K prog C S fI fld pre) (FO : FldOk fld) (hpre : pre.length ≤ 1000000) {x t0 : Addr} {v : Value} (X : K.In s.heap) (hlim : s.heap.NoLimit) (hx : s.heap.get? x = some (excO C t0)) (hnx : K.lookup x = none) (hroom : A.depth < recursionLimit)
    (hG : s.heap.Ns mainGlobals mg) (hB : s.heap.Ns builtinsNs mb) (hsup : mg "super" = none) (hbs : mb "super" = some (.type "super")) (htop : (prog.main.scope.names.lookup ("super" : Str)).isSome = false) (hv : FmtOk v pre)
    (hq : ∀ h' tk dx t1, InitEnd s.heap h' fld x C dx t1 v → R (.ok (.ret .none)) { s with heap := h', toks := tk }) :
    codeAny (model prog w) A (.call (.ref fI) ⟨[.ref x, v], []⟩) R s := by
  obtain ⟨oc, od, qual, doc, pm, an, cda, ct, cc, osl, p1, p2, a1, a2, a3, a4, a5, a6, a7, a8, a9, b1, b2, b3, b4, ho, hpos, hcd, ⟨ccl, cdd, vs, ccs, file, tf, hcode, hvs, hfile⟩, cl, cld, csl, hcell⟩ := T.fn
  obtain ⟨nm, q, N, bs, sn, sub, ab, col, dd, k0, k1, k2, k3, k5, hC⟩ := T.cls
  have hcl : clsIn K C = some { name := nm, bases := bs, mro := .ref C :: .ref S :: ESX.exTail, ns := N, qualname := q, hasDict := true, slotNames := sn, subclasses := sub, abstract := ab, collection := col, hasDel := false } := by unfold clsIn; rw [hC] <;> rfl
  have l1 : (xS fld).names.lookup ("self" : Str) = some .local := by first | rfl | decide
  have l2 : (xS fld).names.lookup fld = some .local := by
    show List.lookup fld [(PySem.Str.ofString "self", NameKind.local), (fld, .local), (PySem.Str.ofString "__class__", .free), (PySem.Str.ofString "super", .globalImplicit)] = _
    have := FO.s2
    simp only [List.lookup, this, beq_self_eq_true]
  have l3 : (xS fld).names.lookup ("__class__" : Str) = some .free := by
    show List.lookup ("__class__" : Str) [(PySem.Str.ofString "self", NameKind.local), (fld, .local), (PySem.Str.ofString "__class__", .free), (PySem.Str.ofString "super", .globalImplicit)] = _
    have := FO.c1
    have e : (("__class__" : Str) == PySem.Str.ofString "self") = false := by decide +kernel
    simp only [List.lookup, this, e]
    rfl
  have l4 : (xS fld).names.lookup ("super" : Str) = some .globalImplicit := by
    show List.lookup ("super" : Str) [(PySem.Str.ofString "self", NameKind.local), (fld, .local), (PySem.Str.ofString "__class__", .free), (PySem.Str.ofString "super", .globalImplicit)] = _
    have := FO.u1
    have e : (("super" : Str) == PySem.Str.ofString "self") = false := by decide +kernel
    have e2 : (("super" : Str) == PySem.Str.ofString "__class__") = false := by decide +kernel
    simp only [List.lookup, this, e, e2]
    rfl
  have m1 : ([(("self" : Str), Value.ref x), (fld, v)] : List (Str × Value)).reverse.lookup ("self" : Str) = some (.ref x) := by
    show List.lookup ("self" : Str) [(fld, v), (("self" : Str), Value.ref x)] = _
    have := FO.s1
    simp only [List.lookup, this, beq_self_eq_true]
  have m2 : ([(("self" : Str), Value.ref x), (fld, v)] : List (Str × Value)).reverse.lookup fld = some v := by
    show List.lookup fld [(fld, v), (("self" : Str), Value.ref x)] = _
    simp only [List.lookup, beq_self_eq_true]
  refine ks_codeAny_call_defAt (fd := ksFn "__init__" qual (xA fld p1 p2) (xB pre fld a1 a2 a3 a4 a5 a6 a7 a8 a9 b1 b2 b3 b4) (xS fld) .none .none doc pm an (.ref cda) ct cc) (binds := [("self", .ref x), (fld, v)]) hroom (X _ _ ho) rfl hlim (codeRec_of X hcd) rfl ?bind ?cell ?loc (fun h₁ hns k₁ => ?_)
  case bind => exact BindsTo.of_eq (FO.bd _ _ _ _ _ _ _ _ _ _ _ _ _)
  case cell =>
    intro y hy
    simp only [xS, List.mem_cons, List.not_mem_nil, or_false] at hy
    rcases hy with rfl | rfl | rfl | rfl <;> intro z <;> cases z
  case loc =>
    intro y hy
    simp only [List.mem_cons, List.not_mem_nil, or_false] at hy
    rcases hy with rfl | rfl
    · exact l1
    · exact l2
  have X₁ : K.In h₁ := X.keeps k₁
  have hx₁ := k₁ _ _ hx
  -- super().__init__(f'..{fld}')
  refine ks_wpAt_execs_cons (ks_wpAt_Expr_any ?_)
  refine ks_wpAt_MethodCall (pl := (do return (← importBound (.Call (.Name "super" a1) [] [] a2) (callEnv (ksFn "__init__" qual (xA fld p1 p2) (xB pre fld a1 a2 a3 a4 a5 a6 a7 a8 a9 b1 b2 b3 b4) (xS fld) .none .none doc pm an (.ref cda) ct cc) s.heap.objs.size fI)).getD true : Sem Bool)) ?_ (he := ?he)
  case he =>
    rw [arm_eval_Call]
    unfold methodCall methodCallPos calleeOf
    have hf : ∀ env, methodCallForm (([.JoinedStr [.Constant (.str pre) 0 a4, .FormattedValue (.Name fld a5) (-1) none a6] a7] : List Expr).length + ([] : List Keyword).length) (backTo a8 (starEach [.JoinedStr [.Constant (.str pre) 0 a4, .FormattedValue (.Name fld a5) (-1) none a6] a7] env)) (backToKw a8 (keywordEach [] env)) = true := fun env => rfl
    simp only [hf, hpos, Bool.not_true, Bool.false_or, if_true, pure_bind]
    rfl
  refine ks_wpAt_super_base (attr := "__init__") (f := fI) (cc := cda) (vs := vs) (file := file) (tf := tf) (ar := { arg := "self", annotation := none, pos := p1 }) l4 l3 (by decide) rfl (X₁ _ _ ho) rfl rfl rfl (X₁ _ _ hcode) rfl hvs hfile htop ?_
  refine ks_loadName_global rfl l4 (loadGlobal_builtin (hG.keeps k₁) hsup (hB.keeps k₁) hbs ⟨rfl, ?_⟩)
  refine wpAny_loadName_free rfl l3 rfl ⟨_, X₁ _ _ hcell, rfl⟩ ?_
  refine wpAny_loadName_local rfl l1 hns m1 ?_
  refine ks_wpAny_isType_cls (X₁ _ _ hC) rfl ⟨rfl, ?_⟩
  refine ks_wpAny_call_super (X₁ _ _ hC) rfl hx₁ rfl (fun c e => by cases e) (looks_mroIn X₁ T.mroC) (fun h₂ hso k₂ => ?_)
  have X₂ : K.In h₂ := X₁.keeps k₂
  have hx₂ := k₂ _ _ hx₁
  have I₂ : InstAt h₂ x (excO C t0) C none := ⟨hx₂, rfl, rfl, trivial⟩
  have hxC : x ≠ C := fun z => by rw [z, hC] at hnx; cases hnx
  have hal : alongIn K "__init__" (((Value.ref C :: .ref S :: ESX.exTail).dropWhile (· != .ref C)).drop 1) = some (some (.builtin "Exception.__init__")) := by
    have q := T.sup
    unfold ks_superIn at q
    rw [hcl] at q
    exact q
  refine ESX.getMethod_super hso (looks_opaque X₂ T.opq) (l₀ := .ref C :: .ref S :: ESX.exTail) ((looks_clsIn X₂ hcl).andThen .now) rfl X₂ hal hxC (by decide) (I₂.type.andThen (looks_subIn X₂ T.exE)) ?_
  have X₃ : K.In (h₂.push (ESX.bw x)) := X₂.keeps fun b o e => Heap.get?_push_of_some _ e
  have hx₃ : (h₂.push (ESX.bw x)).get? x = some (excO C t0) := Heap.get?_push_of_some _ hx₂
  have hu : (h₂.push (ESX.bw x)).get? h₂.objs.size = some (ESX.bw x) := Heap.get?_push_at rfl rfl
  have hns₃ : (h₂.push (ESX.bw x)).Ns s.heap.objs.size (fun y => ([(("self" : Str), Value.ref x), (fld, v)] : List (Str × Value)).reverse.lookup y) := hns.keeps fun b o e => Heap.get?_push_of_some _ (k₂ b o e)
  refine ESX.callWith_bound (x := x) (first := []) ?_
  refine spliced_more (wpAny_JoinedStr ?_)
  show Joins _ _ _ [eval (.Constant (.str pre) 0 a4) _, eval (.FormattedValue (.Name fld a5) (-1) none a6) _] _ _ _
  have hxL : s.heap.objs.size ≠ x := Nat.ne_of_gt (Heap.lt_size hx)
  -- what follows the call's argument
  have fin : ∀ (out : Str) (tk : Tok) (n : Nat), wpAny (model prog w) (A.deeper (callEnv (ksFn "__init__" qual (xA fld p1 p2) (xB pre fld a1 a2 a3 a4 a5 a6 a7 a8 a9 b1 b2 b3 b4) (xS fld) .none .none doc pm an (.ref cda) ct cc) s.heap.objs.size fI))
      (call (.ref h₂.objs.size) [.str out tk]) (fun _ s' => wpAt (model prog w) (A.deeper (callEnv (ksFn "__init__" qual (xA fld p1 p2) (xB pre fld a1 a2 a3 a4 a5 a6 a7 a8 a9 b1 b2 b3 b4) (xS fld) .none .none doc pm an (.ref cda) ct cc) s.heap.objs.size fI))
        (.func (xB pre fld a1 a2 a3 a4 a5 a6 a7 a8 a9 b1 b2 b3 b4) (callEnv (ksFn "__init__" qual (xA fld p1 p2) (xB pre fld a1 a2 a3 a4 a5 a6 a7 a8 a9 b1 b2 b3 b4) (xS fld) .none .none doc pm an (.ref cda) ct cc) s.heap.objs.size fI))
        (execs [.Assign [.Attribute (.Name "self" b1) fld b2] (.Name fld b3) b4] (callEnv (ksFn "__init__" qual (xA fld p1 p2) (xB pre fld a1 a2 a3 a4 a5 a6 a7 a8 a9 b1 b2 b3 b4) (xS fld) .none .none doc pm an (.ref cda) ct cc) s.heap.objs.size fI))
        (fun f s' => R (.ok (.ret (match f with | .ret v => v | _ => .none))) s')
        (fun e s' => wpAny (model prog w) (A.deeper (callEnv (ksFn "__init__" qual (xA fld p1 p2) (xB pre fld a1 a2 a3 a4 a5 a6 a7 a8 a9 b1 b2 b3 b4) (xS fld) .none .none doc pm an (.ref cda) ct cc) s.heap.objs.size fI))
          (leaving (callEnv (ksFn "__init__" qual (xA fld p1 p2) (xB pre fld a1 a2 a3 a4 a5 a6 a7 a8 a9 b1 b2 b3 b4) (xS fld) .none .none doc pm an (.ref cda) ct cc) s.heap.objs.size fI) e) (fun _ s'' => R (.error e) s'') (fun e' s'' => R (.error e') s'') s') s')
      (fun e s' => wpAny (model prog w) (A.deeper (callEnv (ksFn "__init__" qual (xA fld p1 p2) (xB pre fld a1 a2 a3 a4 a5 a6 a7 a8 a9 b1 b2 b3 b4) (xS fld) .none .none doc pm an (.ref cda) ct cc) s.heap.objs.size fI))
          (leaving (callEnv (ksFn "__init__" qual (xA fld p1 p2) (xB pre fld a1 a2 a3 a4 a5 a6 a7 a8 a9 b1 b2 b3 b4) (xS fld) .none .none doc pm an (.ref cda) ct cc) s.heap.objs.size fI) e) (fun _ s'' => R (.error e) s'') (fun e' s'' => R (.error e') s'') s')
      ⟨h₂.push (ESX.bw x), s.gens, s.drawn, n, s.os⟩ := fun out tk n => by
    refine ESX.call_bw (X₃ _ _ hC) hx₃ hu (by rw [sizeLine_eq]; exact (by decide : 1 ≤ 16777216)) (fun h₄ t1 k₄ hx₄ => ?_)
    have X₄ : K.In h₄ := kept_but X₃ hnx k₄
    have hns₄ : h₄.Ns s.heap.objs.size (fun y => ([(("self" : Str), Value.ref x), (fld, v)] : List (Str × Value)).reverse.lookup y) := by
      obtain ⟨oL, es, ep, hL, r⟩ := hns₃
      exact ⟨oL, es, ep, k₄ _ _ hxL hL, r⟩
    refine wpAt_of_wpAny (wpAny_execs_cons (plainObj_wpAny_Assign_Attribute ?_ ?hs))
    case hs => first | rfl | with_unfolding_all rfl | kernel_rfl
    refine ESX.ldL hns₄ m2 (ESX.ldL hns₄ m1 ?_ rfl l1) rfl l2 FO.d1
    refine set_plain X₄ (ox := excO C t1) (od := none) ⟨hx₄, rfl, rfl, trivial⟩ T.sa ?_
    refine first_field X₄ hx₄ hcl rfl rfl T.noN (fun h₅ tk₅ dx k₅ dn dne hx₅ hn₅ => ?_)
    show wpAny _ _ (execs _ _) _ _ _
    have old : ∀ b o, b ≠ x → s.heap.get? b = some o → h₅.get? b = some o := fun b o hb e => k₅ b o hb (k₄ b o hb (Heap.get?_push_of_some _ (k₂ b o (k₁ b o e))))
    have hsz : s.heap.objs.size ≤ dx := by
      obtain ⟨oL, es, ep, hL, r⟩ := hns₄
      exact Nat.le_of_lt (Nat.lt_of_lt_of_le (Heap.lt_size hL) dn)
    exact wpAny_execs_nil (hq h₅ tk₅ dx t1 ⟨old, hx₅, hsz, dne, hn₅⟩)
  have line : sizeLine = 16777216 := sizeLine_eq
  have l0 : (Str.empty ++ pre).length = pre.length := by
    rw [Str.length_append]
    show 0 + pre.length = _
    omega
  refine Calls.Constant_str ⟨pre, _, rfl, by rw [l0]; omega, ?_⟩
  show Joins _ _ _ [eval (.FormattedValue (.Name fld a5) (-1) none a6) _] _ _ _
  refine wpAny_FormattedValue_plain (ESX.ldL hns₃ m2 ?_ rfl l2 FO.d1)
  rcases hv with ⟨y, t, rfl, hy⟩ | ⟨n, t, rfl, hn⟩
  · have l2 : (Str.empty ++ pre ++ y).length ≤ sizeLine := by
      rw [Str.length_append, l0]
      omega
    refine wpAny_formatField_str ⟨y, _, rfl, l2, l2, ?_⟩ ⟨y, _, rfl, l2, l2, ?_⟩ (by omega)
    · exact spliced_none ⟨hu, fin _ _ _⟩
    · exact spliced_none ⟨hu, fin _ _ _⟩
  · have l2 : (Str.empty ++ pre ++ (toString n : Str)).length ≤ sizeLine := by
      rw [Str.length_append, l0]
      have e := int_text_length_le (k := 1920) (by decide) hn
      have e2 : (Str.ofString (toString n)).length = (toString n).length := ofString_length _
      show pre.length + (Str.ofString (toString n)).length ≤ _
      rw [e2]
      omega
    exact wpAny_formatField_int hn ⟨_, _, rfl, l2, l2, spliced_none ⟨hu, fin _ _ _⟩⟩
end
end XcX
end PySem
/-! Ov: an own exception is made, raised, caught. -/
namespace PySem
namespace XcX
open PySem.W PySem.Calls PyProof.Rows PySem.HandSPX
/-- a made one -/
structure Made (h h' : Heap) (fld : Str) (e C d : Addr) (v : Value) : Prop where
  keep : ∀ b o, h.get? b = some o → h'.get? b = some o
  new : h.objs.size ≤ e
  obj : ∃ oe vs, h'.get? e = some oe ∧ oe.cls = .ref C ∧ oe.dict = some d ∧ oe.data = .fields vs ∧ vs[1]? = some .none
  dbig : h.objs.size ≤ d
  dne : d ≠ e
  ns : h'.Ns1 d (fun y => if y = fld then some v else none)
section
variable {prog : Program} {w : World} {A : Around} {R : Result → Shared → Prop} {s : Shared} {K : Frag} {mg mb : Str → Option Value} {C S fI : Addr} {fld pre : Str}
theorem bad_made (T : BadC K prog C S fI fld pre) (FO : FldOk fld) (hpre : pre.length ≤ 1000000) {v : Value} (X : K.In s.heap) (hlim : s.heap.NoLimit) (hroom : A.depth + 1 < recursionLimit)
    (hG : s.heap.Ns mainGlobals mg) (hB : s.heap.Ns builtinsNs mb) (hsup : mg "super" = none) (hbs : mb "super" = some (.type "super")) (htop : (prog.main.scope.names.lookup ("super" : Str)).isSome = false) (hv : FmtOk v pre)
    (hq : ∀ h' tk e d, Made s.heap h' fld e C d v → R (.ok (.ret (.ref e))) { s with heap := h', toks := tk }) : codeAny (model prog w) A (.call (.ref C) ⟨[v], []⟩) R s := by
  obtain ⟨nm, q, N, bs, sn, sub, ab, col, dd, k0, k1, k2, k3, k5, hC⟩ := T.cls
  obtain ⟨hp, g, dr, tk, os⟩ := s
  let h2 := (hp.push (kdv_tup [v])).push (excO C hp.objs.size)
  have k : ∀ b o, hp.get? b = some o → h2.get? b = some o := fun b o e => Heap.get?_push_of_some _ (Heap.get?_push_of_some _ e)
  have at2 : h2.get? (hp.objs.size + 1) = some (excO C hp.objs.size) := by
    show ((hp.push (kdv_tup [v])).push (excO C hp.objs.size)).get? (hp.objs.size + 1) = _
    heap_get
  have unwritten : K.lookup (hp.objs.size + 1) = none := by
    cases e : K.lookup (hp.objs.size + 1) with
    | none => rfl
    | some o =>
      have z : hp.get? (hp.objs.size + 1) = some o := X _ _ e
      exact absurd (Nat.lt_of_succ_lt (Heap.lt_size z)) (Nat.lt_irrefl _)
  refine call_own F.excBase_Exception (bm_contains S) (X _ _ hC) (looks_findIn X T.iC) (fun self => bind_fn X self T.tI) (by rw [sizeLine_eq]; exact (by decide : 1 ≤ 16777216)) ?_
  refine bad_init (s := ⟨h2, g, dr, tk, os⟩) T FO hpre (X.keeps k) (hlim.keeps k) at2 unwritten hroom (hG.keeps k) (hB.keeps k) hsup hbs htop hv fun h' tk' dx t1 m => ?_
  have old : ∀ b o, hp.get? b = some o → h'.get? b = some o := fun b o e => m.keep b o (Nat.ne_of_lt (Nat.lt_succ_of_lt (Heap.lt_size e))) (k b o e)
  have big : hp.objs.size ≤ dx := by
    have z := m.dbig
    have z2 : ((hp.push (kdv_tup [v])).push (excO C hp.objs.size)).objs.size ≤ dx := z
    rw [Heap.size_push, Heap.size_push] at z2
    omega
  exact ⟨rfl, hq h' tk' (hp.objs.size + 1) dx ⟨old, Nat.le_succ _, ⟨_, _, m.obj, rfl, rfl, rfl, rfl⟩, big, m.dne, m.ns⟩⟩
end
end XcX
end PySem
namespace L2
open PySem PySem.Spec PyProof.Rows
theorem relO_one {fld : Str} {v : V} {v' : Value} (r : RelV v v') (f : Str) : RelO (List.lookup f [(fld, v)]) (if f = fld then some v' else none) := by
  by_cases hw : f = fld
  · subst hw
    rw [if_pos rfl, show List.lookup f [(f, v)] = some v by simp [List.lookup]]
    exact r
  · rw [if_neg hw, show List.lookup f [(fld, v)] = none by
      have q : (f == fld) = false := by simpa using hw
      simp [List.lookup, q]]
    trivial
/-- what the written part and the program say of the class named x -/
structure BadX (X : Cx) (x fld : Str) (C : Addr) : Prop where
  ex : ∃ S fI pre, PySem.XcX.BadC X.K X.prog C S fI fld pre ∧ pre.length ≤ 1000000
  fo : PySem.XcX.FldOk fld
  gC : X.mg x = some (.ref C)
  sup : X.mg "super" = none
  top : (X.prog.main.scope.names.lookup ("super" : Str)).isSome = false
def fmtV : V → Prop
  | .str y => y.length ≤ 1000000
  | .int i => i.natAbs.log2 < 1920
  | _ => False
section
variable {X : Cx} {C : Addr} {x fld : Str}
/-- x(e) -/
def tMkBad (fld : Str) (C : Addr) (ta : TA) : L2.St → Hp → XK → Prop := fun σ H Q => ta σ H fun vs H1 => ∃ v, vs = [v] ∧ fmtV v ∧ ∀ d, H1 d = none → Q (.ref C) (some d) (upd H1 d (.xd [(fld, v)]))
theorem pmk_bad {a : Expr} {ta : TA} {p pos : Pos} {k : Nat} (T : BadX X x fld C) (hr : Room k X.A) (hd : X.A.depth + 2 < PySem.recursionLimit) (ha : PA X [a] ta) (hg : Gl X x) (hdb : (x == ("__debug__" : Str)) = false := by decide)
    (he : starEach (a :: []) X.env = (false, eval a X.env) :: starEach [] X.env := by rfl) (hpl : (backTo pos (starEach [] X.env)).any (·.1) = false := by rfl) :
    PMk X (.Call (.Name x p) [a] [] pos) (tMkBad fld C ta) := by
  obtain ⟨S, fI, pre, B, hpre⟩ := T.ex
  intro pins s σ H Q I h
  refine wpAny_Call_Name_kw (ld_glob I hg T.gC ?_ hdb)
  refine PySem.W.callWith_K (h₀ := X.base) I.ok.mod.kin B.kC (thn (ha.run pos pins s σ H _ I h) fun us s1 hh => ?_) he hpl
  obtain ⟨vs, H1, I1, r1, v, ev, fv, q1⟩ := hh
  subst ev
  refine ⟨I1.kIn, ?_⟩
  cases r1 with
  | cons rv rn =>
    rename_i v' us'
    cases rn
    show wpAny _ _ (call (.ref C) [v']) _ _ _
    have fm : PySem.XcX.FmtOk v' pre := by
      cases v with
      | str y =>
        obtain ⟨t, rfl⟩ := rv
        exact .inl ⟨y, t, rfl, fv⟩
      | int i =>
        obtain ⟨t, rfl⟩ := rv
        exact .inr ⟨i, t, rfl, fv⟩
      | _ => exact fv.elim
    have lim := I1.nolimit
    have glob := I1.mod.glob.keeps I1.bk
    obtain ⟨mb, b1, b2⟩ := I1.mod.blt
    have blt := b1.keeps I1.bk
    have bsu : mb "super" = some (.type "super") := (b2 "super" (by decide)).trans (by first | rfl | decide +kernel | kernel_rfl)
    obtain ⟨hp, g, dr, tk, os⟩ := s1
    refine wpAny_call (PySem.XcX.bad_made B T.fo hpre I1.kIn lim (by show X.A.depth + 1 < _; omega) glob blt T.sup bsu T.top fm fun h' tk' e d M => ?_)
    show MkP X pins σ Q (.ref e) ⟨h', g, dr, tk', os⟩
    obtain ⟨oe, fv2, hoe, hc, hd2, hdat, h1⟩ := M.obj
    have hns := M.ns
    obtain ⟨G', g1, g2⟩ := restrict h' fun b => decide (b ≠ e)
    have gk : ∀ b, b ≠ e → G'.get? b = h'.get? b := fun b hb => g1 b (decide_eq_true hb)
    have ge : G'.get? e = none := g2 e (by simp)
    have old : ∀ b o, hp.get? b = some o → G'.get? b = some o := fun b o q => (gk b (Nat.ne_of_lt (Nat.lt_of_lt_of_le (Heap.lt_size q) M.new))).trans (M.keep b o q)
    have ob : ObjOk X.prog X.w (upd H1 d (.xd [(fld, v)])) G' d (.xd [(fld, v)]) := ⟨_, hns.at (fun o q => (gk d M.dne).trans q), fun f => relO_one rv f⟩
    have J : Inv X pins σ (upd H1 d (.xd [(fld, v)])) ⟨G', g, dr, tk', os⟩ := I1.laid (t' := tk') old M.dbig ob
    refine ⟨e, oe, fv2, ⟨G', g, dr, tk', os⟩, _, .ref C, some d, rfl, J, fun b o q => ?_, ge, hoe, ⟨hc, hd2⟩, hdat, h1, ?_, rfl, I1.bare, raises_own B.exC B.tyC, q1 d (I1.hok.fresh M.dbig)⟩
    · by_cases hb : b = e
      · have q' : G'.get? b = some o := q
        rw [hb, ge] at q'
        cases q'
      · exact (gk b hb).symm.trans q
    · rw [upd_ne (Ne.symm M.dne)]
      exact I1.hok.fresh M.new
end
end L2
/-! Ov: try: .. except x as n: suite (further clauses behind it are not reached). -/
namespace L2
open PySem PySem.Spec PyProof.Rows
def wFirst (K : PySem.W.Frag) (c : Value) (i : Nat) (ts : Addr → Value → Option Addr → TS) (D : Ends) : WX := fun cls d σ H => PySem.W.exmOne K cls c = some true ∧
  ∀ a, H a = none → ts a cls d { nx := fun σ' H' => D.nx (σ'.set i none) H', rt := D.rt, bk := fun σ' H' => D.bk (σ'.set i none) H', ct := fun σ' H' => D.ct (σ'.set i none) H' } (σ.set i (some (.ref a))) H
section
variable {X : Cx} {x n : Str} {c : Value} {i : Nat} {body suite : List Stmt} {b₀ : Stmt} {np pos pos' : Pos} {hds : List ExceptHandler} {tb : WX → TS} {ts : Addr → Value → Option Addr → TS}
theorem ps_try_first (hs : X.stack = X.env :: X.outer) (hf : X.env.frame = some X.env.locals) (hN : X.N.Nodup) (hi : X.N[i]? = some n) (hln : X.env.kindOf n = some .local) (hc : Names X x c)
    (hb : ∀ (W : WX) (pn : List (Addr × Obj)) (xe : Value → Shared → Prop), Takes (X.tr pn xe) W → PassesOwn (model X.prog X.w) X.A X.env xe → PSs (X.tr pn xe) body (tb W))
    (hsu : ∀ (a : Addr) (oe : Obj) (cls : Value) (d : Option Addr) (pn : List (Addr × Obj)), Zc cls d oe → (∃ vs, oe.data = .fields vs) → PSs (X.suite a ((a, oe) :: pn)) (b₀ :: suite) (ts a cls d)) :
    PS X (.Try body (.ExceptHandler (some (.Name x np)) (some n) (b₀ :: suite) pos' :: hds) [] [] pos) (fun D σ H => tb (wFirst X.K c i ts D) D σ H) := by
  refine ⟨fun pins s σ H D I h => ?_⟩
  have ok := I.ok
  have frs0 : X.A.frames = some (X.env :: X.outer) := by rw [ok.frames, hs]
  -- how a suite's end is told on
  have told : ∀ {a : Addr} {oe : Obj} {f : Flow} {s6 : Shared}, SP (X.suite a ((a, oe) :: (X.pn ++ pins))) [] { nx := fun σ' H' => D.nx (σ'.set i none) H', rt := D.rt, bk := fun σ' H' => D.bk (σ'.set i none) H', ct := fun σ' H' => D.ct (σ'.set i none) H' } f s6 →
      wpAny (model X.prog X.w) X.A (do bindName X.env n .none; unbindBehindTheSuite X.env n pos') (fun _ s7 => SP X pins D f s7) X.xe s6 := fun {a oe f s6} hsp => by
    cases f with
    | next => exact let ⟨_, _, S6, q6⟩ := hsp; gone_ok (S6.unsuite ok) hN hi hln fun _ J7 => ⟨_, _, J7, q6⟩
    | brk => exact let ⟨_, _, S6, q6⟩ := hsp; gone_ok (S6.unsuite ok) hN hi hln fun _ J7 => ⟨_, _, J7, q6⟩
    | cont => exact let ⟨_, _, S6, q6⟩ := hsp; gone_ok (S6.unsuite ok) hN hi hln fun _ J7 => ⟨_, _, J7, q6⟩
    | ret u => exact let ⟨_, _, _, S6, r6, q6⟩ := hsp; gone_ok (S6.unsuite ok) hN hi hln fun _ J7 => ⟨_, _, _, J7, r6, q6⟩
  -- the exception comes
  have caught : ∀ (xe : Value → Shared → Prop) u s', XE (X.tr (X.pn ++ pins) xe) (wFirst X.K c i ts D) u s' → wpAny (model X.prog X.w) X.A (noteFrame u X.env) (fun _ s₂ => wpAny (model X.prog X.w) X.A (setFlight u none) (fun _ s₃ =>
      wpAny (model X.prog X.w) X.A (handleBy u X.env (.ExceptHandler (some (.Name x np)) (some n) (b₀ :: suite) pos' :: hds)) (SP X pins D) X.xe s₃) X.xe s₂) X.xe s' := fun xe u s' xx => by
    obtain ⟨a, B, sI, pins', σ', H', cls, d, rfl, J', nb, up, sky, na, os, ag, yes, run⟩ := xx
    have J : Inv X pins σ' H' sI := J'.ofTry ok
    have sky2 : Sky B (X.env :: X.outer) a (Zc cls d) X.env.locals s'.heap := by rw [← hs]; exact sky
    refine Sky.land Zc.steady frs0 hf sky2 fun h3 fl3 up3 => ?_
    have J3 : Inv X pins σ' H' { s' with heap := h3 } := J.landed nb fl3.1 (up.trans up3) os ag
    obtain ⟨oe3, vs3, he3, hz3, hd3⟩ := fl3.there
    have apart : a ∉ frs (X.env :: X.outer) := fun hm => by
      obtain ⟨_, o', e', hnf⟩ := Heap.FunFrames.mem fl3.2.2.1 hm
      rw [he3] at e'
      cases e'
      exact hnf _ hd3
    have nL : a ≠ X.env.locals := fun z => apart (List.mem_filterMap.mpr ⟨X.env, List.mem_cons_self, by rw [hf, z]⟩)
    have nF : a ∉ X.fs := fun hm => let ⟨e, he, q⟩ := List.mem_filterMap.mp hm; apart (List.mem_filterMap.mpr ⟨e, List.mem_cons_of_mem _ he, q⟩)
    have S3 := J3.suite he3 hd3 na nL nF
    refine wpAny_handleBy_cons (codeAny_handlers_test ?_) (by intro q; cases q)
    have ty : PySem.W.Looks (model X.prog X.w) h3 (typeOf (.ref a)) cls := fun A Q E s k q => wpAny_typeOf_ref (k _ _ he3) (by rw [hz3.1]; exact q)
    have ex := PySem.W.exm_one (M := model X.prog X.w) J3.kIn ty yes
    have named : ∀ {Q : Value → Shared → Prop} {E : Value → Shared → Prop}, Q c { s' with heap := h3 } → wpAny (model X.prog X.w) (X.A.mark (some (.ref a))) (eval (.Name x np) X.env) Q E { s' with heap := h3 } := fun {Q E} q => by
      rcases hc with ⟨hg, hdbg, hm | ⟨hm, hv, hnn⟩⟩
      · exact ld_glob (X := X.suite a ((a, oe3) :: (X.pn ++ pins))) S3 hg hm q hdbg
      · exact ld_blt (X := X.suite a ((a, oe3) :: (X.pn ++ pins))) S3 hg hm hv q hnn hdbg
    refine named (ex.here (codeAny_handlers_suite_as (HandSPX.lands_againZ fl3 fun h4 fl4 up4 => ?_)))
    have J4 : Inv X pins σ' H' { s' with heap := h4 } := J.landed nb fl4.1 ((up.trans up3).trans up4) os ag
    obtain ⟨oe4, vs4, he4, hz4, hd4⟩ := fl4.there
    refine store_ok (X := X.suite a ((a, oe4) :: (X.pn ++ pins))) (v := .ref a) (J4.suite he4 hd4 na nL nF) hN hi (.inl hln) rfl (fun s5 S5 => ?_) (.inr hln)
    exact wpAny_mono ((hsu a oe4 cls d (X.pn ++ pins) hz4 ⟨_, hd4⟩).run [] s5 _ H' _ S5 (run a na)) (fun f s6 hsp => by
      have q := told hsp
      cases f <;> exact q) fun _ _ z => False.elim z
  refine wpAny_Try_except (wpAny_mono ((hb (wFirst X.K c i ts D) (X.pn ++ pins) _ (fun u s' xx => ?_) PassesOwn.looking).run [] s σ H D (I.toTry _) h) (fun f s1 hsp => ?_) fun e s1 he => he)
  · exact caught _ u s' xx
  · cases f with
    | next => exact let ⟨_, _, J', q⟩ := hsp; wpAny_execs_nil ⟨_, _, J'.ofTry ok, q⟩
    | brk => exact let ⟨_, _, J', q⟩ := hsp; ⟨_, _, J'.ofTry ok, q⟩
    | cont => exact let ⟨_, _, J', q⟩ := hsp; ⟨_, _, J'.ofTry ok, q⟩
    | ret u => exact let ⟨_, _, _, J', r, q⟩ := hsp; ⟨_, _, _, J'.ofTry ok, r, q⟩
end
/-- isinstance(e, c), e a caught exception with fields -/
theorem call_isF {X : Cx} {a C dd : Addr} {oe : Obj} {pn : List (Addr × Obj)} (T : ExcC X.K C) (hz : Zc (.ref C) (some dd) oe) (hf : ∃ vs, oe.data = .fields vs) {te : List V → Hp → VK → Prop}
    (ht : ∀ xs H Q, te xs H Q → rIsE X.K C a xs H Q ∧ ∃ fs, H dd = some (.xd fs)) : CallR (X.suite a ((a, oe) :: pn)) (.builtin "isinstance") te := by
  intro pins s σ H xs us Q I r h
  obtain ⟨⟨c, cv, b, rfl, hcv, e, q⟩, fs, hfs⟩ := ht _ _ _ h
  cases r with
  | cons rx rr =>
    cases rr with
    | cons rt rr =>
      cases rr
      cases rx
      obtain rfl := hcv _ rt
      obtain ⟨here, _⟩ := I.pin (a, oe) (List.mem_append.mpr (.inl List.mem_cons_self))
      have ox : ObjOk X.prog X.w H s.heap dd (.xd fs) := I.hok dd _ hfs
      obtain ⟨mA, hns, _⟩ := ox
      obtain ⟨od, ho, _⟩ := lookIn_ns hns
      obtain ⟨vs, hv⟩ := hf
      have J : PySem.W.InstAt s.heap a oe C (some od) := ⟨here, hz.1, by unfold PySem.W.notCls; rw [hv] <;> rfl, by rw [hz.2]; exact ho⟩
      obtain ⟨cd, hcd, _⟩ := PySem.W.any_some T.hd
      exact PySem.W.kia_one (PySem.W.kitx_exc (by rw [hcd]; rfl) T.hg T.hk T.hs T.ha T.hn T.ht T.hm) I.kIn J e (fun z => nomatch z) fun tk => ⟨.bl b, H, I.kept (t' := tk) fun _ _ z => z, rfl, q⟩
end L2
/-! Ov: defs that raise: which exception, from which arguments. -/
namespace Ov
open PySem PySem.Spec PyProof.Rows L2
/-- an exception: its class, its field, the field's value -/
structure Er where
  cls : Str
  fld : Str
  val : D
abbrev Erf := List Sl → Option (Er × List Sl)
def tR (W : OC) (sl : List Nat) (Wx : WX) (c : Erf) : TS := fun _ σ H => ∃ ρ F er ρ', EnvOk W ρ σ F H ∧ c ρ = some (er, ρ') ∧
  ∀ v dd σ' F' H', EnvOk W ρ' σ' F' H' → Ext (Own ρ σ) F H F' H' → (∀ a, Own ρ' σ' a → Own ρ σ a ∨ H a = none) → (∀ j : Nat, j ∉ sl → σ'[j]? = σ[j]?) → Rep W F' er.val v → H' dd = none → Wx (.ref (He.ga W.K er.cls)) (some dd) σ' (upd H' dd (.xd [(er.fld, v)]))
def fmtB : D → Bool
  | .str y => decide (y.length ≤ 1000000)
  | .int i => decide (i.natAbs.log2 < 1920)
  | _ => false
theorem fmtB_ok {W : OC} {F : Hp} {d : D} {v : V} (h : fmtB d = true) (r : Rep W F d v) : fmtV v := by
  cases d with
  | str y =>
    have e : v = .str y := by simpa only [Rep] using r
    subst e
    have q : y.length ≤ 1000000 := of_decide_eq_true h
    exact q
  | int i =>
    have e : v = .int i := by simpa only [Rep] using r
    subst e
    have q : i.natAbs.log2 < 1920 := of_decide_eq_true h
    exact q
  | _ => cases h
def eRaise (x fld : Str) (c : Ev) : Erf := fun ρ => (c ρ).bind fun p => if fmtB p.1 = true then some (⟨x, fld, p.1⟩, p.2) else none
def eIf (t : Et) (c : Erf) : Erf := fun ρ => (t ρ).bind fun p => if p.1 = true then c p.2 else none
def eSeq (s : Es) (c : Erf) : Erf := fun ρ => (s ρ).bind fun p => match p.1 with | .nx => c p.2 | _ => none
def eCall (n : Nat) (ef : List Sl → Option Er) (ag : Eag) : Erf := fun ρ => (ag ρ).bind fun p => if (decide (oIx p.1 = []) && decide (p.1.length = n)) = true then (argS p.2 p.1).bind fun as => (ef as).bind fun er => some (er, p.2) else none
def spR (W : OC) (n : Nat) (ef : List Sl → Option Er) : Sp := fun vs H Q E => vs.length = n ∧ ∃ F as er, EnvOk W as (vS vs) F H ∧ ef as = some er ∧
  ∀ v dd F' H', FS W F' H' → Ext (Own as (vS vs)) F H F' H' → Rep W F' er.val v → H' dd = none → E (.ref (He.ga W.K er.cls)) (some dd) (upd H' dd (.xd [(er.fld, v)]))
def FnR (P : Program) (w : World) (K : PySem.W.Frag) (mg : Str → Option Value) (base : Heap) (cf : List D → D → Prop) (k : Nat) (f : Addr) (fd : FuncData) (ps : List Str) (ef : List Sl → Option Er) : Prop :=
  FnOk P w K mg base (L2.CX P w) k f fd ps (spR ⟨K, cf⟩ ps.length ef)
def mkEf (m : Nat) (c : Erf) : List Sl → Option Er := fun as => (c (as ++ List.replicate m .no)).map (·.1)
abbrev wE (E : XK) : WX := fun cls d _ H => E cls d H
theorem fnR {P : Program} {w : World} {K : PySem.W.Frag} {mg : Str → Option Value} {base : Heap} {cf : List D → D → Prop} {x qual : Str} {params : Arguments} {body : List Stmt} {scope : Scope} {dvs : List V} {kws : List (Str × V)} {f : Addr} {fd : FuncData} {N ps : List Str} {k m : Nat} {sl : List Nat} {c : Erf}
    (F : FunD K x qual params body scope dvs kws f fd) (S : FnScope N ps scope) (hm : m = N.length - ps.length)
    (hb : ∀ (cdv : Value) (A : Around) (outer : List Env) (s : Shared) (H : Hp) (E : XK), Room k (A.deeper (envOfC qual scope s.heap.objs.size f cdv)) → PSs (cxOf (L2.CX P w) P w K mg base N qual scope f cdv A outer s H E) body (tR ⟨K, cf⟩ sl (wE E) c)) :
    FnR P w K mg base cf (k + 1) f fd ps (mkEf m c) := by
  have hpl : ps.length ≤ N.length := by have := congrArg List.length S.pre; rw [List.length_take] at this; omega
  refine F.ok S (fun vs H Q E q => q.1) fun cdv A outer s H vs Q E hr q => ?_
  obtain ⟨l, F0, as, er, E0, hc, kk⟩ := q
  obtain ⟨⟨er', ρ'⟩, h1, e2⟩ := Option.map_eq_some_iff.mp hc
  simp only at e2
  subst e2
  have hl : as.length = vs.length := by rw [E0.len]; simp
  rw [hm, ← l] at h1
  exact ⟨_, hb cdv A outer s H E hr, _, F0, er', ρ', E0.starts (by rw [l]; exact hpl), h1, fun v dd σ' F' H' E' x' o' _ r n => kk v dd F' H' E'.fs (x'.mono fun p z => z.starts hl) r n⟩
section
variable {X : Cx} {cf : List D → D → Prop} {Wx : WX} {x fld : Str} {a e : Expr} {es : List Expr} {ca : Ev} {ct : Et} {c : Erf} {cs : Es} {sl : List Nat} {p pos pos2 : Pos} {body orelse rest : List Stmt} {st : Stmt} {t2 : TS} {k j : Nat}
theorem s_raise (hc : X.calm = true) (T : BadX X x fld (He.ga X.K x)) (hr : Room k X.A) (tk : Takes X Wx) (ha : PX X cf a ca) (hg : Gl X x) (hdb : (x == ("__debug__" : Str)) = false := by decide)
    (he : starEach (a :: []) X.env = (false, eval a X.env) :: starEach [] X.env := by rfl) (hpl : (backTo pos (starEach [] X.env)).any (·.1) = false := by rfl) :
    PS X (.Raise (some (.Call (.Name x p) [a] [] pos)) none pos2) (tR ⟨X.K, cf⟩ [] Wx (eRaise x fld ca)) :=
  ps_imp (ps_raise hc tk (pmk_bad T hr (by have := hr.dp; omega) (pa_cons ha pa_nil he) hg hdb he hpl)) fun D σ H q => by
    obtain ⟨ρ, F, er, ρ', E, h, k⟩ := q
    obtain ⟨⟨d, ρ1⟩, h1, h⟩ := ob h
    split at h
    · rename_i hf
      cases h
      refine ⟨ρ, F, d, ρ1, E, h1, fun v F1 H1 E1 r1 x1 o1 => ⟨v, rfl, fmtB_ok hf r1, fun dd hd => ?_⟩⟩
      exact k v dd σ F1 H1 E1 x1 (fun a z => .inl (o1 a z)) kp0 r1 hd
    · cases h
theorem r_if (ht : PXT X cf e ct) (hb : PSs X body (tR ⟨X.K, cf⟩ sl Wx c)) (ho : PSs X orelse t2) : PS X (.If e body orelse pos) (tR ⟨X.K, cf⟩ sl Wx (eIf ct c)) :=
  ps_imp (ps_if ht hb ho) fun D σ H q => by
    obtain ⟨ρ, F, er, ρ', E, h, k⟩ := q
    obtain ⟨⟨b, ρ1⟩, h1, h⟩ := ob h
    refine ⟨ρ, F, b, ρ1, E, h1, fun F1 H1 E1 x1 o1 => ?_⟩
    cases b with
    | false => cases h
    | true =>
      rw [if_pos rfl]
      refine ⟨ρ1, F1, er, ρ', E1, h, fun v dd σ' F' H' E' x' o' kp r n => k v dd σ' F' H' E' (x1.trans x' fun p z => .inl (o1 p z)) (fun a z => ?_) kp r n⟩
      rcases o' a z with y | y
      · exact .inl (o1 a y)
      · exact (x1.back E y (E'.ownAt z).choose_spec.2 x'.f).symm
theorem r_one (h : PS X st (tR ⟨X.K, cf⟩ sl Wx c)) : PSs X [st] (tR ⟨X.K, cf⟩ sl Wx c) := pss_one h
theorem r_first (h : PS X st (tR ⟨X.K, cf⟩ sl Wx c)) (hr : PSs X rest t2) : PSs X (st :: rest) (tR ⟨X.K, cf⟩ sl Wx c) := pss_imp (pss_cons h hr) fun D σ H q => q
/-- the arguments hold no own thing -/
theorem args_fr : ∀ {as : List Ar} {ss : List Sl} {ρ : List Sl}, oIx as = [] → argS ρ as = some ss → ∀ (i : Nat) (d : D), ss[i]? ≠ some (.ow d)
  | [], ss, ρ, _, h, i, d => by
    cases h
    simp
  | .d d0 :: as, ss, ρ, h0, h, i, d => by
    obtain ⟨ss', h1, rfl⟩ := Option.map_eq_some_iff.mp (show (argS ρ as).map (Sl.fr d0 :: ·) = some ss from h)
    cases i with
    | zero => simp
    | succ i => exact args_fr (as := as) h0 h1 i d
  | .o i0 :: as, ss, ρ, h0, _, _, _ => by cases h0
theorem callR {W : OC} {n : Nat} {ef : List Sl → Option Er} {ag : Eag} {Wx : WX} {D : Ends} {σ : L2.St} {H : Hp} (q : tR W [] Wx (eCall n ef ag) D σ H) {Q : VK} : tCallS (spR W n ef) (WE Wx) (tAg W ag) σ H Q := by
  obtain ⟨ρ, F, er, ρ', E, h, k⟩ := q
  obtain ⟨⟨as, ρ1⟩, h1, h⟩ := ob h
  split at h
  · rename_i hd
    obtain ⟨ss, h2, h⟩ := ob h
    obtain ⟨er', h3, h⟩ := ob h
    cases h
    obtain ⟨g1, g2⟩ := Bool.and_eq_true_iff.mp hd
    have g1 : oIx as = [] := of_decide_eq_true g1
    have nd : (oIx as).Nodup := by rw [g1]; exact List.nodup_nil
    refine ⟨ρ, F, as, ρ1, E, h1, fun vs F1 H1 E1 a1 x1 o1 => ?_⟩
    have no : ∀ p, ¬ Own ss (vS vs) p := fun p z => by
      obtain ⟨i, d, y, _⟩ := z
      exact args_fr g1 h2 i d y
    refine ⟨by rw [← a1.length]; exact of_decide_eq_true g2, F1, ss, er, E1.args h2 a1 nd, h3, fun v dd F2 H2 fs2 x2 r2 n2 => ?_⟩
    have x2' : Ext NoA F1 H1 F2 H2 := x2.mono fun p z => (no p z).elim
    exact k v dd σ F2 H2 (E1.ext fs2 x2') (x1.trans x2' fun p z => z.elim) (fun a z => .inl (o1 a z)) kp0 r2 n2
  · cases h
theorem r_expr {f : Addr} {fd : FuncData} {ps : List Str} {ef : List Sl → Option Er} {ag : Eag} {pos3 : Pos} {n : Nat} (F : FnR X.prog X.w X.K X.mg X.base cf k f fd ps ef) (hr : Room k X.A) (tk : Takes X Wx) (hg : Gl X x) (hm : X.mg x = some (.ref f)) (hk : PySem.W.keepIn X.K (.ref f) = true) (hb : Binds X.K fd ps [])
    (ha : PXAg X cf (e :: es) ag) (hdb : (x == ("__debug__" : Str)) = false := by decide) (he : starEach (e :: es) X.env = (false, eval e X.env) :: starEach es X.env := by rfl) (hpl : (backTo pos (starEach es X.env)).any (·.1) = false := by rfl)
    (hs : swapsWith (.Call (.Name x p) (e :: es) [] pos) none pos3.line X.env = pure false := by rfl) (hn : ps.length = n := by rfl) : PS X (.Expr (.Call (.Name x p) (e :: es) [] pos) pos3) (tR ⟨X.K, cf⟩ [] Wx (eCall n ef ag)) := by
  subst hn
  exact
  ps_imp (ps_expr (pe_callS F hr hg hm hk hb (fun σ => passAt tk σ) ha hdb he hpl) hs) fun D σ H q => callR q
theorem r_set {f : Addr} {fd : FuncData} {ps : List Str} {ef : List Sl → Option Er} {ag : Eag} {n : Nat} {pos3 pos4 : Pos} {y : Str} {i : Nat} (F : FnR X.prog X.w X.K X.mg X.base cf k f fd ps ef) (hr : Room k X.A) (tk : Takes X Wx) (hg : Gl X x) (hm : X.mg x = some (.ref f)) (hk : PySem.W.keepIn X.K (.ref f) = true) (hb : Binds X.K fd ps [])
    (hN : X.N.Nodup) (hi : X.N[i]? = some y) (hx : Loc X.env.scope y) (ha : PXAg X cf (e :: es) ag) (hdb : (x == ("__debug__" : Str)) = false := by decide) (he : starEach (e :: es) X.env = (false, eval e X.env) :: starEach es X.env := by rfl) (hpl : (backTo pos (starEach es X.env)).any (·.1) = false := by rfl)
    (hs : swapsWith (.Call (.Name x p) (e :: es) [] pos) (some (.Name y pos4)) pos3.line X.env = pure false := by rfl) (hf : X.fn y = true ∨ X.env.scope.names.lookup y = some .local := by first | exact .inl rfl | exact .inr rfl | assumption) (hn : ps.length = n := by rfl) :
    PS X (.Assign [.Name y pos4] (.Call (.Name x p) (e :: es) [] pos) pos3) (tR ⟨X.K, cf⟩ [] Wx (eCall n ef ag)) := by
  subst hn
  exact
  ps_imp (ps_set hN hi hx (pe_callS F hr hg hm hk hb (fun σ => passAt tk σ) ha hdb he hpl) hs hf) fun D σ H q => callR q
end
end Ov
/-! Ov: try: r = f(..) except x as n: r = [n.fld, isinstance(n, y)] .. -/
namespace Ov
open PySem PySem.Spec PyProof.Rows L2
def cTryAt (x fld : Str) (i j : Nat) (er : Erf) : Es := fun ρ => (er ρ).bind fun p => if p.1.cls = x ∧ p.1.fld = fld ∧ i < p.2.length then some (.nx, (p.2.set j (.fr (.lst [p.1.val, .bl false]))).set i .no) else none
/-- what a class of errors must say for that -/
structure TryC (X : Cx) (x fld y : Str) : Prop where
  ex : PySem.W.exmOne X.K (.ref (He.ga X.K x)) (.ref (He.ga X.K x)) = some true
  xf : XfC X.K (He.ga X.K x)
  no : PySem.W.findIn X.K (.ref (He.ga X.K x)) fld = some none
  ec : ExcC X.K (He.ga X.K x)
  gx : X.mg x = some (.ref (He.ga X.K x))
  gy : X.mg y = some (.ref (He.ga X.K y))
  kn : PySem.W.kitOne X.K (.ref (He.ga X.K x)) (.ref (He.ga X.K y)) = some false
  mi : X.mg "isinstance" = none
theorem pss_false {X : Cx} {b : List Stmt} : PSs X b (fun _ _ _ => False) := ⟨fun _ _ _ _ _ _ h => h.elim⟩
/-- the suite's reading -/
def tAt (C CY : Addr) (fld : Str) (i j a dd : Nat) (K : PySem.W.Frag) (cls : Value) : TS :=
  tAsg (tLst (tCons (tXf a cls (some dd) C fld (tVar i)) (tCons (tCB (fun xs H Q => rIsE K C a xs H Q ∧ ∃ fs, H dd = some (.xd fs)) (tCons (tVar i) (tCons (tC (.ref CY)) tNil))) tNil))) (gName j)
section
variable {X : Cx} {cf : List D → D → Prop} {x y n r fld : Str} {i j : Nat} {st : Stmt} {sl : List Nat} {er : Erf} {np pos pos' q1 q2 q3 q4 q5 q6 q7 q8 q9 : Pos} {hds : List ExceptHandler}
theorem s_try_at (T : TryC X x fld y) (hs : X.stack = X.env :: X.outer) (hf : X.env.frame = some X.env.locals) (hN : X.N.Nodup) (hi : X.N[i]? = some n) (hln : X.env.kindOf n = some .local) (hvn : Vis X.env.scope n) (hj : X.N[j]? = some r) (hlr : Loc X.env.scope r) (hne : i ≠ j)
    (hgx : Gl X x) (hdx : (x == ("__debug__" : Str)) = false) (hgy : Gl X y) (hdy : (y == ("__debug__" : Str)) = false) (hgi : Gl X "isinstance") (hdn : (n == ("__debug__" : Str)) = false) (hcn : (n == ("__classdict__" : Str)) = false)
    (hb : ∀ (W : WX) (pn : List (Addr × Obj)) (xe : Value → Shared → Prop), Takes (X.tr pn xe) W → PS (X.tr pn xe) st (tR ⟨X.K, cf⟩ sl W er))
    (ha : attributeBase (.Name n q2) fld X.env (eval (.Name n q2) X.env) = eval (.Name n q2) X.env := by rfl)
    (hsw : swapsWith (.List [.Attribute (.Name n q2) fld q3, .Call (.Name "isinstance" q4) [.Name n q5, .Name y q6] [] q7] q8) (some (.Name r q1)) q9.line X.env = pure false := by rfl) 
    (hfr : X.fn r = true ∨ X.env.scope.names.lookup r = some .local := by first | exact .inl rfl | exact .inr rfl | assumption) :
    PXS X cf (.Try [st] (.ExceptHandler (some (.Name x np)) (some n) [.Assign [.Name r q1] (.List [.Attribute (.Name n q2) fld q3, .Call (.Name "isinstance" q4) [.Name n q5, .Name y q6] [] q7] q8) q9] pos' :: hds) [] [] pos) (sl ++ [j, i]) (cTryAt x fld i j er) := by
  let C := He.ga X.K x
  let CY := He.ga X.K y
  refine ps_imp (ps_try_first (x := x) (n := n) (c := .ref C) (i := i) (tb := fun W => tR ⟨X.K, cf⟩ sl W er)
    (ts := fun a cls d => match d with | some dd => (fun D σ H => cls = .ref C ∧ tAt C CY fld i j a dd X.K cls D σ H) | none => fun _ _ _ => False) hs hf hN hi hln ⟨hgx, hdx, .inl T.gx⟩ (fun W pn xe tk _ => pss_one (hb W pn xe tk)) (fun a oe cls d pn hz hv => ?_)) fun D σ H q => ?_
  · cases d with
    | none => exact pss_false
    | some dd =>
      by_cases hcls : cls = .ref C
      · subst hcls
        refine pss_one (ps_imp (ps_set (X := X.suite a ((a, oe) :: pn)) (i := j) hN hj hlr (pe_lst (pa_cons (pe_xf T.xf T.no hz hv (pe_var hi hvn hdn hcn) ha) (pa_cons (pe_callB (call_isF T.ec hz hv (fun _ _ _ h => h)) hgi T.mi (by first | rfl | decide +kernel | kernel_rfl)
          (pa_cons (pe_var hi hvn hdn hcn) (pa_cons (pe_glob (v := .ref CY) hgy T.gy rfl hdy) pa_nil)) (by decide)) pa_nil))) hsw hfr) fun D σ H q => q.2)
      · exact pss_imp pss_false fun _ _ _ h => hcls h.1
  · obtain ⟨ρ, F, fl, ρ', E, hc, k⟩ := q
    obtain ⟨⟨e0, ρ1⟩, h1, hc⟩ := ob hc
    split at hc
    · rename_i he0
      obtain ⟨g1, g2, g3⟩ := he0
      cases hc
      simp only at g1 g2 g3
      refine ⟨ρ, F, e0, ρ1, E, h1, fun v dd σ' F' H' E' x' o' kp r n0 => ⟨by rw [g1]; exact T.ex, fun a na => ?_⟩⟩
      have hiσ : i < σ'.length := by rw [← E'.len]; exact g3
      have ai : (σ'.set i (some (V.ref a)))[i]? = some (some (.ref a)) := by rw [List.getElem?_set_self hiσ]
      have xdd : (upd H' dd (.xd [(e0.fld, v)])) dd = some (.xd [(e0.fld, v)]) := upd_same
      refine ⟨by rw [g1], ?_⟩
      refine ⟨_, ai, rfl, by rw [g1], dd, _, v, rfl, xdd, by rw [g2]; simp [List.lookup], ?_⟩
      refine ⟨_, ai, ⟨_, .ref CY, false, rfl, fun u hu => hu, T.kn, ?_⟩, _, xdd⟩
      refine ⟨by rw [line_eq]; exact (by decide : 2 ≤ 16777216), fun p np => ?_⟩
      have fs1 : FS ⟨X.K, cf⟩ F' (upd H' dd (.xd [(e0.fld, v)])) := E'.fs.laid n0
      have fs2 : FS ⟨X.K, cf⟩ (upd F' p (.lst [v, .bl false])) (upd (upd H' dd (.xd [(e0.fld, v)])) p (.lst [v, .bl false])) := fs1.newLst np
      have x1 : Ext NoA F' H' F' (upd H' dd (.xd [(e0.fld, v)])) := Ext.laid E'.fs n0
      have x2 : Ext NoA F' (upd H' dd (.xd [(e0.fld, v)])) (upd F' p (.lst [v, .bl false])) (upd (upd H' dd (.xd [(e0.fld, v)])) p (.lst [v, .bl false])) := Ext.known fs1 np
      have E2 := (E'.ext fs1 x1).ext fs2 x2
      have rep : Rep ⟨X.K, cf⟩ (upd F' p (.lst [v, .bl false])) (.lst [e0.val, .bl false]) (.ref p) := by
        simp only [Rep, RepL]
        exact ⟨p, [v, .bl false], rfl, upd_same, by rw [line_eq]; exact (by decide : 2 ≤ 16777216), v, [.bl false], rfl, Rep.le x2.f r, _, _, rfl, rfl, rfl⟩
      have E3 := E2.setFr j rep
      refine k _ _ _ (E3.weak ?_ fun m s o h1 h2 => ?_) ((x'.trans x1 fun p z => z.elim).trans x2 fun p z => z.elim) (fun b z => o' b ?_) fun m hm => ?_
      · simp only [List.length_set]
        exact E'.len
      · by_cases hmi : m = i
        · subst hmi
          rcases set_get? h1 with ⟨_, e, _⟩ | ⟨ne, _⟩
          · exact .inl e
          · exact (ne rfl).elim
        · rw [List.getElem?_set_ne (Ne.symm hmi)] at h1 h2
          refine .inr ⟨h1, ?_⟩
          by_cases hmj : m = j
          · subst hmj
            rw [← h2]
            rw [List.set_comm _ _ hne, List.getElem?_set_ne (Ne.symm hmi)]
          · rw [List.getElem?_set_ne (Ne.symm hmj), List.getElem?_set_ne (Ne.symm hmi)] at h2
            rw [List.getElem?_set_ne (Ne.symm hmj)]
            exact h2
      · obtain ⟨m, d, h1, h2⟩ := z
        rcases set_get? h1 with ⟨_, e, _⟩ | ⟨nmi, h1⟩
        · cases e
        · rcases set_get? h1 with ⟨_, e, _⟩ | ⟨nmj, h1⟩
          · cases e
          · refine ⟨m, d, h1, ?_⟩
            rw [List.getElem?_set_ne (Ne.symm nmi), List.getElem?_set_ne (Ne.symm nmj), List.getElem?_set_ne (Ne.symm nmi)] at h2
            exact h2
      · have a1 : m ∉ sl := fun z => hm (List.mem_append_left _ z)
        have a2 : m ≠ j := fun z => hm (List.mem_append_right _ (by rw [z]; exact List.mem_cons_self))
        have a3 : m ≠ i := fun z => hm (List.mem_append_right _ (by rw [z]; exact List.mem_cons_of_mem _ List.mem_cons_self))
        rw [List.getElem?_set_ne (Ne.symm a3), List.getElem?_set_ne (Ne.symm a2), List.getElem?_set_ne (Ne.symm a3)]
        exact kp m a1
    · cases hc
end
end Ov
/-! The head's facts: a Hook of my own: defs by names, error classes, one more Bool. -/
namespace Zh
open PySem PySem.Spec PyProof.Rows L2 He
def valsOf (g : Addr → Option Obj) (a : Addr) : List Addr := match g a with
  | some ⟨_, _, .dict es _, _⟩ => es.toList.flatMap fun e => refV e.val
  | _ => []
def fnRefs (g : Addr → Option Obj) (a : Addr) : List Addr := match g a with
  | some ⟨_, _, .func fd, _⟩ => refV fd.code ++ fd.closure.map (·.2)
  | _ => []
def clsRefs (g : Addr → Option Obj) (a : Addr) : List Addr := match g a with
  | some ⟨_, _, .cls cd, _⟩ => cd.ns :: (valsOf g cd.ns ++ (valsOf g cd.ns).flatMap (fnRefs g))
  | _ => []
/-- what is looked at: the statics, the module's names, their code, the classes' names and their code -/
def asZ (g : Addr → Option Obj) (_ : Nat) : List Addr := cStatics :: mainGlobals :: (valsOf g mainGlobals ++ (valsOf g mainGlobals).flatMap fun a => fnRefs g a ++ clsRefs g a)
/-- an error class's __init__ -/
abbrev IniW : Type := Option (Str × Str × Arguments × FuncBody × Scope × Addr × List Str × Addr)
def iniW (K : PySem.W.Frag) (x : Str) : IniW := match K.lookup (ma K (ga K x) "__init__") with
  | some ⟨_, _, .func fd, _⟩ => some (fd.name, fd.qualname, fd.params, fd.body, fd.scope, fd.globals, fd.closure.map (·.1), fd.builtins)
  | _ => none
structure IniD where
  cls : Str
  fld : Str
  qual : Str
  params : Arguments
  body : List Stmt
  scope : Scope
def IniD.val (d : IniD) : IniW := some ("__init__", d.qual, d.params, .stmts d.body, d.scope, mainGlobals, ["__class__"], builtinsNs)
def mroS (K : PySem.W.Frag) (C : Addr) : Addr := match PySem.W.clsIn K C with
  | some cd => (match cd.mro with
    | _ :: .ref S :: _ => S
    | _ => 0)
  | none => 0
def clsB (K : PySem.W.Frag) (C : Addr) : Bool := match K.lookup C with
  | some ⟨.type "type", _, .cls cd, sl⟩ => cd.mro == (.ref C :: .ref (mroS K C) :: PySem.ESX.exTail) && (cd.hasDict && (!cd.hasDel && (match sl.toList with
    | [_, _, _, _, some (.builtin n), _] => n == "Exception.__new__"
    | _ => false)))
  | _ => false
def fileB (P : Program) (K : PySem.W.Frag) (cd : Value) : Bool := match cd with
  | .ref a => (match K.lookup a with
    | some ⟨_, _, .fields vs, _⟩ => (match vs[2]? with
      | some (Value.str file _) => ((P.main.file : Str) == file)
      | _ => false)
    | _ => false)
  | _ => false
def cellB (K : PySem.W.Frag) (C : Addr) (cl : List (Str × Addr)) : Bool := match cl with
  | [(_, cc)] => (match K.lookup cc with
    | some ⟨_, _, .cell (some (.ref D)), _⟩ => decide (D = C)
    | _ => false)
  | _ => false
def iniB (P : Program) (K : PySem.W.Frag) (d : IniD) : Bool := match K.lookup (ma K (ga K d.cls) "__init__") with
  | some ⟨_, _, .func fd, _⟩ => decide (fd.defaults = .none) && (decide (fd.kwdefaults = .none) && (PySem.W.codeIn K fd.code d.qual && (fileB P K fd.code && cellB K (ga K d.cls) fd.closure)))
  | _ => false
def badB (P : Program) (K : PySem.W.Frag) (d : IniD) : Bool :=
  clsB K (ga K d.cls) && (iniB P K d && (decide (PySem.W.findIn K (.ref (ga K d.cls)) "__setattr__" = some (some (.builtin "object.__setattr__"))) && (decide (PySem.W.findIn K (.ref (ga K d.cls)) d.fld = some none) &&
  (decide (PySem.W.findIn K (.ref (ga K d.cls)) "__init__" = some (some (.ref (ma K (ga K d.cls) "__init__")))) && (decide (PySem.W.typeIn K (.ref (ma K (ga K d.cls) "__init__")) = some (.type "function")) && (PySem.W.keepIn K (.ref (ga K d.cls)) &&
  (decide (PySem.W.subIn K (.ref (ga K d.cls)) (.type "BaseException") = some true) && (decide (PySem.W.subIn K (.ref (ga K d.cls)) (.type "Exception") = some true) && (decide (PySem.W.typeIn K (.ref (ga K d.cls)) = some (.type "type")) &&
  (decide (PySem.W.mroIn K (ga K d.cls) (.ref (ga K d.cls)) = some true) && (decide (PySem.W.ks_superIn K (ga K d.cls) (ga K d.cls) "__init__" = some (some (.builtin "Exception.__init__"))) && decide (PySem.W.nsIn K cStatics "thirdparty.any" = some none))))))))))))
abbrev AlZ : Type := AlD × List IniW × Bool
def obsZ (fa : List Fa) (fn : List DefD) (bs : List IniD) (P : Program) (ex : PySem.W.Frag → Bool) (K : PySem.W.Frag) : AlZ := (obsD fa fn K, bs.map fun d => iniW K d.cls, bs.all (badB P K) && ex K)
def valZ (fn : List DefD) (bs : List IniD) : AlZ := (valD fn, bs.map IniD.val, true)
structure SaysZ (fa : List Fa) (fn : List DefD) (bs : List IniD) (P : Program) (ex : PySem.W.Frag → Bool) (K : PySem.W.Frag) : Prop where
  eq : obsZ fa fn bs P ex K = valZ fn bs
def hookZ (n : Nat) (fa : List Fa) (fn : List DefD) (bs : List IniD) (P : Program) (ex : PySem.W.Frag → Bool) : PySem.W.Hook where
  α := AlZ
  obs := fun s => obsZ fa fn bs P ex (frG s.heap.get? (asZ s.heap.get? n))
  val := fun _ => valZ fn bs
  says := fun _ h => ∃ K : PySem.W.Frag, K.In h ∧ SaysZ fa fn bs P ex K
  of := fun _ _ e => ⟨_, frG_in, ⟨e⟩⟩
  keeps := fun _ _ _ ⟨K, hK, c⟩ k => ⟨K, PySem.W.Frag.In.keeps hK k, c⟩
theorem obsZ_eq {n : Nat} {fa : List Fa} {fn : List DefD} {bs : List IniD} {P : Program} {ex : PySem.W.Frag → Bool} {g : Addr → Option Obj} {s : Shared} (h : ∀ a, g a = s.heap.get? a) : obsZ fa fn bs P ex (frG g (asZ g n)) = (hookZ n fa fn bs P ex).obs s := by
  have e : g = s.heap.get? := funext h
  rw [e] <;> rfl
section
variable {fa : List Fa} {fn : List DefD} {bs : List IniD} {P : Program} {ex : PySem.W.Frag → Bool} {K : PySem.W.Frag}
theorem SaysZ.d (c : SaysZ fa fn bs P ex K) : SaysD fa fn K := congrArg (fun z : AlZ => z.1) c.eq
theorem SaysZ.more (c : SaysZ fa fn bs P ex K) : bs.all (badB P K) = true ∧ ex K = true := ba (show (bs.all (badB P K) && ex K) = true from congrArg (fun z : AlZ => z.2.2) c.eq)
theorem SaysZ.ini (c : SaysZ fa fn bs P ex K) (i : Nat) {d : IniD} (h : bs[i]? = some d := by rfl) : iniW K d.cls = d.val ∧ badB P K d = true := by
  have e : (bs.map fun d => iniW K d.cls)[i]? = (bs.map IniD.val)[i]? := by
    have q : (bs.map fun d => iniW K d.cls) = bs.map IniD.val := congrArg (fun z : AlZ => z.2.1) c.eq
    rw [q]
  rw [List.getElem?_map, List.getElem?_map, h] at e
  exact ⟨Option.some.inj e, List.all_eq_true.mp c.more.1 d (List.mem_of_getElem? h)⟩
end
theorem clsB_ok {K : PySem.W.Frag} {C : Addr} (h : clsB K C = true) : ∃ nm q N bs sn sub ab col dd k0 k1 k2 k3 k5, K.lookup C = some (excClassObj nm q C N bs (.ref (mroS K C) :: PySem.ESX.exTail) true sn sub ab col dd k0 k1 k2 k3 k5 "Exception.__new__") := by
  unfold clsB at h
  split at h
  · rename_i dd cd sl ho
    obtain ⟨h1, h⟩ := ba h
    obtain ⟨h2, h⟩ := ba h
    obtain ⟨h3, h⟩ := ba h
    have h3' : cd.hasDel = false := by simpa using h3
    have h1' := beq_iff_eq.mp h1
    clear h1 h3
    split at h
    · rename_i k0 k1 k2 k3 n k5 hs
      have hn := beq_iff_eq.mp h
      subst hn
      have hsl : sl = #[k0, k1, k2, k3, some (.builtin "Exception.__new__"), k5] := by
        obtain ⟨l⟩ := sl
        simp only at hs
        rw [hs]
      obtain ⟨nm, bs, mro, ns, qn, hd, sn, sub, ab, col, del⟩ := cd
      dsimp only at h1' h2 h3'
      subst h1' h2 h3' hsl
      exact ⟨nm, qn, ns, bs, sn, sub, ab, col, dd, k0, k1, k2, k3, k5, ho⟩
    · cases h
  · cases h
/-- an error class, told -/
theorem bad_ok {P : Program} {K : PySem.W.Frag} {d : IniD} {pre : Str} {p1 p2 a1 a2 a3 a4 a5 a6 a7 a8 a9 b1 b2 b3 b4 : Pos} (e : iniW K d.cls = d.val) (h : badB P K d = true)
    (hp : d.params = PySem.XcX.xA d.fld p1 p2) (hb : d.body = PySem.XcX.xB pre d.fld a1 a2 a3 a4 a5 a6 a7 a8 a9 b1 b2 b3 b4) (hs : d.scope = PySem.XcX.xS d.fld) (hl : (a3.endLine == a8.line) = true) :
    PySem.XcX.BadC K P (ga K d.cls) (mroS K (ga K d.cls)) (ma K (ga K d.cls) "__init__") d.fld pre := by
  unfold badB at h
  obtain ⟨g1, h⟩ := ba h
  obtain ⟨g2, h⟩ := ba h
  obtain ⟨g3, h⟩ := ba h
  obtain ⟨g4, h⟩ := ba h
  obtain ⟨g5, h⟩ := ba h
  obtain ⟨g6, h⟩ := ba h
  obtain ⟨g7, h⟩ := ba h
  obtain ⟨g8, h⟩ := ba h
  obtain ⟨g9, h⟩ := ba h
  obtain ⟨g10, h⟩ := ba h
  obtain ⟨g11, h⟩ := ba h
  obtain ⟨g12, g13⟩ := ba h
  refine ⟨clsB_ok g1, of_decide_eq_true g3, of_decide_eq_true g4, of_decide_eq_true g5, of_decide_eq_true g6, g7, of_decide_eq_true g8, of_decide_eq_true g9, of_decide_eq_true g10, of_decide_eq_true g11, of_decide_eq_true g12, of_decide_eq_true g13, ?_⟩
  unfold iniB at g2
  unfold iniW at e
  cases q : K.lookup (ma K (ga K d.cls) "__init__") with
  | none =>
    rw [q] at g2
    cases g2
  | some o =>
    obtain ⟨oc, od, dt, osl⟩ := o
    rw [q] at g2 e
    cases dt with
    | func fd =>
      obtain ⟨n1, n2, n3, n4, n5, n6, n7, n8, n9, n10, n11, n12, n13, n14, n15⟩ := fd
      have e2 : (some (n1, n2, n3, n4, n5, n6, n7.map (·.1), n15) : IniW) = some (("__init__" : Str), d.qual, d.params, FuncBody.stmts d.body, d.scope, mainGlobals, [("__class__" : Str)], builtinsNs) := e
      simp only [Option.some.injEq, Prod.mk.injEq] at e2
      obtain ⟨h1, h2, h3, h4, h5, h6, h7, h8⟩ := e2
      subst h1 h2 h3 h4 h5 h6 h8
      have g2' : (decide (n8 = .none) && (decide (n9 = .none) && (PySem.W.codeIn K n13 d.qual && (fileB P K n13 && cellB K (ga K d.cls) n7)))) = true := g2
      obtain ⟨f1, g2'⟩ := ba g2'
      obtain ⟨f2, g2'⟩ := ba g2'
      obtain ⟨f3, g2'⟩ := ba g2'
      obtain ⟨f4, f5⟩ := ba g2'
      have f1 := of_decide_eq_true f1
      have f2 := of_decide_eq_true f2
      subst f1 f2
      have cell : ∃ cc cl cld csl, n7 = [(("__class__" : Str), cc)] ∧ K.lookup cc = some ⟨cl, cld, .cell (some (.ref (ga K d.cls))), csl⟩ := by
        cases n7 with
        | nil => cases f5
        | cons p r =>
          cases r with
          | cons _ _ => simp at h7
          | nil =>
            obtain ⟨nm, cc⟩ := p
            have enm : nm = ("__class__" : Str) := by simpa using h7
            subst enm
            have f6 : (match K.lookup cc with
              | some ⟨_, _, .cell (some (.ref D)), _⟩ => decide (D = ga K d.cls)
              | _ => false) = true := f5
            split at f6
            · rename_i cl cld D csl hc
              have eD := of_decide_eq_true f6
              subst eD
              exact ⟨cc, cl, cld, csl, rfl, hc⟩
            · cases f6
      obtain ⟨cc, cl, cld, csl, rfl, hc⟩ := cell
      have file : ∃ cda ccl cdd vs ccs file tf, n13 = .ref cda ∧ K.lookup cda = some ⟨ccl, cdd, .fields vs, ccs⟩ ∧ vs[2]? = some (Value.str file tf) ∧ ((P.main.file : Str) == file) = true := by
        cases n13 with
        | ref cda =>
          unfold fileB at f4
          simp only at f4
          split at f4
          · rename_i ccl cdd vs ccs hcode
            split at f4
            · rename_i file tf hv
              exact ⟨cda, ccl, cdd, vs, ccs, file, tf, rfl, hcode, hv, f4⟩
            · cases f4
          · cases f4
        | _ => cases f4
      obtain ⟨cda, ccl, cdd, vs, ccs, file, tf, rfl, hcode, hv, f4'⟩ := file
      exact ⟨oc, od, d.qual, n10, n11, n12, cda, n14, cc, osl, p1, p2, a1, a2, a3, a4, a5, a6, a7, a8, a9, b1, b2, b3, b4, by rw [hp, hb, hs], hl, f3, ⟨ccl, cdd, vs, ccs, file, tf, hcode, hv, f4'⟩, cl, cld, csl, hc⟩
    | _ => cases g2
/-! further facts by Bools -/
def slA (K : PySem.W.Frag) (x f : Str) : Addr := match PySem.W.findIn K (.ref (ga K x)) f with
  | some (some (.ref a)) => a
  | _ => 0
def sclsB (K : PySem.W.Frag) (x : Str) : Bool := PySem.W.plainGet K (ga K x) Str.empty && (PySem.W.isClsIn K (ga K x) && (PySem.W.plainOver K (ga K x) && decide (PySem.W.findIn K (.ref (ga K x)) "__setattr__" = some (some (.builtin "object.__setattr__")))))
theorem sclsB_ok {K : PySem.W.Frag} {x : Str} (h : sclsB K x = true) : L2.SCls K (ga K x) := by
  obtain ⟨h1, h⟩ := ba h
  obtain ⟨h2, h⟩ := ba h
  obtain ⟨h3, h4⟩ := ba h
  exact ⟨h1, h2, h3, of_decide_eq_true h4⟩
def sltB (K : PySem.W.Frag) (x f : Str) (i : Nat) : Bool := decide (PySem.W.findIn K (.ref (ga K x)) f = some (some (.ref (slA K x f)))) && (decide (PySem.W.specialIn K (.ref (slA K x f)) "__get__" = some (some (.builtin "member_descriptor.__get__"))) &&
  (decide (PySem.W.takesIn K (.ref (slA K x f)) = some true) && (decide (PySem.W.slotIn K (slA K x f) (ga K x) = some i) && (decide (PySem.W.typeIn K (.ref (slA K x f)) = some (.type "member_descriptor")) && decide (i < 1000)))))
theorem sltB_ok {K : PySem.W.Frag} {x f : Str} {i : Nat} (h : sltB K x f i = true) : L2.Slt K (ga K x) f i (slA K x f) := by
  obtain ⟨h1, h⟩ := ba h
  obtain ⟨h2, h⟩ := ba h
  obtain ⟨h3, h⟩ := ba h
  obtain ⟨h4, h⟩ := ba h
  obtain ⟨h5, h6⟩ := ba h
  exact ⟨of_decide_eq_true h1, of_decide_eq_true h2, of_decide_eq_true h3, of_decide_eq_true h4, of_decide_eq_true h5, of_decide_eq_true h6⟩
def excB (K : PySem.W.Frag) (x : Str) : Bool := decide (PySem.W.findIn K (.ref (ga K x)) "__getattribute__" = some (some (.builtin "BaseException.__getattribute__"))) && (decide (PySem.W.findIn K (.ref (ga K x)) "__getattr__" = some none) && (decide (PySem.W.subIn K (.ref (ga K x)) (.type "BaseException") = some true) &&
  (PySem.W.hasDictIn K (ga K x) && (decide (PySem.W.findIn K (.ref (ga K x)) "__class__" = some (some (.builtin "object.__class__"))) && (decide (PySem.W.specialIn K (.builtin "object.__class__") "__get__" = some (some (.builtin "getset_descriptor.__get__"))) && (decide (PySem.W.takesIn K (.builtin "object.__class__") = some true) && decide (PySem.W.mroIn K (ga K x) (.type "object") = some true)))))))
theorem excB_ok {K : PySem.W.Frag} {x : Str} (h : excB K x = true) : ExcC K (ga K x) ∧ XfC K (ga K x) := by
  obtain ⟨h1, h⟩ := ba h
  obtain ⟨h2, h⟩ := ba h
  obtain ⟨h3, h⟩ := ba h
  obtain ⟨h4, h⟩ := ba h
  obtain ⟨h5, h⟩ := ba h
  obtain ⟨h6, h⟩ := ba h
  obtain ⟨h7, h8⟩ := ba h
  exact ⟨⟨of_decide_eq_true h1, of_decide_eq_true h2, of_decide_eq_true h3, h4, of_decide_eq_true h5, of_decide_eq_true h6, of_decide_eq_true h7, of_decide_eq_true h8⟩, of_decide_eq_true h1, of_decide_eq_true h2, of_decide_eq_true h3, h4⟩
end Zh
namespace K09
open PySem
abbrev s_is_integer : Stmt := top 13
abbrev s_check_things : Stmt := top 14
abbrev s_check_size : Stmt := top 15
abbrev s_check_thing : Stmt := top 16
abbrev s_first_bad : Stmt := top 17
abbrev s_lot_of : Stmt := top 18
abbrev s_sized_lot : Stmt := top 19
abbrev s_outside : Stmt := top 20
abbrev s_lots_among : Stmt := top 21
abbrev s_mask_of : Stmt := top 22
abbrev s_table_lots : Stmt := top 30
abbrev s_add_worths : Stmt := top 31
abbrev s_check_worths : Stmt := top 32
abbrev s_four_list : Stmt := top 38
abbrev s_worth_with : Stmt := top 39
abbrev s_pair_sum : Stmt := top 40
abbrev s_sums_at : Stmt := top 41
abbrev s_four_sums : Stmt := top 42
abbrev s_twice_in : Stmt := top 43
abbrev s_is_twice : Stmt := top 44
abbrev s_broken_fours : Stmt := top 45
abbrev s_fours_through : Stmt := top 46
abbrev s_is_no_loss : Stmt := top 48
abbrev s_flips_of : Stmt := top 49
abbrev s_meets_near : Stmt := top 50
abbrev s_all_meet_near : Stmt := top 51
abbrev s_first_break : Stmt := top 52
abbrev s__law_draws : Stmt := top 56
abbrev s__law_take : Stmt := top 57
abbrev s__law_lots : Stmt := top 58
abbrev s__law_swap : Stmt := top 59
abbrev s__law_number : Stmt := top 60
abbrev s__law_prices : Stmt := top 61
abbrev s__law_lot : Stmt := top 62
abbrev s__law_perm : Stmt := top 63
abbrev s__law_worths : Stmt := top 64
abbrev s__law_trades : Stmt := top 65
abbrev s__law_twofold : Stmt := top 66
abbrev s__law_orders : Stmt := top 67
abbrev s__law_placed : Stmt := top 68
abbrev s__law_moved_by : Stmt := top 69
abbrev s__law_counted : Stmt := top 70
abbrev s__law_level : Stmt := top 71
abbrev s__law_full : Stmt := top 73
abbrev s__law_fours_with : Stmt := top 74
abbrev s__law_pair_sum : Stmt := top 75
abbrev s__law_sums : Stmt := top 76
abbrev s__law_twice : Stmt := top 78
abbrev s__law_held : Stmt := top 79
abbrev s_Table_init : Stmt := (inClass (top 33)).getD 1 (.Pass ⟨0, 0, 0, 0⟩)
abbrev s__law_table : Stmt := top 72
abbrev s_break_of : Stmt := top 53
abbrev s_is_twofold : Stmt := top 54
abbrev s__law_without : Stmt := top 80
abbrev s__law_at : Stmt := top 77
abbrev s_law : Stmt := top 81
end K09
namespace K09
open PySem PySem.Spec PyProof.Rows L2 Ov He Zh
def dd_is_integer : DefD := ⟨("is_integer", none), "is_integer", "is_integer", defArgs s_is_integer, defBody s_is_integer, defScope s_is_integer, [], []⟩
def dd_check_things : DefD := ⟨("check_things", none), "check_things", "check_things", defArgs s_check_things, defBody s_check_things, defScope s_check_things, [], []⟩
def dd_check_size : DefD := ⟨("check_size", none), "check_size", "check_size", defArgs s_check_size, defBody s_check_size, defScope s_check_size, [], []⟩
def dd_check_thing : DefD := ⟨("check_thing", none), "check_thing", "check_thing", defArgs s_check_thing, defBody s_check_thing, defScope s_check_thing, [], []⟩
def dd_first_bad : DefD := ⟨("first_bad", none), "first_bad", "first_bad", defArgs s_first_bad, defBody s_first_bad, defScope s_first_bad, [], []⟩
def dd_lot_of : DefD := ⟨("lot_of", none), "lot_of", "lot_of", defArgs s_lot_of, defBody s_lot_of, defScope s_lot_of, [], []⟩
def dd_sized_lot : DefD := ⟨("sized_lot", none), "sized_lot", "sized_lot", defArgs s_sized_lot, defBody s_sized_lot, defScope s_sized_lot, [], []⟩
def dd_outside : DefD := ⟨("outside", none), "outside", "outside", defArgs s_outside, defBody s_outside, defScope s_outside, [], []⟩
def dd_lots_among : DefD := ⟨("lots_among", none), "lots_among", "lots_among", defArgs s_lots_among, defBody s_lots_among, defScope s_lots_among, [], []⟩
def dd_mask_of : DefD := ⟨("mask_of", none), "mask_of", "mask_of", defArgs s_mask_of, defBody s_mask_of, defScope s_mask_of, [], []⟩
def dd_table_lots : DefD := ⟨("table_lots", none), "table_lots", "table_lots", defArgs s_table_lots, defBody s_table_lots, defScope s_table_lots, [], []⟩
def dd_add_worths : DefD := ⟨("add_worths", none), "add_worths", "add_worths", defArgs s_add_worths, defBody s_add_worths, defScope s_add_worths, [], []⟩
def dd_check_worths : DefD := ⟨("check_worths", none), "check_worths", "check_worths", defArgs s_check_worths, defBody s_check_worths, defScope s_check_worths, [], []⟩
def dd_four_list : DefD := ⟨("four_list", none), "four_list", "four_list", defArgs s_four_list, defBody s_four_list, defScope s_four_list, [], []⟩
def dd_worth_with : DefD := ⟨("worth_with", none), "worth_with", "worth_with", defArgs s_worth_with, defBody s_worth_with, defScope s_worth_with, [], []⟩
def dd_pair_sum : DefD := ⟨("pair_sum", none), "pair_sum", "pair_sum", defArgs s_pair_sum, defBody s_pair_sum, defScope s_pair_sum, [], []⟩
def dd_sums_at : DefD := ⟨("sums_at", none), "sums_at", "sums_at", defArgs s_sums_at, defBody s_sums_at, defScope s_sums_at, [], []⟩
def dd_four_sums : DefD := ⟨("four_sums", none), "four_sums", "four_sums", defArgs s_four_sums, defBody s_four_sums, defScope s_four_sums, [], []⟩
def dd_twice_in : DefD := ⟨("twice_in", none), "twice_in", "twice_in", defArgs s_twice_in, defBody s_twice_in, defScope s_twice_in, [], []⟩
def dd_is_twice : DefD := ⟨("is_twice", none), "is_twice", "is_twice", defArgs s_is_twice, defBody s_is_twice, defScope s_is_twice, [], []⟩
def dd_broken_fours : DefD := ⟨("broken_fours", none), "broken_fours", "broken_fours", defArgs s_broken_fours, defBody s_broken_fours, defScope s_broken_fours, [], []⟩
def dd_fours_through : DefD := ⟨("fours_through", none), "fours_through", "fours_through", defArgs s_fours_through, defBody s_fours_through, defScope s_fours_through, [], []⟩
def dd_is_no_loss : DefD := ⟨("is_no_loss", none), "is_no_loss", "is_no_loss", defArgs s_is_no_loss, defBody s_is_no_loss, defScope s_is_no_loss, [], []⟩
def dd_flips_of : DefD := ⟨("flips_of", none), "flips_of", "flips_of", defArgs s_flips_of, defBody s_flips_of, defScope s_flips_of, [], []⟩
def dd_meets_near : DefD := ⟨("meets_near", none), "meets_near", "meets_near", defArgs s_meets_near, defBody s_meets_near, defScope s_meets_near, [], []⟩
def dd_all_meet_near : DefD := ⟨("all_meet_near", none), "all_meet_near", "all_meet_near", defArgs s_all_meet_near, defBody s_all_meet_near, defScope s_all_meet_near, [], []⟩
def dd_first_break : DefD := ⟨("first_break", none), "first_break", "first_break", defArgs s_first_break, defBody s_first_break, defScope s_first_break, [], []⟩
def dd__law_draws : DefD := ⟨("_law_draws", none), "_law_draws", "_law_draws", defArgs s__law_draws, defBody s__law_draws, defScope s__law_draws, [], []⟩
def dd__law_take : DefD := ⟨("_law_take", none), "_law_take", "_law_take", defArgs s__law_take, defBody s__law_take, defScope s__law_take, [], []⟩
def dd__law_lots : DefD := ⟨("_law_lots", none), "_law_lots", "_law_lots", defArgs s__law_lots, defBody s__law_lots, defScope s__law_lots, [], []⟩
def dd__law_swap : DefD := ⟨("_law_swap", none), "_law_swap", "_law_swap", defArgs s__law_swap, defBody s__law_swap, defScope s__law_swap, [], []⟩
def dd__law_number : DefD := ⟨("_law_number", none), "_law_number", "_law_number", defArgs s__law_number, defBody s__law_number, defScope s__law_number, [], []⟩
def dd__law_prices : DefD := ⟨("_law_prices", none), "_law_prices", "_law_prices", defArgs s__law_prices, defBody s__law_prices, defScope s__law_prices, [], []⟩
def dd__law_lot : DefD := ⟨("_law_lot", none), "_law_lot", "_law_lot", defArgs s__law_lot, defBody s__law_lot, defScope s__law_lot, [], []⟩
def dd__law_perm : DefD := ⟨("_law_perm", none), "_law_perm", "_law_perm", defArgs s__law_perm, defBody s__law_perm, defScope s__law_perm, [], []⟩
def dd__law_worths : DefD := ⟨("_law_worths", none), "_law_worths", "_law_worths", defArgs s__law_worths, defBody s__law_worths, defScope s__law_worths, [], []⟩
def dd__law_trades : DefD := ⟨("_law_trades", none), "_law_trades", "_law_trades", defArgs s__law_trades, defBody s__law_trades, defScope s__law_trades, [], []⟩
def dd__law_twofold : DefD := ⟨("_law_twofold", none), "_law_twofold", "_law_twofold", defArgs s__law_twofold, defBody s__law_twofold, defScope s__law_twofold, [], []⟩
def dd__law_orders : DefD := ⟨("_law_orders", none), "_law_orders", "_law_orders", defArgs s__law_orders, defBody s__law_orders, defScope s__law_orders, [], []⟩
def dd__law_placed : DefD := ⟨("_law_placed", none), "_law_placed", "_law_placed", defArgs s__law_placed, defBody s__law_placed, defScope s__law_placed, [], []⟩
def dd__law_moved_by : DefD := ⟨("_law_moved_by", none), "_law_moved_by", "_law_moved_by", defArgs s__law_moved_by, defBody s__law_moved_by, defScope s__law_moved_by, [], []⟩
def dd__law_counted : DefD := ⟨("_law_counted", none), "_law_counted", "_law_counted", defArgs s__law_counted, defBody s__law_counted, defScope s__law_counted, [], []⟩
def dd__law_level : DefD := ⟨("_law_level", none), "_law_level", "_law_level", defArgs s__law_level, defBody s__law_level, defScope s__law_level, [], []⟩
def dd__law_full : DefD := ⟨("_law_full", none), "_law_full", "_law_full", defArgs s__law_full, defBody s__law_full, defScope s__law_full, [], []⟩
def dd__law_fours_with : DefD := ⟨("_law_fours_with", none), "_law_fours_with", "_law_fours_with", defArgs s__law_fours_with, defBody s__law_fours_with, defScope s__law_fours_with, [], []⟩
def dd__law_pair_sum : DefD := ⟨("_law_pair_sum", none), "_law_pair_sum", "_law_pair_sum", defArgs s__law_pair_sum, defBody s__law_pair_sum, defScope s__law_pair_sum, [], []⟩
def dd__law_sums : DefD := ⟨("_law_sums", none), "_law_sums", "_law_sums", defArgs s__law_sums, defBody s__law_sums, defScope s__law_sums, [], []⟩
def dd__law_twice : DefD := ⟨("_law_twice", none), "_law_twice", "_law_twice", defArgs s__law_twice, defBody s__law_twice, defScope s__law_twice, [], []⟩
def dd__law_held : DefD := ⟨("_law_held", none), "_law_held", "_law_held", defArgs s__law_held, defBody s__law_held, defScope s__law_held, [], []⟩
def dd_Table_init : DefD := ⟨("Table", some "__init__"), "__init__", "Table.__init__", defArgs s_Table_init, defBody s_Table_init, defScope s_Table_init, [], []⟩
def dd__law_table : DefD := ⟨("_law_table", none), "_law_table", "_law_table", defArgs s__law_table, defBody s__law_table, defScope s__law_table, [], []⟩
def dd_break_of : DefD := ⟨("break_of", none), "break_of", "break_of", defArgs s_break_of, defBody s_break_of, defScope s_break_of, [], []⟩
def dd_is_twofold : DefD := ⟨("is_twofold", none), "is_twofold", "is_twofold", defArgs s_is_twofold, defBody s_is_twofold, defScope s_is_twofold, [], []⟩
def dd__law_without : DefD := ⟨("_law_without", none), "_law_without", "_law_without", defArgs s__law_without, defBody s__law_without, defScope s__law_without, [], []⟩
def dd__law_at : DefD := ⟨("_law_at", none), "_law_at", "_law_at", defArgs s__law_at, defBody s__law_at, defScope s__law_at, [], []⟩
def dd_law : DefD := ⟨("law", none), "law", "law", defArgs s_law, defBody s_law, defScope s_law, [], []⟩
def zfn0 : List DefD := [dd_is_integer, dd_check_things, dd_check_size, dd_check_thing, dd_first_bad, dd_lot_of, dd_sized_lot, dd_outside, dd_lots_among, dd_mask_of, dd_table_lots, dd_add_worths]
def zfn1 : List DefD := [dd_check_worths, dd_four_list, dd_worth_with, dd_pair_sum, dd_sums_at, dd_four_sums, dd_twice_in, dd_is_twice, dd_broken_fours, dd_fours_through, dd_is_no_loss, dd_flips_of]
def zfn2 : List DefD := [dd_meets_near, dd_all_meet_near, dd_first_break, dd__law_draws, dd__law_take, dd__law_lots, dd__law_swap, dd__law_number, dd__law_prices, dd__law_lot, dd__law_perm, dd__law_worths]
def zfn3 : List DefD := [dd__law_trades, dd__law_twofold, dd__law_orders, dd__law_placed, dd__law_moved_by, dd__law_counted, dd__law_level, dd__law_full, dd__law_fours_with, dd__law_pair_sum, dd__law_sums, dd__law_twice]
def zfn4 : List DefD := [dd__law_held, dd_Table_init, dd__law_table, dd_break_of, dd_is_twofold, dd__law_without, dd__law_at, dd_law]
def zfn : List DefD := zfn0 ++ zfn1 ++ zfn2 ++ zfn3 ++ zfn4
def zfa0 : List Fa := [.glo "is_integer", .glo "check_things", .glo "check_size", .glo "check_thing", .glo "first_bad", .glo "lot_of", .glo "sized_lot", .glo "outside", .glo "lots_among", .glo "mask_of", .glo "table_lots", .glo "add_worths"]
def zfa1 : List Fa := [.glo "check_worths", .glo "four_list", .glo "worth_with", .glo "pair_sum", .glo "sums_at", .glo "four_sums", .glo "twice_in", .glo "is_twice", .glo "broken_fours", .glo "fours_through", .glo "is_no_loss", .glo "flips_of"]
def zfa2 : List Fa := [.glo "meets_near", .glo "all_meet_near", .glo "first_break", .glo "_law_draws", .glo "_law_take", .glo "_law_lots", .glo "_law_swap", .glo "_law_number", .glo "_law_prices", .glo "_law_lot", .glo "_law_perm", .glo "_law_worths"]
def zfa3 : List Fa := [.glo "_law_trades", .glo "_law_twofold", .glo "_law_orders", .glo "_law_placed", .glo "_law_moved_by", .glo "_law_counted", .glo "_law_level", .glo "_law_full", .glo "_law_fours_with", .glo "_law_pair_sum", .glo "_law_sums", .glo "_law_twice"]
def zfa4 : List Fa := [.glo "_law_held", .glo "_law_table", .glo "break_of", .glo "is_twofold", .glo "_law_without", .glo "_law_at", .glo "law", .glo "Table", .glo "BadNumber", .glo "BadLot", .free "len", .free "range"]
def zfa5 : List Fa := [.free "sorted", .free "tuple", .free "list", .free "int", .free "any", .free "all", .free "min", .free "max", .free "sum", .free "zip", .free "enumerate", .free "isinstance"]
def zfa6 : List Fa := [.free "bool", .free "super", .int "MOST_THINGS" 8, .mkr "Table"]
def zfa : List Fa := zfa0 ++ zfa1 ++ zfa2 ++ zfa3 ++ zfa4 ++ zfa5 ++ zfa6
abbrev s_BadNumber_init : Stmt := (inClass (top 3)).getD 0 (.Pass ⟨0, 0, 0, 0⟩)
def zbs : List IniD := [⟨"BadNumber", "name", "BadNumber.__init__", defArgs s_BadNumber_init, defBody s_BadNumber_init, defScope s_BadNumber_init⟩]
def zex (K : PySem.W.Frag) : Bool := (sclsB K "Table" && (sltB K "Table" "_at" 0 && (sltB K "Table" "_by" 1 && (sltB K "Table" "_found" 2 && (sltB K "Table" "bases" 3 && (sltB K "Table" "size" 4 && (sltB K "Table" "things" 5 && (sltB K "Table" "worths" 6 && (excB K "BadNumber" && (decide (PySem.W.exmOne K (.ref (ga K "BadNumber")) (.ref (ga K "BadNumber")) = some true) && decide (PySem.W.kitOne K (.ref (ga K "BadNumber")) (.ref (ga K "BadLot")) = some false)))))))))))
def znm0 : List PySem.Str := ["_wall", "TableError", "BadNumber", "BadLot", "BadWorths", "BadPrices", "BadRow", "OtherThings", "OtherSize", "Empty", "MOST_THINGS", "is_integer"]
def znm1 : List PySem.Str := ["check_things", "check_size", "check_thing", "first_bad", "lot_of", "sized_lot", "outside", "lots_among", "mask_of", "check_row", "check_like", "Prices"]
def znm2 : List PySem.Str := ["other_numbers", "checked_prices", "table_lots", "add_worths", "check_worths", "Table", "shifted_worths", "joined_worths", "turned_worths", "four_list", "worth_with", "pair_sum"]
def znm3 : List PySem.Str := ["sums_at", "four_sums", "twice_in", "is_twice", "broken_fours", "fours_through", "is_no_loss", "flips_of", "meets_near", "all_meet_near", "first_break", "break_of"]
def znm4 : List PySem.Str := ["is_twofold", "_law_draws", "_law_take", "_law_lots", "_law_swap", "_law_number", "_law_prices", "_law_lot", "_law_perm", "_law_worths", "_law_trades", "_law_twofold"]
def znm5 : List PySem.Str := ["_law_orders", "_law_placed", "_law_moved_by", "_law_counted", "_law_level", "_law_table", "_law_full", "_law_fours_with", "_law_pair_sum", "_law_sums", "_law_at", "_law_twice"]
def znm6 : List PySem.Str := ["_law_held", "_law_without"]
def znm : List PySem.Str := znm0 ++ znm1 ++ znm2 ++ znm3 ++ znm4 ++ znm5 ++ znm6
abbrev ZR : PySem.W.OpenRow := PySem.W.OpenLaw.row PySem.Challenge.rw_singlyseen_k09_fours_through_one_thing
abbrev zhk : PySem.W.Hook := hookZ 4 zfa zfn zbs ZR.prog zex
def zob (s : PySem.W.SharedT) : AlZ := obsZ zfa zfn zbs ZR.prog zex (frG (HandSHeadRun.getT s) (asZ (HandSHeadRun.getT s) 4))
theorem zob_eq (s : PySem.W.SharedT) : zob s = zhk.obs s.abs := obsZ_eq (HandSHeadRun.getT_eq s)
theorem zrun (w : World) : HandSHeadRun.RunEq ZR (PySem.W.view ZR.prog [81]) zhk zob 20000 znm w := by
  intro os
  kernel_rfl
end K09
namespace K09
open PySem PySem.Spec PyProof.Rows L2 Ov
section
variable {P : Program} {w : World} {K : PySem.W.Frag} {mg : Str → Option Value} {base : Heap} {cf : List D → D → Prop} {f : Addr} {fd : FuncData}
/-! is_integer -/
abbrev N_is_integer : List Str := ["value"]
abbrev ps_is_integer : List Str := ["value"]
def c_is_integer : Es := (cRet (cAndV (c1 (isiE "int") (cV 0)) (cNotV (c1 (isiE "bool") (cV 0)))))
def sl_is_integer : List Nat := []
def d_is_integer : Df := mkDf sl_is_integer 0 c_is_integer
theorem sc_is_integer : FnScope N_is_integer ps_is_integer (defScope s_is_integer) := ⟨rfl, rfl, rfl, by decide +kernel, rfl, by decide +kernel, by decide +kernel⟩
theorem ok_is_integer (F : FnP K "is_integer" s_is_integer f fd) (B : Bs mg) : FnD P w K mg base cf 1 f fd ps_is_integer d_is_integer :=
  fnD (c := c_is_integer) (sl := sl_is_integer) F sc_is_integer rfl fun CX cdv A outer s H E hr =>
  (b_one (s_ret (x_and (x_isi (by rfl) B.isinstance (by rfl) B.int boot_int (x_v (pv 0))) (x_one (x_not (x_isi (by rfl) B.isinstance (by rfl) B.bool boot_bool (x_v (pv 0))))))))
theorem cal_is_integer (F : FnP K "is_integer" s_is_integer f fd) (hm : mg "is_integer" = some (.ref f)) (D0 : FnD P w K mg base cf 1 f fd ps_is_integer d_is_integer) : CalD P w K mg base cf 1 "is_integer" ps_is_integer d_is_integer :=
  .of F hm D0 fun _ _ _ _ _ _ us hl => match us, hl with | [_], _ => rfl

/-! check_things -/
abbrev N_check_things : List Str := ["things"]
abbrev ps_check_things : List Str := ["things"]
def c_check_things : Es := (cIfS (cOr (cNot (cTr (cCall 1 d_is_integer (gCons (cV 0) gNil)))) (cNot (cT (cChain leD leD (cC (.int 1)) (cV 0) (cC (.int 8)))))) cNever cNx)
def sl_check_things : List Nat := []
def d_check_things : Df := mkDf sl_check_things 0 c_check_things
theorem sc_check_things : FnScope N_check_things ps_check_things (defScope s_check_things) := ⟨rfl, rfl, rfl, by decide +kernel, rfl, by decide +kernel, by decide +kernel⟩
theorem ok_check_things (F : FnP K "check_things" s_check_things f fd) (k_MOST_THINGS : mg "MOST_THINGS" = some (.int 8 t_MOST_THINGS)) (C_is_integer : CalD P w K mg base cf 1 "is_integer" ps_is_integer d_is_integer) : FnD P w K mg base cf 2 f fd ps_check_things d_check_things :=
  fnD (c := c_check_things) (sl := sl_check_things) F sc_check_things rfl fun CX cdv A outer s H E hr =>
  (b_one (s_if (t_w (w_or (t_not (t_tru (x_callC C_is_integer hr (by decide) (by rfl) (ag_cons (x_v (pv 0)) ag_nil)))) (w_or1 (t_not (t_chain op_le op_le op2_le op2_le x_int (x_v (pv 0)) (x_kint (pe_glob (by rfl) k_MOST_THINGS ⟨_, rfl⟩))))))) (b_one s_never) b_nil))
theorem cal_check_things (F : FnP K "check_things" s_check_things f fd) (hm : mg "check_things" = some (.ref f)) (D0 : FnD P w K mg base cf 2 f fd ps_check_things d_check_things) : CalD P w K mg base cf 2 "check_things" ps_check_things d_check_things :=
  .of F hm D0 fun _ _ _ _ _ _ us hl => match us, hl with | [_], _ => rfl

/-! check_size -/
abbrev N_check_size : List Str := ["things", "size"]
abbrev ps_check_size : List Str := ["things", "size"]
def c_check_size : Es := (cSeq (cDrop (cCall 1 d_check_things (gCons (cV 0) gNil)))
  (cIfS (cOr (cNot (cTr (cCall 1 d_is_integer (gCons (cV 1) gNil)))) (cNot (cT (cChain leD leD (cC (.int 0)) (cV 1) (cV 0))))) cNever cNx))
def sl_check_size : List Nat := []
def d_check_size : Df := mkDf sl_check_size 0 c_check_size
theorem sc_check_size : FnScope N_check_size ps_check_size (defScope s_check_size) := ⟨rfl, rfl, rfl, by decide +kernel, rfl, by decide +kernel, by decide +kernel⟩
theorem ok_check_size (F : FnP K "check_size" s_check_size f fd) (C_check_things : CalD P w K mg base cf 2 "check_things" ps_check_things d_check_things) (C_is_integer : CalD P w K mg base cf 1 "is_integer" ps_is_integer d_is_integer) : FnD P w K mg base cf 3 f fd ps_check_size d_check_size :=
  fnD (c := c_check_size) (sl := sl_check_size) F sc_check_size rfl fun CX cdv A outer s H E hr =>
  (b_cons (s_expr (x_callC C_check_things hr (by decide) (by rfl) (ag_cons (x_v (pv 0)) ag_nil)))
  (b_one (s_if (t_w (w_or (t_not (t_tru (x_callC C_is_integer hr (by decide) (by rfl) (ag_cons (x_v (pv 1)) ag_nil)))) (w_or1 (t_not (t_chain op_le op_le op2_le op2_le x_int (x_v (pv 1)) (x_v (pv 0))))))) (b_one s_never) b_nil)))
theorem cal_check_size (F : FnP K "check_size" s_check_size f fd) (hm : mg "check_size" = some (.ref f)) (D0 : FnD P w K mg base cf 3 f fd ps_check_size d_check_size) : CalD P w K mg base cf 3 "check_size" ps_check_size d_check_size :=
  .of F hm D0 fun _ _ _ _ _ _ us hl => match us, hl with | [_, _], _ => rfl

/-! check_thing -/
abbrev N_check_thing : List Str := ["thing", "things"]
abbrev ps_check_thing : List Str := ["thing", "things"]
def c_check_thing : Es := (cIfS (cOr (cNot (cTr (cCall 1 d_is_integer (gCons (cV 0) gNil)))) (cNot (cT (cChain leD ltD (cC (.int 0)) (cV 0) (cV 1))))) cNever cNx)
def sl_check_thing : List Nat := []
def d_check_thing : Df := mkDf sl_check_thing 0 c_check_thing
theorem sc_check_thing : FnScope N_check_thing ps_check_thing (defScope s_check_thing) := ⟨rfl, rfl, rfl, by decide +kernel, rfl, by decide +kernel, by decide +kernel⟩
theorem ok_check_thing (F : FnP K "check_thing" s_check_thing f fd) (C_is_integer : CalD P w K mg base cf 1 "is_integer" ps_is_integer d_is_integer) : FnD P w K mg base cf 2 f fd ps_check_thing d_check_thing :=
  fnD (c := c_check_thing) (sl := sl_check_thing) F sc_check_thing rfl fun CX cdv A outer s H E hr =>
  (b_one (s_if (t_w (w_or (t_not (t_tru (x_callC C_is_integer hr (by decide) (by rfl) (ag_cons (x_v (pv 0)) ag_nil)))) (w_or1 (t_not (t_chain op_le op_lt op2_le op2_lt x_int (x_v (pv 0)) (x_v (pv 1))))))) (b_one s_never) b_nil))
theorem cal_check_thing (F : FnP K "check_thing" s_check_thing f fd) (hm : mg "check_thing" = some (.ref f)) (D0 : FnD P w K mg base cf 2 f fd ps_check_thing d_check_thing) : CalD P w K mg base cf 2 "check_thing" ps_check_thing d_check_thing :=
  .of F hm D0 fun _ _ _ _ _ _ us hl => match us, hl with | [_, _], _ => rfl

/-! first_bad -/
abbrev N_first_bad : List Str := ["row", "things", "place", "thing"]
abbrev ps_first_bad : List Str := ["row", "things"]
def c_first_bad : Es := (cSeq (cFor (iEnum (cV 0)) (gT 2 (gCons' (gN 2) (gCons' (gN 3) gNil'))) (cIfS (cOr (cNot (cTr (cCall 1 d_is_integer (gCons (cV 3) gNil)))) (cOr (cNot (cT (cChain leD ltD (cC (.int 0)) (cV 3) (cV 1)))) (cT (c2 inD (cV 3) (cSl (cV 0) pNone (pSome (cV 2))))))) (cRet (cV 2)) cNx))
  (cRet (cC .non)))
def sl_first_bad : List Nat := [2, 3]
def d_first_bad : Df := mkDf sl_first_bad 2 c_first_bad
theorem sc_first_bad : FnScope N_first_bad ps_first_bad (defScope s_first_bad) := ⟨rfl, rfl, rfl, by decide +kernel, rfl, by decide +kernel, by decide +kernel⟩
theorem ok_first_bad (F : FnP K "first_bad" s_first_bad f fd) (B : Bs mg) (C_is_integer : CalD P w K mg base cf 1 "is_integer" ps_is_integer d_is_integer) : FnD P w K mg base cf 2 f fd ps_first_bad d_first_bad :=
  fnD (c := c_first_bad) (sl := sl_first_bad) F sc_first_bad rfl fun CX cdv A outer s H E hr =>
  (b_cons (s_for PassesOwn.never rfl (i_enum (by rfl) B.enumerate (x_v (pv 0))) (g_tup rfl (gs_cons (g_name (i := 2) sc_first_bad.nd rfl (by first | exact Or.inl rfl | exact Or.inr rfl)) (gs_cons (g_name (i := 3) sc_first_bad.nd rfl (by first | exact Or.inl rfl | exact Or.inr rfl)) gs_nil))) (b_one (s_if (t_w (w_or (t_not (t_tru (x_callC C_is_integer hr (by decide) (by rfl) (ag_cons (x_v (pv 3)) ag_nil)))) (w_or (t_not (t_chain op_le op_lt op2_le op2_lt x_int (x_v (pv 3)) (x_v (pv 1)))) (w_or1 (t_cmp (opr_in hr.units1) op2_in (x_v (pv 3)) (x_slice (x_v (pv 0)) xp_none (xp_some (x_v (pv 2)))) (by with_unfolding_all rfl)))))) (b_one (s_ret (x_v (pv 2)))) b_nil)))
  (b_one (s_ret x_non)))
theorem cal_first_bad (F : FnP K "first_bad" s_first_bad f fd) (hm : mg "first_bad" = some (.ref f)) (D0 : FnD P w K mg base cf 2 f fd ps_first_bad d_first_bad) : CalD P w K mg base cf 2 "first_bad" ps_first_bad d_first_bad :=
  .of F hm D0 fun _ _ _ _ _ _ us hl => match us, hl with | [_, _], _ => rfl

/-! lot_of -/
abbrev N_lot_of : List Str := ["lot", "things", "place"]
abbrev ps_lot_of : List Str := ["lot", "things"]
def c_lot_of : Es := (cSeq (cDrop (cCall 1 d_check_things (gCons (cV 1) gNil)))
  (cSeq (cIfS (cNot (cTr (c1 (isiE2 "list" "tuple") (cV 0)))) cNever cNx)
  (cSeq (cSet 2 (cCall 2 d_first_bad (gCons (cV 0) (gCons (cV 1) gNil))))
  (cSeq (cIfS (cT (c2 isnD (cV 2) (cC .non))) cNever cNx)
  (cRet (c1 tupleD (c1 sortedD (cV 0))))))))
def sl_lot_of : List Nat := [2]
def d_lot_of : Df := mkDf sl_lot_of 1 c_lot_of
theorem sc_lot_of : FnScope N_lot_of ps_lot_of (defScope s_lot_of) := ⟨rfl, rfl, rfl, by decide +kernel, rfl, by decide +kernel, by decide +kernel⟩
theorem ok_lot_of (F : FnP K "lot_of" s_lot_of f fd) (B : Bs mg) (C_check_things : CalD P w K mg base cf 2 "check_things" ps_check_things d_check_things) (C_first_bad : CalD P w K mg base cf 2 "first_bad" ps_first_bad d_first_bad) : FnD P w K mg base cf 3 f fd ps_lot_of d_lot_of :=
  fnD (c := c_lot_of) (sl := sl_lot_of) F sc_lot_of rfl fun CX cdv A outer s H E hr =>
  (b_cons (s_expr (x_callC C_check_things hr (by decide) (by rfl) (ag_cons (x_v (pv 1)) ag_nil)))
  (b_cons (s_if (t_not (t_tru (x_isi2 (by rfl) B.isinstance (by rfl) B.list boot_list (by rfl) B.tuple boot_tuple (x_v (pv 0))))) (b_one s_never) b_nil)
  (b_cons (s_set (i := 2) sc_lot_of.nd rfl (by first | exact Or.inl rfl | exact Or.inr rfl) (x_callC C_first_bad hr (by decide) (by rfl) (ag_cons (x_v (pv 0)) (ag_cons (x_v (pv 1)) ag_nil))))
  (b_cons (s_if (t_cmp op_notN op2_isn (x_v (pv 2)) x_non (nomark _)) (b_one s_never) b_nil)
  (b_one (s_ret (x_ct1 call_tuple_of op1_tuple (by rfl) B.tuple boot_tuple (x_o (o_cb1 cr_sortedA op1_sorted (by rfl) B.sorted boot_sorted (x_v (pv 0)))))))))))
theorem cal_lot_of (F : FnP K "lot_of" s_lot_of f fd) (hm : mg "lot_of" = some (.ref f)) (D0 : FnD P w K mg base cf 3 f fd ps_lot_of d_lot_of) : CalD P w K mg base cf 3 "lot_of" ps_lot_of d_lot_of :=
  .of F hm D0 fun _ _ _ _ _ _ us hl => match us, hl with | [_, _], _ => rfl

/-! sized_lot -/
abbrev N_sized_lot : List Str := ["lot", "things", "size", "told"]
abbrev ps_sized_lot : List Str := ["lot", "things", "size"]
def c_sized_lot : Es := (cSeq (cSet 3 (cCall 2 d_lot_of (gCons (cV 0) (gCons (cV 1) gNil))))
  (cSeq (cIfS (cT (c2 neD (c1 lenD (cV 3)) (cV 2))) cNever cNx)
  (cRet (cV 3))))
def sl_sized_lot : List Nat := [3]
def d_sized_lot : Df := mkDf sl_sized_lot 1 c_sized_lot
theorem sc_sized_lot : FnScope N_sized_lot ps_sized_lot (defScope s_sized_lot) := ⟨rfl, rfl, rfl, by decide +kernel, rfl, by decide +kernel, by decide +kernel⟩
theorem ok_sized_lot (F : FnP K "sized_lot" s_sized_lot f fd) (B : Bs mg) (C_lot_of : CalD P w K mg base cf 3 "lot_of" ps_lot_of d_lot_of) : FnD P w K mg base cf 4 f fd ps_sized_lot d_sized_lot :=
  fnD (c := c_sized_lot) (sl := sl_sized_lot) F sc_sized_lot rfl fun CX cdv A outer s H E hr =>
  (b_cons (s_set (i := 3) sc_sized_lot.nd rfl (by first | exact Or.inl rfl | exact Or.inr rfl) (x_callC C_lot_of hr (by decide) (by rfl) (ag_cons (x_v (pv 0)) (ag_cons (x_v (pv 1)) ag_nil))))
  (b_cons (s_if (t_cmp (op_neD hr.units) op2_ne (x_cb1 call_len_seq op1_len (by rfl) B.len boot_len (x_v (pv 3))) (x_v (pv 2)) (nomark _)) (b_one s_never) b_nil)
  (b_one (s_ret (x_v (pv 3))))))
theorem cal_sized_lot (F : FnP K "sized_lot" s_sized_lot f fd) (hm : mg "sized_lot" = some (.ref f)) (D0 : FnD P w K mg base cf 4 f fd ps_sized_lot d_sized_lot) : CalD P w K mg base cf 4 "sized_lot" ps_sized_lot d_sized_lot :=
  .of F hm D0 fun _ _ _ _ _ _ us hl => match us, hl with | [_, _, _], _ => rfl

/-! outside -/
abbrev N_outside : List Str := ["lot", "things", "thing"]
abbrev ps_outside : List Str := ["lot", "things"]
def c_outside : Es := (cRet (c1 tupleD (cLc [2] (iRg1 (cV 1)) (gN 2) (cT (c2 ninD (cV 2) (cV 0))) (cV 2))))
def sl_outside : List Nat := []
def d_outside : Df := mkDf sl_outside 1 c_outside
theorem sc_outside : FnScope N_outside ps_outside (defScope s_outside) := ⟨rfl, rfl, rfl, by decide +kernel, rfl, by decide +kernel, by decide +kernel⟩
theorem ok_outside (F : FnP K "outside" s_outside f fd) (B : Bs mg) : FnD P w K mg base cf 1 f fd ps_outside d_outside :=
  fnD (c := c_outside) (sl := sl_outside) F sc_outside rfl fun CX cdv A outer s H E hr =>
  (b_one (s_ret (x_ct1 call_tuple_of op1_tuple (by rfl) B.tuple boot_tuple (x_o (o_lc rfl sc_outside.nd (i_rg1 (by rfl) B.range (x_v (pv 1))) (blkOk_by (own := [("thing", 2)]) (by rfl)) (by decide) (fun _ _ _ _ _ => (g_name (i := 2) sc_outside.nd rfl (by first | exact Or.inl rfl | exact Or.inr rfl))) (fun _ _ _ _ _ => (ts_one (t_cmp (opr_nin hr.units1) op2_nin (x_v (pv 2)) (x_v (pv 0)) (by with_unfolding_all rfl)))) (fun _ _ _ _ _ => (x_v (pv 2))))))))
theorem cal_outside (F : FnP K "outside" s_outside f fd) (hm : mg "outside" = some (.ref f)) (D0 : FnD P w K mg base cf 1 f fd ps_outside d_outside) : CalD P w K mg base cf 1 "outside" ps_outside d_outside :=
  .of F hm D0 fun _ _ _ _ _ _ us hl => match us, hl with | [_, _], _ => rfl

/-! lots_among -/
abbrev N_lots_among : List Str := ["pool", "size", "rows", "_", "row", "thing"]
abbrev ps_lots_among : List Str := ["pool", "size"]
def c_lots_among : Es := (cSeq (cSet 2 (cLst (aCons (cTup aNil) aNil)))
  (cSeq (cFor (iRg1 (cV 1)) (gN 3) (cSet 2 (cLc2 [4, 5] [5] (iSeq (cV 2)) (gN 4) cYes (iSeq (cV 0)) (gN 5) (cOr (cNot (cTr (cV 4))) (cT (c2 ltD (c2 ixD (cV 4) (c1 negD (cC (.int 1)))) (cV 5)))) (c2 addD (cV 4) (cTup (aCons (cV 5) aNil))))))
  (cRet (cV 2))))
def sl_lots_among : List Nat := [2, 3, 2]
def d_lots_among : Df := mkDf sl_lots_among 4 c_lots_among
theorem sc_lots_among : FnScope N_lots_among ps_lots_among (defScope s_lots_among) := ⟨rfl, rfl, rfl, by decide +kernel, rfl, by decide +kernel, by decide +kernel⟩
theorem ok_lots_among (F : FnP K "lots_among" s_lots_among f fd) (B : Bs mg) : FnD P w K mg base cf 1 f fd ps_lots_among d_lots_among :=
  fnD (c := c_lots_among) (sl := sl_lots_among) F sc_lots_among rfl fun CX cdv A outer s H E hr =>
  (b_cons (s_set (i := 2) sc_lots_among.nd rfl (by first | exact Or.inl rfl | exact Or.inr rfl) (x_o (o_lst (xa_cons (x_tup xa_nil) xa_nil))))
  (b_cons (s_for PassesOwn.never rfl (i_rg1 (by rfl) B.range (x_v (pv 1))) (g_name (i := 3) sc_lots_among.nd rfl (by first | exact Or.inl rfl | exact Or.inr rfl)) (b_one (s_setLc2 (i := 2) (vs1 := [5]) rfl sc_lots_among.nd rfl rfl rfl (i_seq (x_v (pv 2))) (blkOk_by (own := [("row", 4), ("thing", 5)]) (by rfl)) (by decide) (by decide) (by decide) (fun _ _ _ _ _ => (g_name (i := 4) sc_lots_among.nd rfl (by first | exact Or.inl rfl | exact Or.inr rfl))) (fun _ _ _ _ _ => ts_nil) (fun _ _ _ _ _ => (i_seq (x_v (pv 0)))) (fun _ _ _ _ _ => (g_name (i := 5) sc_lots_among.nd rfl (by first | exact Or.inl rfl | exact Or.inr rfl))) (fun _ _ _ _ _ => (ts_one (t_w (w_or (t_not (t_tru (x_v (pv 4)))) (w_or1 (t_cmp op_lt op2_lt (x_ix (ixr_all hr.units1) op2_ix (x_v (pv 4)) (x_neg x_int) (by intros _ _; rfl)) (x_v (pv 5)) (nomark _))))))) (fun _ _ _ _ _ => (x_op opr_add op2_add (x_v (pv 4)) (x_tup (xa_cons (x_v (pv 5)) xa_nil)))))))
  (b_one (s_ret (x_v (pv 2))))))
theorem cal_lots_among (F : FnP K "lots_among" s_lots_among f fd) (hm : mg "lots_among" = some (.ref f)) (D0 : FnD P w K mg base cf 1 f fd ps_lots_among d_lots_among) : CalD P w K mg base cf 1 "lots_among" ps_lots_among d_lots_among :=
  .of F hm D0 fun _ _ _ _ _ _ us hl => match us, hl with | [_, _], _ => rfl

/-! mask_of -/
abbrev N_mask_of : List Str := ["lot", "mask", "thing"]
abbrev ps_mask_of : List Str := ["lot"]
def c_mask_of : Es := (cSeq (cSet 1 (cC (.int 0)))
  (cSeq (cFor (iSeq (cV 0)) (gN 2) (cSet 1 (c2 orD (cV 1) (c2 shlD (cC (.int 1)) (cV 2)))))
  (cRet (cV 1))))
def sl_mask_of : List Nat := [1, 2, 1]
def d_mask_of : Df := mkDf sl_mask_of 2 c_mask_of
theorem sc_mask_of : FnScope N_mask_of ps_mask_of (defScope s_mask_of) := ⟨rfl, rfl, rfl, by decide +kernel, rfl, by decide +kernel, by decide +kernel⟩
theorem ok_mask_of (F : FnP K "mask_of" s_mask_of f fd) : FnD P w K mg base cf 1 f fd ps_mask_of d_mask_of :=
  fnD (c := c_mask_of) (sl := sl_mask_of) F sc_mask_of rfl fun CX cdv A outer s H E hr =>
  (b_cons (s_set (i := 1) sc_mask_of.nd rfl (by first | exact Or.inl rfl | exact Or.inr rfl) x_int)
  (b_cons (s_for PassesOwn.never rfl (i_seq (x_v (pv 0))) (g_name (i := 2) sc_mask_of.nd rfl (by first | exact Or.inl rfl | exact Or.inr rfl)) (b_one (s_set (i := 1) sc_mask_of.nd rfl (by first | exact Or.inl rfl | exact Or.inr rfl) (x_op op_or op2_or (x_v (pv 1)) (x_op op_shl op2_shl x_int (x_v (pv 2)))))))
  (b_one (s_ret (x_v (pv 1))))))
theorem cal_mask_of (F : FnP K "mask_of" s_mask_of f fd) (hm : mg "mask_of" = some (.ref f)) (D0 : FnD P w K mg base cf 1 f fd ps_mask_of d_mask_of) : CalD P w K mg base cf 1 "mask_of" ps_mask_of d_mask_of :=
  .of F hm D0 fun _ _ _ _ _ _ us hl => match us, hl with | [_], _ => rfl

/-! table_lots -/
abbrev N_table_lots : List Str := ["things", "size"]
abbrev ps_table_lots : List Str := ["things", "size"]
def c_table_lots : Es := (cRet (cCall 2 d_lots_among (gCons (c1 (rgTD fun ns => Ov.tI ns) (cV 0)) (gCons (cV 1) gNil))))
def sl_table_lots : List Nat := []
def d_table_lots : Df := mkDf sl_table_lots 0 c_table_lots
theorem sc_table_lots : FnScope N_table_lots ps_table_lots (defScope s_table_lots) := ⟨rfl, rfl, rfl, by decide +kernel, rfl, by decide +kernel, by decide +kernel⟩
theorem ok_table_lots (F : FnP K "table_lots" s_table_lots f fd) (B : Bs mg) (C_lots_among : CalD P w K mg base cf 1 "lots_among" ps_lots_among d_lots_among) : FnD P w K mg base cf 2 f fd ps_table_lots d_table_lots :=
  fnD (c := c_table_lots) (sl := sl_table_lots) F sc_table_lots rfl fun CX cdv A outer s H E hr =>
  (b_one (s_ret (x_callC C_lots_among hr (by decide) (by rfl) (ag_cons (x_tupRg rfl (by rfl) B.tuple (by rfl) B.range (x_v (pv 0))) (ag_cons (x_v (pv 1)) ag_nil)))))
theorem cal_table_lots (F : FnP K "table_lots" s_table_lots f fd) (hm : mg "table_lots" = some (.ref f)) (D0 : FnD P w K mg base cf 2 f fd ps_table_lots d_table_lots) : CalD P w K mg base cf 2 "table_lots" ps_table_lots d_table_lots :=
  .of F hm D0 fun _ _ _ _ _ _ us hl => match us, hl with | [_, _], _ => rfl

/-! add_worths -/
abbrev N_add_worths : List Str := ["one", "other"]
abbrev ps_add_worths : List Str := ["one", "other"]
def c_add_worths : Es := (cSeq (cIfS (cOr (cT (c2 isD (cV 0) (cC .non))) (cT (c2 isD (cV 1) (cC .non)))) (cRet (cC .non)) cNx)
  (cRet (c2 addD (cV 0) (cV 1))))
def sl_add_worths : List Nat := []
def d_add_worths : Df := mkDf sl_add_worths 0 c_add_worths
theorem sc_add_worths : FnScope N_add_worths ps_add_worths (defScope s_add_worths) := ⟨rfl, rfl, rfl, by decide +kernel, rfl, by decide +kernel, by decide +kernel⟩
theorem ok_add_worths (F : FnP K "add_worths" s_add_worths f fd) : FnD P w K mg base cf 1 f fd ps_add_worths d_add_worths :=
  fnD (c := c_add_worths) (sl := sl_add_worths) F sc_add_worths rfl fun CX cdv A outer s H E hr =>
  (b_cons (s_if (t_w (w_or (t_cmp op_isN op2_is (x_v (pv 0)) x_non (nomark _)) (w_or1 (t_cmp op_isN op2_is (x_v (pv 1)) x_non (nomark _))))) (b_one (s_ret x_non)) b_nil)
  (b_one (s_ret (x_op opr_add op2_add (x_v (pv 0)) (x_v (pv 1))))))
theorem cal_add_worths (F : FnP K "add_worths" s_add_worths f fd) (hm : mg "add_worths" = some (.ref f)) (D0 : FnD P w K mg base cf 1 f fd ps_add_worths d_add_worths) : CalD P w K mg base cf 1 "add_worths" ps_add_worths d_add_worths :=
  .of F hm D0 fun _ _ _ _ _ _ us hl => match us, hl with | [_, _], _ => rfl

/-! check_worths -/
abbrev N_check_worths : List Str := ["worths", "count", "place", "worth"]
abbrev ps_check_worths : List Str := ["worths", "count"]
def c_check_worths : Es := (cSeq (cIfS (cOr (cNot (cTr (c1 (isiE2 "list" "tuple") (cV 0)))) (cT (c2 neD (c1 lenD (cV 0)) (cV 1)))) cNever cNx)
  (cSeq (cFor (iEnum (cV 0)) (gT 2 (gCons' (gN 2) (gCons' (gN 3) gNil'))) (cIfS (cAnd (cT (c2 isnD (cV 3) (cC .non))) (cNot (cTr (cCall 1 d_is_integer (gCons (cV 3) gNil))))) cNever cNx))
  (cSeq (cIfS (cTr (c1 allD (cLc [3] (iSeq (cV 0)) (gN 3) cYes (c2 isD (cV 3) (cC .non))))) cNever cNx)
  (cRet (c1 tupleD (cV 0))))))
def sl_check_worths : List Nat := [2, 3]
def d_check_worths : Df := mkDf sl_check_worths 2 c_check_worths
theorem sc_check_worths : FnScope N_check_worths ps_check_worths (defScope s_check_worths) := ⟨rfl, rfl, rfl, by decide +kernel, rfl, by decide +kernel, by decide +kernel⟩
theorem ok_check_worths (F : FnP K "check_worths" s_check_worths f fd) (B : Bs mg) (C_is_integer : CalD P w K mg base cf 1 "is_integer" ps_is_integer d_is_integer) : FnD P w K mg base cf 2 f fd ps_check_worths d_check_worths :=
  fnD (c := c_check_worths) (sl := sl_check_worths) F sc_check_worths rfl fun CX cdv A outer s H E hr =>
  (b_cons (s_if (t_w (w_or (t_not (t_tru (x_isi2 (by rfl) B.isinstance (by rfl) B.list boot_list (by rfl) B.tuple boot_tuple (x_v (pv 0))))) (w_or1 (t_cmp (op_neD hr.units) op2_ne (x_cb1 call_len_seq op1_len (by rfl) B.len boot_len (x_v (pv 0))) (x_v (pv 1)) (nomark _))))) (b_one s_never) b_nil)
  (b_cons (s_for PassesOwn.never rfl (i_enum (by rfl) B.enumerate (x_v (pv 0))) (g_tup rfl (gs_cons (g_name (i := 2) sc_check_worths.nd rfl (by first | exact Or.inl rfl | exact Or.inr rfl)) (gs_cons (g_name (i := 3) sc_check_worths.nd rfl (by first | exact Or.inl rfl | exact Or.inr rfl)) gs_nil))) (b_one (s_if (t_w (w_and (t_cmp op_notN op2_isn (x_v (pv 3)) x_non (nomark _)) (w_and1 (t_not (t_tru (x_callC C_is_integer hr (by decide) (by rfl) (ag_cons (x_v (pv 3)) ag_nil))))))) (b_one s_never) b_nil)))
  (b_cons (s_if (t_tru (x_cb1 (cr_all rfl) op1_all (by rfl) B.all boot_all (x_o (o_lc rfl sc_check_worths.nd (i_seq (x_v (pv 0))) (blkOk_by (own := [("worth", 3)]) (by rfl)) (by decide) (fun _ _ _ _ _ => (g_name (i := 3) sc_check_worths.nd rfl (by first | exact Or.inl rfl | exact Or.inr rfl))) (fun _ _ _ _ _ => ts_nil) (fun _ _ _ _ _ => (x_cmp op_isN op2_is (x_v (pv 3)) x_non (nomark _))))))) (b_one s_never) b_nil)
  (b_one (s_ret (x_ct1 call_tuple_of op1_tuple (by rfl) B.tuple boot_tuple (x_v (pv 0))))))))
theorem cal_check_worths (F : FnP K "check_worths" s_check_worths f fd) (hm : mg "check_worths" = some (.ref f)) (D0 : FnD P w K mg base cf 2 f fd ps_check_worths d_check_worths) : CalD P w K mg base cf 2 "check_worths" ps_check_worths d_check_worths :=
  .of F hm D0 fun _ _ _ _ _ _ us hl => match us, hl with | [_, _], _ => rfl

/-! four_list -/
abbrev N_four_list : List Str := ["table", "lows", "low", "four"]
abbrev ps_four_list : List Str := ["table"]
def c_four_list : Es := (cSeq (cIfS (cT (c2 ltD (c1 (atD "Table" 1) (cV 0)) (cC (.int 2)))) (cRet (cLst aNil)) cNx)
  (cSeq (cSet 1 (cCall 2 d_lots_among (gCons (c1 (rgTD fun ns => Ov.tI ns) (c1 (atD "Table" 0) (cV 0))) (gCons (c2 subD (c1 (atD "Table" 1) (cV 0)) (cC (.int 2))) gNil))))
  (cRet (cLc2 [2, 3] [3] (iSeq (cV 1)) (gN 2) cYes (iSeq (cCall 2 d_lots_among (gCons (cCall 2 d_outside (gCons (cV 2) (gCons (c1 (atD "Table" 0) (cV 0)) gNil))) (gCons (cC (.int 4)) gNil)))) (gN 3) cYes (cTup (aCons (cV 2) (aCons (cV 3) aNil)))))))
def sl_four_list : List Nat := [1]
def d_four_list : Df := mkDf sl_four_list 3 c_four_list
theorem sc_four_list : FnScope N_four_list ps_four_list (defScope s_four_list) := ⟨rfl, rfl, rfl, by decide +kernel, rfl, by decide +kernel, by decide +kernel⟩
theorem ok_four_list (F : FnP K "four_list" s_four_list f fd) (B : Bs mg) (T_Table : L2.SCls K (He.ga K "Table")) (T_Table_size : L2.Slt K (He.ga K "Table") "size" (sx 1) a_size) (T_Table_things : L2.Slt K (He.ga K "Table") "things" (sx 0) a_things) (C_lots_among : CalD P w K mg base cf 1 "lots_among" ps_lots_among d_lots_among) (C_outside : CalD P w K mg base cf 1 "outside" ps_outside d_outside) : FnD P w K mg base cf 2 f fd ps_four_list d_four_list :=
  fnD (c := c_four_list) (sl := sl_four_list) F sc_four_list rfl fun CX cdv A outer s H E hr =>
  (b_cons (s_if (t_cmp op_lt op2_lt (x_at T_Table T_Table_size (x_v (pv 0))) x_int (nomark _)) (b_one (s_ret (x_o (o_lst xa_nil)))) b_nil)
  (b_cons (s_set (i := 1) sc_four_list.nd rfl (by first | exact Or.inl rfl | exact Or.inr rfl) (x_callC C_lots_among hr (by decide) (by rfl) (ag_cons (x_tupRg rfl (by rfl) B.tuple (by rfl) B.range (x_at T_Table T_Table_things (x_v (pv 0)))) (ag_cons (x_op op_sub op2_sub (x_at T_Table T_Table_size (x_v (pv 0))) x_int) ag_nil))))
  (b_one (s_ret (x_o (o_lc2 (vs1 := [3]) rfl sc_four_list.nd (i_seq (x_v (pv 1))) (blkOk_by (own := [("low", 2), ("four", 3)]) (by rfl)) (by decide) (by decide) (by decide) (fun _ _ _ _ _ => (g_name (i := 2) sc_four_list.nd rfl (by first | exact Or.inl rfl | exact Or.inr rfl))) (fun _ _ _ _ _ => ts_nil) (fun _ _ _ _ _ => (i_seq (x_callC C_lots_among hr (by decide) (by rfl) (ag_cons (x_callC C_outside hr (by decide) (by rfl) (ag_cons (x_v (pv 2)) (ag_cons (x_at T_Table T_Table_things (x_v (pv 0))) ag_nil))) (ag_cons x_int ag_nil))))) (fun _ _ _ _ _ => (g_name (i := 3) sc_four_list.nd rfl (by first | exact Or.inl rfl | exact Or.inr rfl))) (fun _ _ _ _ _ => ts_nil) (fun _ _ _ _ _ => (x_tup (xa_cons (x_v (pv 2)) (xa_cons (x_v (pv 3)) xa_nil))))))))))
theorem cal_four_list (F : FnP K "four_list" s_four_list f fd) (hm : mg "four_list" = some (.ref f)) (D0 : FnD P w K mg base cf 2 f fd ps_four_list d_four_list) : CalD P w K mg base cf 2 "four_list" ps_four_list d_four_list :=
  .of F hm D0 fun _ _ _ _ _ _ us hl => match us, hl with | [_], _ => rfl

/-! worth_with -/
abbrev N_worth_with : List Str := ["table", "low", "one", "two"]
abbrev ps_worth_with : List Str := ["table", "low", "one", "two"]
def c_worth_with : Es := (cRet (c2 getDD (c1 (atD "Table" 4) (cV 0)) (c1 tupleD (c1 sortedD (c2 addD (cV 1) (cTup (aCons (cV 2) (aCons (cV 3) aNil))))))))
def sl_worth_with : List Nat := []
def d_worth_with : Df := mkDf sl_worth_with 0 c_worth_with
theorem sc_worth_with : FnScope N_worth_with ps_worth_with (defScope s_worth_with) := ⟨rfl, rfl, rfl, by decide +kernel, rfl, by decide +kernel, by decide +kernel⟩
theorem ok_worth_with (F : FnP K "worth_with" s_worth_with f fd) (B : Bs mg) (T_Table : L2.SCls K (He.ga K "Table")) (T_Table__by : L2.Slt K (He.ga K "Table") "_by" (sx 4) a__by) : FnD P w K mg base cf 1 f fd ps_worth_with d_worth_with :=
  fnD (c := c_worth_with) (sl := sl_worth_with) F sc_worth_with rfl fun CX cdv A outer s H E hr =>
  (b_one (s_ret (x_get hr.units1 (x_at T_Table T_Table__by (x_v (pv 0))) (x_ct1 call_tuple_of op1_tuple (by rfl) B.tuple boot_tuple (x_o (o_cb1 cr_sortedA op1_sorted (by rfl) B.sorted boot_sorted (x_op opr_add op2_add (x_v (pv 1)) (x_tup (xa_cons (x_v (pv 2)) (xa_cons (x_v (pv 3)) xa_nil))))))) ⟨by rfl, by rfl, by rfl, by rfl⟩)))
theorem cal_worth_with (F : FnP K "worth_with" s_worth_with f fd) (hm : mg "worth_with" = some (.ref f)) (D0 : FnD P w K mg base cf 1 f fd ps_worth_with d_worth_with) : CalD P w K mg base cf 1 "worth_with" ps_worth_with d_worth_with :=
  .of F hm D0 fun _ _ _ _ _ _ us hl => match us, hl with | [_, _, _, _], _ => rfl

/-! pair_sum -/
abbrev N_pair_sum : List Str := ["table", "low", "pairs", "a", "b", "c", "d"]
abbrev ps_pair_sum : List Str := ["table", "low", "pairs"]
def c_pair_sum : Es := (cSeq (fun ρ => ((cV 2) ρ).bind fun p => ((gT 4 (gCons' (gN 3) (gCons' (gN 4) (gCons' (gN 5) (gCons' (gN 6) gNil'))))) p.1 p.2).bind fun ρ' => some (.nx, ρ'))
  (cRet (cCall 2 d_add_worths (gCons (cCall 4 d_worth_with (gCons (cV 0) (gCons (cV 1) (gCons (cV 3) (gCons (cV 4) gNil))))) (gCons (cCall 4 d_worth_with (gCons (cV 0) (gCons (cV 1) (gCons (cV 5) (gCons (cV 6) gNil))))) gNil)))))
def sl_pair_sum : List Nat := [3, 4, 5, 6]
def d_pair_sum : Df := mkDf sl_pair_sum 4 c_pair_sum
theorem sc_pair_sum : FnScope N_pair_sum ps_pair_sum (defScope s_pair_sum) := ⟨rfl, rfl, rfl, by decide +kernel, rfl, by decide +kernel, by decide +kernel⟩
theorem ok_pair_sum (F : FnP K "pair_sum" s_pair_sum f fd) (C_add_worths : CalD P w K mg base cf 1 "add_worths" ps_add_worths d_add_worths) (C_worth_with : CalD P w K mg base cf 1 "worth_with" ps_worth_with d_worth_with) : FnD P w K mg base cf 2 f fd ps_pair_sum d_pair_sum :=
  fnD (c := c_pair_sum) (sl := sl_pair_sum) F sc_pair_sum rfl fun CX cdv A outer s H E hr =>
  (b_cons (s_asg (x_v (pv 2)) (g_tup rfl (gs_cons (g_name (i := 3) sc_pair_sum.nd rfl (by first | exact Or.inl rfl | exact Or.inr rfl)) (gs_cons (g_name (i := 4) sc_pair_sum.nd rfl (by first | exact Or.inl rfl | exact Or.inr rfl)) (gs_cons (g_name (i := 5) sc_pair_sum.nd rfl (by first | exact Or.inl rfl | exact Or.inr rfl)) (gs_cons (g_name (i := 6) sc_pair_sum.nd rfl (by first | exact Or.inl rfl | exact Or.inr rfl)) gs_nil))))))
  (b_one (s_ret (x_callC C_add_worths hr (by decide) (by rfl) (ag_cons (x_callC C_worth_with hr (by decide) (by rfl) (ag_cons (x_v (pv 0)) (ag_cons (x_v (pv 1)) (ag_cons (x_v (pv 3)) (ag_cons (x_v (pv 4)) ag_nil))))) (ag_cons (x_callC C_worth_with hr (by decide) (by rfl) (ag_cons (x_v (pv 0)) (ag_cons (x_v (pv 1)) (ag_cons (x_v (pv 5)) (ag_cons (x_v (pv 6)) ag_nil))))) ag_nil))))))
theorem cal_pair_sum (F : FnP K "pair_sum" s_pair_sum f fd) (hm : mg "pair_sum" = some (.ref f)) (D0 : FnD P w K mg base cf 2 f fd ps_pair_sum d_pair_sum) : CalD P w K mg base cf 2 "pair_sum" ps_pair_sum d_pair_sum :=
  .of F hm D0 fun _ _ _ _ _ _ us hl => match us, hl with | [_, _, _], _ => rfl

/-! sums_at -/
abbrev N_sums_at : List Str := ["table", "low", "four", "a", "b", "c", "d"]
abbrev ps_sums_at : List Str := ["table", "low", "four"]
def c_sums_at : Es := (cSeq (fun ρ => ((cV 2) ρ).bind fun p => ((gT 4 (gCons' (gN 3) (gCons' (gN 4) (gCons' (gN 5) (gCons' (gN 6) gNil'))))) p.1 p.2).bind fun ρ' => some (.nx, ρ'))
  (cRet (cTup (aCons (cCall 3 d_pair_sum (gCons (cV 0) (gCons (cV 1) (gCons (cTup (aCons (cV 3) (aCons (cV 4) (aCons (cV 5) (aCons (cV 6) aNil))))) gNil)))) (aCons (cCall 3 d_pair_sum (gCons (cV 0) (gCons (cV 1) (gCons (cTup (aCons (cV 3) (aCons (cV 5) (aCons (cV 4) (aCons (cV 6) aNil))))) gNil)))) (aCons (cCall 3 d_pair_sum (gCons (cV 0) (gCons (cV 1) (gCons (cTup (aCons (cV 3) (aCons (cV 6) (aCons (cV 4) (aCons (cV 5) aNil))))) gNil)))) aNil))))))
def sl_sums_at : List Nat := [3, 4, 5, 6]
def d_sums_at : Df := mkDf sl_sums_at 4 c_sums_at
theorem sc_sums_at : FnScope N_sums_at ps_sums_at (defScope s_sums_at) := ⟨rfl, rfl, rfl, by decide +kernel, rfl, by decide +kernel, by decide +kernel⟩
theorem ok_sums_at (F : FnP K "sums_at" s_sums_at f fd) (C_pair_sum : CalD P w K mg base cf 2 "pair_sum" ps_pair_sum d_pair_sum) : FnD P w K mg base cf 3 f fd ps_sums_at d_sums_at :=
  fnD (c := c_sums_at) (sl := sl_sums_at) F sc_sums_at rfl fun CX cdv A outer s H E hr =>
  (b_cons (s_asg (x_v (pv 2)) (g_tup rfl (gs_cons (g_name (i := 3) sc_sums_at.nd rfl (by first | exact Or.inl rfl | exact Or.inr rfl)) (gs_cons (g_name (i := 4) sc_sums_at.nd rfl (by first | exact Or.inl rfl | exact Or.inr rfl)) (gs_cons (g_name (i := 5) sc_sums_at.nd rfl (by first | exact Or.inl rfl | exact Or.inr rfl)) (gs_cons (g_name (i := 6) sc_sums_at.nd rfl (by first | exact Or.inl rfl | exact Or.inr rfl)) gs_nil))))))
  (b_one (s_ret (x_tup (xa_cons (x_callC C_pair_sum hr (by decide) (by rfl) (ag_cons (x_v (pv 0)) (ag_cons (x_v (pv 1)) (ag_cons (x_tup (xa_cons (x_v (pv 3)) (xa_cons (x_v (pv 4)) (xa_cons (x_v (pv 5)) (xa_cons (x_v (pv 6)) xa_nil))))) ag_nil)))) (xa_cons (x_callC C_pair_sum hr (by decide) (by rfl) (ag_cons (x_v (pv 0)) (ag_cons (x_v (pv 1)) (ag_cons (x_tup (xa_cons (x_v (pv 3)) (xa_cons (x_v (pv 5)) (xa_cons (x_v (pv 4)) (xa_cons (x_v (pv 6)) xa_nil))))) ag_nil)))) (xa_cons (x_callC C_pair_sum hr (by decide) (by rfl) (ag_cons (x_v (pv 0)) (ag_cons (x_v (pv 1)) (ag_cons (x_tup (xa_cons (x_v (pv 3)) (xa_cons (x_v (pv 6)) (xa_cons (x_v (pv 4)) (xa_cons (x_v (pv 5)) xa_nil))))) ag_nil)))) xa_nil)))))))
theorem cal_sums_at (F : FnP K "sums_at" s_sums_at f fd) (hm : mg "sums_at" = some (.ref f)) (D0 : FnD P w K mg base cf 3 f fd ps_sums_at d_sums_at) : CalD P w K mg base cf 3 "sums_at" ps_sums_at d_sums_at :=
  .of F hm D0 fun _ _ _ _ _ _ us hl => match us, hl with | [_, _, _], _ => rfl

/-! four_sums -/
abbrev N_four_sums : List Str := ["table", "low", "four", "told", "others", "thing"]
abbrev ps_four_sums : List Str := ["table", "low", "four"]
def c_four_sums : Es := (cSeq (cSet 3 (cCall 3 d_sized_lot (gCons (cV 1) (gCons (c1 (atD "Table" 0) (cV 0)) (gCons (c2 subD (c1 (atD "Table" 1) (cV 0)) (cC (.int 2))) gNil)))))
  (cSeq (cSet 4 (cCall 3 d_sized_lot (gCons (cV 2) (gCons (c1 (atD "Table" 0) (cV 0)) (gCons (cC (.int 4)) gNil)))))
  (cSeq (cIfS (cTr (c1 anyD (cLc [5] (iSeq (cV 4)) (gN 5) cYes (c2 inD (cV 5) (cV 3))))) cNever cNx)
  (cRet (cCall 3 d_sums_at (gCons (cV 0) (gCons (cV 3) (gCons (cV 4) gNil))))))))
def sl_four_sums : List Nat := [3, 4]
def d_four_sums : Df := mkDf sl_four_sums 3 c_four_sums
theorem sc_four_sums : FnScope N_four_sums ps_four_sums (defScope s_four_sums) := ⟨rfl, rfl, rfl, by decide +kernel, rfl, by decide +kernel, by decide +kernel⟩
theorem ok_four_sums (F : FnP K "four_sums" s_four_sums f fd) (B : Bs mg) (T_Table : L2.SCls K (He.ga K "Table")) (T_Table_size : L2.Slt K (He.ga K "Table") "size" (sx 1) a_size) (T_Table_things : L2.Slt K (He.ga K "Table") "things" (sx 0) a_things) (C_sized_lot : CalD P w K mg base cf 4 "sized_lot" ps_sized_lot d_sized_lot) (C_sums_at : CalD P w K mg base cf 3 "sums_at" ps_sums_at d_sums_at) : FnD P w K mg base cf 5 f fd ps_four_sums d_four_sums :=
  fnD (c := c_four_sums) (sl := sl_four_sums) F sc_four_sums rfl fun CX cdv A outer s H E hr =>
  (b_cons (s_set (i := 3) sc_four_sums.nd rfl (by first | exact Or.inl rfl | exact Or.inr rfl) (x_callC C_sized_lot hr (by decide) (by rfl) (ag_cons (x_v (pv 1)) (ag_cons (x_at T_Table T_Table_things (x_v (pv 0))) (ag_cons (x_op op_sub op2_sub (x_at T_Table T_Table_size (x_v (pv 0))) x_int) ag_nil)))))
  (b_cons (s_set (i := 4) sc_four_sums.nd rfl (by first | exact Or.inl rfl | exact Or.inr rfl) (x_callC C_sized_lot hr (by decide) (by rfl) (ag_cons (x_v (pv 2)) (ag_cons (x_at T_Table T_Table_things (x_v (pv 0))) (ag_cons x_int ag_nil)))))
  (b_cons (s_if (t_tru (x_cb1 (cr_any rfl) op1_any (by rfl) B.any boot_any (x_o (o_lc rfl sc_four_sums.nd (i_seq (x_v (pv 4))) (blkOk_by (own := [("thing", 5)]) (by rfl)) (by decide) (fun _ _ _ _ _ => (g_name (i := 5) sc_four_sums.nd rfl (by first | exact Or.inl rfl | exact Or.inr rfl))) (fun _ _ _ _ _ => ts_nil) (fun _ _ _ _ _ => (x_cmp (opr_in hr.units1) op2_in (x_v (pv 5)) (x_v (pv 3)) (by with_unfolding_all rfl))))))) (b_one s_never) b_nil)
  (b_one (s_ret (x_callC C_sums_at hr (by decide) (by rfl) (ag_cons (x_v (pv 0)) (ag_cons (x_v (pv 3)) (ag_cons (x_v (pv 4)) ag_nil)))))))))
theorem cal_four_sums (F : FnP K "four_sums" s_four_sums f fd) (hm : mg "four_sums" = some (.ref f)) (D0 : FnD P w K mg base cf 5 f fd ps_four_sums d_four_sums) : CalD P w K mg base cf 5 "four_sums" ps_four_sums d_four_sums :=
  .of F hm D0 fun _ _ _ _ _ _ us hl => match us, hl with | [_, _, _], _ => rfl

/-! twice_in -/
abbrev N_twice_in : List Str := ["numbers", "told", "most", "number"]
abbrev ps_twice_in : List Str := ["numbers"]
def c_twice_in : Es := (cSeq (cSet 1 (cLc [3] (iSeq (cV 0)) (gN 3) (cT (c2 isnD (cV 3) (cC .non))) (cV 3)))
  (cSeq (cIfS (cNot (cTr (cV 1))) (cRet (cC (.bl true))) cNx)
  (cSeq (cSet 2 (c1 maxD (cV 1)))
  (cRet (c2 gtD (c1 lenD (cLc [3] (iSeq (cV 1)) (gN 3) (cT (c2 eqD (cV 3) (cV 2))) (cV 3))) (cC (.int 1)))))))
def sl_twice_in : List Nat := [1, 2]
def d_twice_in : Df := mkDf sl_twice_in 3 c_twice_in
theorem sc_twice_in : FnScope N_twice_in ps_twice_in (defScope s_twice_in) := ⟨rfl, rfl, rfl, by decide +kernel, rfl, by decide +kernel, by decide +kernel⟩
theorem ok_twice_in (F : FnP K "twice_in" s_twice_in f fd) (B : Bs mg) : FnD P w K mg base cf 1 f fd ps_twice_in d_twice_in :=
  fnD (c := c_twice_in) (sl := sl_twice_in) F sc_twice_in rfl fun CX cdv A outer s H E hr =>
  (b_cons (s_setLc (i := 1) rfl sc_twice_in.nd rfl rfl rfl (i_seq (x_v (pv 0))) (blkOk_by (own := [("number", 3)]) (by rfl)) (by decide) (fun _ _ _ _ _ => (g_name (i := 3) sc_twice_in.nd rfl (by first | exact Or.inl rfl | exact Or.inr rfl))) (fun _ _ _ _ _ => (ts_one (t_cmp op_notN op2_isn (x_v (pv 3)) x_non (nomark _)))) (fun _ _ _ _ _ => (x_v (pv 3))))
  (b_cons (s_if (t_not (t_tru (x_v (pv 1)))) (b_one (s_ret x_bl)) b_nil)
  (b_cons (s_set (i := 2) sc_twice_in.nd rfl (by first | exact Or.inl rfl | exact Or.inr rfl) (x_cb1 (cr_max rfl) op1_max (by rfl) B.max boot_max (x_v (pv 1))))
  (b_one (s_ret (x_cmp op_gt op2_gt (x_cb1 call_len_seq op1_len (by rfl) B.len boot_len (x_o (o_lc rfl sc_twice_in.nd (i_seq (x_v (pv 1))) (blkOk_by (own := [("number", 3)]) (by rfl)) (by decide) (fun _ _ _ _ _ => (g_name (i := 3) sc_twice_in.nd rfl (by first | exact Or.inl rfl | exact Or.inr rfl))) (fun _ _ _ _ _ => (ts_one (t_cmp (op_eqD hr.units) op2_eq (x_v (pv 3)) (x_v (pv 2)) (nomark _)))) (fun _ _ _ _ _ => (x_v (pv 3)))))) x_int (nomark _)))))))
theorem cal_twice_in (F : FnP K "twice_in" s_twice_in f fd) (hm : mg "twice_in" = some (.ref f)) (D0 : FnD P w K mg base cf 1 f fd ps_twice_in d_twice_in) : CalD P w K mg base cf 1 "twice_in" ps_twice_in d_twice_in :=
  .of F hm D0 fun _ _ _ _ _ _ us hl => match us, hl with | [_], _ => rfl

/-! is_twice -/
abbrev N_is_twice : List Str := ["numbers", "place", "number"]
abbrev ps_is_twice : List Str := ["numbers"]
def c_is_twice : Es := (cSeq (cIfS (cNot (cTr (c1 (isiE2 "list" "tuple") (cV 0)))) cNever cNx)
  (cSeq (cFor (iEnum (cV 0)) (gT 2 (gCons' (gN 1) (gCons' (gN 2) gNil'))) (cIfS (cAnd (cT (c2 isnD (cV 2) (cC .non))) (cNot (cTr (cCall 1 d_is_integer (gCons (cV 2) gNil))))) cNever cNx))
  (cRet (cCall 1 d_twice_in (gCons (cV 0) gNil)))))
def sl_is_twice : List Nat := [1, 2]
def d_is_twice : Df := mkDf sl_is_twice 2 c_is_twice
theorem sc_is_twice : FnScope N_is_twice ps_is_twice (defScope s_is_twice) := ⟨rfl, rfl, rfl, by decide +kernel, rfl, by decide +kernel, by decide +kernel⟩
theorem ok_is_twice (F : FnP K "is_twice" s_is_twice f fd) (B : Bs mg) (C_is_integer : CalD P w K mg base cf 1 "is_integer" ps_is_integer d_is_integer) (C_twice_in : CalD P w K mg base cf 1 "twice_in" ps_twice_in d_twice_in) : FnD P w K mg base cf 2 f fd ps_is_twice d_is_twice :=
  fnD (c := c_is_twice) (sl := sl_is_twice) F sc_is_twice rfl fun CX cdv A outer s H E hr =>
  (b_cons (s_if (t_not (t_tru (x_isi2 (by rfl) B.isinstance (by rfl) B.list boot_list (by rfl) B.tuple boot_tuple (x_v (pv 0))))) (b_one s_never) b_nil)
  (b_cons (s_for PassesOwn.never rfl (i_enum (by rfl) B.enumerate (x_v (pv 0))) (g_tup rfl (gs_cons (g_name (i := 1) sc_is_twice.nd rfl (by first | exact Or.inl rfl | exact Or.inr rfl)) (gs_cons (g_name (i := 2) sc_is_twice.nd rfl (by first | exact Or.inl rfl | exact Or.inr rfl)) gs_nil))) (b_one (s_if (t_w (w_and (t_cmp op_notN op2_isn (x_v (pv 2)) x_non (nomark _)) (w_and1 (t_not (t_tru (x_callC C_is_integer hr (by decide) (by rfl) (ag_cons (x_v (pv 2)) ag_nil))))))) (b_one s_never) b_nil)))
  (b_one (s_ret (x_callC C_twice_in hr (by decide) (by rfl) (ag_cons (x_v (pv 0)) ag_nil))))))
theorem cal_is_twice (F : FnP K "is_twice" s_is_twice f fd) (hm : mg "is_twice" = some (.ref f)) (D0 : FnD P w K mg base cf 2 f fd ps_is_twice d_is_twice) : CalD P w K mg base cf 2 "is_twice" ps_is_twice d_is_twice :=
  .of F hm D0 fun _ _ _ _ _ _ us hl => match us, hl with | [_], _ => rfl

/-! broken_fours -/
abbrev N_broken_fours : List Str := ["table", "low", "four"]
abbrev ps_broken_fours : List Str := ["table"]
def c_broken_fours : Es := (cRet (c1 tupleD (cLc [1, 2] (iSeq (cCall 1 d_four_list (gCons (cV 0) gNil))) (gT 2 (gCons' (gN 1) (gCons' (gN 2) gNil'))) (cNot (cTr (cCall 1 d_twice_in (gCons (cCall 3 d_sums_at (gCons (cV 0) (gCons (cV 1) (gCons (cV 2) gNil)))) gNil)))) (cTup (aCons (cV 1) (aCons (cV 2) aNil))))))
def sl_broken_fours : List Nat := []
def d_broken_fours : Df := mkDf sl_broken_fours 2 c_broken_fours
theorem sc_broken_fours : FnScope N_broken_fours ps_broken_fours (defScope s_broken_fours) := ⟨rfl, rfl, rfl, by decide +kernel, rfl, by decide +kernel, by decide +kernel⟩
theorem ok_broken_fours (F : FnP K "broken_fours" s_broken_fours f fd) (B : Bs mg) (C_four_list : CalD P w K mg base cf 2 "four_list" ps_four_list d_four_list) (C_sums_at : CalD P w K mg base cf 3 "sums_at" ps_sums_at d_sums_at) (C_twice_in : CalD P w K mg base cf 1 "twice_in" ps_twice_in d_twice_in) : FnD P w K mg base cf 4 f fd ps_broken_fours d_broken_fours :=
  fnD (c := c_broken_fours) (sl := sl_broken_fours) F sc_broken_fours rfl fun CX cdv A outer s H E hr =>
  (b_one (s_ret (x_ct1 call_tuple_of op1_tuple (by rfl) B.tuple boot_tuple (x_o (o_lc rfl sc_broken_fours.nd (i_seq (x_callC C_four_list hr (by decide) (by rfl) (ag_cons (x_v (pv 0)) ag_nil))) (blkOk_by (own := [("low", 1), ("four", 2)]) (by rfl)) (by decide) (fun _ _ _ _ _ => (g_tup rfl (gs_cons (g_name (i := 1) sc_broken_fours.nd rfl (by first | exact Or.inl rfl | exact Or.inr rfl)) (gs_cons (g_name (i := 2) sc_broken_fours.nd rfl (by first | exact Or.inl rfl | exact Or.inr rfl)) gs_nil)))) (fun _ _ _ _ _ => (ts_one (t_not (t_tru (x_callC C_twice_in hr (by decide) (by rfl) (ag_cons (x_callC C_sums_at hr (by decide) (by rfl) (ag_cons (x_v (pv 0)) (ag_cons (x_v (pv 1)) (ag_cons (x_v (pv 2)) ag_nil)))) ag_nil)))))) (fun _ _ _ _ _ => (x_tup (xa_cons (x_v (pv 1)) (xa_cons (x_v (pv 2)) xa_nil)))))))))
theorem cal_broken_fours (F : FnP K "broken_fours" s_broken_fours f fd) (hm : mg "broken_fours" = some (.ref f)) (D0 : FnD P w K mg base cf 4 f fd ps_broken_fours d_broken_fours) : CalD P w K mg base cf 4 "broken_fours" ps_broken_fours d_broken_fours :=
  .of F hm D0 fun _ _ _ _ _ _ us hl => match us, hl with | [_], _ => rfl

/-! fours_through -/
abbrev N_fours_through : List Str := ["table", "thing", "low", "four"]
abbrev ps_fours_through : List Str := ["table", "thing"]
def c_fours_through : Es := (cSeq (cDrop (cCall 2 d_check_thing (gCons (cV 1) (gCons (c1 (atD "Table" 0) (cV 0)) gNil))))
  (cRet (c1 tupleD (cLc [2, 3] (iSeq (cCall 1 d_four_list (gCons (cV 0) gNil))) (gT 2 (gCons' (gN 2) (gCons' (gN 3) gNil'))) (cT (c2 inD (cV 1) (cV 3))) (cTup (aCons (cV 2) (aCons (cV 3) aNil)))))))
def sl_fours_through : List Nat := []
def d_fours_through : Df := mkDf sl_fours_through 2 c_fours_through
theorem sc_fours_through : FnScope N_fours_through ps_fours_through (defScope s_fours_through) := ⟨rfl, rfl, rfl, by decide +kernel, rfl, by decide +kernel, by decide +kernel⟩
theorem ok_fours_through (F : FnP K "fours_through" s_fours_through f fd) (B : Bs mg) (T_Table : L2.SCls K (He.ga K "Table")) (T_Table_things : L2.Slt K (He.ga K "Table") "things" (sx 0) a_things) (C_check_thing : CalD P w K mg base cf 2 "check_thing" ps_check_thing d_check_thing) (C_four_list : CalD P w K mg base cf 2 "four_list" ps_four_list d_four_list) : FnD P w K mg base cf 3 f fd ps_fours_through d_fours_through :=
  fnD (c := c_fours_through) (sl := sl_fours_through) F sc_fours_through rfl fun CX cdv A outer s H E hr =>
  (b_cons (s_expr (x_callC C_check_thing hr (by decide) (by rfl) (ag_cons (x_v (pv 1)) (ag_cons (x_at T_Table T_Table_things (x_v (pv 0))) ag_nil))))
  (b_one (s_ret (x_ct1 call_tuple_of op1_tuple (by rfl) B.tuple boot_tuple (x_o (o_lc rfl sc_fours_through.nd (i_seq (x_callC C_four_list hr (by decide) (by rfl) (ag_cons (x_v (pv 0)) ag_nil))) (blkOk_by (own := [("low", 2), ("four", 3)]) (by rfl)) (by decide) (fun _ _ _ _ _ => (g_tup rfl (gs_cons (g_name (i := 2) sc_fours_through.nd rfl (by first | exact Or.inl rfl | exact Or.inr rfl)) (gs_cons (g_name (i := 3) sc_fours_through.nd rfl (by first | exact Or.inl rfl | exact Or.inr rfl)) gs_nil)))) (fun _ _ _ _ _ => (ts_one (t_cmp (opr_in hr.units1) op2_in (x_v (pv 1)) (x_v (pv 3)) (by with_unfolding_all rfl)))) (fun _ _ _ _ _ => (x_tup (xa_cons (x_v (pv 2)) (xa_cons (x_v (pv 3)) xa_nil))))))))))
theorem cal_fours_through (F : FnP K "fours_through" s_fours_through f fd) (hm : mg "fours_through" = some (.ref f)) (D0 : FnD P w K mg base cf 3 f fd ps_fours_through d_fours_through) : CalD P w K mg base cf 3 "fours_through" ps_fours_through d_fours_through :=
  .of F hm D0 fun _ _ _ _ _ _ us hl => match us, hl with | [_, _], _ => rfl

/-! is_no_loss -/
abbrev N_is_no_loss : List Str := ["at", "one", "other", "flip", "first", "second"]
abbrev ps_is_no_loss : List Str := ["at", "one", "other", "flip"]
def c_is_no_loss : Es := (cSeq (cSet 4 (c2 getDD (cV 0) (c2 xorD (cV 1) (cV 3))))
  (cSeq (cSet 5 (c2 getDD (cV 0) (c2 xorD (cV 2) (cV 3))))
  (cRet (cAndV (c2 isnD (cV 4) (cC .non)) (cAndV (c2 isnD (cV 5) (cC .non)) (c2 leD (c2 addD (c2 ixD (cV 0) (cV 1)) (c2 ixD (cV 0) (cV 2))) (c2 addD (cV 4) (cV 5))))))))
def sl_is_no_loss : List Nat := [4, 5]
def d_is_no_loss : Df := mkDf sl_is_no_loss 2 c_is_no_loss
theorem sc_is_no_loss : FnScope N_is_no_loss ps_is_no_loss (defScope s_is_no_loss) := ⟨rfl, rfl, rfl, by decide +kernel, rfl, by decide +kernel, by decide +kernel⟩
theorem ok_is_no_loss (F : FnP K "is_no_loss" s_is_no_loss f fd) : FnD P w K mg base cf 1 f fd ps_is_no_loss d_is_no_loss :=
  fnD (c := c_is_no_loss) (sl := sl_is_no_loss) F sc_is_no_loss rfl fun CX cdv A outer s H E hr =>
  (b_cons (s_set (i := 4) sc_is_no_loss.nd rfl (by first | exact Or.inl rfl | exact Or.inr rfl) (x_get hr.units1 (x_v (pv 0)) (x_op op_xor op2_xor (x_v (pv 1)) (x_v (pv 3))) ⟨by rfl, by rfl, by rfl, by rfl⟩))
  (b_cons (s_set (i := 5) sc_is_no_loss.nd rfl (by first | exact Or.inl rfl | exact Or.inr rfl) (x_get hr.units1 (x_v (pv 0)) (x_op op_xor op2_xor (x_v (pv 2)) (x_v (pv 3))) ⟨by rfl, by rfl, by rfl, by rfl⟩))
  (b_one (s_ret (x_and (x_cmp op_notN op2_isn (x_v (pv 4)) x_non (nomark _)) (x_and (x_cmp op_notN op2_isn (x_v (pv 5)) x_non (nomark _)) (x_one (x_cmp op_le op2_le (x_op opr_add op2_add (x_ix (ixr_all hr.units1) op2_ix (x_v (pv 0)) (x_v (pv 1)) (by intros _ _; rfl)) (x_ix (ixr_all hr.units1) op2_ix (x_v (pv 0)) (x_v (pv 2)) (by intros _ _; rfl))) (x_op opr_add op2_add (x_v (pv 4)) (x_v (pv 5))) (nomark _)))))))))
theorem cal_is_no_loss (F : FnP K "is_no_loss" s_is_no_loss f fd) (hm : mg "is_no_loss" = some (.ref f)) (D0 : FnD P w K mg base cf 1 f fd ps_is_no_loss d_is_no_loss) : CalD P w K mg base cf 1 "is_no_loss" ps_is_no_loss d_is_no_loss :=
  .of F hm D0 fun _ _ _ _ _ _ us hl => match us, hl with | [_, _, _, _], _ => rfl

/-! flips_of -/
abbrev N_flips_of : List Str := ["out", "into", "i", "j"]
abbrev ps_flips_of : List Str := ["out", "into"]
def c_flips_of : Es := (cRet (cLc2 [2, 3] [3] (iSeq (cV 0)) (gN 2) cYes (iSeq (cV 1)) (gN 3) cYes (c2 orD (c2 shlD (cC (.int 1)) (cV 2)) (c2 shlD (cC (.int 1)) (cV 3)))))
def sl_flips_of : List Nat := []
def d_flips_of : Df := mkDf sl_flips_of 2 c_flips_of
theorem sc_flips_of : FnScope N_flips_of ps_flips_of (defScope s_flips_of) := ⟨rfl, rfl, rfl, by decide +kernel, rfl, by decide +kernel, by decide +kernel⟩
theorem ok_flips_of (F : FnP K "flips_of" s_flips_of f fd) : FnD P w K mg base cf 1 f fd ps_flips_of d_flips_of :=
  fnD (c := c_flips_of) (sl := sl_flips_of) F sc_flips_of rfl fun CX cdv A outer s H E hr =>
  (b_one (s_ret (x_o (o_lc2 (vs1 := [3]) rfl sc_flips_of.nd (i_seq (x_v (pv 0))) (blkOk_by (own := [("i", 2), ("j", 3)]) (by rfl)) (by decide) (by decide) (by decide) (fun _ _ _ _ _ => (g_name (i := 2) sc_flips_of.nd rfl (by first | exact Or.inl rfl | exact Or.inr rfl))) (fun _ _ _ _ _ => ts_nil) (fun _ _ _ _ _ => (i_seq (x_v (pv 1)))) (fun _ _ _ _ _ => (g_name (i := 3) sc_flips_of.nd rfl (by first | exact Or.inl rfl | exact Or.inr rfl))) (fun _ _ _ _ _ => ts_nil) (fun _ _ _ _ _ => (x_op op_or op2_or (x_op op_shl op2_shl x_int (x_v (pv 2))) (x_op op_shl op2_shl x_int (x_v (pv 3)))))))))
theorem cal_flips_of (F : FnP K "flips_of" s_flips_of f fd) (hm : mg "flips_of" = some (.ref f)) (D0 : FnD P w K mg base cf 1 f fd ps_flips_of d_flips_of) : CalD P w K mg base cf 1 "flips_of" ps_flips_of d_flips_of :=
  .of F hm D0 fun _ _ _ _ _ _ us hl => match us, hl with | [_, _], _ => rfl

/-! meets_near -/
abbrev N_meets_near : List Str := ["at", "one", "other", "out", "into", "flips", "flip"]
abbrev ps_meets_near : List Str := ["at", "one", "other", "out", "into"]
def c_meets_near : Es := (cSeq (cIfS (cT (c2 ltD (c1 lenD (cV 3)) (cC (.int 2)))) (cRet (cC (.bl true))) cNx)
  (cSeq (cSet 5 (cCall 2 d_flips_of (gCons (cV 3) (gCons (cV 4) gNil))))
  (cSeq (cIfS (cT (c2 eqD (c1 lenD (cV 3)) (cC (.int 2)))) (cRet (c1 anyD (cLc [6] (iSeq (cSl (cV 5) pNone (pSome (cC (.int 2))))) (gN 6) cYes (cCall 4 d_is_no_loss (gCons (cV 0) (gCons (cV 1) (gCons (cV 2) (gCons (cV 6) gNil)))))))) cNx)
  (cRet (cAndV (c1 anyD (cLc [6] (iSeq (cV 5)) (gN 6) cYes (c2 inD (c2 xorD (cV 1) (cV 6)) (cV 0)))) (c1 anyD (cLc [6] (iSeq (cV 5)) (gN 6) cYes (c2 inD (c2 xorD (cV 2) (cV 6)) (cV 0)))))))))
def sl_meets_near : List Nat := [5]
def d_meets_near : Df := mkDf sl_meets_near 2 c_meets_near
theorem sc_meets_near : FnScope N_meets_near ps_meets_near (defScope s_meets_near) := ⟨rfl, rfl, rfl, by decide +kernel, rfl, by decide +kernel, by decide +kernel⟩
theorem ok_meets_near (F : FnP K "meets_near" s_meets_near f fd) (B : Bs mg) (C_flips_of : CalD P w K mg base cf 1 "flips_of" ps_flips_of d_flips_of) (C_is_no_loss : CalD P w K mg base cf 1 "is_no_loss" ps_is_no_loss d_is_no_loss) : FnD P w K mg base cf 2 f fd ps_meets_near d_meets_near :=
  fnD (c := c_meets_near) (sl := sl_meets_near) F sc_meets_near rfl fun CX cdv A outer s H E hr =>
  (b_cons (s_if (t_cmp op_lt op2_lt (x_cb1 call_len_seq op1_len (by rfl) B.len boot_len (x_v (pv 3))) x_int (nomark _)) (b_one (s_ret x_bl)) b_nil)
  (b_cons (s_set (i := 5) sc_meets_near.nd rfl (by first | exact Or.inl rfl | exact Or.inr rfl) (x_callC C_flips_of hr (by decide) (by rfl) (ag_cons (x_v (pv 3)) (ag_cons (x_v (pv 4)) ag_nil))))
  (b_cons (s_if (t_cmp (op_eqD hr.units) op2_eq (x_cb1 call_len_seq op1_len (by rfl) B.len boot_len (x_v (pv 3))) x_int (nomark _)) (b_one (s_ret (x_cb1 (cr_any rfl) op1_any (by rfl) B.any boot_any (x_o (o_lc rfl sc_meets_near.nd (i_seq (x_slice (x_v (pv 5)) xp_none (xp_some x_int))) (blkOk_by (own := [("flip", 6)]) (by rfl)) (by decide) (fun _ _ _ _ _ => (g_name (i := 6) sc_meets_near.nd rfl (by first | exact Or.inl rfl | exact Or.inr rfl))) (fun _ _ _ _ _ => ts_nil) (fun _ _ _ _ _ => (x_callC C_is_no_loss hr (by decide) (by rfl) (ag_cons (x_v (pv 0)) (ag_cons (x_v (pv 1)) (ag_cons (x_v (pv 2)) (ag_cons (x_v (pv 6)) ag_nil))))))))))) b_nil)
  (b_one (s_ret (x_and (x_cb1 (cr_any rfl) op1_any (by rfl) B.any boot_any (x_o (o_lc rfl sc_meets_near.nd (i_seq (x_v (pv 5))) (blkOk_by (own := [("flip", 6)]) (by rfl)) (by decide) (fun _ _ _ _ _ => (g_name (i := 6) sc_meets_near.nd rfl (by first | exact Or.inl rfl | exact Or.inr rfl))) (fun _ _ _ _ _ => ts_nil) (fun _ _ _ _ _ => (x_cmp (opr_in hr.units1) op2_in (x_op op_xor op2_xor (x_v (pv 1)) (x_v (pv 6))) (x_v (pv 0)) (by with_unfolding_all rfl)))))) (x_one (x_cb1 (cr_any rfl) op1_any (by rfl) B.any boot_any (x_o (o_lc rfl sc_meets_near.nd (i_seq (x_v (pv 5))) (blkOk_by (own := [("flip", 6)]) (by rfl)) (by decide) (fun _ _ _ _ _ => (g_name (i := 6) sc_meets_near.nd rfl (by first | exact Or.inl rfl | exact Or.inr rfl))) (fun _ _ _ _ _ => ts_nil) (fun _ _ _ _ _ => (x_cmp (opr_in hr.units1) op2_in (x_op op_xor op2_xor (x_v (pv 2)) (x_v (pv 6))) (x_v (pv 0)) (by with_unfolding_all rfl)))))))))))))
theorem cal_meets_near (F : FnP K "meets_near" s_meets_near f fd) (hm : mg "meets_near" = some (.ref f)) (D0 : FnD P w K mg base cf 2 f fd ps_meets_near d_meets_near) : CalD P w K mg base cf 2 "meets_near" ps_meets_near d_meets_near :=
  .of F hm D0 fun _ _ _ _ _ _ us hl => match us, hl with | [_, _, _, _, _], _ => rfl

/-! all_meet_near -/
abbrev N_all_meet_near : List Str := ["table", "masks", "k", "lot", "m", "out", "into", "e"]
abbrev ps_all_meet_near : List Str := ["table"]
def c_all_meet_near : Es := (cSeq (cSet 1 (cLc [3] (iSeq (c1 (atD "Table" 3) (cV 0))) (gN 3) cYes (cCall 1 d_mask_of (gCons (cV 3) gNil))))
  (cSeq (cFor (iEnum (c1 (atD "Table" 3) (cV 0))) (gT 2 (gCons' (gN 2) (gCons' (gN 3) gNil'))) (cFor (iRg1 (cV 2)) (gN 4) (cSeq (cSet 5 (cLc [7] (iSeq (cV 3)) (gN 7) (cT (c2 ninD (cV 7) (c2 ixD (c1 (atD "Table" 3) (cV 0)) (cV 4)))) (cV 7)))
  (cSeq (cSet 6 (cLc [7] (iSeq (c2 ixD (c1 (atD "Table" 3) (cV 0)) (cV 4))) (gN 7) (cT (c2 ninD (cV 7) (cV 3))) (cV 7)))
  (cIfS (cNot (cTr (cCall 5 d_meets_near (gCons (c1 (atD "Table" 5) (cV 0)) (gCons (c2 ixD (cV 1) (cV 2)) (gCons (c2 ixD (cV 1) (cV 4)) (gCons (cV 5) (gCons (cV 6) gNil)))))))) (cRet (cC (.bl false))) cNx)))))
  (cRet (cC (.bl true)))))
def sl_all_meet_near : List Nat := [1, 2, 3, 4, 5, 6]
def d_all_meet_near : Df := mkDf sl_all_meet_near 7 c_all_meet_near
theorem sc_all_meet_near : FnScope N_all_meet_near ps_all_meet_near (defScope s_all_meet_near) := ⟨rfl, rfl, rfl, by decide +kernel, rfl, by decide +kernel, by decide +kernel⟩
theorem ok_all_meet_near (F : FnP K "all_meet_near" s_all_meet_near f fd) (B : Bs mg) (T_Table : L2.SCls K (He.ga K "Table")) (T_Table__at : L2.Slt K (He.ga K "Table") "_at" (sx 5) a__at) (T_Table_bases : L2.Slt K (He.ga K "Table") "bases" (sx 3) a_bases) (C_mask_of : CalD P w K mg base cf 1 "mask_of" ps_mask_of d_mask_of) (C_meets_near : CalD P w K mg base cf 2 "meets_near" ps_meets_near d_meets_near) : FnD P w K mg base cf 3 f fd ps_all_meet_near d_all_meet_near :=
  fnD (c := c_all_meet_near) (sl := sl_all_meet_near) F sc_all_meet_near rfl fun CX cdv A outer s H E hr =>
  (b_cons (s_setLc (i := 1) rfl sc_all_meet_near.nd rfl rfl rfl (i_seq (x_at T_Table T_Table_bases (x_v (pv 0)))) (blkOk_by (own := [("lot", 3)]) (by rfl)) (by decide) (fun _ _ _ _ _ => (g_name (i := 3) sc_all_meet_near.nd rfl (by first | exact Or.inl rfl | exact Or.inr rfl))) (fun _ _ _ _ _ => ts_nil) (fun _ _ _ _ _ => (x_callC C_mask_of hr (by decide) (by rfl) (ag_cons (x_v (pv 3)) ag_nil))))
  (b_cons (s_for PassesOwn.never rfl (i_enum (by rfl) B.enumerate (x_at T_Table T_Table_bases (x_v (pv 0)))) (g_tup rfl (gs_cons (g_name (i := 2) sc_all_meet_near.nd rfl (by first | exact Or.inl rfl | exact Or.inr rfl)) (gs_cons (g_name (i := 3) sc_all_meet_near.nd rfl (by first | exact Or.inl rfl | exact Or.inr rfl)) gs_nil))) (b_one (s_for PassesOwn.never rfl (i_rg1 (by rfl) B.range (x_v (pv 2))) (g_name (i := 4) sc_all_meet_near.nd rfl (by first | exact Or.inl rfl | exact Or.inr rfl)) (b_cons (s_setLc (i := 5) rfl sc_all_meet_near.nd rfl rfl rfl (i_seq (x_v (pv 3))) (blkOk_by (own := [("e", 7)]) (by rfl)) (by decide) (fun _ _ _ _ _ => (g_name (i := 7) sc_all_meet_near.nd rfl (by first | exact Or.inl rfl | exact Or.inr rfl))) (fun _ _ _ _ _ => (ts_one (t_cmp (opr_nin hr.units1) op2_nin (x_v (pv 7)) (x_ix (ixr_all hr.units1) op2_ix (x_at T_Table T_Table_bases (x_v (pv 0))) (x_v (pv 4)) (by intros _ _; rfl)) (by with_unfolding_all rfl)))) (fun _ _ _ _ _ => (x_v (pv 7))))
  (b_cons (s_setLc (i := 6) rfl sc_all_meet_near.nd rfl rfl rfl (i_seq (x_ix (ixr_all hr.units1) op2_ix (x_at T_Table T_Table_bases (x_v (pv 0))) (x_v (pv 4)) (by intros _ _; rfl))) (blkOk_by (own := [("e", 7)]) (by rfl)) (by decide) (fun _ _ _ _ _ => (g_name (i := 7) sc_all_meet_near.nd rfl (by first | exact Or.inl rfl | exact Or.inr rfl))) (fun _ _ _ _ _ => (ts_one (t_cmp (opr_nin hr.units1) op2_nin (x_v (pv 7)) (x_v (pv 3)) (by with_unfolding_all rfl)))) (fun _ _ _ _ _ => (x_v (pv 7))))
  (b_one (s_if (t_not (t_tru (x_callC C_meets_near hr (by decide) (by rfl) (ag_cons (x_at T_Table T_Table__at (x_v (pv 0))) (ag_cons (x_ix (ixr_all hr.units1) op2_ix (x_v (pv 1)) (x_v (pv 2)) (by intros _ _; rfl)) (ag_cons (x_ix (ixr_all hr.units1) op2_ix (x_v (pv 1)) (x_v (pv 4)) (by intros _ _; rfl)) (ag_cons (x_v (pv 5)) (ag_cons (x_v (pv 6)) ag_nil)))))))) (b_one (s_ret x_bl)) b_nil)))))))
  (b_one (s_ret x_bl))))
theorem cal_all_meet_near (F : FnP K "all_meet_near" s_all_meet_near f fd) (hm : mg "all_meet_near" = some (.ref f)) (D0 : FnD P w K mg base cf 3 f fd ps_all_meet_near d_all_meet_near) : CalD P w K mg base cf 3 "all_meet_near" ps_all_meet_near d_all_meet_near :=
  .of F hm D0 fun _ _ _ _ _ _ us hl => match us, hl with | [_], _ => rfl

/-! first_break -/
abbrev N_first_break : List Str := ["table", "at", "one", "other", "into", "thing", "e", "flip"]
abbrev ps_first_break : List Str := ["table"]
def c_first_break : Es := (cSeq (cSet 1 (c1 (atD "Table" 5) (cV 0)))
  (cSeq (cFor (iSeq (c1 (atD "Table" 3) (cV 0))) (gN 2) (cFor (iSeq (c1 (atD "Table" 3) (cV 0))) (gN 3) (cSeq (cSet 4 (cLc [6] (iSeq (cV 3)) (gN 6) (cT (c2 ninD (cV 6) (cV 2))) (cV 6)))
  (cFor (iSeq (cV 2)) (gN 5) (cIfS (cAnd (cT (c2 ninD (cV 5) (cV 3))) (cNot (cTr (c1 anyD (cLc [7] (iSeq (cCall 2 d_flips_of (gCons (cLst (aCons (cV 5) aNil)) (gCons (cV 4) gNil)))) (gN 7) cYes (cCall 4 d_is_no_loss (gCons (cV 1) (gCons (cCall 1 d_mask_of (gCons (cV 2) gNil)) (gCons (cCall 1 d_mask_of (gCons (cV 3) gNil)) (gCons (cV 7) gNil)))))))))) (cRet (cTup (aCons (cV 2) (aCons (cV 3) (aCons (cV 5) aNil))))) cNx)))))
  (cRet (cC .non))))
def sl_first_break : List Nat := [1, 2, 3, 4, 5]
def d_first_break : Df := mkDf sl_first_break 7 c_first_break
theorem sc_first_break : FnScope N_first_break ps_first_break (defScope s_first_break) := ⟨rfl, rfl, rfl, by decide +kernel, rfl, by decide +kernel, by decide +kernel⟩
theorem ok_first_break (F : FnP K "first_break" s_first_break f fd) (B : Bs mg) (T_Table : L2.SCls K (He.ga K "Table")) (T_Table__at : L2.Slt K (He.ga K "Table") "_at" (sx 5) a__at) (T_Table_bases : L2.Slt K (He.ga K "Table") "bases" (sx 3) a_bases) (C_flips_of : CalD P w K mg base cf 1 "flips_of" ps_flips_of d_flips_of) (C_is_no_loss : CalD P w K mg base cf 1 "is_no_loss" ps_is_no_loss d_is_no_loss) (C_mask_of : CalD P w K mg base cf 1 "mask_of" ps_mask_of d_mask_of) : FnD P w K mg base cf 2 f fd ps_first_break d_first_break :=
  fnD (c := c_first_break) (sl := sl_first_break) F sc_first_break rfl fun CX cdv A outer s H E hr =>
  (b_cons (s_set (i := 1) sc_first_break.nd rfl (by first | exact Or.inl rfl | exact Or.inr rfl) (x_at T_Table T_Table__at (x_v (pv 0))))
  (b_cons (s_for PassesOwn.never rfl (i_seq (x_at T_Table T_Table_bases (x_v (pv 0)))) (g_name (i := 2) sc_first_break.nd rfl (by first | exact Or.inl rfl | exact Or.inr rfl)) (b_one (s_for PassesOwn.never rfl (i_seq (x_at T_Table T_Table_bases (x_v (pv 0)))) (g_name (i := 3) sc_first_break.nd rfl (by first | exact Or.inl rfl | exact Or.inr rfl)) (b_cons (s_setLc (i := 4) rfl sc_first_break.nd rfl rfl rfl (i_seq (x_v (pv 3))) (blkOk_by (own := [("e", 6)]) (by rfl)) (by decide) (fun _ _ _ _ _ => (g_name (i := 6) sc_first_break.nd rfl (by first | exact Or.inl rfl | exact Or.inr rfl))) (fun _ _ _ _ _ => (ts_one (t_cmp (opr_nin hr.units1) op2_nin (x_v (pv 6)) (x_v (pv 2)) (by with_unfolding_all rfl)))) (fun _ _ _ _ _ => (x_v (pv 6))))
  (b_one (s_for PassesOwn.never rfl (i_seq (x_v (pv 2))) (g_name (i := 5) sc_first_break.nd rfl (by first | exact Or.inl rfl | exact Or.inr rfl)) (b_one (s_if (t_w (w_and (t_cmp (opr_nin hr.units1) op2_nin (x_v (pv 5)) (x_v (pv 3)) (by with_unfolding_all rfl)) (w_and1 (t_not (t_tru (x_cb1 (cr_any rfl) op1_any (by rfl) B.any boot_any (x_o (o_lc rfl sc_first_break.nd (i_seq (x_callC C_flips_of hr (by decide) (by rfl) (ag_cons (x_o (o_lst (xa_cons (x_v (pv 5)) xa_nil))) (ag_cons (x_v (pv 4)) ag_nil)))) (blkOk_by (own := [("flip", 7)]) (by rfl)) (by decide) (fun _ _ _ _ _ => (g_name (i := 7) sc_first_break.nd rfl (by first | exact Or.inl rfl | exact Or.inr rfl))) (fun _ _ _ _ _ => ts_nil) (fun _ _ _ _ _ => (x_callC C_is_no_loss hr (by decide) (by rfl) (ag_cons (x_v (pv 1)) (ag_cons (x_callC C_mask_of hr (by decide) (by rfl) (ag_cons (x_v (pv 2)) ag_nil)) (ag_cons (x_callC C_mask_of hr (by decide) (by rfl) (ag_cons (x_v (pv 3)) ag_nil)) (ag_cons (x_v (pv 7)) ag_nil)))))))))))))) (b_one (s_ret (x_tup (xa_cons (x_v (pv 2)) (xa_cons (x_v (pv 3)) (xa_cons (x_v (pv 5)) xa_nil)))))) b_nil))))))))
  (b_one (s_ret x_non))))
theorem cal_first_break (F : FnP K "first_break" s_first_break f fd) (hm : mg "first_break" = some (.ref f)) (D0 : FnD P w K mg base cf 2 f fd ps_first_break d_first_break) : CalD P w K mg base cf 2 "first_break" ps_first_break d_first_break :=
  .of F hm D0 fun _ _ _ _ _ _ us hl => match us, hl with | [_], _ => rfl

end
end K09
namespace K09
open PySem PySem.Spec PyProof.Rows L2 Ov
section
variable {P : Program} {w : World} {K : PySem.W.Frag} {mg : Str → Option Value} {base : Heap} {cf : List D → D → Prop} {f : Addr} {fd : FuncData}
/-! _law_draws -/
abbrev N__law_draws : List Str := ["script", "draws", "place", "cell", "mixed", "turn"]
abbrev ps__law_draws : List Str := ["script"]
def c__law_draws : Es := (cSeq (cSetO 1 (cLst aNil))
  (cSeq (cFor (iRg1 (c2 minD (c1 lenD (cV 0)) (cC (.int 63)))) (gN 2) (cSeq (cSet 3 (c1 intD (c2 ixD (cV 0) (cV 2))))
  (cSeq (cIfS (cT (c2 ltD (cV 3) (cC (.int 0)))) (cSet 3 (c2 subD (cC (.int 7)) (c2 mulD (cC (.int 2)) (cV 3)))) cNx)
  (cIfS (cT (c2 ltD (cV 3) (c2 powD (cC (.int 10)) (cC (.int 18))))) (cSeq (cSet 4 (c2 modD (c1 intD (c2 addD (c2 addD (c2 mulD (cV 3) (cC (.int 40014))) (c2 mulD (cC (.int 5003)) (cV 2))) (cC (.int 17)))) (cC (.int 2147483563))))
  (cFor (iRg1 (cC (.int 5))) (gN 5) (cSeq (cSet 4 (c2 modD (c1 intD (c2 addD (c2 addD (c2 addD (c2 mulD (cV 4) (cV 4)) (c2 mulD (cC (.int 40692)) (cV 5))) (c2 mulD (cC (.int 911)) (cV 2))) (cC (.int 29)))) (cC (.int 2147483399))))
  (cApp 1 (cV 4))))) (cFor (iRg1 (cC (.int 40))) (gN 5) (cIfS (cT (c2 gtD (cV 3) (cC (.int 0)))) (cSeq (cApp 1 (c2 modD (c1 intD (cV 3)) (cC (.int 60))))
  (cSet 3 (c2 fdivD (cV 3) (cC (.int 60))))) cNx))))))
  (cRetO (cRev (cV 1)))))
def sl__law_draws : List Nat := [1, 2, 3, 3, 4, 5, 4, 5, 3]
def d__law_draws : Df := mkDf sl__law_draws 5 c__law_draws
theorem sc__law_draws : FnScope N__law_draws ps__law_draws (defScope s__law_draws) := ⟨rfl, rfl, rfl, by decide +kernel, rfl, by decide +kernel, by decide +kernel⟩
theorem ok__law_draws (F : FnP K "_law_draws" s__law_draws f fd) (B : Bs mg) : FnD P w K mg base cf 1 f fd ps__law_draws d__law_draws :=
  fnD (c := c__law_draws) (sl := sl__law_draws) F sc__law_draws rfl fun CX cdv A outer s H E hr =>
  (b_cons (s_setO (i := 1) sc__law_draws.nd rfl (by first | exact Or.inl rfl | exact Or.inr rfl) (o_lst xa_nil))
  (b_cons (s_for PassesOwn.never rfl (i_rg1 (by rfl) B.range (x_cb2 (call_min2 rfl) op2_min (by rfl) B.min boot_min (x_cb1 call_len_seq op1_len (by rfl) B.len boot_len (x_v (pv 0))) x_int)) (g_name (i := 2) sc__law_draws.nd rfl (by first | exact Or.inl rfl | exact Or.inr rfl)) (b_cons (s_set (i := 3) sc__law_draws.nd rfl (by first | exact Or.inl rfl | exact Or.inr rfl) (x_ct1 call_int1 op1_int (by rfl) B.int boot_int (x_ix (ixr_all hr.units1) op2_ix (x_v (pv 0)) (x_v (pv 2)) (by intros _ _; rfl))))
  (b_cons (s_if (t_cmp op_lt op2_lt (x_v (pv 3)) x_int (nomark _)) (b_one (s_set (i := 3) sc__law_draws.nd rfl (by first | exact Or.inl rfl | exact Or.inr rfl) (x_op op_sub op2_sub x_int (x_op op_mul op2_mul x_int (x_v (pv 3)))))) b_nil)
  (b_one (s_if (t_cmp op_lt op2_lt (x_v (pv 3)) (x_op op_pow op2_pow x_int x_int) (nomark _)) (b_cons (s_set (i := 4) sc__law_draws.nd rfl (by first | exact Or.inl rfl | exact Or.inr rfl) (x_op op_mod op2_mod (x_ct1 call_int1 op1_int (by rfl) B.int boot_int (x_op opr_add op2_add (x_op opr_add op2_add (x_op op_mul op2_mul (x_v (pv 3)) x_int) (x_op op_mul op2_mul x_int (x_v (pv 2)))) x_int)) x_int))
  (b_one (s_for PassesOwn.never rfl (i_rg1 (by rfl) B.range x_int) (g_name (i := 5) sc__law_draws.nd rfl (by first | exact Or.inl rfl | exact Or.inr rfl)) (b_cons (s_set (i := 4) sc__law_draws.nd rfl (by first | exact Or.inl rfl | exact Or.inr rfl) (x_op op_mod op2_mod (x_ct1 call_int1 op1_int (by rfl) B.int boot_int (x_op opr_add op2_add (x_op opr_add op2_add (x_op opr_add op2_add (x_op op_mul op2_mul (x_v (pv 4)) (x_v (pv 4))) (x_op op_mul op2_mul x_int (x_v (pv 5)))) (x_op op_mul op2_mul x_int (x_v (pv 2)))) x_int)) x_int))
  (b_one (s_app (pv 1) (x_v (pv 4)))))))) (b_one (s_for PassesOwn.never rfl (i_rg1 (by rfl) B.range x_int) (g_name (i := 5) sc__law_draws.nd rfl (by first | exact Or.inl rfl | exact Or.inr rfl)) (b_one (s_if (t_cmp op_gt op2_gt (x_v (pv 3)) x_int (nomark _)) (b_cons (s_app (pv 1) (x_op op_mod op2_mod (x_ct1 call_int1 op1_int (by rfl) B.int boot_int (x_v (pv 3))) x_int))
  (b_one (s_set (i := 3) sc__law_draws.nd rfl (by first | exact Or.inl rfl | exact Or.inr rfl) (x_op op_fdiv op2_fdiv (x_v (pv 3)) x_int)))) b_nil)))))))))
  (b_one (s_retO (o_rev (x_v (pv 1)))))))
theorem cal__law_draws (F : FnP K "_law_draws" s__law_draws f fd) (hm : mg "_law_draws" = some (.ref f)) (D0 : FnD P w K mg base cf 1 f fd ps__law_draws d__law_draws) : CalD P w K mg base cf 1 "_law_draws" ps__law_draws d__law_draws :=
  .of F hm D0 fun _ _ _ _ _ _ us hl => match us, hl with | [_], _ => rfl

/-! _law_take -/
abbrev N__law_take : List Str := ["draws", "bound"]
abbrev ps__law_take : List Str := ["draws", "bound"]
def c__law_take : Es := (cSeq (cIfS (cT (c2 eqD (cB0 0 lenD) (cC (.int 0)))) (cRet (cC (.int 0))) cNx)
  (cRet (c2 modD (c1 intD (cPop 0)) (cV 1))))
def sl__law_take : List Nat := []
def d__law_take : Df := mkDf sl__law_take 0 c__law_take
theorem sc__law_take : FnScope N__law_take ps__law_take (defScope s__law_take) := ⟨rfl, rfl, rfl, by decide +kernel, rfl, by decide +kernel, by decide +kernel⟩
theorem ok__law_take (F : FnP K "_law_take" s__law_take f fd) (B : Bs mg) : FnD P w K mg base cf 1 f fd ps__law_take d__law_take :=
  fnD (c := c__law_take) (sl := sl__law_take) F sc__law_take rfl fun CX cdv A outer s H E hr =>
  (b_cons (s_if (t_cmp (op_eqD hr.units) op2_eq (x_cb1B call_len_seq op1_len (by rfl) B.len boot_len (pv 0)) x_int (nomark _)) (b_one (s_ret x_int)) b_nil)
  (b_one (s_ret (x_op op_mod op2_mod (x_ct1 call_int1 op1_int (by rfl) B.int boot_int (x_pop (pv 0))) (x_v (pv 1))))))
theorem cal__law_take (F : FnP K "_law_take" s__law_take f fd) (hm : mg "_law_take" = some (.ref f)) (D0 : FnD P w K mg base cf 1 f fd ps__law_take d__law_take) : CalD P w K mg base cf 1 "_law_take" ps__law_take d__law_take :=
  .of F hm D0 fun _ _ _ _ _ _ us hl => match us, hl with | [_, _], _ => rfl

/-! _law_lots -/
abbrev N__law_lots : List Str := ["wide", "deep", "lots", "turn", "longer", "lot", "start", "e"]
abbrev ps__law_lots : List Str := ["wide", "deep"]
def c__law_lots : Es := (cSeq (cSet 2 (cLst (aCons (cTup aNil) aNil)))
  (cSeq (cFor (iRg1 (cV 1)) (gN 3) (cSeq (cSet 4 (cLst aNil))
  (cSeq (cFor (iSeq (cV 2)) (gN 5) (cSeq (cSet 6 (cC (.int 0)))
  (cSeq (cIfS (cT (c2 gtD (c1 lenD (cV 5)) (cC (.int 0)))) (cSet 6 (c2 addD (c2 ixD (cV 5) (c1 negD (cC (.int 1)))) (cC (.int 1)))) cNx)
  (cSet 4 (c2 addD (cV 4) (cLc [7] (iRg2 (cV 6) (cV 0)) (gN 7) cYes (c2 addD (cV 5) (cTup (aCons (cV 7) aNil)))))))))
  (cSet 2 (cV 4)))))
  (cRet (cV 2))))
def sl__law_lots : List Nat := [2, 3, 4, 5, 6, 6, 4, 2]
def d__law_lots : Df := mkDf sl__law_lots 6 c__law_lots
theorem sc__law_lots : FnScope N__law_lots ps__law_lots (defScope s__law_lots) := ⟨rfl, rfl, rfl, by decide +kernel, rfl, by decide +kernel, by decide +kernel⟩
theorem ok__law_lots (F : FnP K "_law_lots" s__law_lots f fd) (B : Bs mg) : FnD P w K mg base cf 1 f fd ps__law_lots d__law_lots :=
  fnD (c := c__law_lots) (sl := sl__law_lots) F sc__law_lots rfl fun CX cdv A outer s H E hr =>
  (b_cons (s_set (i := 2) sc__law_lots.nd rfl (by first | exact Or.inl rfl | exact Or.inr rfl) (x_o (o_lst (xa_cons (x_tup xa_nil) xa_nil))))
  (b_cons (s_for PassesOwn.never rfl (i_rg1 (by rfl) B.range (x_v (pv 1))) (g_name (i := 3) sc__law_lots.nd rfl (by first | exact Or.inl rfl | exact Or.inr rfl)) (b_cons (s_set (i := 4) sc__law_lots.nd rfl (by first | exact Or.inl rfl | exact Or.inr rfl) (x_o (o_lst xa_nil)))
  (b_cons (s_for PassesOwn.never rfl (i_seq (x_v (pv 2))) (g_name (i := 5) sc__law_lots.nd rfl (by first | exact Or.inl rfl | exact Or.inr rfl)) (b_cons (s_set (i := 6) sc__law_lots.nd rfl (by first | exact Or.inl rfl | exact Or.inr rfl) x_int)
  (b_cons (s_if (t_cmp op_gt op2_gt (x_cb1 call_len_seq op1_len (by rfl) B.len boot_len (x_v (pv 5))) x_int (nomark _)) (b_one (s_set (i := 6) sc__law_lots.nd rfl (by first | exact Or.inl rfl | exact Or.inr rfl) (x_op opr_add op2_add (x_ix (ixr_all hr.units1) op2_ix (x_v (pv 5)) (x_neg x_int) (by intros _ _; rfl)) x_int))) b_nil)
  (b_one (s_set (i := 4) sc__law_lots.nd rfl (by first | exact Or.inl rfl | exact Or.inr rfl) (x_op opr_add op2_add (x_v (pv 4)) (x_o (o_lc rfl sc__law_lots.nd (i_rg2 (by rfl) B.range (x_v (pv 6)) (x_v (pv 0))) (blkOk_by (own := [("e", 7)]) (by rfl)) (by decide) (fun _ _ _ _ _ => (g_name (i := 7) sc__law_lots.nd rfl (by first | exact Or.inl rfl | exact Or.inr rfl))) (fun _ _ _ _ _ => ts_nil) (fun _ _ _ _ _ => (x_op opr_add op2_add (x_v (pv 5)) (x_tup (xa_cons (x_v (pv 7)) xa_nil))))))))))))
  (b_one (s_set (i := 2) sc__law_lots.nd rfl (by first | exact Or.inl rfl | exact Or.inr rfl) (x_v (pv 4)))))))
  (b_one (s_ret (x_v (pv 2))))))
theorem cal__law_lots (F : FnP K "_law_lots" s__law_lots f fd) (hm : mg "_law_lots" = some (.ref f)) (D0 : FnD P w K mg base cf 1 f fd ps__law_lots d__law_lots) : CalD P w K mg base cf 1 "_law_lots" ps__law_lots d__law_lots :=
  .of F hm D0 fun _ _ _ _ _ _ us hl => match us, hl with | [_, _], _ => rfl

/-! _law_swap -/
abbrev N__law_swap : List Str := ["lot", "out", "into", "e"]
abbrev ps__law_swap : List Str := ["lot", "out", "into"]
def c__law_swap : Es := (cRet (c1 tupleD (c1 sortedD (c2 addD (cLc [3] (iSeq (cV 0)) (gN 3) (cT (c2 neD (cV 3) (cV 1))) (cV 3)) (cLst (aCons (cV 2) aNil))))))
def sl__law_swap : List Nat := []
def d__law_swap : Df := mkDf sl__law_swap 1 c__law_swap
theorem sc__law_swap : FnScope N__law_swap ps__law_swap (defScope s__law_swap) := ⟨rfl, rfl, rfl, by decide +kernel, rfl, by decide +kernel, by decide +kernel⟩
theorem ok__law_swap (F : FnP K "_law_swap" s__law_swap f fd) (B : Bs mg) : FnD P w K mg base cf 1 f fd ps__law_swap d__law_swap :=
  fnD (c := c__law_swap) (sl := sl__law_swap) F sc__law_swap rfl fun CX cdv A outer s H E hr =>
  (b_one (s_ret (x_ct1 call_tuple_of op1_tuple (by rfl) B.tuple boot_tuple (x_o (o_cb1 cr_sortedA op1_sorted (by rfl) B.sorted boot_sorted (x_op opr_add op2_add (x_o (o_lc rfl sc__law_swap.nd (i_seq (x_v (pv 0))) (blkOk_by (own := [("e", 3)]) (by rfl)) (by decide) (fun _ _ _ _ _ => (g_name (i := 3) sc__law_swap.nd rfl (by first | exact Or.inl rfl | exact Or.inr rfl))) (fun _ _ _ _ _ => (ts_one (t_cmp (op_neD hr.units) op2_ne (x_v (pv 3)) (x_v (pv 1)) (nomark _)))) (fun _ _ _ _ _ => (x_v (pv 3))))) (x_o (o_lst (xa_cons (x_v (pv 2)) xa_nil)))))))))
theorem cal__law_swap (F : FnP K "_law_swap" s__law_swap f fd) (hm : mg "_law_swap" = some (.ref f)) (D0 : FnD P w K mg base cf 1 f fd ps__law_swap d__law_swap) : CalD P w K mg base cf 1 "_law_swap" ps__law_swap d__law_swap :=
  .of F hm D0 fun _ _ _ _ _ _ us hl => match us, hl with | [_, _, _], _ => rfl

/-! _law_number -/
abbrev N__law_number : List Str := ["draws", "number"]
abbrev ps__law_number : List Str := ["draws"]
def c__law_number : Es := (cSeq (cSet 1 (c2 subD (cCall 2 d__law_take (gOwn 0 (gCons (cC (.int 12)) gNil))) (cC (.int 5))))
  (cSeq (cIfS (cT (c2 eqD (cCall 2 d__law_take (gOwn 0 (gCons (cC (.int 40)) gNil))) (cC (.int 7)))) (cSet 1 (c2 mulD (cV 1) (c2 powD (cC (.int 10)) (cC (.int 12))))) cNx)
  (cRet (cV 1))))
def sl__law_number : List Nat := [1, 1]
def d__law_number : Df := mkDf sl__law_number 1 c__law_number
theorem sc__law_number : FnScope N__law_number ps__law_number (defScope s__law_number) := ⟨rfl, rfl, rfl, by decide +kernel, rfl, by decide +kernel, by decide +kernel⟩
theorem ok__law_number (F : FnP K "_law_number" s__law_number f fd) (C__law_take : CalD P w K mg base cf 1 "_law_take" ps__law_take d__law_take) : FnD P w K mg base cf 2 f fd ps__law_number d__law_number :=
  fnD (c := c__law_number) (sl := sl__law_number) F sc__law_number rfl fun CX cdv A outer s H E hr =>
  (b_cons (s_set (i := 1) sc__law_number.nd rfl (by first | exact Or.inl rfl | exact Or.inr rfl) (x_op op_sub op2_sub (x_callC C__law_take hr (by decide) (by rfl) (ag_own (pv 0) (ag_cons x_int ag_nil))) x_int))
  (b_cons (s_if (t_cmp (op_eqD hr.units) op2_eq (x_callC C__law_take hr (by decide) (by rfl) (ag_own (pv 0) (ag_cons x_int ag_nil))) x_int (nomark _)) (b_one (s_set (i := 1) sc__law_number.nd rfl (by first | exact Or.inl rfl | exact Or.inr rfl) (x_op op_mul op2_mul (x_v (pv 1)) (x_op op_pow op2_pow x_int x_int)))) b_nil)
  (b_one (s_ret (x_v (pv 1))))))
theorem cal__law_number (F : FnP K "_law_number" s__law_number f fd) (hm : mg "_law_number" = some (.ref f)) (D0 : FnD P w K mg base cf 2 f fd ps__law_number d__law_number) : CalD P w K mg base cf 2 "_law_number" ps__law_number d__law_number :=
  .of F hm D0 fun _ _ _ _ _ _ us hl => match us, hl with | [_], _ => rfl

/-! _law_prices -/
abbrev N__law_prices : List Str := ["draws", "wide", "word", "e"]
abbrev ps__law_prices : List Str := ["draws", "wide"]
def c__law_prices : Es := (cSeq (cSet 2 (cCall 2 d__law_take (gOwn 0 (gCons (cC (.int 3)) gNil))))
  (cSeq (cIfS (cT (c2 eqD (cV 2) (cC (.int 0)))) (cRet (cLc [3] (iRg1 (cV 1)) (gN 3) cYes (cCall 2 d__law_take (gOwn 0 (gCons (cC (.int 3)) gNil))))) cNx)
  (cRet (cLc [3] (iRg1 (cV 1)) (gN 3) cYes (cCall 1 d__law_number (gOwn 0 gNil))))))
def sl__law_prices : List Nat := [2]
def d__law_prices : Df := mkDf sl__law_prices 2 c__law_prices
theorem sc__law_prices : FnScope N__law_prices ps__law_prices (defScope s__law_prices) := ⟨rfl, rfl, rfl, by decide +kernel, rfl, by decide +kernel, by decide +kernel⟩
theorem ok__law_prices (F : FnP K "_law_prices" s__law_prices f fd) (B : Bs mg) (C__law_number : CalD P w K mg base cf 2 "_law_number" ps__law_number d__law_number) (C__law_take : CalD P w K mg base cf 1 "_law_take" ps__law_take d__law_take) : FnD P w K mg base cf 3 f fd ps__law_prices d__law_prices :=
  fnD (c := c__law_prices) (sl := sl__law_prices) F sc__law_prices rfl fun CX cdv A outer s H E hr =>
  (b_cons (s_set (i := 2) sc__law_prices.nd rfl (by first | exact Or.inl rfl | exact Or.inr rfl) (x_callC C__law_take hr (by decide) (by rfl) (ag_own (pv 0) (ag_cons x_int ag_nil))))
  (b_cons (s_if (t_cmp (op_eqD hr.units) op2_eq (x_v (pv 2)) x_int (nomark _)) (b_one (s_ret (x_o (o_lc rfl sc__law_prices.nd (i_rg1 (by rfl) B.range (x_v (pv 1))) (blkOk_by (own := [("e", 3)]) (by rfl)) (by decide) (fun _ _ _ _ _ => (g_name (i := 3) sc__law_prices.nd rfl (by first | exact Or.inl rfl | exact Or.inr rfl))) (fun _ _ _ _ _ => ts_nil) (fun _ _ _ _ _ => (x_callC C__law_take hr (by decide) (by rfl) (ag_own (pv 0) (ag_cons x_int ag_nil)))))))) b_nil)
  (b_one (s_ret (x_o (o_lc rfl sc__law_prices.nd (i_rg1 (by rfl) B.range (x_v (pv 1))) (blkOk_by (own := [("e", 3)]) (by rfl)) (by decide) (fun _ _ _ _ _ => (g_name (i := 3) sc__law_prices.nd rfl (by first | exact Or.inl rfl | exact Or.inr rfl))) (fun _ _ _ _ _ => ts_nil) (fun _ _ _ _ _ => (x_callC C__law_number hr (by decide) (by rfl) (ag_own (pv 0) ag_nil)))))))))
theorem cal__law_prices (F : FnP K "_law_prices" s__law_prices f fd) (hm : mg "_law_prices" = some (.ref f)) (D0 : FnD P w K mg base cf 3 f fd ps__law_prices d__law_prices) : CalD P w K mg base cf 3 "_law_prices" ps__law_prices d__law_prices :=
  .of F hm D0 fun _ _ _ _ _ _ us hl => match us, hl with | [_, _], _ => rfl

/-! _law_lot -/
abbrev N__law_lot : List Str := ["draws", "wide", "e"]
abbrev ps__law_lot : List Str := ["draws", "wide"]
def c__law_lot : Es := (cRet (c1 tupleD (cLc [2] (iRg1 (cV 1)) (gN 2) (cT (c2 eqD (cCall 2 d__law_take (gOwn 0 (gCons (cC (.int 2)) gNil))) (cC (.int 1)))) (cV 2))))
def sl__law_lot : List Nat := []
def d__law_lot : Df := mkDf sl__law_lot 1 c__law_lot
theorem sc__law_lot : FnScope N__law_lot ps__law_lot (defScope s__law_lot) := ⟨rfl, rfl, rfl, by decide +kernel, rfl, by decide +kernel, by decide +kernel⟩
theorem ok__law_lot (F : FnP K "_law_lot" s__law_lot f fd) (B : Bs mg) (C__law_take : CalD P w K mg base cf 1 "_law_take" ps__law_take d__law_take) : FnD P w K mg base cf 2 f fd ps__law_lot d__law_lot :=
  fnD (c := c__law_lot) (sl := sl__law_lot) F sc__law_lot rfl fun CX cdv A outer s H E hr =>
  (b_one (s_ret (x_ct1 call_tuple_of op1_tuple (by rfl) B.tuple boot_tuple (x_o (o_lc rfl sc__law_lot.nd (i_rg1 (by rfl) B.range (x_v (pv 1))) (blkOk_by (own := [("e", 2)]) (by rfl)) (by decide) (fun _ _ _ _ _ => (g_name (i := 2) sc__law_lot.nd rfl (by first | exact Or.inl rfl | exact Or.inr rfl))) (fun _ _ _ _ _ => (ts_one (t_cmp (op_eqD hr.units) op2_eq (x_callC C__law_take hr (by decide) (by rfl) (ag_own (pv 0) (ag_cons x_int ag_nil))) x_int (nomark _)))) (fun _ _ _ _ _ => (x_v (pv 2))))))))
theorem cal__law_lot (F : FnP K "_law_lot" s__law_lot f fd) (hm : mg "_law_lot" = some (.ref f)) (D0 : FnD P w K mg base cf 2 f fd ps__law_lot d__law_lot) : CalD P w K mg base cf 2 "_law_lot" ps__law_lot d__law_lot :=
  .of F hm D0 fun _ _ _ _ _ _ us hl => match us, hl with | [_, _], _ => rfl

/-! _law_perm -/
abbrev N__law_perm : List Str := ["draws", "wide", "left", "found", "turn"]
abbrev ps__law_perm : List Str := ["draws", "wide"]
def c__law_perm : Es := (cSeq (cSetO 2 (c1 (rgTD fun ns => .lst (ns.map D.int)) (cV 1)))
  (cSeq (cSetO 3 (cLst aNil))
  (cSeq (cFor (iRg1 (cV 1)) (gN 4) (cApp 3 (cPopAt 2 (cCall 2 d__law_take (gOwn 0 (gCons (cB0 2 lenD) gNil))))))
  (cRet (cV 3)))))
def sl__law_perm : List Nat := [2, 3, 4]
def d__law_perm : Df := mkDf sl__law_perm 3 c__law_perm
theorem sc__law_perm : FnScope N__law_perm ps__law_perm (defScope s__law_perm) := ⟨rfl, rfl, rfl, by decide +kernel, rfl, by decide +kernel, by decide +kernel⟩
theorem ok__law_perm (F : FnP K "_law_perm" s__law_perm f fd) (B : Bs mg) (C__law_take : CalD P w K mg base cf 1 "_law_take" ps__law_take d__law_take) : FnD P w K mg base cf 2 f fd ps__law_perm d__law_perm :=
  fnD (c := c__law_perm) (sl := sl__law_perm) F sc__law_perm rfl fun CX cdv A outer s H E hr =>
  (b_cons (s_setO (i := 2) sc__law_perm.nd rfl (by first | exact Or.inl rfl | exact Or.inr rfl) (o_lstRg rfl (by rfl) B.list (by rfl) B.range (x_v (pv 1))))
  (b_cons (s_setO (i := 3) sc__law_perm.nd rfl (by first | exact Or.inl rfl | exact Or.inr rfl) (o_lst xa_nil))
  (b_cons (s_for PassesOwn.never rfl (i_rg1 (by rfl) B.range (x_v (pv 1))) (g_name (i := 4) sc__law_perm.nd rfl (by first | exact Or.inl rfl | exact Or.inr rfl)) (b_one (s_app (pv 3) (x_popAt (pv 2) (x_callC C__law_take hr (by decide) (by rfl) (ag_own (pv 0) (ag_cons (x_cb1B call_len_seq op1_len (by rfl) B.len boot_len (pv 2)) ag_nil)))))))
  (b_one (s_ret (x_v (pv 3)))))))
theorem cal__law_perm (F : FnP K "_law_perm" s__law_perm f fd) (hm : mg "_law_perm" = some (.ref f)) (D0 : FnD P w K mg base cf 2 f fd ps__law_perm d__law_perm) : CalD P w K mg base cf 2 "_law_perm" ps__law_perm d__law_perm :=
  .of F hm D0 fun _ _ _ _ _ _ us hl => match us, hl with | [_, _], _ => rfl

/-! _law_worths -/
abbrev N__law_worths : List Str := ["wide", "deep", "book", "lot"]
abbrev ps__law_worths : List Str := ["wide", "deep", "book"]
def c__law_worths : Es := (cRet (cLc [3] (iSeq (cCall 2 d__law_lots (gCons (cV 0) (gCons (cV 1) gNil)))) (gN 3) cYes (c2 getDD (cV 2) (cV 3))))
def sl__law_worths : List Nat := []
def d__law_worths : Df := mkDf sl__law_worths 1 c__law_worths
theorem sc__law_worths : FnScope N__law_worths ps__law_worths (defScope s__law_worths) := ⟨rfl, rfl, rfl, by decide +kernel, rfl, by decide +kernel, by decide +kernel⟩
theorem ok__law_worths (F : FnP K "_law_worths" s__law_worths f fd) (C__law_lots : CalD P w K mg base cf 1 "_law_lots" ps__law_lots d__law_lots) : FnD P w K mg base cf 2 f fd ps__law_worths d__law_worths :=
  fnD (c := c__law_worths) (sl := sl__law_worths) F sc__law_worths rfl fun CX cdv A outer s H E hr =>
  (b_one (s_ret (x_o (o_lc rfl sc__law_worths.nd (i_seq (x_callC C__law_lots hr (by decide) (by rfl) (ag_cons (x_v (pv 0)) (ag_cons (x_v (pv 1)) ag_nil)))) (blkOk_by (own := [("lot", 3)]) (by rfl)) (by decide) (fun _ _ _ _ _ => (g_name (i := 3) sc__law_worths.nd rfl (by first | exact Or.inl rfl | exact Or.inr rfl))) (fun _ _ _ _ _ => ts_nil) (fun _ _ _ _ _ => (x_get hr.units1 (x_v (pv 2)) (x_v (pv 3)) ⟨by rfl, by rfl, by rfl, by rfl⟩))))))
theorem cal__law_worths (F : FnP K "_law_worths" s__law_worths f fd) (hm : mg "_law_worths" = some (.ref f)) (D0 : FnD P w K mg base cf 2 f fd ps__law_worths d__law_worths) : CalD P w K mg base cf 2 "_law_worths" ps__law_worths d__law_worths :=
  .of F hm D0 fun _ _ _ _ _ _ us hl => match us, hl with | [_, _, _], _ => rfl

/-! _law_trades -/
abbrev N__law_trades : List Str := ["book", "one", "other", "i", "due", "found", "j", "first_lot", "second_lot"]
abbrev ps__law_trades : List Str := ["book", "one", "other", "i"]
def c__law_trades : Es := (cSeq (cSet 4 (c2 addD (c2 ixD (cV 0) (cV 1)) (c2 ixD (cV 0) (cV 2))))
  (cSeq (cSetO 5 (cLst aNil))
  (cSeq (cFor (iSeq (cV 2)) (gN 6) (cIfS (cT (c2 ninD (cV 6) (cV 1))) (cSeq (cSet 7 (cCall 3 d__law_swap (gCons (cV 1) (gCons (cV 3) (gCons (cV 6) gNil)))))
  (cSeq (cSet 8 (cCall 3 d__law_swap (gCons (cV 2) (gCons (cV 6) (gCons (cV 3) gNil)))))
  (cIfS (cAnd (cT (c2 inD (cV 7) (cV 0))) (cT (c2 inD (cV 8) (cV 0)))) (cIfS (cT (c2 geD (c2 addD (c2 ixD (cV 0) (cV 7)) (c2 ixD (cV 0) (cV 8))) (cV 4))) (cApp 5 (cV 6)) cNx) cNx))) cNx))
  (cRet (cV 5)))))
def sl__law_trades : List Nat := [4, 5, 6, 7, 8]
def d__law_trades : Df := mkDf sl__law_trades 5 c__law_trades
theorem sc__law_trades : FnScope N__law_trades ps__law_trades (defScope s__law_trades) := ⟨rfl, rfl, rfl, by decide +kernel, rfl, by decide +kernel, by decide +kernel⟩
theorem ok__law_trades (F : FnP K "_law_trades" s__law_trades f fd) (C__law_swap : CalD P w K mg base cf 1 "_law_swap" ps__law_swap d__law_swap) : FnD P w K mg base cf 2 f fd ps__law_trades d__law_trades :=
  fnD (c := c__law_trades) (sl := sl__law_trades) F sc__law_trades rfl fun CX cdv A outer s H E hr =>
  (b_cons (s_set (i := 4) sc__law_trades.nd rfl (by first | exact Or.inl rfl | exact Or.inr rfl) (x_op opr_add op2_add (x_ix (ixr_all hr.units1) op2_ix (x_v (pv 0)) (x_v (pv 1)) (by intros _ _; rfl)) (x_ix (ixr_all hr.units1) op2_ix (x_v (pv 0)) (x_v (pv 2)) (by intros _ _; rfl))))
  (b_cons (s_setO (i := 5) sc__law_trades.nd rfl (by first | exact Or.inl rfl | exact Or.inr rfl) (o_lst xa_nil))
  (b_cons (s_for PassesOwn.never rfl (i_seq (x_v (pv 2))) (g_name (i := 6) sc__law_trades.nd rfl (by first | exact Or.inl rfl | exact Or.inr rfl)) (b_one (s_if (t_cmp (opr_nin hr.units1) op2_nin (x_v (pv 6)) (x_v (pv 1)) (by with_unfolding_all rfl)) (b_cons (s_set (i := 7) sc__law_trades.nd rfl (by first | exact Or.inl rfl | exact Or.inr rfl) (x_callC C__law_swap hr (by decide) (by rfl) (ag_cons (x_v (pv 1)) (ag_cons (x_v (pv 3)) (ag_cons (x_v (pv 6)) ag_nil)))))
  (b_cons (s_set (i := 8) sc__law_trades.nd rfl (by first | exact Or.inl rfl | exact Or.inr rfl) (x_callC C__law_swap hr (by decide) (by rfl) (ag_cons (x_v (pv 2)) (ag_cons (x_v (pv 6)) (ag_cons (x_v (pv 3)) ag_nil)))))
  (b_one (s_if (t_w (w_and (t_cmp (opr_in hr.units1) op2_in (x_v (pv 7)) (x_v (pv 0)) (by with_unfolding_all rfl)) (w_and1 (t_cmp (opr_in hr.units1) op2_in (x_v (pv 8)) (x_v (pv 0)) (by with_unfolding_all rfl))))) (b_one (s_if (t_cmp op_ge op2_ge (x_op opr_add op2_add (x_ix (ixr_all hr.units1) op2_ix (x_v (pv 0)) (x_v (pv 7)) (by intros _ _; rfl)) (x_ix (ixr_all hr.units1) op2_ix (x_v (pv 0)) (x_v (pv 8)) (by intros _ _; rfl))) (x_v (pv 4)) (nomark _)) (b_one (s_app (pv 5) (x_v (pv 6)))) b_nil)) b_nil)))) b_nil)))
  (b_one (s_ret (x_v (pv 5)))))))
theorem cal__law_trades (F : FnP K "_law_trades" s__law_trades f fd) (hm : mg "_law_trades" = some (.ref f)) (D0 : FnD P w K mg base cf 2 f fd ps__law_trades d__law_trades) : CalD P w K mg base cf 2 "_law_trades" ps__law_trades d__law_trades :=
  .of F hm D0 fun _ _ _ _ _ _ us hl => match us, hl with | [_, _, _, _], _ => rfl

/-! _law_twofold -/
abbrev N__law_twofold : List Str := ["book", "one", "other", "i"]
abbrev ps__law_twofold : List Str := ["book"]
def c__law_twofold : Es := (cSeq (cForD 0 (gN 1) (cForD 0 (gN 2) (cFor (iSeq (cV 1)) (gN 3) (cIfS (cAnd (cT (c2 ninD (cV 3) (cV 2))) (cT (c2 eqD (c1 lenD (cCall 4 d__law_trades (gCons (cV 0) (gCons (cV 1) (gCons (cV 2) (gCons (cV 3) gNil)))))) (cC (.int 0))))) (cRet (cC (.bl false))) cNx))))
  (cRet (cC (.bl true))))
def sl__law_twofold : List Nat := [1, 2, 3]
def d__law_twofold : Df := mkDf sl__law_twofold 3 c__law_twofold
theorem sc__law_twofold : FnScope N__law_twofold ps__law_twofold (defScope s__law_twofold) := ⟨rfl, rfl, rfl, by decide +kernel, rfl, by decide +kernel, by decide +kernel⟩
theorem ok__law_twofold (F : FnP K "_law_twofold" s__law_twofold f fd) (B : Bs mg) (C__law_trades : CalD P w K mg base cf 2 "_law_trades" ps__law_trades d__law_trades) : FnD P w K mg base cf 3 f fd ps__law_twofold d__law_twofold :=
  fnD (c := c__law_twofold) (sl := sl__law_twofold) F sc__law_twofold rfl fun CX cdv A outer s H E hr =>
  (b_cons (s_forD PassesOwn.never rfl (pv 0) (g_name (i := 1) sc__law_twofold.nd rfl (by first | exact Or.inl rfl | exact Or.inr rfl)) (b_one (s_forD PassesOwn.never rfl (pv 0) (g_name (i := 2) sc__law_twofold.nd rfl (by first | exact Or.inl rfl | exact Or.inr rfl)) (b_one (s_for PassesOwn.never rfl (i_seq (x_v (pv 1))) (g_name (i := 3) sc__law_twofold.nd rfl (by first | exact Or.inl rfl | exact Or.inr rfl)) (b_one (s_if (t_w (w_and (t_cmp (opr_nin hr.units1) op2_nin (x_v (pv 3)) (x_v (pv 2)) (by with_unfolding_all rfl)) (w_and1 (t_cmp (op_eqD hr.units) op2_eq (x_cb1 call_len_seq op1_len (by rfl) B.len boot_len (x_callC C__law_trades hr (by decide) (by rfl) (ag_cons (x_v (pv 0)) (ag_cons (x_v (pv 1)) (ag_cons (x_v (pv 2)) (ag_cons (x_v (pv 3)) ag_nil)))))) x_int (nomark _))))) (b_one (s_ret x_bl)) b_nil)))))))
  (b_one (s_ret x_bl)))
theorem cal__law_twofold (F : FnP K "_law_twofold" s__law_twofold f fd) (hm : mg "_law_twofold" = some (.ref f)) (D0 : FnD P w K mg base cf 3 f fd ps__law_twofold d__law_twofold) : CalD P w K mg base cf 3 "_law_twofold" ps__law_twofold d__law_twofold :=
  .of F hm D0 fun _ _ _ _ _ _ us hl => match us, hl with | [_], _ => rfl

/-! _law_orders -/
abbrev N__law_orders : List Str := ["deep", "orders", "turn", "longer", "done", "k"]
abbrev ps__law_orders : List Str := ["deep"]
def c__law_orders : Es := (cSeq (cSet 1 (cLst (aCons (cTup aNil) aNil)))
  (cSeq (cFor (iRg1 (cV 0)) (gN 2) (cSeq (cSet 3 (cLst aNil))
  (cSeq (cFor (iSeq (cV 1)) (gN 4) (cSet 3 (c2 addD (cV 3) (cLc [5] (iRg1 (cV 0)) (gN 5) (cT (c2 ninD (cV 5) (cV 4))) (c2 addD (cV 4) (cTup (aCons (cV 5) aNil)))))))
  (cSet 1 (cV 3)))))
  (cRet (cV 1))))
def sl__law_orders : List Nat := [1, 2, 3, 4, 3, 1]
def d__law_orders : Df := mkDf sl__law_orders 5 c__law_orders
theorem sc__law_orders : FnScope N__law_orders ps__law_orders (defScope s__law_orders) := ⟨rfl, rfl, rfl, by decide +kernel, rfl, by decide +kernel, by decide +kernel⟩
theorem ok__law_orders (F : FnP K "_law_orders" s__law_orders f fd) (B : Bs mg) : FnD P w K mg base cf 1 f fd ps__law_orders d__law_orders :=
  fnD (c := c__law_orders) (sl := sl__law_orders) F sc__law_orders rfl fun CX cdv A outer s H E hr =>
  (b_cons (s_set (i := 1) sc__law_orders.nd rfl (by first | exact Or.inl rfl | exact Or.inr rfl) (x_o (o_lst (xa_cons (x_tup xa_nil) xa_nil))))
  (b_cons (s_for PassesOwn.never rfl (i_rg1 (by rfl) B.range (x_v (pv 0))) (g_name (i := 2) sc__law_orders.nd rfl (by first | exact Or.inl rfl | exact Or.inr rfl)) (b_cons (s_set (i := 3) sc__law_orders.nd rfl (by first | exact Or.inl rfl | exact Or.inr rfl) (x_o (o_lst xa_nil)))
  (b_cons (s_for PassesOwn.never rfl (i_seq (x_v (pv 1))) (g_name (i := 4) sc__law_orders.nd rfl (by first | exact Or.inl rfl | exact Or.inr rfl)) (b_one (s_set (i := 3) sc__law_orders.nd rfl (by first | exact Or.inl rfl | exact Or.inr rfl) (x_op opr_add op2_add (x_v (pv 3)) (x_o (o_lc rfl sc__law_orders.nd (i_rg1 (by rfl) B.range (x_v (pv 0))) (blkOk_by (own := [("k", 5)]) (by rfl)) (by decide) (fun _ _ _ _ _ => (g_name (i := 5) sc__law_orders.nd rfl (by first | exact Or.inl rfl | exact Or.inr rfl))) (fun _ _ _ _ _ => (ts_one (t_cmp (opr_nin hr.units1) op2_nin (x_v (pv 5)) (x_v (pv 4)) (by with_unfolding_all rfl)))) (fun _ _ _ _ _ => (x_op opr_add op2_add (x_v (pv 4)) (x_tup (xa_cons (x_v (pv 5)) xa_nil))))))))))
  (b_one (s_set (i := 1) sc__law_orders.nd rfl (by first | exact Or.inl rfl | exact Or.inr rfl) (x_v (pv 3)))))))
  (b_one (s_ret (x_v (pv 1))))))
theorem cal__law_orders (F : FnP K "_law_orders" s__law_orders f fd) (hm : mg "_law_orders" = some (.ref f)) (D0 : FnD P w K mg base cf 1 f fd ps__law_orders d__law_orders) : CalD P w K mg base cf 1 "_law_orders" ps__law_orders d__law_orders :=
  .of F hm D0 fun _ _ _ _ _ _ us hl => match us, hl with | [_], _ => rfl

/-! _law_placed -/
abbrev N__law_placed : List Str := ["rows", "wide", "deep", "orders", "book", "lot", "turn", "parts", "total", "at"]
abbrev ps__law_placed : List Str := ["rows", "wide"]
def c__law_placed : Es := (cSeq (cSet 2 (c1 lenD (cV 0)))
  (cSeq (cSet 3 (cCall 1 d__law_orders (gCons (cV 2) gNil)))
  (cSeq (cSetO 4 (cC (.dT [])))
  (cSeq (cFor (iSeq (cCall 2 d__law_lots (gCons (cV 1) (gCons (cV 2) gNil)))) (gN 5) (cFor (iSeq (cV 3)) (gN 6) (cSeq (cSet 7 (cLc [9] (iRg1 (cV 2)) (gN 9) cYes (c2 ixD (c2 ixD (cV 0) (c2 ixD (cV 6) (cV 9))) (c2 ixD (cV 5) (cV 9)))))
  (cIfS (cT (c2 ninD (cC .non) (cV 7))) (cSeq (cSet 8 (c1 sumD (cV 7)))
  (cIfS (cOr (cT (cB2 4 ninD (cV 5))) (cT (c2 ltD (cB1 4 ixD (cV 5)) (cV 8)))) (cPutD 4 (cV 5) (cV 8)) cNx)) cNx))))
  (cRetO (cVO 4))))))
def sl__law_placed : List Nat := [2, 3, 4, 5, 6, 7, 8]
def d__law_placed : Df := mkDf sl__law_placed 8 c__law_placed
theorem sc__law_placed : FnScope N__law_placed ps__law_placed (defScope s__law_placed) := ⟨rfl, rfl, rfl, by decide +kernel, rfl, by decide +kernel, by decide +kernel⟩
theorem ok__law_placed (F : FnP K "_law_placed" s__law_placed f fd) (B : Bs mg) (C__law_lots : CalD P w K mg base cf 1 "_law_lots" ps__law_lots d__law_lots) (C__law_orders : CalD P w K mg base cf 1 "_law_orders" ps__law_orders d__law_orders) : FnD P w K mg base cf 2 f fd ps__law_placed d__law_placed :=
  fnD (c := c__law_placed) (sl := sl__law_placed) F sc__law_placed rfl fun CX cdv A outer s H E hr =>
  (b_cons (s_set (i := 2) sc__law_placed.nd rfl (by first | exact Or.inl rfl | exact Or.inr rfl) (x_cb1 call_len_seq op1_len (by rfl) B.len boot_len (x_v (pv 0))))
  (b_cons (s_set (i := 3) sc__law_placed.nd rfl (by first | exact Or.inl rfl | exact Or.inr rfl) (x_callC C__law_orders hr (by decide) (by rfl) (ag_cons (x_v (pv 2)) ag_nil)))
  (b_cons (s_setO (i := 4) sc__law_placed.nd rfl (by first | exact Or.inl rfl | exact Or.inr rfl) o_dnewT)
  (b_cons (s_for PassesOwn.never rfl (i_seq (x_callC C__law_lots hr (by decide) (by rfl) (ag_cons (x_v (pv 1)) (ag_cons (x_v (pv 2)) ag_nil)))) (g_name (i := 5) sc__law_placed.nd rfl (by first | exact Or.inl rfl | exact Or.inr rfl)) (b_one (s_for PassesOwn.never rfl (i_seq (x_v (pv 3))) (g_name (i := 6) sc__law_placed.nd rfl (by first | exact Or.inl rfl | exact Or.inr rfl)) (b_cons (s_setLc (i := 7) rfl sc__law_placed.nd rfl rfl rfl (i_rg1 (by rfl) B.range (x_v (pv 2))) (blkOk_by (own := [("at", 9)]) (by rfl)) (by decide) (fun _ _ _ _ _ => (g_name (i := 9) sc__law_placed.nd rfl (by first | exact Or.inl rfl | exact Or.inr rfl))) (fun _ _ _ _ _ => ts_nil) (fun _ _ _ _ _ => (x_ix (ixr_all hr.units1) op2_ix (x_ix (ixr_all hr.units1) op2_ix (x_v (pv 0)) (x_ix (ixr_all hr.units1) op2_ix (x_v (pv 6)) (x_v (pv 9)) (by intros _ _; rfl)) (by intros _ _; rfl)) (x_ix (ixr_all hr.units1) op2_ix (x_v (pv 5)) (x_v (pv 9)) (by intros _ _; rfl)) (by intros _ _; rfl))))
  (b_one (s_if (t_cmp (opr_nin hr.units1) op2_nin x_non (x_v (pv 7)) (by with_unfolding_all rfl)) (b_cons (s_set (i := 8) sc__law_placed.nd rfl (by first | exact Or.inl rfl | exact Or.inr rfl) (x_cb1 (cr_sum rfl) op1_sum (by rfl) B.sum boot_sum (x_v (pv 7))))
  (b_one (s_if (t_w (w_or (t_cmpB (opr_nin hr.units1) op2_nin (x_v (pv 5)) (pv 4) (by with_unfolding_all rfl)) (w_or1 (t_cmp op_lt op2_lt (x_ixB (ixr_all hr.units1) op2_ix (pv 4) (x_v (pv 5)) (by intros _ _; rfl)) (x_v (pv 8)) (nomark _))))) (b_one (s_putD hr.units1 (pv 4) (x_v (pv 5)) (x_v (pv 8)))) b_nil))) b_nil))))))
  (b_one (s_retO (o_v (pv 4))))))))
theorem cal__law_placed (F : FnP K "_law_placed" s__law_placed f fd) (hm : mg "_law_placed" = some (.ref f)) (D0 : FnD P w K mg base cf 2 f fd ps__law_placed d__law_placed) : CalD P w K mg base cf 2 "_law_placed" ps__law_placed d__law_placed :=
  .of F hm D0 fun _ _ _ _ _ _ us hl => match us, hl with | [_, _], _ => rfl

/-! _law_moved_by -/
abbrev N__law_moved_by : List Str := ["book", "prices", "found", "lot", "e"]
abbrev ps__law_moved_by : List Str := ["book", "prices"]
def c__law_moved_by : Es := (cSeq (cSetO 2 (cC (.dT [])))
  (cSeq (cForD 0 (gN 3) (cPutD 2 (cV 3) (c2 addD (c2 ixD (cV 0) (cV 3)) (c1 sumD (cLc [4] (iSeq (cV 3)) (gN 4) cYes (c2 ixD (cV 1) (cV 4)))))))
  (cRetO (cVO 2))))
def sl__law_moved_by : List Nat := [2, 3]
def d__law_moved_by : Df := mkDf sl__law_moved_by 3 c__law_moved_by
theorem sc__law_moved_by : FnScope N__law_moved_by ps__law_moved_by (defScope s__law_moved_by) := ⟨rfl, rfl, rfl, by decide +kernel, rfl, by decide +kernel, by decide +kernel⟩
theorem ok__law_moved_by (F : FnP K "_law_moved_by" s__law_moved_by f fd) (B : Bs mg) : FnD P w K mg base cf 1 f fd ps__law_moved_by d__law_moved_by :=
  fnD (c := c__law_moved_by) (sl := sl__law_moved_by) F sc__law_moved_by rfl fun CX cdv A outer s H E hr =>
  (b_cons (s_setO (i := 2) sc__law_moved_by.nd rfl (by first | exact Or.inl rfl | exact Or.inr rfl) o_dnewT)
  (b_cons (s_forD PassesOwn.never rfl (pv 0) (g_name (i := 3) sc__law_moved_by.nd rfl (by first | exact Or.inl rfl | exact Or.inr rfl)) (b_one (s_putD hr.units1 (pv 2) (x_v (pv 3)) (x_op opr_add op2_add (x_ix (ixr_all hr.units1) op2_ix (x_v (pv 0)) (x_v (pv 3)) (by intros _ _; rfl)) (x_cb1 (cr_sum rfl) op1_sum (by rfl) B.sum boot_sum (x_o (o_lc rfl sc__law_moved_by.nd (i_seq (x_v (pv 3))) (blkOk_by (own := [("e", 4)]) (by rfl)) (by decide) (fun _ _ _ _ _ => (g_name (i := 4) sc__law_moved_by.nd rfl (by first | exact Or.inl rfl | exact Or.inr rfl))) (fun _ _ _ _ _ => ts_nil) (fun _ _ _ _ _ => (x_ix (ixr_all hr.units1) op2_ix (x_v (pv 1)) (x_v (pv 4)) (by intros _ _; rfl))))))))))
  (b_one (s_retO (o_v (pv 2))))))
theorem cal__law_moved_by (F : FnP K "_law_moved_by" s__law_moved_by f fd) (hm : mg "_law_moved_by" = some (.ref f)) (D0 : FnD P w K mg base cf 1 f fd ps__law_moved_by d__law_moved_by) : CalD P w K mg base cf 1 "_law_moved_by" ps__law_moved_by d__law_moved_by :=
  .of F hm D0 fun _ _ _ _ _ _ us hl => match us, hl with | [_, _], _ => rfl

/-! _law_counted -/
abbrev N__law_counted : List Str := ["draws", "wide", "deep", "part", "step", "bend", "book", "lot", "many", "e"]
abbrev ps__law_counted : List Str := ["draws", "wide", "deep"]
def c__law_counted : Es := (cSeq (cSet 3 (cCall 2 d__law_lot (gOwn 0 (gCons (cV 1) gNil))))
  (cSeq (cSet 4 (cCall 2 d__law_take (gOwn 0 (gCons (cC (.int 4)) gNil))))
  (cSeq (cSet 5 (cCall 2 d__law_take (gOwn 0 (gCons (cC (.int 4)) gNil))))
  (cSeq (cSetO 6 (cC (.dT [])))
  (cSeq (cFor (iSeq (cCall 2 d__law_lots (gCons (cV 1) (gCons (cV 2) gNil)))) (gN 7) (cSeq (cSet 8 (c1 lenD (cLc [9] (iSeq (cV 7)) (gN 9) (cT (c2 inD (cV 9) (cV 3))) (cV 9))))
  (cPutD 6 (cV 7) (c2 subD (c2 mulD (cV 8) (cV 4)) (c2 mulD (c2 mulD (cV 5) (cV 8)) (cV 8))))))
  (cRetO (cVO 6)))))))
def sl__law_counted : List Nat := [3, 4, 5, 6, 7, 8]
def d__law_counted : Df := mkDf sl__law_counted 7 c__law_counted
theorem sc__law_counted : FnScope N__law_counted ps__law_counted (defScope s__law_counted) := ⟨rfl, rfl, rfl, by decide +kernel, rfl, by decide +kernel, by decide +kernel⟩
theorem ok__law_counted (F : FnP K "_law_counted" s__law_counted f fd) (B : Bs mg) (C__law_lot : CalD P w K mg base cf 2 "_law_lot" ps__law_lot d__law_lot) (C__law_lots : CalD P w K mg base cf 1 "_law_lots" ps__law_lots d__law_lots) (C__law_take : CalD P w K mg base cf 1 "_law_take" ps__law_take d__law_take) : FnD P w K mg base cf 3 f fd ps__law_counted d__law_counted :=
  fnD (c := c__law_counted) (sl := sl__law_counted) F sc__law_counted rfl fun CX cdv A outer s H E hr =>
  (b_cons (s_set (i := 3) sc__law_counted.nd rfl (by first | exact Or.inl rfl | exact Or.inr rfl) (x_callC C__law_lot hr (by decide) (by rfl) (ag_own (pv 0) (ag_cons (x_v (pv 1)) ag_nil))))
  (b_cons (s_set (i := 4) sc__law_counted.nd rfl (by first | exact Or.inl rfl | exact Or.inr rfl) (x_callC C__law_take hr (by decide) (by rfl) (ag_own (pv 0) (ag_cons x_int ag_nil))))
  (b_cons (s_set (i := 5) sc__law_counted.nd rfl (by first | exact Or.inl rfl | exact Or.inr rfl) (x_callC C__law_take hr (by decide) (by rfl) (ag_own (pv 0) (ag_cons x_int ag_nil))))
  (b_cons (s_setO (i := 6) sc__law_counted.nd rfl (by first | exact Or.inl rfl | exact Or.inr rfl) o_dnewT)
  (b_cons (s_for PassesOwn.never rfl (i_seq (x_callC C__law_lots hr (by decide) (by rfl) (ag_cons (x_v (pv 1)) (ag_cons (x_v (pv 2)) ag_nil)))) (g_name (i := 7) sc__law_counted.nd rfl (by first | exact Or.inl rfl | exact Or.inr rfl)) (b_cons (s_set (i := 8) sc__law_counted.nd rfl (by first | exact Or.inl rfl | exact Or.inr rfl) (x_cb1 call_len_seq op1_len (by rfl) B.len boot_len (x_o (o_lc rfl sc__law_counted.nd (i_seq (x_v (pv 7))) (blkOk_by (own := [("e", 9)]) (by rfl)) (by decide) (fun _ _ _ _ _ => (g_name (i := 9) sc__law_counted.nd rfl (by first | exact Or.inl rfl | exact Or.inr rfl))) (fun _ _ _ _ _ => (ts_one (t_cmp (opr_in hr.units1) op2_in (x_v (pv 9)) (x_v (pv 3)) (by with_unfolding_all rfl)))) (fun _ _ _ _ _ => (x_v (pv 9)))))))
  (b_one (s_putD hr.units1 (pv 6) (x_v (pv 7)) (x_op op_sub op2_sub (x_op op_mul op2_mul (x_v (pv 8)) (x_v (pv 4))) (x_op op_mul op2_mul (x_op op_mul op2_mul (x_v (pv 5)) (x_v (pv 8))) (x_v (pv 8))))))))
  (b_one (s_retO (o_v (pv 6)))))))))
theorem cal__law_counted (F : FnP K "_law_counted" s__law_counted f fd) (hm : mg "_law_counted" = some (.ref f)) (D0 : FnD P w K mg base cf 3 f fd ps__law_counted d__law_counted) : CalD P w K mg base cf 3 "_law_counted" ps__law_counted d__law_counted :=
  .of F hm D0 fun _ _ _ _ _ _ us hl => match us, hl with | [_, _, _], _ => rfl

/-! _law_level -/
abbrev N__law_level : List Str := ["wide", "deep", "book", "lot"]
abbrev ps__law_level : List Str := ["wide", "deep"]
def c__law_level : Es := (cSeq (cSetO 2 (cC (.dT [])))
  (cSeq (cFor (iSeq (cCall 2 d__law_lots (gCons (cV 0) (gCons (cV 1) gNil)))) (gN 3) (cPutD 2 (cV 3) (cC (.int 0))))
  (cRetO (cVO 2))))
def sl__law_level : List Nat := [2, 3]
def d__law_level : Df := mkDf sl__law_level 2 c__law_level
theorem sc__law_level : FnScope N__law_level ps__law_level (defScope s__law_level) := ⟨rfl, rfl, rfl, by decide +kernel, rfl, by decide +kernel, by decide +kernel⟩
theorem ok__law_level (F : FnP K "_law_level" s__law_level f fd) (C__law_lots : CalD P w K mg base cf 1 "_law_lots" ps__law_lots d__law_lots) : FnD P w K mg base cf 2 f fd ps__law_level d__law_level :=
  fnD (c := c__law_level) (sl := sl__law_level) F sc__law_level rfl fun CX cdv A outer s H E hr =>
  (b_cons (s_setO (i := 2) sc__law_level.nd rfl (by first | exact Or.inl rfl | exact Or.inr rfl) o_dnewT)
  (b_cons (s_for PassesOwn.never rfl (i_seq (x_callC C__law_lots hr (by decide) (by rfl) (ag_cons (x_v (pv 0)) (ag_cons (x_v (pv 1)) ag_nil)))) (g_name (i := 3) sc__law_level.nd rfl (by first | exact Or.inl rfl | exact Or.inr rfl)) (b_one (s_putD hr.units1 (pv 2) (x_v (pv 3)) x_int)))
  (b_one (s_retO (o_v (pv 2))))))
theorem cal__law_level (F : FnP K "_law_level" s__law_level f fd) (hm : mg "_law_level" = some (.ref f)) (D0 : FnD P w K mg base cf 2 f fd ps__law_level d__law_level) : CalD P w K mg base cf 2 "_law_level" ps__law_level d__law_level :=
  .of F hm D0 fun _ _ _ _ _ _ us hl => match us, hl with | [_, _], _ => rfl

/-! _law_full -/
abbrev N__law_full : List Str := ["draws", "wide", "deep", "word", "book", "lots", "rows", "k", "e"]
abbrev ps__law_full : List Str := ["draws", "wide", "deep"]
def c__law_full : Es := (cSeq (cSet 3 (cCall 2 d__law_take (gOwn 0 (gCons (cC (.int 3)) gNil))))
  (cSeq (cSetO 4 (cCallO 3 d__law_counted (gOwn 0 (gCons (cV 1) (gCons (cV 2) gNil)))))
  (cSeq (cSet 5 (cCall 2 d__law_lots (gCons (cV 1) (gCons (cV 2) gNil))))
  (cSeq (cIfS (cT (c2 eqD (cV 3) (cC (.int 1)))) (cSeq (cSetO 4 (cCallO 2 d__law_level (gCons (cV 1) (gCons (cV 2) gNil))))
  (cPutD 4 (c2 ixD (cV 5) (cCall 2 d__law_take (gOwn 0 (gCons (c1 lenD (cV 5)) gNil)))) (c2 subD (c1 negD (cC (.int 1))) (cCall 2 d__law_take (gOwn 0 (gCons (cC (.int 4)) gNil)))))) cNx)
  (cSeq (cIfS (cAnd (cT (c2 eqD (cV 3) (cC (.int 2)))) (cT (c2 leD (cV 2) (cC (.int 3))))) (cSeq (cSetO 6 (cLst aNil))
  (cSeq (cFor (iRg1 (cV 2)) (gN 7) (cApp 6 (cLc [8] (iRg1 (cV 1)) (gN 8) cYes (cCall 2 d__law_take (gOwn 0 (gCons (cC (.int 5)) gNil))))))
  (cSetO 4 (cCallO 2 d__law_placed (gCons (cV 6) (gCons (cV 1) gNil)))))) cNx)
  (cRetO (cCallO 2 d__law_moved_by (gCons (cV 4) (gCons (cCall 2 d__law_prices (gOwn 0 (gCons (cV 1) gNil))) gNil)))))))))
def sl__law_full : List Nat := [3, 4, 5, 4, 6, 7, 4]
def d__law_full : Df := mkDf sl__law_full 6 c__law_full
theorem sc__law_full : FnScope N__law_full ps__law_full (defScope s__law_full) := ⟨rfl, rfl, rfl, by decide +kernel, rfl, by decide +kernel, by decide +kernel⟩
theorem ok__law_full (F : FnP K "_law_full" s__law_full f fd) (B : Bs mg) (C__law_counted : CalD P w K mg base cf 3 "_law_counted" ps__law_counted d__law_counted) (C__law_level : CalD P w K mg base cf 2 "_law_level" ps__law_level d__law_level) (C__law_lots : CalD P w K mg base cf 1 "_law_lots" ps__law_lots d__law_lots) (C__law_moved_by : CalD P w K mg base cf 1 "_law_moved_by" ps__law_moved_by d__law_moved_by) (C__law_placed : CalD P w K mg base cf 2 "_law_placed" ps__law_placed d__law_placed) (C__law_prices : CalD P w K mg base cf 3 "_law_prices" ps__law_prices d__law_prices) (C__law_take : CalD P w K mg base cf 1 "_law_take" ps__law_take d__law_take) : FnD P w K mg base cf 4 f fd ps__law_full d__law_full :=
  fnD (c := c__law_full) (sl := sl__law_full) F sc__law_full rfl fun CX cdv A outer s H E hr =>
  (b_cons (s_set (i := 3) sc__law_full.nd rfl (by first | exact Or.inl rfl | exact Or.inr rfl) (x_callC C__law_take hr (by decide) (by rfl) (ag_own (pv 0) (ag_cons x_int ag_nil))))
  (b_cons (s_setO (i := 4) sc__law_full.nd rfl (by first | exact Or.inl rfl | exact Or.inr rfl) (o_callC C__law_counted hr (by decide) (by rfl) (ag_own (pv 0) (ag_cons (x_v (pv 1)) (ag_cons (x_v (pv 2)) ag_nil)))))
  (b_cons (s_set (i := 5) sc__law_full.nd rfl (by first | exact Or.inl rfl | exact Or.inr rfl) (x_callC C__law_lots hr (by decide) (by rfl) (ag_cons (x_v (pv 1)) (ag_cons (x_v (pv 2)) ag_nil))))
  (b_cons (s_if (t_cmp (op_eqD hr.units) op2_eq (x_v (pv 3)) x_int (nomark _)) (b_cons (s_setO (i := 4) sc__law_full.nd rfl (by first | exact Or.inl rfl | exact Or.inr rfl) (o_callC C__law_level hr (by decide) (by rfl) (ag_cons (x_v (pv 1)) (ag_cons (x_v (pv 2)) ag_nil))))
  (b_one (s_putD hr.units1 (pv 4) (x_ix (ixr_all hr.units1) op2_ix (x_v (pv 5)) (x_callC C__law_take hr (by decide) (by rfl) (ag_own (pv 0) (ag_cons (x_cb1 call_len_seq op1_len (by rfl) B.len boot_len (x_v (pv 5))) ag_nil))) (by intros _ _; rfl)) (x_op op_sub op2_sub (x_neg x_int) (x_callC C__law_take hr (by decide) (by rfl) (ag_own (pv 0) (ag_cons x_int ag_nil))))))) b_nil)
  (b_cons (s_if (t_w (w_and (t_cmp (op_eqD hr.units) op2_eq (x_v (pv 3)) x_int (nomark _)) (w_and1 (t_cmp op_le op2_le (x_v (pv 2)) x_int (nomark _))))) (b_cons (s_setO (i := 6) sc__law_full.nd rfl (by first | exact Or.inl rfl | exact Or.inr rfl) (o_lst xa_nil))
  (b_cons (s_for PassesOwn.never rfl (i_rg1 (by rfl) B.range (x_v (pv 2))) (g_name (i := 7) sc__law_full.nd rfl (by first | exact Or.inl rfl | exact Or.inr rfl)) (b_one (s_app (pv 6) (x_o (o_lc rfl sc__law_full.nd (i_rg1 (by rfl) B.range (x_v (pv 1))) (blkOk_by (own := [("e", 8)]) (by rfl)) (by decide) (fun _ _ _ _ _ => (g_name (i := 8) sc__law_full.nd rfl (by first | exact Or.inl rfl | exact Or.inr rfl))) (fun _ _ _ _ _ => ts_nil) (fun _ _ _ _ _ => (x_callC C__law_take hr (by decide) (by rfl) (ag_own (pv 0) (ag_cons x_int ag_nil)))))))))
  (b_one (s_setO (i := 4) sc__law_full.nd rfl (by first | exact Or.inl rfl | exact Or.inr rfl) (o_callC C__law_placed hr (by decide) (by rfl) (ag_cons (x_v (pv 6)) (ag_cons (x_v (pv 1)) ag_nil))))))) b_nil)
  (b_one (s_retO (o_callC C__law_moved_by hr (by decide) (by rfl) (ag_cons (x_v (pv 4)) (ag_cons (x_callC C__law_prices hr (by decide) (by rfl) (ag_own (pv 0) (ag_cons (x_v (pv 1)) ag_nil))) ag_nil))))))))))
theorem cal__law_full (F : FnP K "_law_full" s__law_full f fd) (hm : mg "_law_full" = some (.ref f)) (D0 : FnD P w K mg base cf 4 f fd ps__law_full d__law_full) : CalD P w K mg base cf 4 "_law_full" ps__law_full d__law_full :=
  .of F hm D0 fun _ _ _ _ _ _ us hl => match us, hl with | [_, _, _], _ => rfl

/-! _law_fours_with -/
abbrev N__law_fours_with : List Str := ["wide", "deep", "z", "found", "low", "pool", "at", "four", "e", "k"]
abbrev ps__law_fours_with : List Str := ["wide", "deep", "z"]
def c__law_fours_with : Es := (cSeq (cSetO 3 (cLst aNil))
  (cSeq (cFor (iSeq (cCall 2 d__law_lots (gCons (cV 0) (gCons (c2 subD (cV 1) (cC (.int 2))) gNil)))) (gN 4) (cSeq (cSet 5 (cLc [8] (iRg1 (cV 0)) (gN 8) (cT (c2 ninD (cV 8) (cV 4))) (cV 8)))
  (cFor (iSeq (cCall 2 d__law_lots (gCons (c1 lenD (cV 5)) (gCons (cC (.int 4)) gNil)))) (gN 6) (cSeq (cSet 7 (c1 tupleD (cLc [9] (iSeq (cV 6)) (gN 9) cYes (c2 ixD (cV 5) (cV 9)))))
  (cIfS (cT (c2 inD (cV 2) (cV 7))) (cApp 3 (cTup (aCons (cV 4) (aCons (cV 7) aNil)))) cNx)))))
  (cRet (cV 3))))
def sl__law_fours_with : List Nat := [3, 4, 5, 6, 7]
def d__law_fours_with : Df := mkDf sl__law_fours_with 7 c__law_fours_with
theorem sc__law_fours_with : FnScope N__law_fours_with ps__law_fours_with (defScope s__law_fours_with) := ⟨rfl, rfl, rfl, by decide +kernel, rfl, by decide +kernel, by decide +kernel⟩
theorem ok__law_fours_with (F : FnP K "_law_fours_with" s__law_fours_with f fd) (B : Bs mg) (C__law_lots : CalD P w K mg base cf 1 "_law_lots" ps__law_lots d__law_lots) : FnD P w K mg base cf 2 f fd ps__law_fours_with d__law_fours_with :=
  fnD (c := c__law_fours_with) (sl := sl__law_fours_with) F sc__law_fours_with rfl fun CX cdv A outer s H E hr =>
  (b_cons (s_setO (i := 3) sc__law_fours_with.nd rfl (by first | exact Or.inl rfl | exact Or.inr rfl) (o_lst xa_nil))
  (b_cons (s_for PassesOwn.never rfl (i_seq (x_callC C__law_lots hr (by decide) (by rfl) (ag_cons (x_v (pv 0)) (ag_cons (x_op op_sub op2_sub (x_v (pv 1)) x_int) ag_nil)))) (g_name (i := 4) sc__law_fours_with.nd rfl (by first | exact Or.inl rfl | exact Or.inr rfl)) (b_cons (s_set (i := 5) sc__law_fours_with.nd rfl (by first | exact Or.inl rfl | exact Or.inr rfl) (x_o (o_lc rfl sc__law_fours_with.nd (i_rg1 (by rfl) B.range (x_v (pv 0))) (blkOk_by (own := [("e", 8)]) (by rfl)) (by decide) (fun _ _ _ _ _ => (g_name (i := 8) sc__law_fours_with.nd rfl (by first | exact Or.inl rfl | exact Or.inr rfl))) (fun _ _ _ _ _ => (ts_one (t_cmp (opr_nin hr.units1) op2_nin (x_v (pv 8)) (x_v (pv 4)) (by with_unfolding_all rfl)))) (fun _ _ _ _ _ => (x_v (pv 8))))))
  (b_one (s_for PassesOwn.never rfl (i_seq (x_callC C__law_lots hr (by decide) (by rfl) (ag_cons (x_cb1 call_len_seq op1_len (by rfl) B.len boot_len (x_v (pv 5))) (ag_cons x_int ag_nil)))) (g_name (i := 6) sc__law_fours_with.nd rfl (by first | exact Or.inl rfl | exact Or.inr rfl)) (b_cons (s_set (i := 7) sc__law_fours_with.nd rfl (by first | exact Or.inl rfl | exact Or.inr rfl) (x_ct1 call_tuple_of op1_tuple (by rfl) B.tuple boot_tuple (x_o (o_lc rfl sc__law_fours_with.nd (i_seq (x_v (pv 6))) (blkOk_by (own := [("k", 9)]) (by rfl)) (by decide) (fun _ _ _ _ _ => (g_name (i := 9) sc__law_fours_with.nd rfl (by first | exact Or.inl rfl | exact Or.inr rfl))) (fun _ _ _ _ _ => ts_nil) (fun _ _ _ _ _ => (x_ix (ixr_all hr.units1) op2_ix (x_v (pv 5)) (x_v (pv 9)) (by intros _ _; rfl)))))))
  (b_one (s_if (t_cmp (opr_in hr.units1) op2_in (x_v (pv 2)) (x_v (pv 7)) (by with_unfolding_all rfl)) (b_one (s_app (pv 3) (x_tup (xa_cons (x_v (pv 4)) (xa_cons (x_v (pv 7)) xa_nil))))) b_nil)))))))
  (b_one (s_ret (x_v (pv 3))))))
theorem cal__law_fours_with (F : FnP K "_law_fours_with" s__law_fours_with f fd) (hm : mg "_law_fours_with" = some (.ref f)) (D0 : FnD P w K mg base cf 2 f fd ps__law_fours_with d__law_fours_with) : CalD P w K mg base cf 2 "_law_fours_with" ps__law_fours_with d__law_fours_with :=
  .of F hm D0 fun _ _ _ _ _ _ us hl => match us, hl with | [_, _, _], _ => rfl

/-! _law_pair_sum -/
abbrev N__law_pair_sum : List Str := ["book", "low", "one", "other", "first_lot", "second_lot"]
abbrev ps__law_pair_sum : List Str := ["book", "low", "one", "other"]
def c__law_pair_sum : Es := (cSeq (cSet 4 (c1 tupleD (c1 sortedD (c2 addD (cV 1) (cV 2)))))
  (cSeq (cSet 5 (c1 tupleD (c1 sortedD (c2 addD (cV 1) (cV 3)))))
  (cSeq (cIfS (cOr (cT (c2 ninD (cV 4) (cV 0))) (cT (c2 ninD (cV 5) (cV 0)))) (cRet (cC .non)) cNx)
  (cRet (c2 addD (c2 ixD (cV 0) (cV 4)) (c2 ixD (cV 0) (cV 5)))))))
def sl__law_pair_sum : List Nat := [4, 5]
def d__law_pair_sum : Df := mkDf sl__law_pair_sum 2 c__law_pair_sum
theorem sc__law_pair_sum : FnScope N__law_pair_sum ps__law_pair_sum (defScope s__law_pair_sum) := ⟨rfl, rfl, rfl, by decide +kernel, rfl, by decide +kernel, by decide +kernel⟩
theorem ok__law_pair_sum (F : FnP K "_law_pair_sum" s__law_pair_sum f fd) (B : Bs mg) : FnD P w K mg base cf 1 f fd ps__law_pair_sum d__law_pair_sum :=
  fnD (c := c__law_pair_sum) (sl := sl__law_pair_sum) F sc__law_pair_sum rfl fun CX cdv A outer s H E hr =>
  (b_cons (s_set (i := 4) sc__law_pair_sum.nd rfl (by first | exact Or.inl rfl | exact Or.inr rfl) (x_ct1 call_tuple_of op1_tuple (by rfl) B.tuple boot_tuple (x_o (o_cb1 cr_sortedA op1_sorted (by rfl) B.sorted boot_sorted (x_op opr_add op2_add (x_v (pv 1)) (x_v (pv 2)))))))
  (b_cons (s_set (i := 5) sc__law_pair_sum.nd rfl (by first | exact Or.inl rfl | exact Or.inr rfl) (x_ct1 call_tuple_of op1_tuple (by rfl) B.tuple boot_tuple (x_o (o_cb1 cr_sortedA op1_sorted (by rfl) B.sorted boot_sorted (x_op opr_add op2_add (x_v (pv 1)) (x_v (pv 3)))))))
  (b_cons (s_if (t_w (w_or (t_cmp (opr_nin hr.units1) op2_nin (x_v (pv 4)) (x_v (pv 0)) (by with_unfolding_all rfl)) (w_or1 (t_cmp (opr_nin hr.units1) op2_nin (x_v (pv 5)) (x_v (pv 0)) (by with_unfolding_all rfl))))) (b_one (s_ret x_non)) b_nil)
  (b_one (s_ret (x_op opr_add op2_add (x_ix (ixr_all hr.units1) op2_ix (x_v (pv 0)) (x_v (pv 4)) (by intros _ _; rfl)) (x_ix (ixr_all hr.units1) op2_ix (x_v (pv 0)) (x_v (pv 5)) (by intros _ _; rfl))))))))
theorem cal__law_pair_sum (F : FnP K "_law_pair_sum" s__law_pair_sum f fd) (hm : mg "_law_pair_sum" = some (.ref f)) (D0 : FnD P w K mg base cf 1 f fd ps__law_pair_sum d__law_pair_sum) : CalD P w K mg base cf 1 "_law_pair_sum" ps__law_pair_sum d__law_pair_sum :=
  .of F hm D0 fun _ _ _ _ _ _ us hl => match us, hl with | [_, _, _, _], _ => rfl

/-! _law_sums -/
abbrev N__law_sums : List Str := ["book", "low", "four", "one", "two", "a", "b", "c", "d"]
abbrev ps__law_sums : List Str := ["book", "low", "four"]
def c__law_sums : Es := (cSeq (fun ρ => ((cV 2) ρ).bind fun p => ((gT 4 (gCons' (gN 5) (gCons' (gN 6) (gCons' (gN 7) (gCons' (gN 8) gNil'))))) p.1 p.2).bind fun ρ' => some (.nx, ρ'))
  (cSeq (cSet 3 (cCall 4 d__law_pair_sum (gCons (cV 0) (gCons (cV 1) (gCons (cTup (aCons (cV 5) (aCons (cV 6) aNil))) (gCons (cTup (aCons (cV 7) (aCons (cV 8) aNil))) gNil))))))
  (cSeq (cSet 4 (cCall 4 d__law_pair_sum (gCons (cV 0) (gCons (cV 1) (gCons (cTup (aCons (cV 5) (aCons (cV 7) aNil))) (gCons (cTup (aCons (cV 6) (aCons (cV 8) aNil))) gNil))))))
  (cRet (cTup (aCons (cV 3) (aCons (cV 4) (aCons (cCall 4 d__law_pair_sum (gCons (cV 0) (gCons (cV 1) (gCons (cTup (aCons (cV 5) (aCons (cV 8) aNil))) (gCons (cTup (aCons (cV 6) (aCons (cV 7) aNil))) gNil))))) aNil))))))))
def sl__law_sums : List Nat := [5, 6, 7, 8, 3, 4]
def d__law_sums : Df := mkDf sl__law_sums 6 c__law_sums
theorem sc__law_sums : FnScope N__law_sums ps__law_sums (defScope s__law_sums) := ⟨rfl, rfl, rfl, by decide +kernel, rfl, by decide +kernel, by decide +kernel⟩
theorem ok__law_sums (F : FnP K "_law_sums" s__law_sums f fd) (C__law_pair_sum : CalD P w K mg base cf 1 "_law_pair_sum" ps__law_pair_sum d__law_pair_sum) : FnD P w K mg base cf 2 f fd ps__law_sums d__law_sums :=
  fnD (c := c__law_sums) (sl := sl__law_sums) F sc__law_sums rfl fun CX cdv A outer s H E hr =>
  (b_cons (s_asg (x_v (pv 2)) (g_tup rfl (gs_cons (g_name (i := 5) sc__law_sums.nd rfl (by first | exact Or.inl rfl | exact Or.inr rfl)) (gs_cons (g_name (i := 6) sc__law_sums.nd rfl (by first | exact Or.inl rfl | exact Or.inr rfl)) (gs_cons (g_name (i := 7) sc__law_sums.nd rfl (by first | exact Or.inl rfl | exact Or.inr rfl)) (gs_cons (g_name (i := 8) sc__law_sums.nd rfl (by first | exact Or.inl rfl | exact Or.inr rfl)) gs_nil))))))
  (b_cons (s_set (i := 3) sc__law_sums.nd rfl (by first | exact Or.inl rfl | exact Or.inr rfl) (x_callC C__law_pair_sum hr (by decide) (by rfl) (ag_cons (x_v (pv 0)) (ag_cons (x_v (pv 1)) (ag_cons (x_tup (xa_cons (x_v (pv 5)) (xa_cons (x_v (pv 6)) xa_nil))) (ag_cons (x_tup (xa_cons (x_v (pv 7)) (xa_cons (x_v (pv 8)) xa_nil))) ag_nil))))))
  (b_cons (s_set (i := 4) sc__law_sums.nd rfl (by first | exact Or.inl rfl | exact Or.inr rfl) (x_callC C__law_pair_sum hr (by decide) (by rfl) (ag_cons (x_v (pv 0)) (ag_cons (x_v (pv 1)) (ag_cons (x_tup (xa_cons (x_v (pv 5)) (xa_cons (x_v (pv 7)) xa_nil))) (ag_cons (x_tup (xa_cons (x_v (pv 6)) (xa_cons (x_v (pv 8)) xa_nil))) ag_nil))))))
  (b_one (s_ret (x_tup (xa_cons (x_v (pv 3)) (xa_cons (x_v (pv 4)) (xa_cons (x_callC C__law_pair_sum hr (by decide) (by rfl) (ag_cons (x_v (pv 0)) (ag_cons (x_v (pv 1)) (ag_cons (x_tup (xa_cons (x_v (pv 5)) (xa_cons (x_v (pv 8)) xa_nil))) (ag_cons (x_tup (xa_cons (x_v (pv 6)) (xa_cons (x_v (pv 7)) xa_nil))) ag_nil))))) xa_nil)))))))))
theorem cal__law_sums (F : FnP K "_law_sums" s__law_sums f fd) (hm : mg "_law_sums" = some (.ref f)) (D0 : FnD P w K mg base cf 2 f fd ps__law_sums d__law_sums) : CalD P w K mg base cf 2 "_law_sums" ps__law_sums d__law_sums :=
  .of F hm D0 fun _ _ _ _ _ _ us hl => match us, hl with | [_, _, _], _ => rfl

/-! _law_twice -/
abbrev N__law_twice : List Str := ["row", "known", "entry"]
abbrev ps__law_twice : List Str := ["row"]
def c__law_twice : Es := (cSeq (cSet 1 (cLc [2] (iSeq (cV 0)) (gN 2) (cT (c2 isnD (cV 2) (cC .non))) (cV 2)))
  (cRet (cOrV (c2 eqD (c1 lenD (cV 1)) (cC (.int 0))) (c2 gtD (c1 lenD (cLc [2] (iSeq (cV 1)) (gN 2) (cT (c2 eqD (cV 2) (c1 maxD (cV 1)))) (cV 2))) (cC (.int 1))))))
def sl__law_twice : List Nat := [1]
def d__law_twice : Df := mkDf sl__law_twice 2 c__law_twice
theorem sc__law_twice : FnScope N__law_twice ps__law_twice (defScope s__law_twice) := ⟨rfl, rfl, rfl, by decide +kernel, rfl, by decide +kernel, by decide +kernel⟩
theorem ok__law_twice (F : FnP K "_law_twice" s__law_twice f fd) (B : Bs mg) : FnD P w K mg base cf 1 f fd ps__law_twice d__law_twice :=
  fnD (c := c__law_twice) (sl := sl__law_twice) F sc__law_twice rfl fun CX cdv A outer s H E hr =>
  (b_cons (s_set (i := 1) sc__law_twice.nd rfl (by first | exact Or.inl rfl | exact Or.inr rfl) (x_o (o_lc rfl sc__law_twice.nd (i_seq (x_v (pv 0))) (blkOk_by (own := [("entry", 2)]) (by rfl)) (by decide) (fun _ _ _ _ _ => (g_name (i := 2) sc__law_twice.nd rfl (by first | exact Or.inl rfl | exact Or.inr rfl))) (fun _ _ _ _ _ => (ts_one (t_cmp op_notN op2_isn (x_v (pv 2)) x_non (nomark _)))) (fun _ _ _ _ _ => (x_v (pv 2))))))
  (b_one (s_ret (x_or (x_cmp (op_eqD hr.units) op2_eq (x_cb1 call_len_seq op1_len (by rfl) B.len boot_len (x_v (pv 1))) x_int (nomark _)) (x_one (x_cmp op_gt op2_gt (x_cb1 call_len_seq op1_len (by rfl) B.len boot_len (x_o (o_lc rfl sc__law_twice.nd (i_seq (x_v (pv 1))) (blkOk_by (own := [("entry", 2)]) (by rfl)) (by decide) (fun _ _ _ _ _ => (g_name (i := 2) sc__law_twice.nd rfl (by first | exact Or.inl rfl | exact Or.inr rfl))) (fun _ _ _ _ _ => (ts_one (t_cmp (op_eqD hr.units) op2_eq (x_v (pv 2)) (x_cb1 (cr_max rfl) op1_max (by rfl) B.max boot_max (x_v (pv 1))) (nomark _)))) (fun _ _ _ _ _ => (x_v (pv 2)))))) x_int (nomark _)))))))
theorem cal__law_twice (F : FnP K "_law_twice" s__law_twice f fd) (hm : mg "_law_twice" = some (.ref f)) (D0 : FnD P w K mg base cf 1 f fd ps__law_twice d__law_twice) : CalD P w K mg base cf 1 "_law_twice" ps__law_twice d__law_twice :=
  .of F hm D0 fun _ _ _ _ _ _ us hl => match us, hl with | [_], _ => rfl

/-! _law_held -/
abbrev N__law_held : List Str := ["table", "book", "wide", "deep", "z", "due", "broken", "pair", "sums"]
abbrev ps__law_held : List Str := ["table", "book", "wide", "deep", "z"]
def c__law_held : Es := (cSeq (cSet 5 (cCall 3 d__law_fours_with (gCons (cV 2) (gCons (cV 3) (gCons (cV 4) gNil)))))
  (cSeq (cIfS (cT (c2 neD (cCall 2 d_fours_through (gCons (cV 0) (gCons (cV 4) gNil))) (c1 tupleD (cV 5)))) (cRet (cC .non)) cNx)
  (cSeq (cSet 6 (cC (.int 0)))
  (cSeq (cFor (iSeq (cV 5)) (gN 7) (cSeq (cSet 8 (cCall 3 d_four_sums (gCons (cV 0) (gCons (c2 ixD (cV 7) (cC (.int 0))) (gCons (c2 ixD (cV 7) (cC (.int 1))) gNil)))))
  (cSeq (cIfS (cOr (cT (c2 neD (cV 8) (cCall 3 d__law_sums (gCons (cV 1) (gCons (c2 ixD (cV 7) (cC (.int 0))) (gCons (c2 ixD (cV 7) (cC (.int 1))) gNil)))))) (cT (c2 neD (cCall 1 d_is_twice (gCons (cV 8) gNil)) (cCall 1 d__law_twice (gCons (cV 8) gNil))))) (cRet (cC .non)) cNx)
  (cIfS (cNot (cTr (cCall 1 d_is_twice (gCons (cV 8) gNil)))) (cSet 6 (c2 addD (cV 6) (cC (.int 1)))) cNx))))
  (cRet (cV 6))))))
def sl__law_held : List Nat := [5, 6, 7, 8, 6]
def d__law_held : Df := mkDf sl__law_held 4 c__law_held
theorem sc__law_held : FnScope N__law_held ps__law_held (defScope s__law_held) := ⟨rfl, rfl, rfl, by decide +kernel, rfl, by decide +kernel, by decide +kernel⟩
theorem ok__law_held (F : FnP K "_law_held" s__law_held f fd) (B : Bs mg) (C__law_fours_with : CalD P w K mg base cf 2 "_law_fours_with" ps__law_fours_with d__law_fours_with) (C__law_sums : CalD P w K mg base cf 2 "_law_sums" ps__law_sums d__law_sums) (C__law_twice : CalD P w K mg base cf 1 "_law_twice" ps__law_twice d__law_twice) (C_four_sums : CalD P w K mg base cf 5 "four_sums" ps_four_sums d_four_sums) (C_fours_through : CalD P w K mg base cf 3 "fours_through" ps_fours_through d_fours_through) (C_is_twice : CalD P w K mg base cf 2 "is_twice" ps_is_twice d_is_twice) : FnD P w K mg base cf 6 f fd ps__law_held d__law_held :=
  fnD (c := c__law_held) (sl := sl__law_held) F sc__law_held rfl fun CX cdv A outer s H E hr =>
  (b_cons (s_set (i := 5) sc__law_held.nd rfl (by first | exact Or.inl rfl | exact Or.inr rfl) (x_callC C__law_fours_with hr (by decide) (by rfl) (ag_cons (x_v (pv 2)) (ag_cons (x_v (pv 3)) (ag_cons (x_v (pv 4)) ag_nil)))))
  (b_cons (s_if (t_cmp (op_neD hr.units) op2_ne (x_callC C_fours_through hr (by decide) (by rfl) (ag_cons (x_v (pv 0)) (ag_cons (x_v (pv 4)) ag_nil))) (x_ct1 call_tuple_of op1_tuple (by rfl) B.tuple boot_tuple (x_v (pv 5))) (nomark _)) (b_one (s_ret x_non)) b_nil)
  (b_cons (s_set (i := 6) sc__law_held.nd rfl (by first | exact Or.inl rfl | exact Or.inr rfl) x_int)
  (b_cons (s_for PassesOwn.never rfl (i_seq (x_v (pv 5))) (g_name (i := 7) sc__law_held.nd rfl (by first | exact Or.inl rfl | exact Or.inr rfl)) (b_cons (s_set (i := 8) sc__law_held.nd rfl (by first | exact Or.inl rfl | exact Or.inr rfl) (x_callC C_four_sums hr (by decide) (by rfl) (ag_cons (x_v (pv 0)) (ag_cons (x_ix (ixr_all hr.units1) op2_ix (x_v (pv 7)) x_int (by intros _ _; rfl)) (ag_cons (x_ix (ixr_all hr.units1) op2_ix (x_v (pv 7)) x_int (by intros _ _; rfl)) ag_nil)))))
  (b_cons (s_if (t_w (w_or (t_cmp (op_neD hr.units) op2_ne (x_v (pv 8)) (x_callC C__law_sums hr (by decide) (by rfl) (ag_cons (x_v (pv 1)) (ag_cons (x_ix (ixr_all hr.units1) op2_ix (x_v (pv 7)) x_int (by intros _ _; rfl)) (ag_cons (x_ix (ixr_all hr.units1) op2_ix (x_v (pv 7)) x_int (by intros _ _; rfl)) ag_nil)))) (nomark _)) (w_or1 (t_cmp (op_neD hr.units) op2_ne (x_callC C_is_twice hr (by decide) (by rfl) (ag_cons (x_v (pv 8)) ag_nil)) (x_callC C__law_twice hr (by decide) (by rfl) (ag_cons (x_v (pv 8)) ag_nil)) (nomark _))))) (b_one (s_ret x_non)) b_nil)
  (b_one (s_if (t_not (t_tru (x_callC C_is_twice hr (by decide) (by rfl) (ag_cons (x_v (pv 8)) ag_nil)))) (b_one (s_set (i := 6) sc__law_held.nd rfl (by first | exact Or.inl rfl | exact Or.inr rfl) (x_op opr_add op2_add (x_v (pv 6)) x_int))) b_nil)))))
  (b_one (s_ret (x_v (pv 6))))))))
theorem cal__law_held (F : FnP K "_law_held" s__law_held f fd) (hm : mg "_law_held" = some (.ref f)) (D0 : FnD P w K mg base cf 6 f fd ps__law_held d__law_held) : CalD P w K mg base cf 6 "_law_held" ps__law_held d__law_held :=
  .of F hm D0 fun _ _ _ _ _ _ us hl => match us, hl with | [_, _, _, _, _], _ => rfl

end
end K09
namespace K09
open PySem PySem.Spec PyProof.Rows L2 Ov
section
variable {P : Program} {w : World} {K : PySem.W.Frag} {mg : Str → Option Value} {base : Heap} {cf : List D → D → Prop} {f : Addr} {fd : FuncData}
abbrev N_Table_init : List Str := ["self", "things", "size", "worths", "lots", "told", "lot", "worth"]
abbrev ps_Table_init : List Str := ["self", "things", "size", "worths"]
def c_Table_init : Ein := (nSeq (nIn (cDrop (cCall 2 d_check_size (gCons (cV 1) (gCons (cV 2) gNil)))))
  (nSeq (nIn (cSet 4 (cCall 2 d_table_lots (gCons (cV 1) (gCons (cV 2) gNil)))))
  (nSeq (nIn (cSet 5 (cCall 2 d_check_worths (gCons (cV 3) (gCons (c1 lenD (cV 4)) gNil)))))
  (nSeq (nSl 0 (cV 1))
  (nSeq (nSl 1 (cV 2))
  (nSeq (nSl 2 (cV 5))
  (nSeq (nSl 4 (cDc (.dT []) [6, 7] (iZip (cV 4) (cV 5)) (gT 2 (gCons' (gN 6) (gCons' (gN 7) gNil'))) (cT (c2 isnD (cV 7) (cC .non))) (cV 6) (cV 7)))
  (nSeq (nSl 5 (cDc (.dK []) [6, 7] (iZip (cV 4) (cV 5)) (gT 2 (gCons' (gN 6) (gCons' (gN 7) gNil'))) (cT (c2 isnD (cV 7) (cC .non))) (cCall 1 d_mask_of (gCons (cV 6) gNil)) (cV 7)))
  (nSeq (nSl 3 (c1 tupleD (cLc [6, 7] (iZip (cV 4) (cV 5)) (gT 2 (gCons' (gN 6) (gCons' (gN 7) gNil'))) (cT (c2 isnD (cV 7) (cC .non))) (cV 6))))
  (nSl 6 (cC .non)))))))))))
def d_Table_init : List D → Option (List D) := mkI 4 c_Table_init
theorem sc_Table_init : FnScope N_Table_init ps_Table_init (defScope s_Table_init) := ⟨rfl, rfl, rfl, by decide +kernel, rfl, by decide +kernel, by decide +kernel⟩
theorem ok_Table_init (F : FunD K "__init__" "Table.__init__" (defArgs s_Table_init) (defBody s_Table_init) (defScope s_Table_init) [] [] f fd) (B : Bs mg) (T_Table : L2.SCls K (He.ga K "Table")) (T_Table__at : L2.Slt K (He.ga K "Table") "_at" (sx 5) a__at) (T_Table__by : L2.Slt K (He.ga K "Table") "_by" (sx 4) a__by) (T_Table__found : L2.Slt K (He.ga K "Table") "_found" (sx 6) a__found) (T_Table_bases : L2.Slt K (He.ga K "Table") "bases" (sx 3) a_bases) (T_Table_size : L2.Slt K (He.ga K "Table") "size" (sx 1) a_size) (T_Table_things : L2.Slt K (He.ga K "Table") "things" (sx 0) a_things) (T_Table_worths : L2.Slt K (He.ga K "Table") "worths" (sx 2) a_worths) (C_check_size : CalD P w K mg base cf 3 "check_size" ps_check_size d_check_size) (C_check_worths : CalD P w K mg base cf 2 "check_worths" ps_check_worths d_check_worths) (C_mask_of : CalD P w K mg base cf 1 "mask_of" ps_mask_of d_mask_of) (C_table_lots : CalD P w K mg base cf 2 "table_lots" ps_table_lots d_table_lots) : ∀ CX : CXT, FnOk P w K mg base CX 4 f fd ps_Table_init (spI ⟨K, cf⟩ (He.ga K "Table") 3 d_Table_init) := fun CX =>
  fnI (c := c_Table_init) F sc_Table_init rfl rfl fun cdv A outer s H E hr =>
  (in_cons (in_st (s_expr (x_callC C_check_size hr (by decide) (by rfl) (ag_cons (x_v (pv 1)) (ag_cons (x_v (pv 2)) ag_nil)))) (by decide))
  (in_cons (in_st (s_set (i := 4) sc_Table_init.nd rfl (by first | exact Or.inl rfl | exact Or.inr rfl) (x_callC C_table_lots hr (by decide) (by rfl) (ag_cons (x_v (pv 1)) (ag_cons (x_v (pv 2)) ag_nil)))) (by decide))
  (in_cons (in_st (s_set (i := 5) sc_Table_init.nd rfl (by first | exact Or.inl rfl | exact Or.inr rfl) (x_callC C_check_worths hr (by decide) (by rfl) (ag_cons (x_v (pv 3)) (ag_cons (x_cb1 call_len_seq op1_len (by rfl) B.len boot_len (x_v (pv 4))) ag_nil)))) (by decide))
  (in_cons (in_sl T_Table T_Table_things (pv 0) (x_v (pv 1)))
  (in_cons (in_sl T_Table T_Table_size (pv 0) (x_v (pv 2)))
  (in_cons (in_sl T_Table T_Table_worths (pv 0) (x_v (pv 5)))
  (in_cons (in_sl T_Table T_Table__by (pv 0) (x_o (o_dcT (Nat.lt_of_le_of_lt (Nat.le_add_right _ _) hr.units) rfl sc_Table_init.nd (i_zip (by rfl) B.zip (x_v (pv 4)) (x_v (pv 5))) (blkOk_by (own := [("lot", 6), ("worth", 7)]) (by rfl)) (by decide) (fun _ _ _ _ _ => (g_tup rfl (gs_cons (g_name (i := 6) sc_Table_init.nd rfl (by first | exact Or.inl rfl | exact Or.inr rfl)) (gs_cons (g_name (i := 7) sc_Table_init.nd rfl (by first | exact Or.inl rfl | exact Or.inr rfl)) gs_nil)))) (fun _ _ _ _ _ => (ts_one (t_cmp op_notN op2_isn (x_v (pv 7)) x_non (nomark _)))) (fun _ _ _ _ _ => (x_v (pv 6))) (fun _ _ _ _ _ => (x_v (pv 7))))))
  (in_cons (in_sl T_Table T_Table__at (pv 0) (x_o (o_dcK rfl sc_Table_init.nd (i_zip (by rfl) B.zip (x_v (pv 4)) (x_v (pv 5))) (blkOk_by (own := [("lot", 6), ("worth", 7)]) (by rfl)) (by decide) (fun _ _ _ _ _ => (g_tup rfl (gs_cons (g_name (i := 6) sc_Table_init.nd rfl (by first | exact Or.inl rfl | exact Or.inr rfl)) (gs_cons (g_name (i := 7) sc_Table_init.nd rfl (by first | exact Or.inl rfl | exact Or.inr rfl)) gs_nil)))) (fun _ _ _ _ _ => (ts_one (t_cmp op_notN op2_isn (x_v (pv 7)) x_non (nomark _)))) (fun _ _ _ _ _ => (x_callC C_mask_of hr (by decide) (by rfl) (ag_cons (x_v (pv 6)) ag_nil))) (fun _ _ _ _ _ => (x_v (pv 7))))))
  (in_cons (in_sl T_Table T_Table_bases (pv 0) (x_ct1 call_tuple_of op1_tuple (by rfl) B.tuple boot_tuple (x_o (o_lc rfl sc_Table_init.nd (i_zip (by rfl) B.zip (x_v (pv 4)) (x_v (pv 5))) (blkOk_by (own := [("lot", 6), ("worth", 7)]) (by rfl)) (by decide) (fun _ _ _ _ _ => (g_tup rfl (gs_cons (g_name (i := 6) sc_Table_init.nd rfl (by first | exact Or.inl rfl | exact Or.inr rfl)) (gs_cons (g_name (i := 7) sc_Table_init.nd rfl (by first | exact Or.inl rfl | exact Or.inr rfl)) gs_nil)))) (fun _ _ _ _ _ => (ts_one (t_cmp op_notN op2_isn (x_v (pv 7)) x_non (nomark _)))) (fun _ _ _ _ _ => (x_v (pv 6)))))))
  (in_one (in_sl T_Table T_Table__found (pv 0) x_non)))))))))))
theorem bn_Table_init (F : FunD K "__init__" "Table.__init__" (defArgs s_Table_init) (defBody s_Table_init) (defScope s_Table_init) [] [] f fd) : Binds K fd ps_Table_init [] := F.bindsN fun _ _ _ _ _ _ us hl => match us, hl with | [_, _, _, _], _ => rfl

/-! _law_table -/
abbrev N__law_table : List Str := ["wide", "deep", "book"]
abbrev ps__law_table : List Str := ["wide", "deep", "book"]
def c__law_table : Es := (cRet (fun ρ => ((aCons (cV 0) (aCons (cV 1) (aCons (cCall 3 d__law_worths (gCons (cV 0) (gCons (cV 1) (gCons (cV 2) gNil)))) aNil))) ρ).bind fun p => if p.1.length = 3 then (d_Table_init p.1).bind fun fs => some (.obj "Table" fs, p.2) else none))
def sl__law_table : List Nat := []
def d__law_table : Df := mkDf sl__law_table 0 c__law_table
theorem sc__law_table : FnScope N__law_table ps__law_table (defScope s__law_table) := ⟨rfl, rfl, rfl, by decide +kernel, rfl, by decide +kernel, by decide +kernel⟩
theorem ok__law_table (F : FnP K "_law_table" s__law_table f fd) (M_Table : Mk K (He.ga K "Table") g_Table) (I_Table : ∀ CX : CXT, FnOk P w K mg base CX 4 g_Table fd_Table ps_Table_init (spI ⟨K, cf⟩ (He.ga K "Table") 3 d_Table_init)) (m_Table : mg "Table" = some (.ref (He.ga K "Table"))) (b_Table : Binds K fd_Table ps_Table_init []) (C__law_worths : CalD P w K mg base cf 2 "_law_worths" ps__law_worths d__law_worths) : FnD P w K mg base cf 6 f fd ps__law_table d__law_table :=
  fnD (c := c__law_table) (sl := sl__law_table) F sc__law_table rfl fun CX cdv A outer s H E hr =>
  (b_one (s_ret (x_make M_Table (I_Table CXN) rfl hr (by decide) (by rfl) m_Table b_Table (xa_cons (x_v (pv 0)) (xa_cons (x_v (pv 1)) (xa_cons (x_callC C__law_worths hr (by decide) (by rfl) (ag_cons (x_v (pv 0)) (ag_cons (x_v (pv 1)) (ag_cons (x_v (pv 2)) ag_nil)))) xa_nil))) rfl)))
theorem cal__law_table (F : FnP K "_law_table" s__law_table f fd) (hm : mg "_law_table" = some (.ref f)) (D0 : FnD P w K mg base cf 6 f fd ps__law_table d__law_table) : CalD P w K mg base cf 6 "_law_table" ps__law_table d__law_table :=
  .of F hm D0 fun _ _ _ _ _ _ us hl => match us, hl with | [_, _, _], _ => rfl

end
end K09
namespace K09
open PySem PySem.Spec PyProof.Rows L2 Ov
section
variable {P : Program} {w : World} {K : PySem.W.Frag} {mg : Str → Option Value} {base : Heap} {cf : List D → D → Prop} {f : Addr} {fd : FuncData}
/-! break_of: its table's last slot is a memory -/
abbrev ps_break_of : List Str := ["table"]
def ce_break_of : Ev := cIf (cTr (cCall 1 d_all_meet_near (gCons (cV 0) gNil))) (cC .non) (cCall 1 d_first_break (gCons (cV 0) gNil))
def brkT : List D → Option D := brkOf "Table" ce_break_of
def d_break_of : Df := dMemo "Table" 6 brkT
theorem sc_break_of : FnScope ["table", "found"] ["table"] (defScope s_break_of) := ⟨rfl, rfl, rfl, by decide +kernel, rfl, by decide +kernel, by decide +kernel⟩
theorem ok_break_of (F : FnP K "break_of" s_break_of f fd) (T_Table : L2.SCls K (He.ga K "Table")) (T_Table__found : L2.Slt K (He.ga K "Table") "_found" (sx 6) a__found) (C_all_meet_near : CalD P w K mg base (cfM brkT) 3 "all_meet_near" ps_all_meet_near d_all_meet_near) (C_first_break : CalD P w K mg base (cfM brkT) 2 "first_break" ps_first_break d_first_break) : FnD P w K mg base (cfM brkT) 4 f fd ps_break_of d_break_of :=
  fnMemo F sc_break_of fun CX cdv A outer s H E hr =>
  b_memo T_Table rfl T_Table__found (pv 0) (pv 0) (pv 0) (x_v (pv 1)) (s_set (i := 1) sc_break_of.nd rfl (by first | exact Or.inl rfl | exact Or.inr rfl) (x_if (t_tru (x_callC C_all_meet_near hr (by decide) (by rfl) (ag_cons (x_v (pv 0)) ag_nil))) x_non (x_callC C_first_break hr (by decide) (by rfl) (ag_cons (x_v (pv 0)) ag_nil)))) (fun _ => rfl) (by rfl) (by rfl) (by rfl) (by rfl) hr.units1 (by intros _ _; rfl)
theorem cal_break_of (F : FnP K "break_of" s_break_of f fd) (hm : mg "break_of" = some (.ref f)) (D0 : FnD P w K mg base cf 4 f fd ps_break_of d_break_of) : CalD P w K mg base cf 4 "break_of" ps_break_of d_break_of :=
  .of F hm D0 fun _ _ _ _ _ _ us hl => match us, hl with | [_], _ => rfl

/-! is_twofold -/
abbrev N_is_twofold : List Str := ["table"]
abbrev ps_is_twofold : List Str := ["table"]
def c_is_twofold : Es := (cRet (c2 isD (cCall 1 d_break_of (gCons (cV 0) gNil)) (cC .non)))
def sl_is_twofold : List Nat := []
def d_is_twofold : Df := mkDf sl_is_twofold 0 c_is_twofold
theorem sc_is_twofold : FnScope N_is_twofold ps_is_twofold (defScope s_is_twofold) := ⟨rfl, rfl, rfl, by decide +kernel, rfl, by decide +kernel, by decide +kernel⟩
theorem ok_is_twofold (F : FnP K "is_twofold" s_is_twofold f fd) (C_break_of : CalD P w K mg base cf 4 "break_of" ps_break_of d_break_of) : FnD P w K mg base cf 5 f fd ps_is_twofold d_is_twofold :=
  fnD (c := c_is_twofold) (sl := sl_is_twofold) F sc_is_twofold rfl fun CX cdv A outer s H E hr =>
  (b_one (s_ret (x_cmp op_isN op2_is (x_callC C_break_of hr (by decide) (by rfl) (ag_cons (x_v (pv 0)) ag_nil)) x_non (nomark _))))
theorem cal_is_twofold (F : FnP K "is_twofold" s_is_twofold f fd) (hm : mg "is_twofold" = some (.ref f)) (D0 : FnD P w K mg base cf 5 f fd ps_is_twofold d_is_twofold) : CalD P w K mg base cf 5 "is_twofold" ps_is_twofold d_is_twofold :=
  .of F hm D0 fun _ _ _ _ _ _ us hl => match us, hl with | [_], _ => rfl

/-! _law_without -/
abbrev N__law_without : List Str := ["draws", "book", "lot", "turn", "moved_book", "table", "e"]
abbrev ps__law_without : List Str := ["draws"]
def c__law_without : Es := (cSeq (cSetO 1 (cC (.dT [])))
  (cSeq (cFor (iSeq (cCall 2 d__law_lots (gCons (cC (.int 5)) (gCons (cC (.int 2)) gNil)))) (gN 2) (cIfS (cT (c2 ninD (cC (.int 4)) (cV 2))) (cPutD 1 (cV 2) (cCall 2 d__law_take (gOwn 0 (gCons (cC (.int 4)) gNil)))) cNx))
  (cSeq (cPutD 1 (cTup (aCons (cC (.int 0)) (aCons (cC (.int 1)) aNil))) (cC (.int 9)))
  (cSeq (cSet 3 (cCall 2 d__law_perm (gOwn 0 (gCons (cC (.int 5)) gNil))))
  (cSeq (cSetO 4 (cC (.dT [])))
  (cSeq (cForD 1 (gN 2) (cPutD 4 (c1 tupleD (c1 sortedD (cLc [6] (iSeq (cV 2)) (gN 6) cYes (c2 ixD (cV 3) (cV 6))))) (cB1 1 ixD (cV 2))))
  (cSeq (cSet 5 (cCall 3 d__law_table (gCons (cC (.int 5)) (gCons (cC (.int 2)) (gCons (cV 4) gNil)))))
  (cSeq (cIfS (cOr (cTr (cCall 1 d_is_twofold (gCons (cV 5) gNil))) (cT (c2 neD (c1 lenD (cCall 1 d_broken_fours (gCons (cV 5) gNil))) (cC (.int 1))))) (cRet (cC (.bl false))) cNx)
  (cRet (c2 eqD (cCall 5 d__law_held (gCons (cV 5) (gCons (cV 4) (gCons (cC (.int 5)) (gCons (cC (.int 2)) (gCons (c2 ixD (cV 3) (cC (.int 4))) gNil)))))) (cC (.int 0))))))))))))
def sl__law_without : List Nat := [1, 2, 3, 4, 2, 5]
def d__law_without : Df := mkDf sl__law_without 6 c__law_without
theorem sc__law_without : FnScope N__law_without ps__law_without (defScope s__law_without) := ⟨rfl, rfl, rfl, by decide +kernel, rfl, by decide +kernel, by decide +kernel⟩
theorem ok__law_without (F : FnP K "_law_without" s__law_without f fd) (B : Bs mg) (C__law_held : CalD P w K mg base cf 6 "_law_held" ps__law_held d__law_held) (C__law_lots : CalD P w K mg base cf 1 "_law_lots" ps__law_lots d__law_lots) (C__law_perm : CalD P w K mg base cf 2 "_law_perm" ps__law_perm d__law_perm) (C__law_table : CalD P w K mg base cf 6 "_law_table" ps__law_table d__law_table) (C__law_take : CalD P w K mg base cf 1 "_law_take" ps__law_take d__law_take) (C_broken_fours : CalD P w K mg base cf 4 "broken_fours" ps_broken_fours d_broken_fours) (C_is_twofold : CalD P w K mg base cf 5 "is_twofold" ps_is_twofold d_is_twofold) : FnD P w K mg base cf 7 f fd ps__law_without d__law_without :=
  fnD (c := c__law_without) (sl := sl__law_without) F sc__law_without rfl fun CX cdv A outer s H E hr =>
  (b_cons (s_setO (i := 1) sc__law_without.nd rfl (by first | exact Or.inl rfl | exact Or.inr rfl) o_dnewT)
  (b_cons (s_for PassesOwn.never rfl (i_seq (x_callC C__law_lots hr (by decide) (by rfl) (ag_cons x_int (ag_cons x_int ag_nil)))) (g_name (i := 2) sc__law_without.nd rfl (by first | exact Or.inl rfl | exact Or.inr rfl)) (b_one (s_if (t_cmp (opr_nin hr.units1) op2_nin x_int (x_v (pv 2)) (by with_unfolding_all rfl)) (b_one (s_putD hr.units1 (pv 1) (x_v (pv 2)) (x_callC C__law_take hr (by decide) (by rfl) (ag_own (pv 0) (ag_cons x_int ag_nil))))) b_nil)))
  (b_cons (s_putD hr.units1 (pv 1) (x_tup (xa_cons x_int (xa_cons x_int xa_nil))) x_int)
  (b_cons (s_set (i := 3) sc__law_without.nd rfl (by first | exact Or.inl rfl | exact Or.inr rfl) (x_callC C__law_perm hr (by decide) (by rfl) (ag_own (pv 0) (ag_cons x_int ag_nil))))
  (b_cons (s_setO (i := 4) sc__law_without.nd rfl (by first | exact Or.inl rfl | exact Or.inr rfl) o_dnewT)
  (b_cons (s_forD PassesOwn.never rfl (pv 1) (g_name (i := 2) sc__law_without.nd rfl (by first | exact Or.inl rfl | exact Or.inr rfl)) (b_one (s_putD hr.units1 (pv 4) (x_ct1 call_tuple_of op1_tuple (by rfl) B.tuple boot_tuple (x_o (o_cb1 cr_sortedA op1_sorted (by rfl) B.sorted boot_sorted (x_o (o_lc rfl sc__law_without.nd (i_seq (x_v (pv 2))) (blkOk_by (own := [("e", 6)]) (by rfl)) (by decide) (fun _ _ _ _ _ => (g_name (i := 6) sc__law_without.nd rfl (by first | exact Or.inl rfl | exact Or.inr rfl))) (fun _ _ _ _ _ => ts_nil) (fun _ _ _ _ _ => (x_ix (ixr_all hr.units1) op2_ix (x_v (pv 3)) (x_v (pv 6)) (by intros _ _; rfl)))))))) (x_ixB (ixr_all hr.units1) op2_ix (pv 1) (x_v (pv 2)) (by intros _ _; rfl)))))
  (b_cons (s_set (i := 5) sc__law_without.nd rfl (by first | exact Or.inl rfl | exact Or.inr rfl) (x_callC C__law_table hr (by decide) (by rfl) (ag_cons x_int (ag_cons x_int (ag_cons (x_v (pv 4)) ag_nil)))))
  (b_cons (s_if (t_w (w_or (t_tru (x_callC C_is_twofold hr (by decide) (by rfl) (ag_cons (x_v (pv 5)) ag_nil))) (w_or1 (t_cmp (op_neD hr.units) op2_ne (x_cb1 call_len_seq op1_len (by rfl) B.len boot_len (x_callC C_broken_fours hr (by decide) (by rfl) (ag_cons (x_v (pv 5)) ag_nil))) x_int (nomark _))))) (b_one (s_ret x_bl)) b_nil)
  (b_one (s_ret (x_cmp (op_eqD hr.units) op2_eq (x_callC C__law_held hr (by decide) (by rfl) (ag_cons (x_v (pv 5)) (ag_cons (x_v (pv 4)) (ag_cons x_int (ag_cons x_int (ag_cons (x_ix (ixr_all hr.units1) op2_ix (x_v (pv 3)) x_int (by intros _ _; rfl)) ag_nil)))))) x_int (nomark _))))))))))))
theorem cal__law_without (F : FnP K "_law_without" s__law_without f fd) (hm : mg "_law_without" = some (.ref f)) (D0 : FnD P w K mg base cf 7 f fd ps__law_without d__law_without) : CalD P w K mg base cf 7 "_law_without" ps__law_without d__law_without :=
  .of F hm D0 fun _ _ _ _ _ _ us hl => match us, hl with | [_], _ => rfl

end
end K09
namespace K09
open PySem PySem.Spec PyProof.Rows L2 Ov
/-- what the written part and the program say of an error class -/
structure BadG (P : Program) (K : PySem.W.Frag) (mg : Str → Option Value) (x fld : Str) : Prop where
  ex : ∃ S fI pre, PySem.XcX.BadC K P (He.ga K x) S fI fld pre ∧ pre.length ≤ 1000000
  gC : mg x = some (.ref (He.ga K x))
  sup : mg "super" = none
  top : (P.main.scope.names.lookup ("super" : Str)).isSome = false
structure TryG (K : PySem.W.Frag) (mg : Str → Option Value) (x fld y : Str) : Prop where
  ex : PySem.W.exmOne K (.ref (He.ga K x)) (.ref (He.ga K x)) = some true
  xf : XfC K (He.ga K x)
  no : PySem.W.findIn K (.ref (He.ga K x)) fld = some none
  ec : ExcC K (He.ga K x)
  gx : mg x = some (.ref (He.ga K x))
  gy : mg y = some (.ref (He.ga K y))
  kn : PySem.W.kitOne K (.ref (He.ga K x)) (.ref (He.ga K y)) = some false
theorem fo_name : PySem.XcX.FldOk "name" := ⟨by decide +kernel, by decide +kernel, by decide +kernel, by decide +kernel, by decide +kernel, fun _ _ _ _ _ _ _ _ _ _ _ _ _ => by rfl⟩
section
variable {P : Program} {w : World} {K : PySem.W.Frag} {mg : Str → Option Value} {base : Heap} {cf : List D → D → Prop} {f : Addr} {fd : FuncData}
/-! check_thing, raised -/
def e_check_thing : Erf := eIf (cOr (cNot (cTr (cCall 1 d_is_integer (gCons (cV 0) gNil)))) (cNot (cT (cChain leD ltD (cC (.int 0)) (cV 0) (cV 1))))) (eRaise "BadNumber" "name" (cC (.str "thing")))
def f_check_thing : List Sl → Option Er := mkEf 0 e_check_thing
theorem rk_check_thing (F : FnP K "check_thing" s_check_thing f fd) (C_is_integer : CalD P w K mg base cf 1 "is_integer" ps_is_integer d_is_integer) (T : BadG P K mg "BadNumber" "name") : FnR P w K mg base cf 2 f fd ps_check_thing f_check_thing :=
  fnR (c := e_check_thing) (sl := []) F sc_check_thing rfl fun cdv A outer s H E hr =>
  r_one (r_if (t_w (w_or (t_not (t_tru (x_callC C_is_integer hr (by decide) (by rfl) (ag_cons (x_v (pv 0)) ag_nil)))) (w_or1 (t_not (t_chain op_le op_lt op2_le op2_lt x_int (x_v (pv 0)) (x_v (pv 1)))))))
    (r_one (s_raise rfl ⟨T.ex, fo_name, T.gC, T.sup, T.top⟩ hr (takes_of rfl rfl rfl rfl) x_str (by rfl))) (b_nil (cf := cf)))
/-! fours_through, raised -/
def e_fours_through : Erf := eCall 2 f_check_thing (gCons (cV 1) (gCons (c1 (atD "Table" 0) (cV 0)) gNil))
def f_fours_through : List Sl → Option Er := mkEf 2 e_fours_through
theorem rk_fours_through {g : Addr} {gd : FuncData} (F : FnP K "fours_through" s_fours_through f fd) (T_Table : L2.SCls K (He.ga K "Table")) (T_Table_things : L2.Slt K (He.ga K "Table") "things" (sx 0) a_things)
    (G : FnP K "check_thing" s_check_thing g gd) (R : FnR P w K mg base cf 2 g gd ps_check_thing f_check_thing) (hm : mg "check_thing" = some (.ref g)) (hb : Binds K gd ps_check_thing []) : FnR P w K mg base cf 3 f fd ps_fours_through f_fours_through :=
  fnR (c := e_fours_through) (sl := []) F sc_fours_through rfl fun cdv A outer s H E hr =>
  r_first (r_expr R hr (takes_of rfl rfl rfl rfl) (by rfl) hm G.kp hb (ag_cons (x_v (pv 1)) (ag_cons (x_at T_Table T_Table_things (x_v (pv 0))) ag_nil)))
  pss_false
/-! _law_at -/
abbrev N__law_at : List Str := ["table", "part", "found", "e"]
abbrev ps__law_at : List Str := ["table", "part"]
def c__law_at : Es := cSeq (cSet 2 (cC (.str "none"))) (cSeq (cTryAt "BadNumber" "name" 3 2 (eCall 2 f_fours_through (gCons (cV 0) (gCons (cV 1) gNil)))) (cRet (cV 2)))
def sl__law_at : List Nat := [2] ++ ([2, 3] ++ [])
def d__law_at : Df := mkDf sl__law_at 2 c__law_at
theorem sc__law_at : FnScope N__law_at ps__law_at (defScope s__law_at) := ⟨rfl, rfl, rfl, by decide +kernel, rfl, by decide +kernel, by decide +kernel⟩
theorem ok__law_at {g : Addr} {gd : FuncData} (F : FnP K "_law_at" s__law_at f fd) (B : Bs mg) (T : TryG K mg "BadNumber" "name" "BadLot")
    (G : FnP K "fours_through" s_fours_through g gd) (R : FnR P w K mg base cf 3 g gd ps_fours_through f_fours_through) (hm : mg "fours_through" = some (.ref g)) (hb : Binds K gd ps_fours_through []) : FnD P w K mg base cf 4 f fd ps__law_at d__law_at :=
  fnD (c := c__law_at) (sl := sl__law_at) F sc__law_at rfl fun CX cdv A outer s H E hr =>
  b_cons (s_set (i := 2) sc__law_at.nd rfl (by first | exact Or.inl rfl | exact Or.inr rfl) x_str)
  (b_cons (s_try_at (x := "BadNumber") (y := "BadLot") (n := "e") (r := "found") (fld := "name") (i := 3) (j := 2) (sl := []) ⟨T.ex, T.xf, T.no, T.ec, T.gx, T.gy, T.kn, B.isinstance⟩ rfl rfl sc__law_at.nd rfl rfl (.inl rfl) rfl (by first | exact Or.inl rfl | exact Or.inr rfl) (by decide) (by rfl) (by decide +kernel) (by rfl) (by decide +kernel) (by rfl) (by decide +kernel) (by decide +kernel)
    (fun W pn xe tk => r_set (i := 2) R hr tk (by rfl) hm G.kp hb sc__law_at.nd rfl (by first | exact Or.inl rfl | exact Or.inr rfl) (ag_cons (x_v (pv 0)) (ag_cons (x_v (pv 1)) ag_nil))))
  (b_one (s_ret (x_v (pv 2)))))
theorem cal__law_at (F : FnP K "_law_at" s__law_at f fd) (hm : mg "_law_at" = some (.ref f)) (D0 : FnD P w K mg base cf 4 f fd ps__law_at d__law_at) : CalD P w K mg base cf 4 "_law_at" ps__law_at d__law_at :=
  .of F hm D0 fun _ _ _ _ _ _ us hl => match us, hl with | [_, _], _ => rfl
end
end K09
namespace K09
open PySem PySem.Spec PyProof.Rows L2 Ov
section
variable {P : Program} {w : World} {K : PySem.W.Frag} {mg : Str → Option Value} {base : Heap} {cf : List D → D → Prop} {f : Addr} {fd : FuncData}
/-! law -/
abbrev N_law : List Str := ["script", "draws", "wide", "deep", "book", "table", "due", "z", "part", "lots", "at", "broken"]
abbrev ps_law : List Str := ["script"]
def c_law : Es := (cSeq (cSetO 1 (cCallO 1 d__law_draws (gCons (cV 0) gNil)))
  (cSeq (cSet 2 (c2 ixD (cLst (aCons (cC (.int 4)) (aCons (cC (.int 5)) (aCons (cC (.int 6)) (aCons (cC (.int 5)) aNil))))) (cCall 2 d__law_take (gOwn 1 (gCons (cC (.int 4)) gNil)))))
  (cSeq (cIfS (cT (c2 eqD (cCall 2 d__law_take (gOwn 1 (gCons (cC (.int 20)) gNil))) (cC (.int 19)))) (cSet 2 (cC (.int 7))) cNx)
  (cSeq (cSet 3 (c2 addD (cC (.int 2)) (cCall 2 d__law_take (gOwn 1 (gCons (c2 subD (cV 2) (cC (.int 3))) gNil)))))
  (cSeq (cSetO 4 (cCallO 3 d__law_full (gOwn 1 (gCons (cV 2) (gCons (cV 3) gNil)))))
  (cSeq (cIfS (cT (c2 eqD (cCall 2 d__law_take (gOwn 1 (gCons (cC (.int 2)) gNil))) (cC (.int 1)))) (cSeq (cSet 9 (cCall 2 d__law_lots (gCons (cV 2) (gCons (cV 3) gNil))))
  (cSeq (cSet 10 (c2 ixD (cV 9) (cCall 2 d__law_take (gOwn 1 (gCons (c1 lenD (cV 9)) gNil)))))
  (cPutD 4 (cV 10) (c2 addD (cB1 4 ixD (cV 10)) (c2 ixD (cLst (aCons (cC (.int 1)) (aCons (c1 negD (cC (.int 1))) (aCons (cC (.int 2)) (aCons (c1 negD (cC (.int 3))) aNil))))) (cCall 2 d__law_take (gOwn 1 (gCons (cC (.int 4)) gNil)))))))) cNx)
  (cSeq (cSet 5 (cCall 3 d__law_table (gCons (cV 2) (gCons (cV 3) (gCons (cV 4) gNil)))))
  (cSeq (cSet 6 (cCall 1 d_is_twofold (gCons (cV 5) gNil)))
  (cSeq (cIfS (cOr (cT (c2 neD (cV 6) (c2 eqD (c1 lenD (cCall 1 d_broken_fours (gCons (cV 5) gNil))) (cC (.int 0))))) (cAnd (cT (c2 ltD (cV 2) (cC (.int 6)))) (cT (c2 neD (cV 6) (cCall 1 d__law_twofold (gCons (cV 4) gNil)))))) (cRet (cC (.bl false))) cNx)
  (cSeq (cFor (iRg1 (cV 2)) (gN 7) (cSeq (cSet 11 (cCall 5 d__law_held (gCons (cV 5) (gCons (cV 4) (gCons (cV 2) (gCons (cV 3) (gCons (cV 7) gNil)))))))
  (cIfS (cOr (cT (c2 isD (cV 11) (cC .non))) (cT (c2 neD (c2 eqD (cV 11) (cC (.int 0))) (cV 6)))) (cRet (cC (.bl false))) cNx)))
  (cSeq (cFor (iSeq (cLst (aCons (c1 negD (cC (.int 1))) (aCons (cV 2) (aCons (cC (.bl true)) (aCons (cC .non) (aCons (cC (.str "0")) aNil))))))) (gN 8) (cIfS (cT (c2 neD (cCall 2 d__law_at (gCons (cV 5) (gCons (cV 8) gNil))) (cLst (aCons (cC (.str "thing")) (aCons (cC (.bl false)) aNil))))) (cRet (cC (.bl false))) cNx))
  (cRet (cCall 1 d__law_without (gOwn 1 gNil))))))))))))))
def sl_law : List Nat := [1, 2, 2, 3, 4, 9, 10, 5, 6, 7, 11, 8]
def d_law : Df := mkDf sl_law 11 c_law
theorem sc_law : FnScope N_law ps_law (defScope s_law) := ⟨rfl, rfl, rfl, by decide +kernel, rfl, by decide +kernel, by decide +kernel⟩
theorem ok_law (F : FnP K "law" s_law f fd) (B : Bs mg) (C__law_at : CalD P w K mg base cf 4 "_law_at" ps__law_at d__law_at) (C__law_draws : CalD P w K mg base cf 1 "_law_draws" ps__law_draws d__law_draws) (C__law_full : CalD P w K mg base cf 4 "_law_full" ps__law_full d__law_full) (C__law_held : CalD P w K mg base cf 6 "_law_held" ps__law_held d__law_held) (C__law_lots : CalD P w K mg base cf 1 "_law_lots" ps__law_lots d__law_lots) (C__law_table : CalD P w K mg base cf 6 "_law_table" ps__law_table d__law_table) (C__law_take : CalD P w K mg base cf 1 "_law_take" ps__law_take d__law_take) (C__law_twofold : CalD P w K mg base cf 3 "_law_twofold" ps__law_twofold d__law_twofold) (C__law_without : CalD P w K mg base cf 7 "_law_without" ps__law_without d__law_without) (C_broken_fours : CalD P w K mg base cf 4 "broken_fours" ps_broken_fours d_broken_fours) (C_is_twofold : CalD P w K mg base cf 5 "is_twofold" ps_is_twofold d_is_twofold) : FnD P w K mg base cf 8 f fd ps_law d_law :=
  fnD (c := c_law) (sl := sl_law) F sc_law rfl fun CX cdv A outer s H E hr =>
  (b_cons (s_setO (i := 1) sc_law.nd rfl (by first | exact Or.inl rfl | exact Or.inr rfl) (o_callC C__law_draws hr (by decide) (by rfl) (ag_cons (x_v (pv 0)) ag_nil)))
  (b_cons (s_set (i := 2) sc_law.nd rfl (by first | exact Or.inl rfl | exact Or.inr rfl) (x_ix (ixr_all hr.units1) op2_ix (x_o (o_lst (xa_cons x_int (xa_cons x_int (xa_cons x_int (xa_cons x_int xa_nil)))))) (x_callC C__law_take hr (by decide) (by rfl) (ag_own (pv 1) (ag_cons x_int ag_nil))) (by intros _ _; rfl)))
  (b_cons (s_if (t_cmp (op_eqD hr.units) op2_eq (x_callC C__law_take hr (by decide) (by rfl) (ag_own (pv 1) (ag_cons x_int ag_nil))) x_int (nomark _)) (b_one (s_set (i := 2) sc_law.nd rfl (by first | exact Or.inl rfl | exact Or.inr rfl) x_int)) b_nil)
  (b_cons (s_set (i := 3) sc_law.nd rfl (by first | exact Or.inl rfl | exact Or.inr rfl) (x_op opr_add op2_add x_int (x_callC C__law_take hr (by decide) (by rfl) (ag_own (pv 1) (ag_cons (x_op op_sub op2_sub (x_v (pv 2)) x_int) ag_nil)))))
  (b_cons (s_setO (i := 4) sc_law.nd rfl (by first | exact Or.inl rfl | exact Or.inr rfl) (o_callC C__law_full hr (by decide) (by rfl) (ag_own (pv 1) (ag_cons (x_v (pv 2)) (ag_cons (x_v (pv 3)) ag_nil)))))
  (b_cons (s_if (t_cmp (op_eqD hr.units) op2_eq (x_callC C__law_take hr (by decide) (by rfl) (ag_own (pv 1) (ag_cons x_int ag_nil))) x_int (nomark _)) (b_cons (s_set (i := 9) sc_law.nd rfl (by first | exact Or.inl rfl | exact Or.inr rfl) (x_callC C__law_lots hr (by decide) (by rfl) (ag_cons (x_v (pv 2)) (ag_cons (x_v (pv 3)) ag_nil))))
  (b_cons (s_set (i := 10) sc_law.nd rfl (by first | exact Or.inl rfl | exact Or.inr rfl) (x_ix (ixr_all hr.units1) op2_ix (x_v (pv 9)) (x_callC C__law_take hr (by decide) (by rfl) (ag_own (pv 1) (ag_cons (x_cb1 call_len_seq op1_len (by rfl) B.len boot_len (x_v (pv 9))) ag_nil))) (by intros _ _; rfl)))
  (b_one (s_putD hr.units1 (pv 4) (x_v (pv 10)) (x_op opr_add op2_add (x_ixB (ixr_all hr.units1) op2_ix (pv 4) (x_v (pv 10)) (by intros _ _; rfl)) (x_ix (ixr_all hr.units1) op2_ix (x_o (o_lst (xa_cons x_int (xa_cons (x_neg x_int) (xa_cons x_int (xa_cons (x_neg x_int) xa_nil)))))) (x_callC C__law_take hr (by decide) (by rfl) (ag_own (pv 1) (ag_cons x_int ag_nil))) (by intros _ _; rfl))))))) b_nil)
  (b_cons (s_set (i := 5) sc_law.nd rfl (by first | exact Or.inl rfl | exact Or.inr rfl) (x_callC C__law_table hr (by decide) (by rfl) (ag_cons (x_v (pv 2)) (ag_cons (x_v (pv 3)) (ag_cons (x_v (pv 4)) ag_nil)))))
  (b_cons (s_set (i := 6) sc_law.nd rfl (by first | exact Or.inl rfl | exact Or.inr rfl) (x_callC C_is_twofold hr (by decide) (by rfl) (ag_cons (x_v (pv 5)) ag_nil)))
  (b_cons (s_if (t_w (w_or (t_cmp (op_neD hr.units) op2_ne (x_v (pv 6)) (x_cmp (op_eqD hr.units) op2_eq (x_cb1 call_len_seq op1_len (by rfl) B.len boot_len (x_callC C_broken_fours hr (by decide) (by rfl) (ag_cons (x_v (pv 5)) ag_nil))) x_int (nomark _)) (nomark _)) (w_or1 (t_w (w_and (t_cmp op_lt op2_lt (x_v (pv 2)) x_int (nomark _)) (w_and1 (t_cmp (op_neD hr.units) op2_ne (x_v (pv 6)) (x_callC C__law_twofold hr (by decide) (by rfl) (ag_cons (x_v (pv 4)) ag_nil)) (nomark _)))))))) (b_one (s_ret x_bl)) b_nil)
  (b_cons (s_for PassesOwn.never rfl (i_rg1 (by rfl) B.range (x_v (pv 2))) (g_name (i := 7) sc_law.nd rfl (by first | exact Or.inl rfl | exact Or.inr rfl)) (b_cons (s_set (i := 11) sc_law.nd rfl (by first | exact Or.inl rfl | exact Or.inr rfl) (x_callC C__law_held hr (by decide) (by rfl) (ag_cons (x_v (pv 5)) (ag_cons (x_v (pv 4)) (ag_cons (x_v (pv 2)) (ag_cons (x_v (pv 3)) (ag_cons (x_v (pv 7)) ag_nil)))))))
  (b_one (s_if (t_w (w_or (t_cmp op_isN op2_is (x_v (pv 11)) x_non (nomark _)) (w_or1 (t_cmp (op_neD hr.units) op2_ne (x_cmp (op_eqD hr.units) op2_eq (x_v (pv 11)) x_int (nomark _)) (x_v (pv 6)) (nomark _))))) (b_one (s_ret x_bl)) b_nil))))
  (b_cons (s_for PassesOwn.never rfl (i_seq (x_o (o_lst (xa_cons (x_neg x_int) (xa_cons (x_v (pv 2)) (xa_cons x_bl (xa_cons x_non (xa_cons x_str xa_nil)))))))) (g_name (i := 8) sc_law.nd rfl (by first | exact Or.inl rfl | exact Or.inr rfl)) (b_one (s_if (t_cmp (op_neD hr.units) op2_ne (x_callC C__law_at hr (by decide) (by rfl) (ag_cons (x_v (pv 5)) (ag_cons (x_v (pv 8)) ag_nil))) (x_o (o_lst (xa_cons x_str (xa_cons x_bl xa_nil)))) (nomark _)) (b_one (s_ret x_bl)) b_nil)))
  (b_one (s_ret (x_callC C__law_without hr (by decide) (by rfl) (ag_own (pv 1) ag_nil)))))))))))))))
theorem cal_law (F : FnP K "law" s_law f fd) (hm : mg "law" = some (.ref f)) (D0 : FnD P w K mg base cf 8 f fd ps_law d_law) : CalD P w K mg base cf 8 "law" ps_law d_law :=
  .of F hm D0 fun _ _ _ _ _ _ us hl => match us, hl with | [_], _ => rfl

end
end K09
namespace K09
open PySem PySem.Spec PyProof.Rows L2 Ov He Zh
theorem zfacts {P : Program} {w : World} {K : PySem.W.Frag} {h : Heap} {mg : Str → Option Value} {f : Addr} (X : K.In h) (G : h.Ns mainGlobals mg) (hfa : mg ("law" : Str) = some (.ref f)) (c : SaysZ zfa zfn zbs ZR.prog zex K) (hP : P = ZR.prog) :
    ∃ fd : FuncData, (∀ (s : Shared) (v : Value), BindsTo s fd ⟨[v], []⟩ [("script", v)]) ∧ ∀ base : Heap, K.In base → base.Ns mainGlobals mg → FnD P w K mg base (cfM brkT) 8 f fd ps_law d_law := by
  obtain ⟨fd_is_integer, F_is_integer⟩ := c.d.def_ 0 (d := dd_is_integer) rfl
  obtain ⟨fd_check_things, F_check_things⟩ := c.d.def_ 1 (d := dd_check_things) rfl
  obtain ⟨fd_check_size, F_check_size⟩ := c.d.def_ 2 (d := dd_check_size) rfl
  obtain ⟨fd_check_thing, F_check_thing⟩ := c.d.def_ 3 (d := dd_check_thing) rfl
  obtain ⟨fd_first_bad, F_first_bad⟩ := c.d.def_ 4 (d := dd_first_bad) rfl
  obtain ⟨fd_lot_of, F_lot_of⟩ := c.d.def_ 5 (d := dd_lot_of) rfl
  obtain ⟨fd_sized_lot, F_sized_lot⟩ := c.d.def_ 6 (d := dd_sized_lot) rfl
  obtain ⟨fd_outside, F_outside⟩ := c.d.def_ 7 (d := dd_outside) rfl
  obtain ⟨fd_lots_among, F_lots_among⟩ := c.d.def_ 8 (d := dd_lots_among) rfl
  obtain ⟨fd_mask_of, F_mask_of⟩ := c.d.def_ 9 (d := dd_mask_of) rfl
  obtain ⟨fd_table_lots, F_table_lots⟩ := c.d.def_ 10 (d := dd_table_lots) rfl
  obtain ⟨fd_add_worths, F_add_worths⟩ := c.d.def_ 11 (d := dd_add_worths) rfl
  obtain ⟨fd_check_worths, F_check_worths⟩ := c.d.def_ 12 (d := dd_check_worths) rfl
  obtain ⟨fd_four_list, F_four_list⟩ := c.d.def_ 13 (d := dd_four_list) rfl
  obtain ⟨fd_worth_with, F_worth_with⟩ := c.d.def_ 14 (d := dd_worth_with) rfl
  obtain ⟨fd_pair_sum, F_pair_sum⟩ := c.d.def_ 15 (d := dd_pair_sum) rfl
  obtain ⟨fd_sums_at, F_sums_at⟩ := c.d.def_ 16 (d := dd_sums_at) rfl
  obtain ⟨fd_four_sums, F_four_sums⟩ := c.d.def_ 17 (d := dd_four_sums) rfl
  obtain ⟨fd_twice_in, F_twice_in⟩ := c.d.def_ 18 (d := dd_twice_in) rfl
  obtain ⟨fd_is_twice, F_is_twice⟩ := c.d.def_ 19 (d := dd_is_twice) rfl
  obtain ⟨fd_broken_fours, F_broken_fours⟩ := c.d.def_ 20 (d := dd_broken_fours) rfl
  obtain ⟨fd_fours_through, F_fours_through⟩ := c.d.def_ 21 (d := dd_fours_through) rfl
  obtain ⟨fd_is_no_loss, F_is_no_loss⟩ := c.d.def_ 22 (d := dd_is_no_loss) rfl
  obtain ⟨fd_flips_of, F_flips_of⟩ := c.d.def_ 23 (d := dd_flips_of) rfl
  obtain ⟨fd_meets_near, F_meets_near⟩ := c.d.def_ 24 (d := dd_meets_near) rfl
  obtain ⟨fd_all_meet_near, F_all_meet_near⟩ := c.d.def_ 25 (d := dd_all_meet_near) rfl
  obtain ⟨fd_first_break, F_first_break⟩ := c.d.def_ 26 (d := dd_first_break) rfl
  obtain ⟨fd__law_draws, F__law_draws⟩ := c.d.def_ 27 (d := dd__law_draws) rfl
  obtain ⟨fd__law_take, F__law_take⟩ := c.d.def_ 28 (d := dd__law_take) rfl
  obtain ⟨fd__law_lots, F__law_lots⟩ := c.d.def_ 29 (d := dd__law_lots) rfl
  obtain ⟨fd__law_swap, F__law_swap⟩ := c.d.def_ 30 (d := dd__law_swap) rfl
  obtain ⟨fd__law_number, F__law_number⟩ := c.d.def_ 31 (d := dd__law_number) rfl
  obtain ⟨fd__law_prices, F__law_prices⟩ := c.d.def_ 32 (d := dd__law_prices) rfl
  obtain ⟨fd__law_lot, F__law_lot⟩ := c.d.def_ 33 (d := dd__law_lot) rfl
  obtain ⟨fd__law_perm, F__law_perm⟩ := c.d.def_ 34 (d := dd__law_perm) rfl
  obtain ⟨fd__law_worths, F__law_worths⟩ := c.d.def_ 35 (d := dd__law_worths) rfl
  obtain ⟨fd__law_trades, F__law_trades⟩ := c.d.def_ 36 (d := dd__law_trades) rfl
  obtain ⟨fd__law_twofold, F__law_twofold⟩ := c.d.def_ 37 (d := dd__law_twofold) rfl
  obtain ⟨fd__law_orders, F__law_orders⟩ := c.d.def_ 38 (d := dd__law_orders) rfl
  obtain ⟨fd__law_placed, F__law_placed⟩ := c.d.def_ 39 (d := dd__law_placed) rfl
  obtain ⟨fd__law_moved_by, F__law_moved_by⟩ := c.d.def_ 40 (d := dd__law_moved_by) rfl
  obtain ⟨fd__law_counted, F__law_counted⟩ := c.d.def_ 41 (d := dd__law_counted) rfl
  obtain ⟨fd__law_level, F__law_level⟩ := c.d.def_ 42 (d := dd__law_level) rfl
  obtain ⟨fd__law_full, F__law_full⟩ := c.d.def_ 43 (d := dd__law_full) rfl
  obtain ⟨fd__law_fours_with, F__law_fours_with⟩ := c.d.def_ 44 (d := dd__law_fours_with) rfl
  obtain ⟨fd__law_pair_sum, F__law_pair_sum⟩ := c.d.def_ 45 (d := dd__law_pair_sum) rfl
  obtain ⟨fd__law_sums, F__law_sums⟩ := c.d.def_ 46 (d := dd__law_sums) rfl
  obtain ⟨fd__law_twice, F__law_twice⟩ := c.d.def_ 47 (d := dd__law_twice) rfl
  obtain ⟨fd__law_held, F__law_held⟩ := c.d.def_ 48 (d := dd__law_held) rfl
  obtain ⟨fd_Table_init, F_Table_init⟩ := c.d.def_ 49 (d := dd_Table_init) rfl
  obtain ⟨fd__law_table, F__law_table⟩ := c.d.def_ 50 (d := dd__law_table) rfl
  obtain ⟨fd_break_of, F_break_of⟩ := c.d.def_ 51 (d := dd_break_of) rfl
  obtain ⟨fd_is_twofold, F_is_twofold⟩ := c.d.def_ 52 (d := dd_is_twofold) rfl
  obtain ⟨fd__law_without, F__law_without⟩ := c.d.def_ 53 (d := dd__law_without) rfl
  obtain ⟨fd__law_at, F__law_at⟩ := c.d.def_ 54 (d := dd__law_at) rfl
  obtain ⟨fd_law, F_law⟩ := c.d.def_ 55 (d := dd_law) rfl
  have m_is_integer := glo_ok X G (c.d.fact 0 (f := .glo "is_integer") rfl)
  have m_check_things := glo_ok X G (c.d.fact 1 (f := .glo "check_things") rfl)
  have m_check_size := glo_ok X G (c.d.fact 2 (f := .glo "check_size") rfl)
  have m_check_thing := glo_ok X G (c.d.fact 3 (f := .glo "check_thing") rfl)
  have m_first_bad := glo_ok X G (c.d.fact 4 (f := .glo "first_bad") rfl)
  have m_lot_of := glo_ok X G (c.d.fact 5 (f := .glo "lot_of") rfl)
  have m_sized_lot := glo_ok X G (c.d.fact 6 (f := .glo "sized_lot") rfl)
  have m_outside := glo_ok X G (c.d.fact 7 (f := .glo "outside") rfl)
  have m_lots_among := glo_ok X G (c.d.fact 8 (f := .glo "lots_among") rfl)
  have m_mask_of := glo_ok X G (c.d.fact 9 (f := .glo "mask_of") rfl)
  have m_table_lots := glo_ok X G (c.d.fact 10 (f := .glo "table_lots") rfl)
  have m_add_worths := glo_ok X G (c.d.fact 11 (f := .glo "add_worths") rfl)
  have m_check_worths := glo_ok X G (c.d.fact 12 (f := .glo "check_worths") rfl)
  have m_four_list := glo_ok X G (c.d.fact 13 (f := .glo "four_list") rfl)
  have m_worth_with := glo_ok X G (c.d.fact 14 (f := .glo "worth_with") rfl)
  have m_pair_sum := glo_ok X G (c.d.fact 15 (f := .glo "pair_sum") rfl)
  have m_sums_at := glo_ok X G (c.d.fact 16 (f := .glo "sums_at") rfl)
  have m_four_sums := glo_ok X G (c.d.fact 17 (f := .glo "four_sums") rfl)
  have m_twice_in := glo_ok X G (c.d.fact 18 (f := .glo "twice_in") rfl)
  have m_is_twice := glo_ok X G (c.d.fact 19 (f := .glo "is_twice") rfl)
  have m_broken_fours := glo_ok X G (c.d.fact 20 (f := .glo "broken_fours") rfl)
  have m_fours_through := glo_ok X G (c.d.fact 21 (f := .glo "fours_through") rfl)
  have m_is_no_loss := glo_ok X G (c.d.fact 22 (f := .glo "is_no_loss") rfl)
  have m_flips_of := glo_ok X G (c.d.fact 23 (f := .glo "flips_of") rfl)
  have m_meets_near := glo_ok X G (c.d.fact 24 (f := .glo "meets_near") rfl)
  have m_all_meet_near := glo_ok X G (c.d.fact 25 (f := .glo "all_meet_near") rfl)
  have m_first_break := glo_ok X G (c.d.fact 26 (f := .glo "first_break") rfl)
  have m__law_draws := glo_ok X G (c.d.fact 27 (f := .glo "_law_draws") rfl)
  have m__law_take := glo_ok X G (c.d.fact 28 (f := .glo "_law_take") rfl)
  have m__law_lots := glo_ok X G (c.d.fact 29 (f := .glo "_law_lots") rfl)
  have m__law_swap := glo_ok X G (c.d.fact 30 (f := .glo "_law_swap") rfl)
  have m__law_number := glo_ok X G (c.d.fact 31 (f := .glo "_law_number") rfl)
  have m__law_prices := glo_ok X G (c.d.fact 32 (f := .glo "_law_prices") rfl)
  have m__law_lot := glo_ok X G (c.d.fact 33 (f := .glo "_law_lot") rfl)
  have m__law_perm := glo_ok X G (c.d.fact 34 (f := .glo "_law_perm") rfl)
  have m__law_worths := glo_ok X G (c.d.fact 35 (f := .glo "_law_worths") rfl)
  have m__law_trades := glo_ok X G (c.d.fact 36 (f := .glo "_law_trades") rfl)
  have m__law_twofold := glo_ok X G (c.d.fact 37 (f := .glo "_law_twofold") rfl)
  have m__law_orders := glo_ok X G (c.d.fact 38 (f := .glo "_law_orders") rfl)
  have m__law_placed := glo_ok X G (c.d.fact 39 (f := .glo "_law_placed") rfl)
  have m__law_moved_by := glo_ok X G (c.d.fact 40 (f := .glo "_law_moved_by") rfl)
  have m__law_counted := glo_ok X G (c.d.fact 41 (f := .glo "_law_counted") rfl)
  have m__law_level := glo_ok X G (c.d.fact 42 (f := .glo "_law_level") rfl)
  have m__law_full := glo_ok X G (c.d.fact 43 (f := .glo "_law_full") rfl)
  have m__law_fours_with := glo_ok X G (c.d.fact 44 (f := .glo "_law_fours_with") rfl)
  have m__law_pair_sum := glo_ok X G (c.d.fact 45 (f := .glo "_law_pair_sum") rfl)
  have m__law_sums := glo_ok X G (c.d.fact 46 (f := .glo "_law_sums") rfl)
  have m__law_twice := glo_ok X G (c.d.fact 47 (f := .glo "_law_twice") rfl)
  have m__law_held := glo_ok X G (c.d.fact 48 (f := .glo "_law_held") rfl)
  have m__law_table := glo_ok X G (c.d.fact 49 (f := .glo "_law_table") rfl)
  have m_break_of := glo_ok X G (c.d.fact 50 (f := .glo "break_of") rfl)
  have m_is_twofold := glo_ok X G (c.d.fact 51 (f := .glo "is_twofold") rfl)
  have m__law_without := glo_ok X G (c.d.fact 52 (f := .glo "_law_without") rfl)
  have m__law_at := glo_ok X G (c.d.fact 53 (f := .glo "_law_at") rfl)
  have m_law := glo_ok X G (c.d.fact 54 (f := .glo "law") rfl)
  have m_Table := glo_ok X G (c.d.fact 55 (f := .glo "Table") rfl)
  have m_BadNumber := glo_ok X G (c.d.fact 56 (f := .glo "BadNumber") rfl)
  have m_BadLot := glo_ok X G (c.d.fact 57 (f := .glo "BadLot") rfl)
  have e := hfa.symm.trans m_law
  cases e
  have B : Bs mg := ⟨free_ok X G (c.d.fact 58 (f := .free "len") rfl), free_ok X G (c.d.fact 59 (f := .free "range") rfl), free_ok X G (c.d.fact 60 (f := .free "sorted") rfl), free_ok X G (c.d.fact 61 (f := .free "tuple") rfl), free_ok X G (c.d.fact 62 (f := .free "list") rfl), free_ok X G (c.d.fact 63 (f := .free "int") rfl), free_ok X G (c.d.fact 64 (f := .free "any") rfl), free_ok X G (c.d.fact 65 (f := .free "all") rfl), free_ok X G (c.d.fact 66 (f := .free "min") rfl), free_ok X G (c.d.fact 67 (f := .free "max") rfl), free_ok X G (c.d.fact 68 (f := .free "sum") rfl), free_ok X G (c.d.fact 69 (f := .free "zip") rfl), free_ok X G (c.d.fact 70 (f := .free "enumerate") rfl), free_ok X G (c.d.fact 71 (f := .free "isinstance") rfl), free_ok X G (c.d.fact 72 (f := .free "bool") rfl)⟩
  have m_super := free_ok X G (c.d.fact 73 (f := .free "super") rfl)
  obtain ⟨t_MT, k_MOST_THINGS⟩ := int_ok X G (c.d.fact 74 (f := .int "MOST_THINGS" 8) rfl)
  have M_Table := mkr_ok (c.d.fact 75 (f := .mkr "Table") rfl)
  have x := c.more.2
  unfold zex at x
  obtain ⟨x0, x⟩ := ba x
  obtain ⟨x1, x⟩ := ba x
  obtain ⟨x2, x⟩ := ba x
  obtain ⟨x3, x⟩ := ba x
  obtain ⟨x4, x⟩ := ba x
  obtain ⟨x5, x⟩ := ba x
  obtain ⟨x6, x⟩ := ba x
  obtain ⟨x7, x⟩ := ba x
  obtain ⟨x8, x⟩ := ba x
  obtain ⟨x9, x⟩ := ba x
  have T_Table := sclsB_ok x0
  have T_Table__at := sltB_ok x1
  have T_Table__by := sltB_ok x2
  have T_Table__found := sltB_ok x3
  have T_Table_bases := sltB_ok x4
  have T_Table_size := sltB_ok x5
  have T_Table_things := sltB_ok x6
  have T_Table_worths := sltB_ok x7
  have EX := excB_ok x8
  have TB : BadG P K mg "BadNumber" "name" := by
    obtain ⟨e1, e2⟩ := c.ini 0 (d := ⟨"BadNumber", "name", "BadNumber.__init__", defArgs s_BadNumber_init, defBody s_BadNumber_init, defScope s_BadNumber_init⟩) rfl
    exact ⟨⟨_, _, "bad number for ", by rw [hP]; exact bad_ok e1 e2 rfl rfl rfl (by decide +kernel), by decide +kernel⟩, m_BadNumber, m_super, by rw [hP]; decide +kernel⟩
  have TT : TryG K mg "BadNumber" "name" "BadLot" := by
    obtain ⟨_, e2⟩ := c.ini 0 (d := ⟨"BadNumber", "name", "BadNumber.__init__", defArgs s_BadNumber_init, defBody s_BadNumber_init, defScope s_BadNumber_init⟩) rfl
    have no : PySem.W.findIn K (.ref (ga K "BadNumber")) "name" = some none := by
      unfold badB at e2
      obtain ⟨_, e2⟩ := ba e2
      obtain ⟨_, e2⟩ := ba e2
      obtain ⟨_, e2⟩ := ba e2
      exact of_decide_eq_true (ba e2).1
    exact ⟨of_decide_eq_true x9, EX.2, no, EX.1, m_BadNumber, m_BadLot, of_decide_eq_true x⟩
  have b_law := FunD.bindsA (ps := ["script"]) F_law fun _ _ _ _ _ _ us hl => match us, hl with | [_], _ => rfl
  refine ⟨fd_law, fun s v => b_law s [v] rfl, fun base _ _ => ?_⟩
  have C_is_integer := cal_is_integer F_is_integer m_is_integer (ok_is_integer (P := P) (w := w) (base := base) (cf := cfM brkT) (mg := mg) F_is_integer B)
  have C_check_things := cal_check_things F_check_things m_check_things (ok_check_things (P := P) (w := w) (base := base) (cf := cfM brkT) (mg := mg) F_check_things k_MOST_THINGS C_is_integer)
  have C_check_size := cal_check_size F_check_size m_check_size (ok_check_size (P := P) (w := w) (base := base) (cf := cfM brkT) (mg := mg) F_check_size C_check_things C_is_integer)
  have C_check_thing := cal_check_thing F_check_thing m_check_thing (ok_check_thing (P := P) (w := w) (base := base) (cf := cfM brkT) (mg := mg) F_check_thing C_is_integer)
  have C_first_bad := cal_first_bad F_first_bad m_first_bad (ok_first_bad (P := P) (w := w) (base := base) (cf := cfM brkT) (mg := mg) F_first_bad B C_is_integer)
  have C_lot_of := cal_lot_of F_lot_of m_lot_of (ok_lot_of (P := P) (w := w) (base := base) (cf := cfM brkT) (mg := mg) F_lot_of B C_check_things C_first_bad)
  have C_sized_lot := cal_sized_lot F_sized_lot m_sized_lot (ok_sized_lot (P := P) (w := w) (base := base) (cf := cfM brkT) (mg := mg) F_sized_lot B C_lot_of)
  have C_outside := cal_outside F_outside m_outside (ok_outside (P := P) (w := w) (base := base) (cf := cfM brkT) (mg := mg) F_outside B)
  have C_lots_among := cal_lots_among F_lots_among m_lots_among (ok_lots_among (P := P) (w := w) (base := base) (cf := cfM brkT) (mg := mg) F_lots_among B)
  have C_mask_of := cal_mask_of F_mask_of m_mask_of (ok_mask_of (P := P) (w := w) (base := base) (cf := cfM brkT) (mg := mg) F_mask_of)
  have C_table_lots := cal_table_lots F_table_lots m_table_lots (ok_table_lots (P := P) (w := w) (base := base) (cf := cfM brkT) (mg := mg) F_table_lots B C_lots_among)
  have C_add_worths := cal_add_worths F_add_worths m_add_worths (ok_add_worths (P := P) (w := w) (base := base) (cf := cfM brkT) (mg := mg) F_add_worths)
  have C_check_worths := cal_check_worths F_check_worths m_check_worths (ok_check_worths (P := P) (w := w) (base := base) (cf := cfM brkT) (mg := mg) F_check_worths B C_is_integer)
  have C_four_list := cal_four_list F_four_list m_four_list (ok_four_list (P := P) (w := w) (base := base) (cf := cfM brkT) (mg := mg) F_four_list B T_Table T_Table_size T_Table_things C_lots_among C_outside)
  have C_worth_with := cal_worth_with F_worth_with m_worth_with (ok_worth_with (P := P) (w := w) (base := base) (cf := cfM brkT) (mg := mg) F_worth_with B T_Table T_Table__by)
  have C_pair_sum := cal_pair_sum F_pair_sum m_pair_sum (ok_pair_sum (P := P) (w := w) (base := base) (cf := cfM brkT) (mg := mg) F_pair_sum C_add_worths C_worth_with)
  have C_sums_at := cal_sums_at F_sums_at m_sums_at (ok_sums_at (P := P) (w := w) (base := base) (cf := cfM brkT) (mg := mg) F_sums_at C_pair_sum)
  have C_four_sums := cal_four_sums F_four_sums m_four_sums (ok_four_sums (P := P) (w := w) (base := base) (cf := cfM brkT) (mg := mg) F_four_sums B T_Table T_Table_size T_Table_things C_sized_lot C_sums_at)
  have C_twice_in := cal_twice_in F_twice_in m_twice_in (ok_twice_in (P := P) (w := w) (base := base) (cf := cfM brkT) (mg := mg) F_twice_in B)
  have C_is_twice := cal_is_twice F_is_twice m_is_twice (ok_is_twice (P := P) (w := w) (base := base) (cf := cfM brkT) (mg := mg) F_is_twice B C_is_integer C_twice_in)
  have C_broken_fours := cal_broken_fours F_broken_fours m_broken_fours (ok_broken_fours (P := P) (w := w) (base := base) (cf := cfM brkT) (mg := mg) F_broken_fours B C_four_list C_sums_at C_twice_in)
  have C_fours_through := cal_fours_through F_fours_through m_fours_through (ok_fours_through (P := P) (w := w) (base := base) (cf := cfM brkT) (mg := mg) F_fours_through B T_Table T_Table_things C_check_thing C_four_list)
  have C_is_no_loss := cal_is_no_loss F_is_no_loss m_is_no_loss (ok_is_no_loss (P := P) (w := w) (base := base) (cf := cfM brkT) (mg := mg) F_is_no_loss)
  have C_flips_of := cal_flips_of F_flips_of m_flips_of (ok_flips_of (P := P) (w := w) (base := base) (cf := cfM brkT) (mg := mg) F_flips_of)
  have C_meets_near := cal_meets_near F_meets_near m_meets_near (ok_meets_near (P := P) (w := w) (base := base) (cf := cfM brkT) (mg := mg) F_meets_near B C_flips_of C_is_no_loss)
  have C_all_meet_near := cal_all_meet_near F_all_meet_near m_all_meet_near (ok_all_meet_near (P := P) (w := w) (base := base) (cf := cfM brkT) (mg := mg) F_all_meet_near B T_Table T_Table__at T_Table_bases C_mask_of C_meets_near)
  have C_first_break := cal_first_break F_first_break m_first_break (ok_first_break (P := P) (w := w) (base := base) (cf := cfM brkT) (mg := mg) F_first_break B T_Table T_Table__at T_Table_bases C_flips_of C_is_no_loss C_mask_of)
  have C__law_draws := cal__law_draws F__law_draws m__law_draws (ok__law_draws (P := P) (w := w) (base := base) (cf := cfM brkT) (mg := mg) F__law_draws B)
  have C__law_take := cal__law_take F__law_take m__law_take (ok__law_take (P := P) (w := w) (base := base) (cf := cfM brkT) (mg := mg) F__law_take B)
  have C__law_lots := cal__law_lots F__law_lots m__law_lots (ok__law_lots (P := P) (w := w) (base := base) (cf := cfM brkT) (mg := mg) F__law_lots B)
  have C__law_swap := cal__law_swap F__law_swap m__law_swap (ok__law_swap (P := P) (w := w) (base := base) (cf := cfM brkT) (mg := mg) F__law_swap B)
  have C__law_number := cal__law_number F__law_number m__law_number (ok__law_number (P := P) (w := w) (base := base) (cf := cfM brkT) (mg := mg) F__law_number C__law_take)
  have C__law_prices := cal__law_prices F__law_prices m__law_prices (ok__law_prices (P := P) (w := w) (base := base) (cf := cfM brkT) (mg := mg) F__law_prices B C__law_number C__law_take)
  have C__law_lot := cal__law_lot F__law_lot m__law_lot (ok__law_lot (P := P) (w := w) (base := base) (cf := cfM brkT) (mg := mg) F__law_lot B C__law_take)
  have C__law_perm := cal__law_perm F__law_perm m__law_perm (ok__law_perm (P := P) (w := w) (base := base) (cf := cfM brkT) (mg := mg) F__law_perm B C__law_take)
  have C__law_worths := cal__law_worths F__law_worths m__law_worths (ok__law_worths (P := P) (w := w) (base := base) (cf := cfM brkT) (mg := mg) F__law_worths C__law_lots)
  have C__law_trades := cal__law_trades F__law_trades m__law_trades (ok__law_trades (P := P) (w := w) (base := base) (cf := cfM brkT) (mg := mg) F__law_trades C__law_swap)
  have C__law_twofold := cal__law_twofold F__law_twofold m__law_twofold (ok__law_twofold (P := P) (w := w) (base := base) (cf := cfM brkT) (mg := mg) F__law_twofold B C__law_trades)
  have C__law_orders := cal__law_orders F__law_orders m__law_orders (ok__law_orders (P := P) (w := w) (base := base) (cf := cfM brkT) (mg := mg) F__law_orders B)
  have C__law_placed := cal__law_placed F__law_placed m__law_placed (ok__law_placed (P := P) (w := w) (base := base) (cf := cfM brkT) (mg := mg) F__law_placed B C__law_lots C__law_orders)
  have C__law_moved_by := cal__law_moved_by F__law_moved_by m__law_moved_by (ok__law_moved_by (P := P) (w := w) (base := base) (cf := cfM brkT) (mg := mg) F__law_moved_by B)
  have C__law_counted := cal__law_counted F__law_counted m__law_counted (ok__law_counted (P := P) (w := w) (base := base) (cf := cfM brkT) (mg := mg) F__law_counted B C__law_lot C__law_lots C__law_take)
  have C__law_level := cal__law_level F__law_level m__law_level (ok__law_level (P := P) (w := w) (base := base) (cf := cfM brkT) (mg := mg) F__law_level C__law_lots)
  have C__law_full := cal__law_full F__law_full m__law_full (ok__law_full (P := P) (w := w) (base := base) (cf := cfM brkT) (mg := mg) F__law_full B C__law_counted C__law_level C__law_lots C__law_moved_by C__law_placed C__law_prices C__law_take)
  have C__law_fours_with := cal__law_fours_with F__law_fours_with m__law_fours_with (ok__law_fours_with (P := P) (w := w) (base := base) (cf := cfM brkT) (mg := mg) F__law_fours_with B C__law_lots)
  have C__law_pair_sum := cal__law_pair_sum F__law_pair_sum m__law_pair_sum (ok__law_pair_sum (P := P) (w := w) (base := base) (cf := cfM brkT) (mg := mg) F__law_pair_sum B)
  have C__law_sums := cal__law_sums F__law_sums m__law_sums (ok__law_sums (P := P) (w := w) (base := base) (cf := cfM brkT) (mg := mg) F__law_sums C__law_pair_sum)
  have C__law_twice := cal__law_twice F__law_twice m__law_twice (ok__law_twice (P := P) (w := w) (base := base) (cf := cfM brkT) (mg := mg) F__law_twice B)
  have C__law_held := cal__law_held F__law_held m__law_held (ok__law_held (P := P) (w := w) (base := base) (cf := cfM brkT) (mg := mg) F__law_held B C__law_fours_with C__law_sums C__law_twice C_four_sums C_fours_through C_is_twice)
  have I_Table := ok_Table_init (P := P) (w := w) (base := base) (cf := cfM brkT) (mg := mg) F_Table_init B T_Table T_Table__at T_Table__by T_Table__found T_Table_bases T_Table_size T_Table_things T_Table_worths C_check_size C_check_worths C_mask_of C_table_lots
  have b_Table := bn_Table_init F_Table_init
  have C__law_table := cal__law_table F__law_table m__law_table (ok__law_table (P := P) (w := w) (base := base) (cf := cfM brkT) (mg := mg) F__law_table M_Table I_Table m_Table b_Table C__law_worths)
  have C_break_of := cal_break_of F_break_of m_break_of (ok_break_of (P := P) (w := w) (base := base) (mg := mg) F_break_of T_Table T_Table__found C_all_meet_near C_first_break)
  have C_is_twofold := cal_is_twofold F_is_twofold m_is_twofold (ok_is_twofold (P := P) (w := w) (base := base) (cf := cfM brkT) (mg := mg) F_is_twofold C_break_of)
  have C__law_without := cal__law_without F__law_without m__law_without (ok__law_without (P := P) (w := w) (base := base) (cf := cfM brkT) (mg := mg) F__law_without B C__law_held C__law_lots C__law_perm C__law_table C__law_take C_broken_fours C_is_twofold)
  have R_check_thing := rk_check_thing (P := P) (w := w) (base := base) (cf := cfM brkT) F_check_thing C_is_integer TB
  have b_check_thing : Binds K fd_check_thing ps_check_thing [] := F_check_thing.bindsN fun _ _ _ _ _ _ us hl => match us, hl with | [_, _], _ => rfl
  have R_fours_through := rk_fours_through F_fours_through T_Table T_Table_things F_check_thing R_check_thing m_check_thing b_check_thing
  have b_fours_through : Binds K fd_fours_through ps_fours_through [] := F_fours_through.bindsN fun _ _ _ _ _ _ us hl => match us, hl with | [_, _], _ => rfl
  have C__law_at := cal__law_at F__law_at m__law_at (ok__law_at (P := P) (w := w) (base := base) (cf := cfM brkT) (mg := mg) F__law_at B TT F_fours_through R_fours_through m_fours_through b_fours_through)
  exact ok_law F_law B C__law_at C__law_draws C__law_full C__law_held C__law_lots C__law_table C__law_take C__law_twofold C__law_without C_broken_fours C_is_twofold
end K09
namespace K09
open PySem PySem.Spec PyProof.Rows L2 Ov
/-- all lots of d things out of lo, .., w - 1 -/
def lotsF : Nat → Nat → Nat → List (List Int)
  | _, _, 0 => [[]]
  | 0, _, _ + 1 => []
  | n + 1, lo, d + 1 => ((lotsF n (lo + 1) d).map fun l => (lo : Int) :: l) ++ lotsF n (lo + 1) (d + 1)
def L (w d : Nat) : List (List Int) := lotsF w 0 d
def maskI (m : Int) : List Int → Int
  | [] => m
  | n :: ns => maskI (Builtin.bitOr m (1 * 2 ^ n.toNat)) ns
def bookD (w d : Nat) (p : List Int → Int) : D := .dT ((L w d).map fun l => (l, .int (p l)))
def tblF (w d : Nat) (p : List Int → Int) : List D := [.int w, .int d, .tup ((L w d).map fun l => .int (p l)), .tup ((L w d).map fun l => Ov.tI l), bookD w d p, .dK ((L w d).map fun l => (maskI 0 l, .int (p l)))]
def tblD (w d : Nat) (p : List Int → Int) : D := .obj "Table" (tblF w d p)
theorem k_lots_7_3 : d_lots_among [.fr (Ov.tI (rgI 0 7)), .fr (.int 3)] = some (.rt (.lst ((L 7 3).map fun l => Ov.tI l)), [.no, .no]) := by kernel_rfl
theorem k_lots2_7_3 : d__law_lots [.fr (.int 7), .fr (.int 3)] = some (.rt (.lst ((L 7 3).map fun l => Ov.tI l)), [.no, .no]) := by kernel_rfl
theorem k_table_7_3 (p : List Int → Int) : d__law_table [.fr (.int 7), .fr (.int 3), .fr (bookD 7 3 p)] = some (.rt (tblD 7 3 p), [.no, .no, .no]) := by kernel_rfl
end K09
namespace K09
open PySem PySem.Spec PyProof.Rows L2 Ov
theorem e_eqI (a b : Int) : eqD (.int a) (.int b) = some (.bl (decide (a = b))) := by kernel_rfl
/-- the greatest of three numbers is there twice -/
def twI (a b c : Int) : Bool := decide (((if a = max a (max b c) then 1 else 0) + (if b = max a (max b c) then 1 else 0) + (if c = max a (max b c) then 1 else 0) : Nat) > 1)
def stepT (m : Int) (a : Int) : List D := if a = m then [.int a] else []
theorem k_tw1 (a b c : Int) (s : Sl) : cSet 1 (cLc [3] (iSeq (cV 0)) (gN 3) (cT (c2 isnD (cV 3) (cC .non))) (cV 3)) [.fr (.tup [.int a, .int b, .int c]), .no, .no, .no] = some (.nx, [.fr (.tup [.int a, .int b, .int c]), .fr (.lst [.int a, .int b, .int c]), .no, .no]) := by kernel_rfl
theorem k_tw2 (a b c : Int) : cIfS (cNot (cTr (cV 1))) (cRet (cC (.bl true))) cNx [.fr (.tup [.int a, .int b, .int c]), .fr (.lst [.int a, .int b, .int c]), .no, .no] = some (.nx, [.fr (.tup [.int a, .int b, .int c]), .fr (.lst [.int a, .int b, .int c]), .no, .no]) := by kernel_rfl
theorem maxI3 (a b c : Int) : maxI [a, b, c] = some (max a (max b c)) := by
  simp only [maxI]
  split <;> rename_i h
  · congr 1
    omega
  · congr 1
    omega
theorem k_tw3 (a b c : Int) : cSet 2 (c1 maxD (cV 1)) [.fr (.tup [.int a, .int b, .int c]), .fr (.lst [.int a, .int b, .int c]), .no, .no] = some (.nx, [.fr (.tup [.int a, .int b, .int c]), .fr (.lst [.int a, .int b, .int c]), .fr (.int (max a (max b c))), .no]) := by
  have h : maxD (.lst [.int a, .int b, .int c]) = some (.int (max a (max b c))) := by
    show (maxI [a, b, c]).map D.int = _
    rw [maxI3]
    rfl
  simp only [e_cSet, e_c1, e_cV, List.getElem?_cons_zero, List.getElem?_cons_succ, Option.bind_some, h, List.set_cons_zero, List.set_cons_succ]
theorem k_tw4 (m x : Int) (P Q : Sl) : ∃ ρ', (gN 3 (.int x) [P, Q, .fr (.int m), .no]).bind (stE (cT (c2 eqD (cV 3) (cV 2))) (cV 3)) = some (if x = m then [.int x] else [], ρ') ∧ wipR ρ' [3] = [P, Q, .fr (.int m), .no] := by
  refine ⟨[P, Q, .fr (.int m), .fr (.int x)], ?_, rfl⟩
  by_cases h : x = m
  · simp [e_gN, e_stE, e_cT, e_c2, e_cV, e_eqI, e_toB, h]
  · simp [e_gN, e_stE, e_cT, e_c2, e_cV, e_eqI, e_toB, h]
theorem p_twice_in (a b c : Int) : d_twice_in [.fr (.tup [.int a, .int b, .int c])] = some (.rt (.bl (twI a b c)), [.no]) := by
  have h4 : lcG [3] (gN 3) (stE (cT (c2 eqD (cV 3) (cV 2))) (cV 3)) ([a, b, c].map D.int) [.fr (.tup [.int a, .int b, .int c]), .fr (.lst [.int a, .int b, .int c]), .fr (.int (max a (max b c))), .no] = some ([a, b, c].flatMap (fun x => if x = max a (max b c) then [D.int x] else []), [.fr (.tup [.int a, .int b, .int c]), .fr (.lst [.int a, .int b, .int c]), .fr (.int (max a (max b c))), .no]) :=
    lcG_pure fun x _ => k_tw4 _ x _ _
  have h5 : ∀ m : Int, ([a, b, c].flatMap (fun x => if x = m then [D.int x] else [])).length = (if a = m then 1 else 0) + (if b = m then 1 else 0) + (if c = m then 1 else 0) := by
    intro m
    by_cases h1 : a = m <;> by_cases h2 : b = m <;> by_cases h3 : c = m <;> simp [h1, h2, h3]
  have h4' : lcG [3] (gN 3) (stE (cT (c2 eqD (cV 3) (cV 2))) (cV 3)) [D.int a, D.int b, D.int c] [.fr (.tup [.int a, .int b, .int c]), .fr (.lst [.int a, .int b, .int c]), .fr (.int (max a (max b c))), .no] = _ := h4
  unfold d_twice_in
  rw [e_mkDf]
  unfold c_twice_in
  rw [e_cSeq]
  have e0 : ([Sl.fr (.tup [.int a, .int b, .int c])] ++ List.replicate 3 Sl.no : List Sl) = [.fr (.tup [.int a, .int b, .int c]), .no, .no, .no] := rfl
  rw [e0, k_tw1 a b c .no]
  simp only [Option.bind_some]
  rw [e_cSeq, k_tw2]
  simp only [Option.bind_some]
  rw [e_cSeq, k_tw3]
  simp only [Option.bind_some, e_cRet, e_c2, e_c1, e_cLc, e_iSeq, e_cV, List.getElem?_cons_zero, List.getElem?_cons_succ, wipR, List.set_cons_zero, List.set_cons_succ, h4', lenD, e_cC, e_gt, h5]
  unfold twI
  simp [retA]
  omega
end K09
namespace K09
open PySem PySem.Spec PyProof.Rows L2 Ov
def key (low : List Int) (a b : Int) : List Int := sortI (low ++ [a, b])
theorem look_map {f : List Int → D} (k : List Int) : ∀ ls : List (List Int), look (ls.map fun l => (l, f l)) k = if k ∈ ls then some (f k) else none
  | [] => rfl
  | l :: ls => by
    have ih := look_map (f := f) k ls
    unfold look at ih ⊢
    rw [List.map_cons, List.find?_cons]
    by_cases h : l = k
    · subst h
      simp
    · simp only [decide_eq_false h]
      rw [ih]
      have h' : ¬ k = l := fun z => h z.symm
      simp [h']
theorem p_worth_with (t : List D) (kvs : List (List Int × D)) (low : List Int) (a b : Int) (h4 : t[4]? = some (.dT kvs)) (hl : low.length ≤ 1000) :
    d_worth_with [.fr (.obj "Table" t), .fr (Ov.tI low), .fr (.int a), .fr (.int b)] = some (.rt ((look kvs (key low a b)).getD .non), [.no, .no, .no, .no]) := by
  have h1 : atD "Table" 4 (.obj "Table" t) = some (.dT kvs) := by
    show (if ("Table" : Str) = "Table" then t[4]? else none) = _
    rw [if_pos rfl]
    exact h4
  have h2 : addD (Ov.tI low) (.tup [.int a, .int b]) = some (Ov.tI (low ++ [a, b])) := by
    unfold addD
    simp [Ov.tI]
    omega
  have h3 : sortedD (Ov.tI (low ++ [a, b])) = some (.lst ((key low a b).map D.int)) := by
    show (intsOf _).bind _ = _
    rw [intsOf_map]
    rfl
  have h5 : getDD (.dT kvs) (Ov.tI (key low a b)) = some ((look kvs (key low a b)).getD .non) := by
    show (Option.map _ (keyOf _)).bind _ = _
    rw [keyOf_tI]
    rfl
  have h6 : tupleD (.lst ((key low a b).map D.int)) = some (Ov.tI (key low a b)) := rfl
  simp only [d_worth_with, e_mkDf, c_worth_with, List.replicate, List.append_nil, e_cRet, e_c2, e_c1, e_cV, List.getElem?_cons_zero, List.getElem?_cons_succ, Option.bind_some, h1, e_cTup, e_aCons, e_aNil]
  simp [h2, h3, h5, h6, retA]
theorem k_add_worths (a b : Int) : d_add_worths [.fr (.int a), .fr (.int b)] = some (.rt (.int (a + b)), [.no, .no]) := by kernel_rfl
theorem p_worth (w d : Nat) (p : List Int → Int) (low : List Int) (a b : Int) (hk : key low a b ∈ L w d) (hl : low.length ≤ 1000) :
    d_worth_with [.fr (tblD w d p), .fr (Ov.tI low), .fr (.int a), .fr (.int b)] = some (.rt (.int (p (key low a b))), [.no, .no, .no, .no]) := by
  have h := p_worth_with (tblF w d p) ((L w d).map fun l => (l, .int (p l))) low a b rfl hl
  rw [look_map (f := fun l => D.int (p l)), if_pos hk] at h
  exact h
def sm (p : List Int → Int) (low : List Int) (a b c e : Int) : Int := p (key low a b) + p (key low c e)
theorem p_pair_sum (w d : Nat) (p : List Int → Int) (low : List Int) (a b c e : Int) (hk : key low a b ∈ L w d) (hk' : key low c e ∈ L w d) (hl : low.length ≤ 1000) :
    d_pair_sum [.fr (tblD w d p), .fr (Ov.tI low), .fr (.tup [.int a, .int b, .int c, .int e])] = some (.rt (.int (sm p low a b c e)), [.no, .no, .no]) := by
  have h1 := p_worth w d p low a b hk hl
  have h2 := p_worth w d p low c e hk' hl
  have h3 := k_add_worths (p (key low a b)) (p (key low c e))
  simp only [d_pair_sum, e_mkDf, c_pair_sum, List.replicate, List.cons_append, List.nil_append, e_cSeq, e_cV, List.getElem?_cons_zero, List.getElem?_cons_succ, Option.bind_some, e_gT, e_gCons, e_gN, e_gNil, List.set_cons_zero, List.set_cons_succ, List.length_cons, List.length_nil, if_true, e_cRet, e_cCall, e_agC, e_agN, argS, Option.map_some, nodupB, oIx, Bool.and_true, decide_true, h1, h2, h3, backS, retA]
  simp [sm, h3, argS, backS, h1, h2]
theorem p_sums_at (w d : Nat) (p : List Int → Int) (low : List Int) (a b c e : Int) (h1 : key low a b ∈ L w d) (h2 : key low c e ∈ L w d) (h3 : key low a c ∈ L w d) (h4 : key low b e ∈ L w d) (h5 : key low a e ∈ L w d) (h6 : key low b c ∈ L w d) (hl : low.length ≤ 1000) :
    d_sums_at [.fr (tblD w d p), .fr (Ov.tI low), .fr (.tup [.int a, .int b, .int c, .int e])] = some (.rt (.tup [.int (sm p low a b c e), .int (sm p low a c b e), .int (sm p low a e b c)]), [.no, .no, .no]) := by
  have q1 := p_pair_sum w d p low a b c e h1 h2 hl
  have q2 := p_pair_sum w d p low a c b e h3 h4 hl
  have q3 := p_pair_sum w d p low a e b c h5 h6 hl
  simp [d_sums_at, e_mkDf, c_sums_at, e_cSeq, e_cV, e_gT, e_gCons, e_gN, e_gNil, e_cRet, e_cTup, e_aCons, e_aNil, e_cCall, e_agC, e_agN, argS, nodupB, oIx, q1, q2, q3, backS, retA]
end K09
namespace K09
open PySem PySem.Spec PyProof.Rows L2 Ov
theorem p_is_twice (a b c : Int) : d_is_twice [.fr (.tup [.int a, .int b, .int c])] = some (.rt (.bl (twI a b c)), [.no]) := by
  have h : d_is_twice [.fr (.tup [.int a, .int b, .int c])] = (cRet (cCall 1 d_twice_in (gCons (cV 0) gNil)) [.fr (.tup [.int a, .int b, .int c]), .fr (.int 2), .fr (.int c)]).bind fun q => (match q.1 with
  | .nx => some (.nx, retA sl_is_twice 0 [Sl.fr (.tup [.int a, .int b, .int c])] q.2)
  | .rt d => some (.rt d, retA sl_is_twice 0 [Sl.fr (.tup [.int a, .int b, .int c])] q.2)
  | .ro d => some (.ro d, retA sl_is_twice 0 [Sl.fr (.tup [.int a, .int b, .int c])] q.2)
  | _ => none) := by kernel_rfl
  rw [h]
  simp [e_cRet, e_cCall, e_agC, e_agN, e_cV, argS, nodupB, oIx, p_twice_in, backS, retA]
theorem k_sort (low : List Int) (a b : Int) (hl : low.length ≤ 1000) : (addD (Ov.tI low) (.tup [.int a, .int b])).bind (fun z => (sortedD z).bind fun z => tupleD z) = some (Ov.tI (key low a b)) := by
  have h2 : addD (Ov.tI low) (.tup [.int a, .int b]) = some (Ov.tI (low ++ [a, b])) := by
    unfold addD
    simp [Ov.tI]
    omega
  have h3 : sortedD (Ov.tI (low ++ [a, b])) = some (.lst ((key low a b).map D.int)) := by
    show (intsOf _).bind _ = _
    rw [intsOf_map]
    rfl
  rw [h2]
  show (sortedD (Ov.tI (low ++ [a, b]))).bind _ = _
  rw [h3]
  rfl
theorem k_get (w d : Nat) (p : List Int → Int) (k : List Int) (h : k ∈ L w d) : getDct (bookD w d p) (Ov.tI k) = some (some (.int (p k))) := by
  show Option.map _ (keyOf (Ov.tI k)) = _
  rw [keyOf_tI]
  show some (look _ k) = _
  rw [look_map (f := fun l => D.int (p l)), if_pos h]
theorem k_nin (w d : Nat) (p : List Int → Int) (k : List Int) (h : k ∈ L w d) : ninD (Ov.tI k) (bookD w d p) = some (.bl false) := by
  have q := k_get w d p k h
  have e : inD0 (Ov.tI k) (bookD w d p) = (getDct (bookD w d p) (Ov.tI k)).map Option.isSome := rfl
  unfold ninD
  rw [e, q]
  rfl
theorem k_ix (w d : Nat) (p : List Int → Int) (k : List Int) (h : k ∈ L w d) : ixD (bookD w d p) (Ov.tI k) = some (.int (p k)) := by
  have q := k_get w d p k h
  have e : ixD (bookD w d p) (Ov.tI k) = (getDct (bookD w d p) (Ov.tI k)).bind fun o => o := rfl
  rw [e, q]
  rfl
theorem k_keyOf (low : List Int) (a b : Int) (hl : low.length ≤ 1000) {ρ : List Sl} {i j : Nat} (h1 : cV i ρ = some (Ov.tI low, ρ)) (h2 : cV j ρ = some (.tup [.int a, .int b], ρ)) : c1 tupleD (c1 sortedD (c2 addD (cV i) (cV j))) ρ = some (Ov.tI (key low a b), ρ) := by
  have q := k_sort low a b hl
  obtain ⟨z1, e1, q⟩ := ob q
  obtain ⟨z2, e2, q⟩ := ob q
  simp only [e_c1, e_c2, h1, h2, Option.bind_some, e1, e2, q]
theorem p_law_pair_sum (w d : Nat) (p : List Int → Int) (low : List Int) (a b c e : Int) (hk : key low a b ∈ L w d) (hk' : key low c e ∈ L w d) (hl : low.length ≤ 1000) :
    d__law_pair_sum [.fr (bookD w d p), .fr (Ov.tI low), .fr (.tup [.int a, .int b]), .fr (.tup [.int c, .int e])] = some (.rt (.int (sm p low a b c e)), [.no, .no, .no, .no]) := by
  have n1 := k_nin w d p _ hk
  have n2 := k_nin w d p _ hk'
  have i1 := k_ix w d p _ hk
  have i2 := k_ix w d p _ hk'
  unfold d__law_pair_sum
  rw [e_mkDf]
  unfold c__law_pair_sum
  rw [e_cSeq, e_cSet, k_keyOf low a b hl rfl rfl]
  simp only [Option.bind_some]
  rw [e_cSeq, e_cSet, k_keyOf low c e hl rfl rfl]
  simp [e_cSeq, e_cIfS, e_cOr, e_cT, e_c2, e_cV, n1, n2, e_toB, e_cNx, e_cRet, i1, i2, e_add, sm, retA]
theorem p_law_sums (w d : Nat) (p : List Int → Int) (low : List Int) (a b c e : Int) (h1 : key low a b ∈ L w d) (h2 : key low c e ∈ L w d) (h3 : key low a c ∈ L w d) (h4 : key low b e ∈ L w d) (h5 : key low a e ∈ L w d) (h6 : key low b c ∈ L w d) (hl : low.length ≤ 1000) :
    d__law_sums [.fr (bookD w d p), .fr (Ov.tI low), .fr (.tup [.int a, .int b, .int c, .int e])] = some (.rt (.tup [.int (sm p low a b c e), .int (sm p low a c b e), .int (sm p low a e b c)]), [.no, .no, .no]) := by
  have q1 := p_law_pair_sum w d p low a b c e h1 h2 hl
  have q2 := p_law_pair_sum w d p low a c b e h3 h4 hl
  have q3 := p_law_pair_sum w d p low a e b c h5 h6 hl
  simp [d__law_sums, e_mkDf, c__law_sums, e_cSeq, e_cSet, e_cV, e_gT, e_gCons, e_gN, e_gNil, e_cRet, e_cTup, e_aCons, e_aNil, e_cCall, e_agC, e_agN, argS, nodupB, oIx, q1, q2, q3, backS, retA]
end K09
namespace K09
open PySem PySem.Spec PyProof.Rows L2 Ov
theorem k_ltw1 (a b c : Int) : cSet 1 (cLc [2] (iSeq (cV 0)) (gN 2) (cT (c2 isnD (cV 2) (cC .non))) (cV 2)) [.fr (.tup [.int a, .int b, .int c]), .no, .no] = some (.nx, [.fr (.tup [.int a, .int b, .int c]), .fr (.lst [.int a, .int b, .int c]), .no]) := by kernel_rfl
theorem k_max3 (a b c : Int) : maxD (.lst [.int a, .int b, .int c]) = some (.int (max a (max b c))) := by
  show (maxI [a, b, c]).map D.int = _
  rw [maxI3]
  rfl
theorem k_ltw2 (a b c x : Int) (P : Sl) : ∃ ρ', (gN 2 (.int x) [P, .fr (.lst [.int a, .int b, .int c]), .no]).bind (stE (cT (c2 eqD (cV 2) (c1 maxD (cV 1)))) (cV 2)) = some (if x = max a (max b c) then [.int x] else [], ρ') ∧ wipR ρ' [2] = [P, .fr (.lst [.int a, .int b, .int c]), .no] := by
  refine ⟨[P, .fr (.lst [.int a, .int b, .int c]), .fr (.int x)], ?_, rfl⟩
  have hm := k_max3 a b c
  by_cases h : x = max a (max b c)
  · simp [e_gN, e_stE, e_cT, e_c2, e_c1, e_cV, hm, e_eqI, e_toB, h]
  · simp [e_gN, e_stE, e_cT, e_c2, e_c1, e_cV, hm, e_eqI, e_toB, h]
theorem p_law_twice (a b c : Int) : d__law_twice [.fr (.tup [.int a, .int b, .int c])] = some (.rt (.bl (twI a b c)), [.no]) := by
  have h4 : lcG [2] (gN 2) (stE (cT (c2 eqD (cV 2) (c1 maxD (cV 1)))) (cV 2)) ([a, b, c].map D.int) [.fr (.tup [.int a, .int b, .int c]), .fr (.lst [.int a, .int b, .int c]), .no] = some ([a, b, c].flatMap (fun x => if x = max a (max b c) then [D.int x] else []), [.fr (.tup [.int a, .int b, .int c]), .fr (.lst [.int a, .int b, .int c]), .no]) :=
    lcG_pure fun x _ => k_ltw2 a b c x _
  have h5 : ∀ m : Int, ([a, b, c].flatMap (fun x => if x = m then [D.int x] else [])).length = (if a = m then 1 else 0) + (if b = m then 1 else 0) + (if c = m then 1 else 0) := by
    intro m
    by_cases h1 : a = m <;> by_cases h2 : b = m <;> by_cases h3 : c = m <;> simp [h1, h2, h3]
  have h4' : lcG [2] (gN 2) (stE (cT (c2 eqD (cV 2) (c1 maxD (cV 1)))) (cV 2)) [D.int a, D.int b, D.int c] [.fr (.tup [.int a, .int b, .int c]), .fr (.lst [.int a, .int b, .int c]), .no] = _ := h4
  unfold d__law_twice
  rw [e_mkDf]
  unfold c__law_twice
  rw [e_cSeq]
  have e0 : ([Sl.fr (.tup [.int a, .int b, .int c])] ++ List.replicate 2 Sl.no : List Sl) = [.fr (.tup [.int a, .int b, .int c]), .no, .no] := rfl
  rw [e0, k_ltw1 a b c]
  have e3 : eqD (.int 3) (.int 0) = some (.bl false) := by kernel_rfl
  simp only [Option.bind_some, e_cRet, e_cOrV, e_c2, e_c1, e_cLc, e_iSeq, e_cV, List.getElem?_cons_zero, List.getElem?_cons_succ, wipR, List.set_cons_zero, List.set_cons_succ, h4', lenD, e_cC, e_gt, h5, List.length_cons, List.length_nil]
  have e4 : (((0 + 1 + 1 + 1 : Nat) : Int)) = 3 := rfl
  rw [e4, e3]
  simp only [Option.bind_some, e_toB, Bool.false_eq_true, if_false, List.getElem?_cons_zero, List.getElem?_cons_succ, List.set_cons_zero, List.set_cons_succ, h4', e_gt, h5]
  unfold twI
  simp [retA]
  omega
end K09
namespace K09
open PySem PySem.Spec PyProof.Rows L2 Ov
abbrev Four := List Int × List Int
def pr (x : Four) : D := .tup [Ov.tI x.1, Ov.tI x.2]
def s1 (p : List Int → Int) (x : Four) : Int := match x.2 with | [a, b, c, e] => sm p x.1 a b c e | _ => 0
def s2 (p : List Int → Int) (x : Four) : Int := match x.2 with | [a, b, c, e] => sm p x.1 a c b e | _ => 0
def s3 (p : List Int → Int) (x : Four) : Int := match x.2 with | [a, b, c, e] => sm p x.1 a e b c | _ => 0
/-- the four holds -/
def tw (p : List Int → Int) (x : Four) : Bool := twI (s1 p x) (s2 p x) (s3 p x)
def sumsD (p : List Int → Int) (x : Four) : D := .tup [.int (s1 p x), .int (s2 p x), .int (s3 p x)]
/-- a four whose six lots are lots of the table -/
structure FourOk (w d : Nat) (x : Four) : Prop where
  ex : ∃ a b c e, x.2 = [a, b, c, e] ∧ key x.1 a b ∈ L w d ∧ key x.1 c e ∈ L w d ∧ key x.1 a c ∈ L w d ∧ key x.1 b e ∈ L w d ∧ key x.1 a e ∈ L w d ∧ key x.1 b c ∈ L w d
  len : x.1.length ≤ 1000
theorem FourOk.sums {w d : Nat} {x : Four} (h : FourOk w d x) (p : List Int → Int) : d_sums_at [.fr (tblD w d p), .fr (Ov.tI x.1), .fr (Ov.tI x.2)] = some (.rt (sumsD p x), [.no, .no, .no]) := by
  obtain ⟨⟨a, b, c, e, hx, h1, h2, h3, h4, h5, h6⟩, hl⟩ := h
  obtain ⟨low, four⟩ := x
  subst hx
  exact p_sums_at w d p low a b c e h1 h2 h3 h4 h5 h6 hl
theorem FourOk.lsums {w d : Nat} {x : Four} (h : FourOk w d x) (p : List Int → Int) : d__law_sums [.fr (bookD w d p), .fr (Ov.tI x.1), .fr (Ov.tI x.2)] = some (.rt (sumsD p x), [.no, .no, .no]) := by
  obtain ⟨⟨a, b, c, e, hx, h1, h2, h3, h4, h5, h6⟩, hl⟩ := h
  obtain ⟨low, four⟩ := x
  subst hx
  exact p_law_sums w d p low a b c e h1 h2 h3 h4 h5 h6 hl
theorem p_broken {w d : Nat} {p : List Int → Int} {F : List Four} (hF : d_four_list [.fr (tblD w d p)] = some (.rt (.lst (F.map pr)), [.no])) (hK : ∀ x ∈ F, FourOk w d x) :
    d_broken_fours [.fr (tblD w d p)] = some (.rt (.tup (F.flatMap fun x => if tw p x = true then [] else [pr x])), [.no]) := by
  have h := lcG_pure (vs := [1, 2]) (g := gT 2 (gCons' (gN 1) (gCons' (gN 2) gNil'))) (st := stE (cNot (cTr (cCall 1 d_twice_in (gCons (cCall 3 d_sums_at (gCons (cV 0) (gCons (cV 1) (gCons (cV 2) gNil)))) gNil)))) (cTup (aCons (cV 1) (aCons (cV 2) aNil))))
    (f := pr) (o := fun x => if tw p x = true then [] else [pr x]) (ρ := [.fr (tblD w d p), .no, .no]) (xs := F) fun x hx => by
    have q1 := (hK x hx).sums p
    have q2 := p_twice_in (s1 p x) (s2 p x) (s3 p x)
    have q3 : d_twice_in [.fr (sumsD p x)] = some (.rt (.bl (tw p x)), [.no]) := q2
    refine ⟨[.fr (tblD w d p), .fr (Ov.tI x.1), .fr (Ov.tI x.2)], ?_, rfl⟩
    simp only [pr, e_gT, e_gCons, e_gN, e_gNil, Option.bind_some, List.set_cons_zero, List.set_cons_succ, List.length_cons, List.length_nil, if_true]
    cases ht : tw p x
    · simp [ht, e_stE, e_cNot, e_cTr, e_cCall, e_agC, e_agN, e_cV, argS, nodupB, oIx, q1, q3, backS, truB, e_cTup, e_aCons, e_aNil]
    · simp [ht, e_stE, e_cNot, e_cTr, e_cCall, e_agC, e_agN, e_cV, argS, nodupB, oIx, q1, q3, backS, truB, e_cTup, e_aCons, e_aNil]
  simp [d_broken_fours, e_mkDf, c_broken_fours, e_cRet, e_c1, e_cLc, e_iSeq, e_cCall, e_agC, e_agN, e_cV, argS, nodupB, oIx, hF, backS, wipR, h, tupleD, retA]
end K09
namespace K09
open PySem PySem.Spec PyProof.Rows L2 Ov
theorem k_isint (z : Int) : d_is_integer [.fr (.int z)] = some (.rt (.bl true), [.no]) := by kernel_rfl
theorem p_check_thing (z w : Int) (h : 0 ≤ z ∧ z < w) : d_check_thing [.fr (.int z), .fr (.int w)] = some (.nx, [.no, .no]) := by
  have q := k_isint z
  simp [d_check_thing, e_mkDf, c_check_thing, e_cIfS, e_cOr, e_cNot, e_cTr, e_cCall, e_agC, e_agN, e_cV, argS, nodupB, oIx, q, backS, truB, e_cT, e_cChain, e_cC, e_le, e_lt, e_toB, h.1, h.2, e_cNx, retA]
theorem flats_ints : ∀ xs : List Int, flats (xs.map D.int) = some (xs.map V.int)
  | [] => rfl
  | x :: xs => by
    have ih := flats_ints xs
    show (flat (.int x)).bind _ = _
    simp [flat, flats, ih]
theorem inV_ints (z : Int) : ∀ xs : List Int, inV (.int z) (xs.map V.int) = xs.contains z
  | [] => rfl
  | x :: xs => by
    have ih := inV_ints z xs
    unfold inV at ih ⊢
    have e : eqV (V.int x) (V.int z) = decide (x = z) := by kernel_rfl
    rw [List.contains_cons, List.map_cons, List.any_cons, e, ih]
    congr 1
    by_cases h : x = z
    · simp [h]
    · have h' : ¬ z = x := fun q => h q.symm
      simp [h, h']
theorem k_in (z : Int) (xs : List Int) : inD (.int z) (Ov.tI xs) = some (.bl (xs.contains z)) := by
  have e : inD0 (.int z) (Ov.tI xs) = (flat (.int z)).bind fun v => (flats (xs.map D.int)).bind fun vs => some (inV v vs) := rfl
  unfold inD
  rw [e, flats_ints]
  show (some (inV (.int z) (xs.map V.int))).map _ = _
  rw [inV_ints]
  rfl
theorem p_through {w d : Nat} {p : List Int → Int} {F : List Four} (z : Int) (hz : 0 ≤ z ∧ z < w) (hF : d_four_list [.fr (tblD w d p)] = some (.rt (.lst (F.map pr)), [.no])) :
    d_fours_through [.fr (tblD w d p), .fr (.int z)] = some (.rt (.tup (F.flatMap fun x => if x.2.contains z = true then [pr x] else [])), [.no, .no]) := by
  have q := p_check_thing z w hz
  have h := lcG_pure (vs := [2, 3]) (g := gT 2 (gCons' (gN 2) (gCons' (gN 3) gNil'))) (st := stE (cT (c2 inD (cV 1) (cV 3))) (cTup (aCons (cV 2) (aCons (cV 3) aNil))))
    (f := pr) (o := fun x => if x.2.contains z = true then [pr x] else []) (ρ := [.fr (tblD w d p), .fr (.int z), .no, .no]) (xs := F) fun x hx => by
    have q1 := k_in z x.2
    refine ⟨[.fr (tblD w d p), .fr (.int z), .fr (Ov.tI x.1), .fr (Ov.tI x.2)], ?_, rfl⟩
    simp only [pr, e_gT, e_gCons, e_gN, e_gNil, Option.bind_some, List.set_cons_zero, List.set_cons_succ, List.length_cons, List.length_nil, if_true]
    cases ht : x.2.contains z
    · rw [ht] at q1
      simp only [e_stE, e_cT, e_c2, e_cV, List.getElem?_cons_zero, List.getElem?_cons_succ, Option.bind_some, q1, e_toB, Bool.false_eq_true, if_false]
    · rw [ht] at q1
      simp [e_stE, e_cT, e_c2, e_cV, q1, e_toB, e_cTup, e_aCons, e_aNil]
  have h0 : atD "Table" 0 (tblD w d p) = some (.int w) := rfl
  unfold d_fours_through
  rw [e_mkDf]
  unfold c_fours_through
  simp only [e_cSeq, e_cDrop, e_cRet, e_c1, e_cLc, e_iSeq, e_cCall, e_agC, e_agN, e_cV, List.replicate, List.cons_append, List.nil_append, List.getElem?_cons_zero, List.getElem?_cons_succ, Option.bind_some, h0, argS, Option.map_some, nodupB, oIx, List.length_cons, List.length_nil, Bool.true_and, decide_true, if_true, q, backS, hF, wipR, List.set_cons_zero, List.set_cons_succ, h, tupleD]
  simp [retA, sl_fours_through]
end K09
namespace K09
open PySem PySem.Spec PyProof.Rows L2 Ov
theorem k_len (xs : List Int) : lenD (.lst (xs.map D.int)) = some (.int (xs.length : Nat)) := by
  unfold lenD
  simp
def noLoss (at_ : List (Int × Int)) (a b f : Int) : Bool := match lk at_ (Builtin.bitXor a f), lk at_ (Builtin.bitXor b f) with
  | some x, some y => decide ((lk at_ a).getD 0 + (lk at_ b).getD 0 ≤ x + y)
  | _, _ => false
theorem p_is_no_loss {at_ : List (Int × Int)} {a b f x y : Int} (ha : lk at_ a = some x) (hb : lk at_ b = some y) : d_is_no_loss [.fr (atD' at_), .fr (.int a), .fr (.int b), .fr (.int f)] = some (.rt (.bl (noLoss at_ a b f)), [.no, .no, .no, .no]) := by
  have g1 := get_at at_ (Builtin.bitXor a f)
  have g2 := get_at at_ (Builtin.bitXor b f)
  have i1 := ix_at ha
  have i2 := ix_at hb
  unfold d_is_no_loss
  rw [e_mkDf]
  unfold c_is_no_loss noLoss
  cases h1 : lk at_ (Builtin.bitXor a f) with
  | none =>
    rw [h1] at g1
    simp only [e_cSeq, e_cSet, e_cRet, e_cAndV, e_c2, e_cV, e_cC, e_xor, List.replicate, List.cons_append, List.nil_append, List.getElem?_cons_zero, List.getElem?_cons_succ, List.set_cons_zero, List.set_cons_succ, Option.bind_some, g1, g2, oI, isnD, isNonB, e_toB, Bool.not_true, Bool.false_eq_true, if_false]
    rfl
  | some u =>
    rw [h1] at g1
    cases h2 : lk at_ (Builtin.bitXor b f) with
    | none =>
      rw [h2] at g2
      simp only [e_cSeq, e_cSet, e_cRet, e_cAndV, e_c2, e_cV, e_cC, e_xor, List.replicate, List.cons_append, List.nil_append, List.getElem?_cons_zero, List.getElem?_cons_succ, List.set_cons_zero, List.set_cons_succ, Option.bind_some, g1, g2, oI, isnD, isNonB, e_toB, Bool.not_true, Bool.not_false, if_true, Bool.false_eq_true, if_false]
      rfl
    | some v =>
      rw [h2] at g2
      simp only [e_cSeq, e_cSet, e_cRet, e_cAndV, e_c2, e_cV, e_cC, e_xor, List.replicate, List.cons_append, List.nil_append, List.getElem?_cons_zero, List.getElem?_cons_succ, List.set_cons_zero, List.set_cons_succ, Option.bind_some, g1, g2, oI, isnD, isNonB, e_toB, Bool.not_false, if_true, i1, i2, e_add, e_le, ha, hb, Option.getD_some]
      rfl
def flips (out into : List Int) : List Int := out.flatMap fun i => into.map fun j => Builtin.bitOr (1 * 2 ^ i.toNat) (1 * 2 ^ j.toNat)
theorem e_cLc2 {vs vs1 : List Nat} {it it1 : Ei} {g g1 : Eg} {t t1 : Et} {a : Ev} {ρ : List Sl} : cLc2 vs vs1 it g t it1 g1 t1 a ρ = (it ρ).bind fun p => (lcG vs g (Ov.stI vs1 t it1 g1 (stE t1 a)) p.1 (wipR p.2 vs)).bind fun q => if q.1.length ≤ 16777216 then some (.lst q.1, restR p.2 q.2 vs) else none := rfl

theorem flat_oneI {f : Int → Int} : ∀ xs : List Int, (xs.flatMap fun e => [D.int (f e)]) = (xs.map f).map D.int
  | [] => rfl
  | x :: xs => by
    rw [List.flatMap_cons, flat_oneI xs]
    rfl
theorem flat_ints {f : Int → List Int} : ∀ xs : List Int, (xs.flatMap fun e => (f e).map D.int) = (xs.flatMap f).map D.int
  | [] => rfl
  | x :: xs => by
    rw [List.flatMap_cons, List.flatMap_cons, flat_ints xs, List.map_append]
theorem p_flips (out into : List Int) (ho : ∀ i ∈ out, 0 ≤ i ∧ i ≤ 1000) (hi : ∀ i ∈ into, 0 ≤ i ∧ i ≤ 1000) (hl : (flips out into).length ≤ 16777216) :
    d_flips_of [.fr (.lst (out.map D.int)), .fr (.lst (into.map D.int))] = some (.rt (.lst ((flips out into).map D.int)), [.no, .no]) := by
  have inner : ∀ i, 0 ≤ i ∧ i ≤ 1000 → lcG [3] (gN 3) (stE cYes (c2 orD (c2 shlD (cC (.int 1)) (cV 2)) (c2 shlD (cC (.int 1)) (cV 3)))) (into.map D.int) [.fr (.lst (out.map D.int)), .fr (.lst (into.map D.int)), .fr (.int i), .no] =
      some (into.flatMap fun j => [D.int (Builtin.bitOr (1 * 2 ^ i.toNat) (1 * 2 ^ j.toNat))], [.fr (.lst (out.map D.int)), .fr (.lst (into.map D.int)), .fr (.int i), .no]) := fun i hi0 => lcG_pure fun j hj => by
    have s1 := e_shl (p := 1) (q := i) ⟨hi0.1, by omega⟩ (by decide)
    have s2 := e_shl (p := 1) (q := j) ⟨(hi j hj).1, by have := (hi j hj).2; omega⟩ (by decide)
    refine ⟨[.fr (.lst (out.map D.int)), .fr (.lst (into.map D.int)), .fr (.int i), .fr (.int j)], ?_, rfl⟩
    simp only [e_gN, e_stE, e_cYes, e_c2, e_cC, e_cV, List.set_cons_zero, List.set_cons_succ, List.getElem?_cons_zero, List.getElem?_cons_succ, Option.bind_some, s1, s2, if_true, e_or]
  have outer : lcG [2, 3] (gN 2) (Ov.stI [3] cYes (iSeq (cV 1)) (gN 3) (stE cYes (c2 orD (c2 shlD (cC (.int 1)) (cV 2)) (c2 shlD (cC (.int 1)) (cV 3))))) (out.map D.int) [.fr (.lst (out.map D.int)), .fr (.lst (into.map D.int)), .no, .no] =
      some (out.flatMap fun i => (into.map fun j => Builtin.bitOr (1 * 2 ^ i.toNat) (1 * 2 ^ j.toNat)).map D.int, [.fr (.lst (out.map D.int)), .fr (.lst (into.map D.int)), .no, .no]) := lcG_pure fun i hi0 => by
    have q := inner i (ho i hi0)
    rw [flat_oneI (f := fun j => Builtin.bitOr (1 * 2 ^ i.toNat) (1 * 2 ^ j.toNat))] at q
    refine ⟨[.fr (.lst (out.map D.int)), .fr (.lst (into.map D.int)), .fr (.int i), .no], ?_, rfl⟩
    simp only [e_gN, List.set_cons_zero, List.set_cons_succ, Option.bind_some, Ov.stI, e_cYes, if_true, e_iSeq, e_cV, List.getElem?_cons_zero, List.getElem?_cons_succ, wipR, q]
  rw [flat_ints (f := fun i => into.map fun j => Builtin.bitOr (1 * 2 ^ i.toNat) (1 * 2 ^ j.toNat))] at outer
  have hl' : ((out.flatMap fun i => into.map fun j => Builtin.bitOr (1 * 2 ^ i.toNat) (1 * 2 ^ j.toNat)).map D.int).length ≤ 16777216 := by
    rw [List.length_map]
    exact hl
  unfold d_flips_of
  rw [e_mkDf]
  unfold c_flips_of
  simp only [e_cRet, e_cLc2, e_iSeq, e_cV, List.replicate, List.cons_append, List.nil_append, List.getElem?_cons_zero, List.getElem?_cons_succ, Option.bind_some, wipR, List.set_cons_zero, List.set_cons_succ, outer, hl', if_true, restR]
  rfl
theorem blsOf_ints {f : Int → Bool} : ∀ xs : List Int, blsOf (xs.flatMap fun x => [D.bl (f x)]) = some (xs.map f)
  | [] => rfl
  | x :: xs => by
    rw [List.flatMap_cons]
    show (toB (D.bl (f x))).bind (fun i => (blsOf (xs.flatMap fun x => [D.bl (f x)])).bind fun r => some (i :: r)) = _
    rw [blsOf_ints xs]
    rfl
theorem p_any {f : Int → Bool} (xs : List Int) : anyD (.lst (xs.flatMap fun x => [D.bl (f x)])) = some (.bl (xs.any f)) := by
  show (blsOf _).bind _ = _
  rw [blsOf_ints]
  simp [List.any_map]
theorem cut_take (xs : List Int) (k : Nat) : slD (.lst (xs.map D.int)) none (some (k : Int)) = some (.lst ((xs.take k).map D.int)) := by
  show some (D.lst (cutG _ _ _)) = _
  unfold cutG
  rw [HT.sIx_none, HT.sIx_nat, List.drop_zero, Nat.sub_zero, List.map_take, List.length_map]
  congr 2
  rw [List.take_eq_take_iff, List.length_map]
  omega
def meetsF (at_ : List (Int × Int)) (a b : Int) (out into : List Int) : Bool :=
  if out.length < 2 then true else if out.length = 2 then ((flips out into).take 2).any (noLoss at_ a b)
  else (flips out into).any (fun f => (lk at_ (Builtin.bitXor a f)).isSome) && (flips out into).any fun f => (lk at_ (Builtin.bitXor b f)).isSome
theorem p_meets {at_ : List (Int × Int)} {a b x y : Int} {out into : List Int} (ha : lk at_ a = some x) (hb : lk at_ b = some y) (ho : ∀ i ∈ out, 0 ≤ i ∧ i ≤ 1000) (hi : ∀ i ∈ into, 0 ≤ i ∧ i ≤ 1000) (hl : (flips out into).length ≤ 16777216) :
    d_meets_near [.fr (atD' at_), .fr (.int a), .fr (.int b), .fr (.lst (out.map D.int)), .fr (.lst (into.map D.int))] = some (.rt (.bl (meetsF at_ a b out into)), [.no, .no, .no, .no, .no]) := by
  have q := p_flips out into ho hi hl
  have hlen := k_len out
  have e0 : (D.int ((2 : Nat) : Int)) = D.int 2 := rfl
  unfold d_meets_near
  rw [e_mkDf]
  unfold c_meets_near meetsF
  by_cases h1 : out.length < 2
  · have h1' : decide ((out.length : Int) < 2) = true := decide_eq_true (by omega)
    simp only [e_cSeq, e_cIfS, e_cT, e_c2, e_c1, e_cV, e_cC, List.replicate, List.cons_append, List.nil_append, List.getElem?_cons_zero, List.getElem?_cons_succ, Option.bind_some, hlen, e_lt, h1', e_toB, if_true, e_cRet, h1]
    rfl
  · have h1' : decide ((out.length : Int) < 2) = false := decide_eq_false (by omega)
    rw [if_neg h1]
    by_cases h2 : out.length = 2
    · rw [if_pos h2]
      have h2' : eqD (.int (out.length : Nat)) (.int 2) = some (.bl true) := by
        rw [e_eqI, h2]
        rfl
      have hs : slD (.lst ((flips out into).map D.int)) none (some 2) = some (.lst (((flips out into).take 2).map D.int)) := by
        exact cut_take _ 2
      have hc := lcG_pure (vs := [6]) (g := gN 6) (st := stE cYes (cCall 4 d_is_no_loss (gCons (cV 0) (gCons (cV 1) (gCons (cV 2) (gCons (cV 6) gNil)))))) (f := D.int) (o := fun f => [D.bl (noLoss at_ a b f)])
        (ρ := [.fr (atD' at_), .fr (.int a), .fr (.int b), .fr (.lst (out.map D.int)), .fr (.lst (into.map D.int)), .fr (.lst ((flips out into).map D.int)), .no]) (xs := (flips out into).take 2) fun f _ => by
          have r := p_is_no_loss (f := f) ha hb
          refine ⟨[.fr (atD' at_), .fr (.int a), .fr (.int b), .fr (.lst (out.map D.int)), .fr (.lst (into.map D.int)), .fr (.lst ((flips out into).map D.int)), .fr (.int f)], ?_, rfl⟩
          simp only [e_gN, e_stE, e_cYes, e_cCall, e_agC, e_agN, e_cV, List.set_cons_zero, List.set_cons_succ, List.getElem?_cons_zero, List.getElem?_cons_succ, Option.bind_some, Option.map_some, argS, nodupB, oIx, Bool.true_and, List.length_cons, List.length_nil, decide_true, if_true, r, backS]
      have hany := p_any (f := noLoss at_ a b) ((flips out into).take 2)
      simp only [e_cSeq, e_cIfS, e_cT, e_c2, e_c1, e_cV, e_cC, List.replicate, List.cons_append, List.nil_append, List.getElem?_cons_zero, List.getElem?_cons_succ, Option.bind_some, hlen, e_lt, h1', e_toB, Bool.false_eq_true, if_false, e_cNx, e_cSet, e_cCall, e_agC, e_agN, argS, Option.map_some, nodupB, oIx, Bool.true_and, List.length_cons, List.length_nil, decide_true, if_true, q, backS, List.set_cons_zero, List.set_cons_succ, h2', e_cRet, e_cLc, e_iSeq, e_cSl, e_pNone, e_pSome, e_toI, hs, wipR, hc, hany]
      rfl
    · rw [if_neg h2]
      have h2' : eqD (.int (out.length : Nat)) (.int 2) = some (.bl false) := by
        rw [e_eqI]
        have : ¬ ((out.length : Int) = 2) := by omega
        simp [this]
      have hcx : ∀ (j : Nat) (c : Int), (j = 1 ∧ c = a) ∨ (j = 2 ∧ c = b) → lcG [6] (gN 6) (stE cYes (c2 inD (c2 xorD (cV j) (cV 6)) (cV 0))) ((flips out into).map D.int) [.fr (atD' at_), .fr (.int a), .fr (.int b), .fr (.lst (out.map D.int)), .fr (.lst (into.map D.int)), .fr (.lst ((flips out into).map D.int)), .no] =
          some ((flips out into).flatMap fun f => [D.bl (lk at_ (Builtin.bitXor c f)).isSome], [.fr (atD' at_), .fr (.int a), .fr (.int b), .fr (.lst (out.map D.int)), .fr (.lst (into.map D.int)), .fr (.lst ((flips out into).map D.int)), .no]) := fun j c hj => lcG_pure fun f _ => by
        have r := in_at at_ (Builtin.bitXor c f)
        refine ⟨[.fr (atD' at_), .fr (.int a), .fr (.int b), .fr (.lst (out.map D.int)), .fr (.lst (into.map D.int)), .fr (.lst ((flips out into).map D.int)), .fr (.int f)], ?_, rfl⟩
        rcases hj with ⟨rfl, rfl⟩ | ⟨rfl, rfl⟩ <;>
        simp only [e_gN, e_stE, e_cYes, e_c2, e_cV, List.set_cons_zero, List.set_cons_succ, List.getElem?_cons_zero, List.getElem?_cons_succ, Option.bind_some, e_xor, r, if_true]
      have hc1 := hcx 1 a (.inl ⟨rfl, rfl⟩)
      have hc2 := hcx 2 b (.inr ⟨rfl, rfl⟩)
      have hany1 := p_any (f := fun f => (lk at_ (Builtin.bitXor a f)).isSome) (flips out into)
      have hany2 := p_any (f := fun f => (lk at_ (Builtin.bitXor b f)).isSome) (flips out into)
      cases hb1 : (flips out into).any fun f => (lk at_ (Builtin.bitXor a f)).isSome
      · rw [hb1] at hany1
        simp only [e_cSeq, e_cIfS, e_cT, e_c2, e_c1, e_cV, e_cC, List.replicate, List.cons_append, List.nil_append, List.getElem?_cons_zero, List.getElem?_cons_succ, Option.bind_some, hlen, e_lt, h1', e_toB, Bool.false_eq_true, if_false, e_cNx, e_cSet, e_cCall, e_agC, e_agN, argS, Option.map_some, nodupB, oIx, Bool.true_and, List.length_cons, List.length_nil, decide_true, if_true, q, backS, List.set_cons_zero, List.set_cons_succ, h2', e_cRet, e_cLc, e_iSeq, wipR, hc1, hany1, e_cAndV]
        rfl
      · rw [hb1] at hany1
        simp only [e_cSeq, e_cIfS, e_cT, e_c2, e_c1, e_cV, e_cC, List.replicate, List.cons_append, List.nil_append, List.getElem?_cons_zero, List.getElem?_cons_succ, Option.bind_some, hlen, e_lt, h1', e_toB, Bool.false_eq_true, if_false, e_cNx, e_cSet, e_cCall, e_agC, e_agN, argS, Option.map_some, nodupB, oIx, Bool.true_and, List.length_cons, List.length_nil, decide_true, if_true, q, backS, List.set_cons_zero, List.set_cons_succ, h2', e_cRet, e_cLc, e_iSeq, wipR, hc1, hany1, e_cAndV, restR, hc2, hany2]
        rfl
end K09
namespace K09
open PySem PySem.Spec PyProof.Rows L2 Ov
theorem any_false (xs : List Int) : anyD (.lst (xs.flatMap fun _ => [D.bl false])) = some (.bl false) := by
  have e : (xs.flatMap fun _ => [D.bl false]) = (xs.map fun _ => false).map D.bl := by
    induction xs with
    | nil => rfl
    | cons x xs ih =>
      simp at ih ⊢
      exact ih
  show (blsOf _).bind _ = _
  rw [e, blsOf_map]
  simp
theorem p_four_sums {w d : Nat} {p : List Int → Int} {x : Four} (h : FourOk w d x) (hs1 : d_sized_lot [.fr (Ov.tI x.1), .fr (.int w), .fr (.int ((d : Int) - 2))] = some (.rt (Ov.tI x.1), [.no, .no, .no]))
    (hs2 : d_sized_lot [.fr (Ov.tI x.2), .fr (.int w), .fr (.int 4)] = some (.rt (Ov.tI x.2), [.no, .no, .no])) (hd : ∀ t ∈ x.2, x.1.contains t = false) :
    d_four_sums [.fr (tblD w d p), .fr (Ov.tI x.1), .fr (Ov.tI x.2)] = some (.rt (sumsD p x), [.no, .no, .no]) := by
  have h0 : atD "Table" 0 (tblD w d p) = some (.int w) := rfl
  have h1 : atD "Table" 1 (tblD w d p) = some (.int d) := rfl
  have q1 := h.sums p
  have hc := lcG_pure (vs := [5]) (g := gN 5) (st := stE cYes (c2 inD (cV 5) (cV 3))) (f := D.int) (o := fun _ => [D.bl false]) (ρ := [.fr (tblD w d p), .fr (Ov.tI x.1), .fr (Ov.tI x.2), .fr (Ov.tI x.1), .fr (Ov.tI x.2), .no]) (xs := x.2) fun t ht => by
    have q := k_in t x.1
    rw [hd t ht] at q
    refine ⟨[.fr (tblD w d p), .fr (Ov.tI x.1), .fr (Ov.tI x.2), .fr (Ov.tI x.1), .fr (Ov.tI x.2), .fr (.int t)], ?_, rfl⟩
    simp only [e_gN, e_stE, e_cYes, e_c2, e_cV, List.set_cons_zero, List.set_cons_succ, List.getElem?_cons_zero, List.getElem?_cons_succ, Option.bind_some, q, if_true]
  have ha := any_false x.2
  unfold d_four_sums
  rw [e_mkDf]
  unfold c_four_sums
  simp only [e_cSeq, e_cSet, e_cCall, e_agC, e_agN, e_c1, e_c2, e_cC, e_cV, List.replicate, List.cons_append, List.nil_append, List.getElem?_cons_zero, List.getElem?_cons_succ, Option.bind_some, h0, h1, e_sub, argS, Option.map_some, nodupB, oIx, List.length_cons, List.length_nil, Bool.true_and, decide_true, if_true, hs1, hs2, backS, List.set_cons_zero, List.set_cons_succ, e_cIfS, e_cTr, e_cLc, e_iSeq, wipR, hc, ha, truB, Bool.false_eq_true, if_false, e_cNx, e_cRet, q1, restR]
  simp [retA, sl_four_sums]
end K09
namespace K09
open PySem PySem.Spec PyProof.Rows L2 Ov
theorem ne_sums (p : List Int → Int) (x : Four) : neD (sumsD p x) (sumsD p x) = some (.bl false) := by
  have h : neD (sumsD p x) (sumsD p x) = some (.bl (!((s1 p x == s1 p x) && ((s2 p x == s2 p x) && ((s3 p x == s3 p x) && true))))) := by kernel_rfl
  rw [h]
  simp
theorem ne_bool (b : Bool) : neD (.bl b) (.bl b) = some (.bl false) := by
  cases b <;> kernel_rfl
/-- what is asked of each four of the row -/
structure FourAll (w d : Nat) (x : Four) : Prop where
  ok : FourOk w d x
  s1 : d_sized_lot [.fr (Ov.tI x.1), .fr (.int w), .fr (.int ((d : Int) - 2))] = some (.rt (Ov.tI x.1), [.no, .no, .no])
  s2 : d_sized_lot [.fr (Ov.tI x.2), .fr (.int w), .fr (.int 4)] = some (.rt (Ov.tI x.2), [.no, .no, .no])
  dis : ∀ t ∈ x.2, x.1.contains t = false
def bodyH : Es := (cSeq (cSet 8 (cCall 3 d_four_sums (gCons (cV 0) (gCons (c2 ixD (cV 7) (cC (.int 0))) (gCons (c2 ixD (cV 7) (cC (.int 1))) gNil)))))
  (cSeq (cIfS (cOr (cT (c2 neD (cV 8) (cCall 3 d__law_sums (gCons (cV 1) (gCons (c2 ixD (cV 7) (cC (.int 0))) (gCons (c2 ixD (cV 7) (cC (.int 1))) gNil)))))) (cT (c2 neD (cCall 1 d_is_twice (gCons (cV 8) gNil)) (cCall 1 d__law_twice (gCons (cV 8) gNil))))) (cRet (cC .non)) cNx)
  (cIfS (cNot (cTr (cCall 1 d_is_twice (gCons (cV 8) gNil)))) (cSet 6 (c2 addD (cV 6) (cC (.int 1)))) cNx)))
theorem ix0 (x : Four) : ixD (pr x) (.int 0) = some (Ov.tI x.1) := by kernel_rfl
theorem ix1 (x : Four) : ixD (pr x) (.int 1) = some (Ov.tI x.2) := by kernel_rfl
def envH (w d : Nat) (p : List Int → Int) (z due : D) (a : Int × Sl × Sl) : List Sl := [.fr (tblD w d p), .fr (bookD w d p), .fr (.int w), .fr (.int d), .fr z, .fr due, .fr (.int a.1), a.2.1, a.2.2]
def stepH (p : List Int → Int) (a : Int × Sl × Sl) (x : Four) : Int × Sl × Sl := (if tw p x = true then a.1 else a.1 + 1, .fr (pr x), .fr (sumsD p x))
theorem p_bodyH {w d : Nat} {p : List Int → Int} {z due : D} (a : Int × Sl × Sl) (x : Four) (h : FourAll w d x) : (gN 7 (pr x) (envH w d p z due a)).bind bodyH = some (.nx, envH w d p z due (stepH p a x)) := by
  have q1 := p_four_sums (p := p) h.ok h.s1 h.s2 h.dis
  have q2 := h.ok.lsums p
  have q3 : d_is_twice [.fr (sumsD p x)] = some (.rt (.bl (tw p x)), [.no]) := p_is_twice _ _ _
  have q4 : d__law_twice [.fr (sumsD p x)] = some (.rt (.bl (tw p x)), [.no]) := p_law_twice _ _ _
  have q5 := ne_sums p x
  have q6 := ne_bool (tw p x)
  have i0 := ix0 x
  have i1 := ix1 x
  obtain ⟨n, u, v⟩ := a
  cases ht : tw p x
  · rw [ht] at q3 q4 q6
    simp [envH, stepH, bodyH, e_gN, e_cSeq, e_cSet, e_cCall, e_agC, e_agN, e_c2, e_cV, e_cC, i0, i1, argS, nodupB, oIx, q1, backS, e_cIfS, e_cOr, e_cT, q2, q5, e_toB, q3, q4, q6, e_cNx, e_cNot, e_cTr, truB, e_add, ht]
  · rw [ht] at q3 q4 q6
    simp [envH, stepH, bodyH, e_gN, e_cSeq, e_cSet, e_cCall, e_agC, e_agN, e_c2, e_cV, e_cC, i0, i1, argS, nodupB, oIx, q1, backS, e_cIfS, e_cOr, e_cT, q2, q5, e_toB, q3, q4, q6, e_cNx, e_cNot, e_cTr, truB, e_add, ht]
end K09
namespace K09
open PySem PySem.Spec PyProof.Rows L2 Ov
theorem stepH_fold (p : List Int → Int) : ∀ (F : List Four) (a : Int × Sl × Sl), (F.foldl (stepH p) a).1 = a.1 + ((F.filter fun x => !tw p x).length : Int)
  | [], a => by simp
  | x :: F, a => by
    rw [List.foldl_cons, stepH_fold p F]
    cases h : tw p x
    · simp [stepH, h]
      omega
    · simp [stepH, h]
theorem flat_filter {c : Four → Bool} : ∀ F : List Four, (F.flatMap fun x => if c x = true then [pr x] else []) = (F.filter c).map pr
  | [] => rfl
  | x :: F => by
    rw [List.flatMap_cons, flat_filter F]
    cases h : c x <;> simp [h]
theorem p_held {w d : Nat} {p : List Int → Int} {F Fz : List Four} (z : Int) (hz : 0 ≤ z ∧ z < w) (hF : d_four_list [.fr (tblD w d p)] = some (.rt (.lst (F.map pr)), [.no])) (hFz : Fz = F.filter fun x => x.2.contains z)
    (hl : d__law_fours_with [.fr (.int w), .fr (.int d), .fr (.int z)] = some (.rt (.lst (Fz.map pr)), [.no, .no, .no])) (hA : ∀ x ∈ F, FourAll w d x) (hne : neD (.tup (Fz.map pr)) (.tup (Fz.map pr)) = some (.bl false)) :
    d__law_held [.fr (tblD w d p), .fr (bookD w d p), .fr (.int w), .fr (.int d), .fr (.int z)] = some (.rt (.int ((Fz.filter fun x => !tw p x).length : Int)), [.no, .no, .no, .no, .no]) := by
  have q1 := p_through (p := p) z hz hF
  rw [flat_filter (c := fun x => x.2.contains z), ← hFz] at q1
  have hfor := forL_fold (g := gN 7) (b := bodyH) (f := pr) (env := envH w d p (.int z) (.lst (Fz.map pr))) (step := stepH p) (xs := Fz) (a := (0, .no, .no)) fun a x hx => p_bodyH a x (hA x (by rw [hFz] at hx; exact (List.mem_filter.mp hx).1))
  have hs := stepH_fold p Fz (0, .no, .no)
  have ht : tupleD (.lst (Fz.map pr)) = some (.tup (Fz.map pr)) := rfl
  have hfor' : forL (gN 7) bodyH (Fz.map pr) [.fr (tblD w d p), .fr (bookD w d p), .fr (.int w), .fr (.int d), .fr (.int z), .fr (.lst (Fz.map pr)), .fr (.int 0), .no, .no] = some (.nx, envH w d p (.int z) (.lst (Fz.map pr)) (Fz.foldl (stepH p) (0, .no, .no))) := hfor
  unfold d__law_held
  rw [e_mkDf]
  show ((cSeq _ (cSeq _ (cSeq _ (cSeq (cFor (iSeq (cV 5)) (gN 7) bodyH) (cRet (cV 6))))) _).bind _) = _
  simp only [e_cSeq, e_cSet, e_cCall, e_agC, e_agN, e_c1, e_c2, e_cC, e_cV, List.replicate, List.cons_append, List.nil_append, List.getElem?_cons_zero, List.getElem?_cons_succ, Option.bind_some, argS, Option.map_some, nodupB, oIx, List.length_cons, List.length_nil, Bool.true_and, decide_true, if_true, hl, q1, backS, List.set_cons_zero, List.set_cons_succ, ht, hne, e_cIfS, e_cT, e_toB, Bool.false_eq_true, if_false, e_cNx, e_cFor, e_iSeq, hfor', e_cRet, envH, hs]
  simp [retA, sl__law_held]
end K09
namespace K09
open PySem PySem.Spec PyProof.Rows L2 Ov
def subs : List Int → Nat → List (List Int)
  | _, 0 => [[]]
  | [], _ + 1 => []
  | x :: xs, k + 1 => ((subs xs k).map fun l => x :: l) ++ subs xs (k + 1)
def foursF (w d : Nat) : List Four := (L w (d - 2)).flatMap fun low => (subs ((rgI 0 w).filter fun e => !low.contains e) 4).map fun four => (low, four)
def checkF (w d : Nat) (x : Four) : Bool := (match x.2 with
  | [a, b, c, e] => decide (key x.1 a b ∈ L w d) && (decide (key x.1 c e ∈ L w d) && (decide (key x.1 a c ∈ L w d) && (decide (key x.1 b e ∈ L w d) && (decide (key x.1 a e ∈ L w d) && decide (key x.1 b c ∈ L w d)))))
  | _ => false) && (decide (x.1.length ≤ 1000) && x.2.all fun t => !x.1.contains t)
/-- closed: the fours of all tables of w things, size d -/
structure ClF (w d : Nat) : Prop where
  fours : ∀ p, d_four_list [.fr (tblD w d p)] = some (.rt (.lst ((foursF w d).map pr)), [.no])
  check : (foursF w d).all (checkF w d) = true
  s1 : (foursF w d).map (fun x => d_sized_lot [.fr (Ov.tI x.1), .fr (.int w), .fr (.int ((d : Int) - 2))]) = (foursF w d).map fun x => some (.rt (Ov.tI x.1), [.no, .no, .no])
  s2 : (foursF w d).map (fun x => d_sized_lot [.fr (Ov.tI x.2), .fr (.int w), .fr (.int 4)]) = (foursF w d).map fun x => some (.rt (Ov.tI x.2), [.no, .no, .no])
theorem map_at {α β : Type} {f g : α → β} : ∀ {l : List α}, l.map f = l.map g → ∀ x ∈ l, f x = g x
  | y :: l, h, x, hx => by
    rw [List.map_cons, List.map_cons] at h
    injection h with h1 h2
    rcases List.mem_cons.mp hx with z | z
    · rw [z]
      exact h1
    · exact map_at h2 x z
theorem ClF.all {w d : Nat} (h : ClF w d) : ∀ x ∈ foursF w d, FourAll w d x := fun x hx => by
  have c := List.all_eq_true.mp h.check x hx
  unfold checkF at c
  rw [Bool.and_eq_true] at c
  obtain ⟨c1, c2⟩ := c
  rw [Bool.and_eq_true] at c2
  obtain ⟨c2, c3⟩ := c2
  refine ⟨⟨?_, of_decide_eq_true c2⟩, map_at h.s1 x hx, map_at h.s2 x hx, fun t ht => ?_⟩
  · split at c1
    · rename_i a b c e hx2
      simp only [Bool.and_eq_true, decide_eq_true_eq] at c1
      exact ⟨a, b, c, e, hx2, c1.1, c1.2.1, c1.2.2.1, c1.2.2.2.1, c1.2.2.2.2.1, c1.2.2.2.2.2⟩
    · cases c1
  · have := List.all_eq_true.mp c3 t ht
    simpa using this
theorem clf_4_2 : ClF 4 2 := ⟨fun p => by kernel_rfl, by kernel_rfl, by kernel_rfl, by kernel_rfl⟩
theorem clf_5_2 : ClF 5 2 := ⟨fun p => by kernel_rfl, by kernel_rfl, by kernel_rfl, by kernel_rfl⟩
theorem clf_5_3 : ClF 5 3 := ⟨fun p => by kernel_rfl, by kernel_rfl, by kernel_rfl, by kernel_rfl⟩
theorem clf_6_2 : ClF 6 2 := ⟨fun p => by kernel_rfl, by kernel_rfl, by kernel_rfl, by kernel_rfl⟩
theorem clf_6_3 : ClF 6 3 := ⟨fun p => by kernel_rfl, by kernel_rfl, by kernel_rfl, by kernel_rfl⟩
theorem clf_6_4 : ClF 6 4 := ⟨fun p => by kernel_rfl, by kernel_rfl, by kernel_rfl, by kernel_rfl⟩
theorem clf_7_2 : ClF 7 2 := ⟨fun p => by kernel_rfl, by kernel_rfl, by kernel_rfl, by kernel_rfl⟩
theorem clf_7_3 : ClF 7 3 := ⟨fun p => by kernel_rfl, by kernel_rfl, by kernel_rfl, by kernel_rfl⟩
theorem clf_7_4 : ClF 7 4 := ⟨fun p => by kernel_rfl, by kernel_rfl, by kernel_rfl, by kernel_rfl⟩
theorem clf_7_5 : ClF 7 5 := ⟨fun p => by kernel_rfl, by kernel_rfl, by kernel_rfl, by kernel_rfl⟩
end K09
namespace K09
open PySem PySem.Spec PyProof.Rows L2 Ov
theorem rgL_int (n : Nat) : rgL 0 n = (rgI 0 n).map D.int := by
  unfold rgL rgI
  rw [List.map_map]
  rfl
theorem k_nin2 (z : Int) (xs : List Int) : ninD (.int z) (Ov.tI xs) = some (.bl (!xs.contains z)) := by
  have e : inD0 (.int z) (Ov.tI xs) = (flat (.int z)).bind fun v => (flats (xs.map D.int)).bind fun vs => some (inV v vs) := rfl
  unfold ninD
  rw [e, flats_ints]
  show (some (inV (.int z) (xs.map V.int))).map _ = _
  rw [inV_ints]
  rfl
theorem flat_int {c : Int → Bool} : ∀ xs : List Int, (xs.flatMap fun e => if c e = true then [D.int e] else []) = (xs.filter c).map D.int
  | [] => rfl
  | x :: xs => by
    rw [List.flatMap_cons, flat_int xs]
    cases h : c x <;> simp [h]
def poolF (w : Nat) (low : List Int) : List Int := (rgI 0 w).filter fun e => !low.contains e
/-- pool = [e for e in range(wide) if e not in low] -/
theorem p_pool (w : Nat) (low : List Int) (hw : w ≤ 1000) (Q1 Q2 Q3 Q4 Q5 Q6 : Sl) :
    cSet 5 (cLc [8] (iRg1 (cV 0)) (gN 8) (cT (c2 ninD (cV 8) (cV 4))) (cV 8)) [.fr (.int w), Q1, Q2, Q3, .fr (Ov.tI low), Q4, Q5, Q6, .no, .no] = some (.nx, [.fr (.int w), Q1, Q2, Q3, .fr (Ov.tI low), .fr (.lst ((poolF w low).map D.int)), Q5, Q6, .no, .no]) := by
  have hg : decide (-4611686018427387904 ≤ (w : Int) ∧ (w : Int) ≤ 16777216) = true := decide_eq_true (by omega)
  have h := lcG_pure (vs := [8]) (g := gN 8) (st := stE (cT (c2 ninD (cV 8) (cV 4))) (cV 8)) (f := D.int) (o := fun e => if (!low.contains e) = true then [D.int e] else []) (ρ := [.fr (.int w), Q1, Q2, Q3, .fr (Ov.tI low), Q4, Q5, Q6, .no, .no]) (xs := rgI 0 w) fun t ht => by
    have q := k_nin2 t low
    refine ⟨[.fr (.int w), Q1, Q2, Q3, .fr (Ov.tI low), Q4, Q5, Q6, .fr (.int t), .no], ?_, rfl⟩
    cases hc : low.contains t
    · rw [hc] at q
      simp only [e_gN, e_stE, e_cT, e_c2, e_cV, List.set_cons_zero, List.set_cons_succ, List.getElem?_cons_zero, List.getElem?_cons_succ, Option.bind_some, q, e_toB, Bool.not_false, if_true]
    · rw [hc] at q
      simp only [e_gN, e_stE, e_cT, e_c2, e_cV, List.set_cons_zero, List.set_cons_succ, List.getElem?_cons_zero, List.getElem?_cons_succ, Option.bind_some, q, e_toB, Bool.not_true, Bool.false_eq_true, if_false]
  rw [flat_int (c := fun e => !low.contains e)] at h
  simp only [e_cSet, e_cLc, e_iRg1, e_cV, List.getElem?_cons_zero, Option.bind_some, e_toI, hg, if_true, rgL_int, wipR, List.set_cons_zero, List.set_cons_succ, h, restR, List.getElem?_cons_succ]
  rfl
end K09
namespace K09
open PySem PySem.Spec PyProof.Rows L2 Ov
theorem k_ixL {P : List Int} {k : Int} (h0 : 0 ≤ k) (h1 : k.toNat < P.length) : ixD (.lst (P.map D.int)) (.int k) = some (.int (P.getD k.toNat 0)) := by
  show atI (P.map D.int) k = _
  unfold atI
  have e : ixN P.length k = some k.toNat := by
    unfold ixN
    rw [if_pos h0]
    simp
    omega
  rw [List.length_map, e]
  show (P.map D.int)[k.toNat]? = _
  rw [List.getElem?_map, List.getElem?_eq_getElem h1, List.getD_eq_getElem?_getD, List.getElem?_eq_getElem h1]
  rfl
theorem flat_one {f : Int → Int} : ∀ xs : List Int, (xs.flatMap fun e => [D.int (f e)]) = (xs.map f).map D.int
  | [] => rfl
  | x :: xs => by
    rw [List.flatMap_cons, flat_one xs]
    rfl
theorem p_fourAt (P ks : List Int) (hk : ∀ k ∈ ks, 0 ≤ k ∧ k.toNat < P.length) (R0 R1 R2 R3 R4 Q : Sl) :
    cSet 7 (c1 tupleD (cLc [9] (iSeq (cV 6)) (gN 9) cYes (c2 ixD (cV 5) (cV 9)))) [R0, R1, R2, R3, R4, .fr (.lst (P.map D.int)), .fr (Ov.tI ks), Q, .no, .no] = some (.nx, [R0, R1, R2, R3, R4, .fr (.lst (P.map D.int)), .fr (Ov.tI ks), .fr (Ov.tI (ks.map fun k => P.getD k.toNat 0)), .no, .no]) := by
  have h := lcG_pure (vs := [9]) (g := gN 9) (st := stE cYes (c2 ixD (cV 5) (cV 9))) (f := D.int) (o := fun k => [D.int (P.getD k.toNat 0)]) (ρ := [R0, R1, R2, R3, R4, .fr (.lst (P.map D.int)), .fr (Ov.tI ks), Q, .no, .no]) (xs := ks) fun k hk' => by
    have q := k_ixL (hk k hk').1 (hk k hk').2
    refine ⟨[R0, R1, R2, R3, R4, .fr (.lst (P.map D.int)), .fr (Ov.tI ks), Q, .no, .fr (.int k)], ?_, rfl⟩
    simp only [e_gN, e_stE, e_cYes, e_c2, e_cV, List.set_cons_zero, List.set_cons_succ, List.getElem?_cons_zero, List.getElem?_cons_succ, Option.bind_some, q, if_true]
  rw [flat_one (f := fun k => P.getD k.toNat 0)] at h
  simp only [e_cSet, e_c1, e_cLc, e_iSeq, e_cV, List.getElem?_cons_zero, List.getElem?_cons_succ, Option.bind_some, wipR, List.set_cons_zero, List.set_cons_succ, h, restR, tupleD]
end K09
namespace K09
open PySem PySem.Spec PyProof.Rows L2 Ov
def bodyI : Es := (cSeq (cSet 7 (c1 tupleD (cLc [9] (iSeq (cV 6)) (gN 9) cYes (c2 ixD (cV 5) (cV 9)))))
  (cIfS (cT (c2 inD (cV 2) (cV 7))) (cApp 3 (cTup (aCons (cV 4) (aCons (cV 7) aNil)))) cNx))
def fourOf (P ks : List Int) : List Int := ks.map fun k => P.getD k.toNat 0
def envI (w d z : Int) (low P : List Int) (acc : List Four) (s6 s7 : Sl) : List Sl := [.fr (.int w), .fr (.int d), .fr (.int z), .ow (.lst (acc.map pr)), .fr (Ov.tI low), .fr (.lst (P.map D.int)), s6, s7, .no, .no]
theorem p_bodyI (w d z : Int) (low P ks : List Int) (acc : List Four) (s6 s7 : Sl) (hk : ∀ k ∈ ks, 0 ≤ k ∧ k.toNat < P.length) (hl : acc.length < 16777216) :
    (gN 6 (Ov.tI ks) (envI w d z low P acc s6 s7)).bind bodyI = some (.nx, envI w d z low P (if (fourOf P ks).contains z = true then acc ++ [(low, fourOf P ks)] else acc) (.fr (Ov.tI ks)) (.fr (Ov.tI (fourOf P ks)))) := by
  have q1 := p_fourAt P ks hk (.fr (.int w)) (.fr (.int d)) (.fr (.int z)) (.ow (.lst (acc.map pr))) (.fr (Ov.tI low)) s7
  have q2 := k_in z (fourOf P ks)
  have e : gN 6 (Ov.tI ks) (envI w d z low P acc s6 s7) = some [.fr (.int w), .fr (.int d), .fr (.int z), .ow (.lst (acc.map pr)), .fr (Ov.tI low), .fr (.lst (P.map D.int)), .fr (Ov.tI ks), s7, .no, .no] := rfl
  rw [e]
  show bodyI _ = _
  unfold bodyI
  rw [e_cSeq, q1]
  have hl' : (acc.map pr).length < 16777216 := by rw [List.length_map]; exact hl
  have q2' : inD (.int z) (Ov.tI (ks.map fun k => P.getD k.toNat 0)) = some (.bl ((fourOf P ks).contains z)) := q2
  cases hc : (fourOf P ks).contains z
  · rw [hc] at q2'
    simp only [Option.bind_some, e_cIfS, e_cT, e_c2, e_cV, List.getElem?_cons_zero, List.getElem?_cons_succ, q2', e_toB, Bool.false_eq_true, if_false, e_cNx]
    rfl
  · rw [hc] at q2'
    simp only [Option.bind_some, e_cIfS, e_cT, e_c2, e_cV, List.getElem?_cons_zero, List.getElem?_cons_succ, q2', e_toB, if_true, e_cApp, ownLst, e_cTup, e_aCons, e_aNil, List.length_cons, List.length_nil, hl', List.set_cons_zero, List.set_cons_succ]
    simp [envI, pr, fourOf, hl]
theorem p_inner (w d z : Int) (low P : List Int) : ∀ (ats : List (List Int)) (acc : List Four) (s6 s7 : Sl), (∀ ks ∈ ats, ∀ k ∈ ks, 0 ≤ k ∧ k.toNat < P.length) → acc.length + ats.length ≤ 1000000 →
    ∃ s6' s7', forL (gN 6) bodyI (ats.map fun l => Ov.tI l) (envI w d z low P acc s6 s7) = some (.nx, envI w d z low P (acc ++ ((ats.map fun ks => (low, fourOf P ks)).filter fun x => x.2.contains z)) s6' s7')
  | [], acc, s6, s7, _, _ => ⟨s6, s7, by rw [List.map_nil, e_forN]; simp⟩
  | ks :: ats, acc, s6, s7, h, hl => by
    rw [List.length_cons] at hl
    have q := p_bodyI w d z low P ks acc s6 s7 (h ks List.mem_cons_self) (by omega)
    obtain ⟨s6', s7', r⟩ := p_inner w d z low P ats (if (fourOf P ks).contains z = true then acc ++ [(low, fourOf P ks)] else acc) (.fr (Ov.tI ks)) (.fr (Ov.tI (fourOf P ks))) (fun l hl' => h l (List.mem_cons_of_mem _ hl')) (by
      split
      · simp
        omega
      · omega)
    refine ⟨s6', s7', ?_⟩
    rw [List.map_cons, e_forB, q]
    show forL _ _ _ _ = _
    rw [r, List.map_cons, List.filter_cons]
    cases hc : (fourOf P ks).contains z
    · simp [hc]
    · simp [hc]
end K09
namespace K09
open PySem PySem.Spec PyProof.Rows L2 Ov
def bodyO : Es := (cSeq (cSet 5 (cLc [8] (iRg1 (cV 0)) (gN 8) (cT (c2 ninD (cV 8) (cV 4))) (cV 8)))
  (cFor (iSeq (cCall 2 d__law_lots (gCons (c1 lenD (cV 5)) (gCons (cC (.int 4)) gNil)))) (gN 6) bodyI))
/-- the fours over low, as the law makes them; A: the places -/
def overF (w : Nat) (A : List Int → List (List Int)) (low : List Int) : List Four := (A low).map fun ks => (low, fourOf (poolF w low) ks)
def envO (w : Nat) (d z : Int) (acc : List Four) (t : Sl × Sl × Sl × Sl) : List Sl := [.fr (.int w), .fr (.int d), .fr (.int z), .ow (.lst (acc.map pr)), t.1, t.2.1, t.2.2.1, t.2.2.2, .no, .no]
/-- the pool's places are closed -/
structure OverOk (w : Nat) (A : List Int → List (List Int)) (low : List Int) : Prop where
  lots : d__law_lots [.fr (.int ((poolF w low).length : Nat)), .fr (.int 4)] = some (.rt (.lst ((A low).map fun l => Ov.tI l)), [.no, .no])
  at_ : ∀ ks ∈ A low, ∀ k ∈ ks, 0 ≤ k ∧ k.toNat < (poolF w low).length
theorem p_bodyO (w : Nat) (hw : w ≤ 1000) (d z : Int) (A : List Int → List (List Int)) (low : List Int) (acc : List Four) (t : Sl × Sl × Sl × Sl) (h : OverOk w A low) (hl : acc.length + (A low).length ≤ 1000000) :
    ∃ t', (gN 4 (Ov.tI low) (envO w d z acc t)).bind bodyO = some (.nx, envO w d z (acc ++ (overF w A low).filter fun x => x.2.contains z) t') := by
  have q1 := p_pool w low hw (.fr (.int d)) (.fr (.int z)) (.ow (.lst (acc.map pr))) t.2.1 t.2.2.1 t.2.2.2
  obtain ⟨s6, s7, q2⟩ := p_inner w d z low (poolF w low) (A low) acc t.2.2.1 t.2.2.2 h.at_ hl
  have h1 := h.lots
  refine ⟨(.fr (Ov.tI low), .fr (.lst ((poolF w low).map D.int)), s6, s7), ?_⟩
  have e : gN 4 (Ov.tI low) (envO w d z acc t) = some [.fr (.int w), .fr (.int d), .fr (.int z), .ow (.lst (acc.map pr)), .fr (Ov.tI low), t.2.1, t.2.2.1, t.2.2.2, .no, .no] := rfl
  have hlen := k_len (poolF w low)
  rw [e, Option.bind_some]
  unfold bodyO
  rw [e_cSeq, q1, Option.bind_some]
  have it : iSeq (cCall 2 d__law_lots (gCons (c1 lenD (cV 5)) (gCons (cC (.int 4)) gNil))) [.fr (.int w), .fr (.int d), .fr (.int z), .ow (.lst (acc.map pr)), .fr (Ov.tI low), .fr (.lst ((poolF w low).map D.int)), t.2.2.1, t.2.2.2, .no, .no] =
      some ((A low).map fun l => Ov.tI l, [.fr (.int w), .fr (.int d), .fr (.int z), .ow (.lst (acc.map pr)), .fr (Ov.tI low), .fr (.lst ((poolF w low).map D.int)), t.2.2.1, t.2.2.2, .no, .no]) := by
    generalize poolF w low = P at *
    simp -implicitDefEqProofs only [e_iSeq, e_cCall, e_agC, e_agN, e_c1, e_cC, e_cV, List.getElem?_cons_zero, List.getElem?_cons_succ, hlen, argS, Option.map_some, Option.bind_some, nodupB, oIx, List.length_cons, List.length_nil, Bool.true_and, decide_true, if_true, h1, backS]
  have q3 : forL (gN 6) bodyI (List.map (fun l => Ov.tI l) (A low)) [.fr (.int w), .fr (.int d), .fr (.int z), .ow (.lst (acc.map pr)), .fr (Ov.tI low), .fr (.lst ((poolF w low).map D.int)), t.2.2.1, t.2.2.2, .no, .no] = _ := q2
  rw [e_cFor, it, Option.bind_some, q3]
  rfl
theorem p_outer (w : Nat) (hw : w ≤ 1000) (d z : Int) (A : List Int → List (List Int)) (c : Nat) (B : Nat) (hB : B ≤ 1000000) : ∀ (lows : List (List Int)) (acc : List Four) (t : Sl × Sl × Sl × Sl),
    (∀ low ∈ lows, OverOk w A low ∧ (A low).length ≤ c) → acc.length + lows.length * c ≤ B →
    ∃ t', forL (gN 4) bodyO (lows.map fun l => Ov.tI l) (envO w d z acc t) = some (.nx, envO w d z (acc ++ lows.flatMap fun low => (overF w A low).filter fun x => x.2.contains z) t')
  | [], acc, t, _, _ => ⟨t, by rw [List.map_nil, e_forN]; simp⟩
  | low :: lows, acc, t, h, hl => by
    rw [List.length_cons, Nat.succ_mul] at hl
    obtain ⟨h1, h2⟩ := h low List.mem_cons_self
    obtain ⟨t1, step⟩ := p_bodyO w hw d z A low acc t h1 (by omega)
    obtain ⟨t', r⟩ := p_outer w hw d z A c B hB lows (acc ++ (overF w A low).filter fun x => x.2.contains z) t1 (fun l hl' => h l (List.mem_cons_of_mem _ hl')) (by
      have := List.length_filter_le (fun x : Four => x.2.contains z) (overF w A low)
      unfold overF at this ⊢
      rw [List.length_map] at this
      rw [List.length_append]
      omega)
    refine ⟨t', ?_⟩
    rw [List.map_cons, e_forB, step]
    show forL _ _ _ _ = _
    rw [r, List.flatMap_cons, List.append_assoc]
end K09
namespace K09
open PySem PySem.Spec PyProof.Rows L2 Ov
theorem k_l4 : d__law_lots [.fr (.int 4), .fr (.int 4)] = some (.rt (.lst ((subs (rgI 0 4) 4).map fun l => Ov.tI l)), [.no, .no]) := by kernel_rfl
theorem k_l5 : d__law_lots [.fr (.int 5), .fr (.int 4)] = some (.rt (.lst ((subs (rgI 0 5) 4).map fun l => Ov.tI l)), [.no, .no]) := by kernel_rfl
theorem k_l6 : d__law_lots [.fr (.int 6), .fr (.int 4)] = some (.rt (.lst ((subs (rgI 0 6) 4).map fun l => Ov.tI l)), [.no, .no]) := by kernel_rfl
theorem k_l7 : d__law_lots [.fr (.int 7), .fr (.int 4)] = some (.rt (.lst ((subs (rgI 0 7) 4).map fun l => Ov.tI l)), [.no, .no]) := by kernel_rfl
def placesF (n : Nat) : List (List Int) := subs (rgI 0 n) 4
theorem k_lN {n : Nat} (h : n = 4 ∨ n = 5 ∨ n = 6 ∨ n = 7) : d__law_lots [.fr (.int (n : Nat)), .fr (.int 4)] = some (.rt (.lst ((placesF n).map fun l => Ov.tI l)), [.no, .no]) ∧ (∀ ks ∈ placesF n, ∀ k ∈ ks, 0 ≤ k ∧ k.toNat < n) ∧ (placesF n).length ≤ 35 := by
  rcases h with rfl | rfl | rfl | rfl
  · exact ⟨k_l4, by decide +kernel, by decide +kernel⟩
  · exact ⟨k_l5, by decide +kernel, by decide +kernel⟩
  · exact ⟨k_l6, by decide +kernel, by decide +kernel⟩
  · exact ⟨k_l7, by decide +kernel, by decide +kernel⟩
/-- closed: the law's fours of w things, size d -/
structure ClW (w d : Nat) : Prop where
  lots : d__law_lots [.fr (.int w), .fr (.int ((d : Int) - 2))] = some (.rt (.lst ((L w (d - 2)).map fun l => Ov.tI l)), [.no, .no])
  pool : (L w (d - 2)).all (fun low => decide ((poolF w low).length = w - d + 2)) = true
  same : (L w (d - 2)).flatMap (overF w fun low => placesF (poolF w low).length) = foursF w d
  cnt : (L w (d - 2)).length ≤ 100
  n47 : w - d + 2 = 4 ∨ w - d + 2 = 5 ∨ w - d + 2 = 6 ∨ w - d + 2 = 7
  w7 : w ≤ 7
theorem p_fours_with {w d : Nat} (h : ClW w d) (z : Int) : d__law_fours_with [.fr (.int w), .fr (.int d), .fr (.int z)] = some (.rt (.lst (((foursF w d).filter fun x => x.2.contains z).map pr)), [.no, .no, .no]) := by
  have hp : ∀ low ∈ L w (d - 2), (poolF w low).length = w - d + 2 := fun low hl => of_decide_eq_true (List.all_eq_true.mp h.pool low hl)
  have ho : ∀ low ∈ L w (d - 2), OverOk w (fun low => placesF (poolF w low).length) low ∧ (placesF (poolF w low).length).length ≤ 35 := fun low hl => by
    have e := hp low hl
    obtain ⟨k1, k2, k3⟩ := k_lN (n := (poolF w low).length) (by rw [e]; exact h.n47)
    exact ⟨⟨k1, k2⟩, k3⟩
  obtain ⟨t', r⟩ := p_outer w (by have := h.w7; omega) d z (fun low => placesF (poolF w low).length) 35 3500 (by omega) (L w (d - 2)) [] (.no, .no, .no, .no) ho (by
    have := Nat.mul_le_mul_right 35 h.cnt
    rw [List.length_nil, Nat.zero_add]
    exact this)
  rw [List.nil_append, ← List.filter_flatMap, h.same] at r
  have r' : forL (gN 4) bodyO ((L w (d - 2)).map fun l => Ov.tI l) [.fr (.int w), .fr (.int d), .fr (.int z), .ow (.lst []), .no, .no, .no, .no, .no, .no] = some (.nx, envO w d z ((foursF w d).filter fun x => x.2.contains z) t') := r
  have hl := h.lots
  have it : iSeq (cCall 2 d__law_lots (gCons (cV 0) (gCons (c2 subD (cV 1) (cC (.int 2))) gNil))) [.fr (.int w), .fr (.int d), .fr (.int z), .ow (.lst []), .no, .no, .no, .no, .no, .no] =
      some ((L w (d - 2)).map fun l => Ov.tI l, [.fr (.int w), .fr (.int d), .fr (.int z), .ow (.lst []), .no, .no, .no, .no, .no, .no]) := by
    simp -implicitDefEqProofs only [e_iSeq, e_cCall, e_agC, e_agN, e_c1, e_c2, e_cC, e_cV, e_sub, List.getElem?_cons_zero, List.getElem?_cons_succ, argS, Option.map_some, Option.bind_some, nodupB, oIx, List.length_cons, List.length_nil, Bool.true_and, decide_true, if_true, hl, backS]
  unfold d__law_fours_with
  rw [e_mkDf]
  unfold c__law_fours_with
  show ((cSeq (cSetO 3 (cLst aNil)) (cSeq (cFor _ (gN 4) bodyO) (cRet (cV 3)))) _).bind _ = _
  have e1 : cSetO 3 (cLst aNil) ([.fr (.int w), .fr (.int d), .fr (.int z)] ++ List.replicate 7 .no) = some (.nx, [.fr (.int w), .fr (.int d), .fr (.int z), .ow (.lst []), .no, .no, .no, .no, .no, .no]) := rfl
  rw [e_cSeq, e1, Option.bind_some]
  show ((cSeq (cFor _ (gN 4) bodyO) (cRet (cV 3))) _).bind _ = _
  rw [e_cSeq, e_cFor, it, Option.bind_some, r', Option.bind_some]
  rfl
theorem clw_4_2 : ClW 4 2 := ⟨by kernel_rfl, by kernel_rfl, by kernel_rfl, by decide +kernel, by decide, by decide⟩
theorem clw_5_2 : ClW 5 2 := ⟨by kernel_rfl, by kernel_rfl, by kernel_rfl, by decide +kernel, by decide, by decide⟩
theorem clw_5_3 : ClW 5 3 := ⟨by kernel_rfl, by kernel_rfl, by kernel_rfl, by decide +kernel, by decide, by decide⟩
theorem clw_6_2 : ClW 6 2 := ⟨by kernel_rfl, by kernel_rfl, by kernel_rfl, by decide +kernel, by decide, by decide⟩
theorem clw_6_3 : ClW 6 3 := ⟨by kernel_rfl, by kernel_rfl, by kernel_rfl, by decide +kernel, by decide, by decide⟩
theorem clw_6_4 : ClW 6 4 := ⟨by kernel_rfl, by kernel_rfl, by kernel_rfl, by decide +kernel, by decide, by decide⟩
theorem clw_7_2 : ClW 7 2 := ⟨by kernel_rfl, by kernel_rfl, by kernel_rfl, by decide +kernel, by decide, by decide⟩
theorem clw_7_3 : ClW 7 3 := ⟨by kernel_rfl, by kernel_rfl, by kernel_rfl, by decide +kernel, by decide, by decide⟩
theorem clw_7_4 : ClW 7 4 := ⟨by kernel_rfl, by kernel_rfl, by kernel_rfl, by decide +kernel, by decide, by decide⟩
theorem clw_7_5 : ClW 7 5 := ⟨by kernel_rfl, by kernel_rfl, by kernel_rfl, by decide +kernel, by decide, by decide⟩
end K09
namespace K09
open PySem PySem.Spec PyProof.Rows L2 Ov
theorem k_nin3 (z : Int) (xs : List Int) : ninD (.int z) (Ov.tI xs) = some (.bl (!xs.contains z)) := by
  have e : inD0 (.int z) (Ov.tI xs) = (flat (.int z)).bind fun v => (flats (xs.map D.int)).bind fun vs => some (inV v vs) := rfl
  unfold ninD
  rw [e, flats_ints]
  show (some (inV (.int z) (xs.map V.int))).map _ = _
  rw [inV_ints]
  rfl
theorem flat_intF {c : Int → Bool} : ∀ xs : List Int, (xs.flatMap fun e => if c e = true then [D.int e] else []) = (xs.filter c).map D.int
  | [] => rfl
  | x :: xs => by
    rw [List.flatMap_cons, flat_intF xs]
    cases h : c x <;> simp [h]
theorem ixN_nat {n k : Nat} (h : k < n) : ixN n (k : Int) = some k := by
  unfold ixN
  simp
  omega
theorem ix_tup {α : Type} (f : α → D) (xs : List α) (k : Nat) (x : α) (h : xs[k]? = some x) : ixD (.tup (xs.map f)) (.int (k : Nat)) = some (f x) := by
  show atI (xs.map f) k = _
  obtain ⟨hk, _⟩ := List.getElem?_eq_some_iff.mp h
  unfold atI
  rw [List.length_map, ixN_nat hk]
  show (xs.map f)[k]? = _
  rw [List.getElem?_map, h]
  rfl
theorem ix_lst {α : Type} (f : α → D) (xs : List α) (k : Nat) (x : α) (h : xs[k]? = some x) : ixD (.lst (xs.map f)) (.int (k : Nat)) = some (f x) := by
  show atI (xs.map f) k = _
  obtain ⟨hk, _⟩ := List.getElem?_eq_some_iff.mp h
  unfold atI
  rw [List.length_map, ixN_nat hk]
  show (xs.map f)[k]? = _
  rw [List.getElem?_map, h]
  rfl
theorem rgL_nat (n : Nat) : rgL 0 (n : Int) = (List.range n).map fun i : Nat => D.int (i : Int) := by
  unfold rgL
  simp
theorem enumL_map {α : Type} (f : α → D) : ∀ (xs : List α) (n : Nat), enumL n (xs.map f) = (List.range xs.length).map fun i : Nat => D.tup [.int ((n + i : Nat) : Int), ((xs[i]?).map f).getD .non]
  | [], n => rfl
  | x :: xs, n => by
    rw [List.map_cons, enumL, enumL_map f xs (n + 1), List.length_cons, List.range_succ_eq_map, List.map_cons, List.map_map]
    congr 1
    apply List.map_congr_left
    intro i _
    simp
    omega
theorem maskI_fold : ∀ (l : List Int) (m : Int) , maskI m l = l.foldl (fun m n => Builtin.bitOr m (1 * 2 ^ n.toNat)) m
  | [], m => rfl
  | n :: l, m => by
    rw [maskI, List.foldl_cons, maskI_fold l]
def small (l : List Int) : Prop := ∀ e ∈ l, 0 ≤ e ∧ e ≤ 1000
theorem p_mask (l : List Int) (h : small l) : d_mask_of [.fr (Ov.tI l)] = some (.rt (.int (maskI 0 l)), [.no]) := by
  have hf : ∀ (xs : List Int), small xs → ∀ (a : Int) (s : Sl), ∃ s', forL (gN 2) (cSet 1 (c2 orD (cV 1) (c2 shlD (cC (.int 1)) (cV 2)))) (xs.map D.int) [.fr (Ov.tI l), .fr (.int a), s] = some (.nx, [.fr (Ov.tI l), .fr (.int (maskI a xs)), s']) := by
    intro xs
    induction xs with
    | nil => exact fun _ a s => ⟨s, rfl⟩
    | cons x xs ih =>
      intro hs a s
      have hx := hs x List.mem_cons_self
      have s2 := e_shl (p := 1) (q := x) ⟨hx.1, by omega⟩ (by decide)
      have e : (gN 2 (.int x) [.fr (Ov.tI l), .fr (.int a), s]).bind (cSet 1 (c2 orD (cV 1) (c2 shlD (cC (.int 1)) (cV 2)))) = some (.nx, [.fr (Ov.tI l), .fr (.int (Builtin.bitOr a (1 * 2 ^ x.toNat))), .fr (.int x)]) := by
        simp only [e_gN, e_cSet, e_c2, e_cC, e_cV, List.set_cons_zero, List.set_cons_succ, List.getElem?_cons_zero, List.getElem?_cons_succ, Option.bind_some, s2, e_or]
      obtain ⟨s', r⟩ := ih (fun e he => hs e (List.mem_cons_of_mem _ he)) (Builtin.bitOr a (1 * 2 ^ x.toNat)) (.fr (.int x))
      refine ⟨s', ?_⟩
      rw [List.map_cons, e_forB, e]
      exact r
  obtain ⟨s', r⟩ := hf l h 0 .no
  have r' : forL (gN 2) (cSet 1 (c2 orD (cV 1) (c2 shlD (cC (.int 1)) (cV 2)))) (l.map D.int) [.fr (.tup (l.map D.int)), .fr (.int 0), .no] = some (.nx, [.fr (.tup (l.map D.int)), .fr (.int (maskI 0 l)), s']) := r
  unfold d_mask_of
  rw [e_mkDf]
  unfold c_mask_of
  simp only [Ov.tI, e_cSeq, e_cSet, e_cC, e_cFor, e_iSeq, e_cV, List.replicate, List.cons_append, List.nil_append, List.set_cons_zero, List.set_cons_succ, List.getElem?_cons_zero, List.getElem?_cons_succ, Option.bind_some, r', e_cRet]
  rfl
def minus (a b : List Int) : List Int := a.filter fun e => !b.contains e
/-- [e for e in lot_i if e not in (what j gives)] -/
theorem p_minus (v i : Nat) (cj : Ev) (a b : List Int) (ρ ρw : List Sl) (hw : wipR ρ [v] = ρw) (hi : ρ[i]? = some (.fr (Ov.tI a))) (hv : ∀ e : Int, cV v (ρw.set v (.fr (.int e))) = some (.int e, ρw.set v (.fr (.int e))) ∧ cj (ρw.set v (.fr (.int e))) = some (Ov.tI b, ρw.set v (.fr (.int e))) ∧ wipR (ρw.set v (.fr (.int e))) [v] = ρw) :
    cLc [v] (iSeq (cV i)) (gN v) (cT (c2 ninD (cV v) cj)) (cV v) ρ = some (.lst ((minus a b).map D.int), restR ρ ρw [v]) := by
  have h := lcG_pure (vs := [v]) (g := gN v) (st := stE (cT (c2 ninD (cV v) cj)) (cV v)) (f := D.int) (o := fun e => if (!b.contains e) = true then [D.int e] else []) (ρ := ρw) (xs := a) fun e _ => by
    obtain ⟨h1, h2, h3⟩ := hv e
    have q := k_nin3 e b
    refine ⟨ρw.set v (.fr (.int e)), ?_, h3⟩
    cases hc : b.contains e
    · rw [hc] at q
      simp only [e_gN, e_stE, e_cT, e_c2, h1, h2, Option.bind_some, q, e_toB, Bool.not_false, if_true]
    · rw [hc] at q
      simp only [e_gN, e_stE, e_cT, e_c2, h1, h2, Option.bind_some, q, e_toB, Bool.not_true, Bool.false_eq_true, if_false]
  rw [flat_intF (c := fun e => !b.contains e)] at h
  have e1 : iSeq (cV i) ρ = some (a.map D.int, ρ) := by
    rw [e_iSeq, e_cV, hi]
    rfl
  rw [e_cLc, e1, Option.bind_some, hw, h]
  rfl
end K09
namespace K09
open PySem PySem.Spec PyProof.Rows L2 Ov
abbrev Kvs := List (List Int × Int)
def bsK (kvs : Kvs) : List (List Int) := kvs.map (·.1)
def atOf (kvs : Kvs) : List (Int × Int) := kvs.map fun kv => (maskI 0 kv.1, kv.2)
def tblK (w d : Int) (ws : D) (kvs : Kvs) : List D := [.int w, .int d, ws, .tup ((bsK kvs).map fun l => Ov.tI l), .dT (kvs.map fun kv => (kv.1, .int kv.2)), atD' (atOf kvs)]
def tblKD (w d : Int) (ws : D) (kvs : Kvs) : D := .obj "Table" (tblK w d ws kvs)
structure KOk (kvs : Kvs) : Prop where
  small : ∀ l ∈ bsK kvs, small l
  len : kvs.length ≤ 1000
  llen : ∀ l ∈ bsK kvs, l.length ≤ 100
theorem lk_mem : ∀ {at_ : List (Int × Int)} {m : Int}, m ∈ at_.map (·.1) → ∃ x, lk at_ m = some x
  | kv :: r, m, h => by
    unfold lk
    rw [List.find?_cons]
    by_cases e : kv.1 = m
    · exact ⟨kv.2, by simp [e]⟩
    · simp only [decide_eq_false e]
      rw [List.map_cons, List.mem_cons] at h
      rcases h with h | h
      · exact absurd h.symm e
      · exact lk_mem h
theorem lk_at {kvs : Kvs} {l : List Int} (h : l ∈ bsK kvs) : ∃ x, lk (atOf kvs) (maskI 0 l) = some x := by
  apply lk_mem
  unfold atOf bsK at *
  rw [List.map_map]
  obtain ⟨kv, h1, rfl⟩ := List.mem_map.mp h
  exact List.mem_map.mpr ⟨kv, h1, rfl⟩
def bAt (kvs : Kvs) (k : Nat) : List Int := (bsK kvs).getD k []
theorem bAt_get {kvs : Kvs} {k : Nat} (h : k < kvs.length) : (bsK kvs)[k]? = some (bAt kvs k) ∧ bAt kvs k ∈ bsK kvs := by
  have h' : k < (bsK kvs).length := by unfold bsK; rw [List.length_map]; exact h
  have e : (bsK kvs)[k]? = some (bAt kvs k) := by
    unfold bAt
    rw [List.getD_eq_getElem?_getD, List.getElem?_eq_getElem h']
    rfl
  exact ⟨e, List.mem_of_getElem? e⟩
def meetP (kvs : Kvs) (a b : List Int) : Bool := meetsF (atOf kvs) (maskI 0 a) (maskI 0 b) (minus a b) (minus b a)
def allMeet (kvs : Kvs) : Bool := (List.range kvs.length).all fun k => (List.range k).all fun m => meetP kvs (bAt kvs k) (bAt kvs m)
theorem minus_small {a b : List Int} (h : small a) : small (minus a b) := fun e he => h e (List.mem_filter.mp he).1
theorem minus_len (a b : List Int) : (minus a b).length ≤ a.length := List.length_filter_le _ _
theorem flips_len (a b : List Int) : (flips a b).length = a.length * b.length := by
  unfold flips
  induction a with
  | nil => simp
  | cons x a ih => rw [List.flatMap_cons, List.length_append, ih, List.length_map, List.length_cons, Nat.succ_mul, Nat.add_comm]
theorem flips_ok {a b c d : List Int} (ha : a.length ≤ 100) (hb : b.length ≤ 100) : (flips (minus a c) (minus b d)).length ≤ 16777216 := by
  rw [flips_len]
  have h1 := Nat.le_trans (minus_len a c) ha
  have h2 := Nat.le_trans (minus_len b d) hb
  have := Nat.mul_le_mul h1 h2
  omega
def failB (b : Bool) : Option D := if b = true then none else some (.bl false)
abbrev bodyM : Es := (cSeq (cSet 5 (cLc [7] (iSeq (cV 3)) (gN 7) (cT (c2 ninD (cV 7) (c2 ixD (c1 (atD "Table" 3) (cV 0)) (cV 4)))) (cV 7)))
  (cSeq (cSet 6 (cLc [7] (iSeq (c2 ixD (c1 (atD "Table" 3) (cV 0)) (cV 4))) (gN 7) (cT (c2 ninD (cV 7) (cV 3))) (cV 7)))
  (cIfS (cNot (cTr (cCall 5 d_meets_near (gCons (c1 (atD "Table" 5) (cV 0)) (gCons (c2 ixD (cV 1) (cV 2)) (gCons (c2 ixD (cV 1) (cV 4)) (gCons (cV 5) (gCons (cV 6) gNil)))))))) (cRet (cC (.bl false))) cNx)))
section
variable {w d : Int} {ws : D} {kvs : Kvs}
theorem at3 : atD "Table" 3 (tblKD w d ws kvs) = some (.tup ((bsK kvs).map fun l => Ov.tI l)) := rfl
theorem at5 : atD "Table" 5 (tblKD w d ws kvs) = some (atD' (atOf kvs)) := rfl
def envM (T : D) (kvs : Kvs) (s2 s3 s4 s5 s6 : Sl) : List Sl := [.fr T, .fr (.lst ((bsK kvs).map fun l => D.int (maskI 0 l))), s2, s3, s4, s5, s6, .no]
theorem p_bodyM (h : KOk kvs) (k m : Nat) (hk : k < kvs.length) (hm : m < kvs.length) (s4 s5 s6 : Sl) :
    ∃ s4' s5' s6', (gN 4 (.int (m : Nat)) (envM (tblKD w d ws kvs) kvs (.fr (.int (k : Nat))) (.fr (Ov.tI (bAt kvs k))) s4 s5 s6)).bind bodyM =
      some (flO (failB (meetP kvs (bAt kvs k) (bAt kvs m))), envM (tblKD w d ws kvs) kvs (.fr (.int (k : Nat))) (.fr (Ov.tI (bAt kvs k))) s4' s5' s6') := by
  obtain ⟨gk, mk⟩ := bAt_get hk
  obtain ⟨gm, mm⟩ := bAt_get hm
  have i3 := at3 (w := w) (d := d) (ws := ws) (kvs := kvs)
  have i5 := at5 (w := w) (d := d) (ws := ws) (kvs := kvs)
  have xm := ix_tup (fun l => Ov.tI l) (bsK kvs) m _ gm
  have yk := ix_lst (fun l => D.int (maskI 0 l)) (bsK kvs) k _ gk
  have ym := ix_lst (fun l => D.int (maskI 0 l)) (bsK kvs) m _ gm
  obtain ⟨x, hx⟩ := lk_at mk
  obtain ⟨y, hy⟩ := lk_at mm
  have q := p_meets hx hy (minus_small (b := bAt kvs m) (h.small _ mk)) (minus_small (b := bAt kvs k) (h.small _ mm)) (flips_ok (h.llen _ mk) (h.llen _ mm))
  refine ⟨.fr (.int (m : Nat)), .fr (.lst ((minus (bAt kvs k) (bAt kvs m)).map D.int)), .fr (.lst ((minus (bAt kvs m) (bAt kvs k)).map D.int)), ?_⟩
  have e0 : gN 4 (.int (m : Nat)) (envM (tblKD w d ws kvs) kvs (.fr (.int (k : Nat))) (.fr (Ov.tI (bAt kvs k))) s4 s5 s6) = some [.fr (tblKD w d ws kvs), .fr (.lst ((bsK kvs).map fun l => D.int (maskI 0 l))), .fr (.int (k : Nat)), .fr (Ov.tI (bAt kvs k)), .fr (.int (m : Nat)), s5, s6, .no] := rfl
  rw [e0, Option.bind_some]
  have c1 := p_minus 7 3 (c2 ixD (c1 (atD "Table" 3) (cV 0)) (cV 4)) (bAt kvs k) (bAt kvs m) [.fr (tblKD w d ws kvs), .fr (.lst ((bsK kvs).map fun l => D.int (maskI 0 l))), .fr (.int (k : Nat)), .fr (Ov.tI (bAt kvs k)), .fr (.int (m : Nat)), s5, s6, .no] _ rfl rfl fun e => ⟨rfl, by simp only [e_c2, e_c1, e_cV, wipR, List.set_cons_zero, List.set_cons_succ, List.getElem?_cons_zero, List.getElem?_cons_succ, Option.bind_some, i3, xm], rfl⟩
  have c2' := lcG_pure (vs := [7]) (g := gN 7) (st := stE (cT (c2 ninD (cV 7) (cV 3))) (cV 7)) (f := D.int) (o := fun e => if (!(bAt kvs k).contains e) = true then [D.int e] else []) (ρ := [.fr (tblKD w d ws kvs), .fr (.lst ((bsK kvs).map fun l => D.int (maskI 0 l))), .fr (.int (k : Nat)), .fr (Ov.tI (bAt kvs k)), .fr (.int (m : Nat)), .fr (.lst ((minus (bAt kvs k) (bAt kvs m)).map D.int)), s6, .no]) (xs := bAt kvs m) fun e _ => by
    have q := k_nin3 e (bAt kvs k)
    refine ⟨[.fr (tblKD w d ws kvs), .fr (.lst ((bsK kvs).map fun l => D.int (maskI 0 l))), .fr (.int (k : Nat)), .fr (Ov.tI (bAt kvs k)), .fr (.int (m : Nat)), .fr (.lst ((minus (bAt kvs k) (bAt kvs m)).map D.int)), s6, .fr (.int e)], ?_, rfl⟩
    cases hc : (bAt kvs k).contains e
    · rw [hc] at q
      simp only [e_gN, e_stE, e_cT, e_c2, e_cV, List.set_cons_zero, List.set_cons_succ, List.getElem?_cons_zero, List.getElem?_cons_succ, Option.bind_some, q, e_toB, Bool.not_false, if_true]
    · rw [hc] at q
      simp only [e_gN, e_stE, e_cT, e_c2, e_cV, List.set_cons_zero, List.set_cons_succ, List.getElem?_cons_zero, List.getElem?_cons_succ, Option.bind_some, q, e_toB, Bool.not_true, Bool.false_eq_true, if_false]
  rw [flat_intF (c := fun e => !(bAt kvs k).contains e)] at c2'
  have xm' : ixD (.tup ((bsK kvs).map fun l => Ov.tI l)) (.int (m : Nat)) = some (.tup ((bAt kvs m).map D.int)) := xm
  have c2'' : lcG [7] (gN 7) (stE (cT (c2 ninD (cV 7) (cV 3))) (cV 7)) ((bAt kvs m).map D.int) [.fr (tblKD w d ws kvs), .fr (.lst ((bsK kvs).map fun l => D.int (maskI 0 l))), .fr (.int (k : Nat)), .fr (Ov.tI (bAt kvs k)), .fr (.int (m : Nat)), .fr (.lst ((minus (bAt kvs k) (bAt kvs m)).map D.int)), s6, .no] = some ((minus (bAt kvs m) (bAt kvs k)).map D.int, [.fr (tblKD w d ws kvs), .fr (.lst ((bsK kvs).map fun l => D.int (maskI 0 l))), .fr (.int (k : Nat)), .fr (Ov.tI (bAt kvs k)), .fr (.int (m : Nat)), .fr (.lst ((minus (bAt kvs k) (bAt kvs m)).map D.int)), s6, .no]) := c2'
  show bodyM _ = _
  unfold bodyM
  rw [e_cSeq, e_cSet, c1]
  have q' : d_meets_near [.fr (atD' (atOf kvs)), .fr (.int (maskI 0 (bAt kvs k))), .fr (.int (maskI 0 (bAt kvs m))), .fr (.lst ((minus (bAt kvs k) (bAt kvs m)).map D.int)), .fr (.lst ((minus (bAt kvs m) (bAt kvs k)).map D.int))] = some (.rt (.bl (meetP kvs (bAt kvs k) (bAt kvs m))), [.no, .no, .no, .no, .no]) := q
  cases hB : meetP kvs (bAt kvs k) (bAt kvs m)
  · rw [hB] at q'
    simp only [Option.bind_some, restR, wipR, List.set_cons_zero, List.set_cons_succ, List.getElem?_cons_zero, List.getElem?_cons_succ, e_cSeq, e_cSet, e_cLc, e_iSeq, e_c2, e_c1, e_cV, i3, xm', c2'', e_cIfS, e_cNot, e_cTr, e_cCall, e_agC, e_agN, i5, yk, ym, argS, Option.map_some, nodupB, oIx, Bool.true_and, List.length_cons, List.length_nil, decide_true, if_true, q', backS, truB, Bool.not_false, e_cRet, e_cC]
    rfl
  · rw [hB] at q'
    simp only [Option.bind_some, restR, wipR, List.set_cons_zero, List.set_cons_succ, List.getElem?_cons_zero, List.getElem?_cons_succ, e_cSeq, e_cSet, e_cLc, e_iSeq, e_c2, e_c1, e_cV, i3, xm', c2'', e_cIfS, e_cNot, e_cTr, e_cCall, e_agC, e_agN, i5, yk, ym, argS, Option.map_some, nodupB, oIx, Bool.true_and, List.length_cons, List.length_nil, decide_true, if_true, q', backS, truB, Bool.not_true, Bool.false_eq_true, if_false, e_cNx]
    rfl
theorem findB {α : Type} (t : α → Bool) : ∀ xs : List α, xs.findSome? (fun x => failB (t x)) = failB (xs.all t)
  | [] => rfl
  | x :: xs => by
    rw [List.findSome?_cons, List.all_cons, findB t xs]
    cases t x <;> rfl
theorem p_all_meet (h : KOk kvs) : d_all_meet_near [.fr (tblKD w d ws kvs)] = some (.rt (.bl (allMeet kvs)), [.no]) := by
  have i3 := at3 (w := w) (d := d) (ws := ws) (kvs := kvs)
  have masks : lcG [3] (gN 3) (stE cYes (cCall 1 d_mask_of (gCons (cV 3) gNil))) ((bsK kvs).map fun l => Ov.tI l) [.fr (tblKD w d ws kvs), .no, .no, .no, .no, .no, .no, .no] = some ((bsK kvs).flatMap fun l => [D.int (maskI 0 l)], [.fr (tblKD w d ws kvs), .no, .no, .no, .no, .no, .no, .no]) := lcG_pure fun l hl => by
    have q := p_mask l (h.small l hl)
    refine ⟨[.fr (tblKD w d ws kvs), .no, .no, .fr (Ov.tI l), .no, .no, .no, .no], ?_, rfl⟩
    simp only [e_gN, e_stE, e_cYes, e_cCall, e_agC, e_agN, e_cV, List.set_cons_zero, List.set_cons_succ, List.getElem?_cons_zero, List.getElem?_cons_succ, Option.bind_some, Option.map_some, argS, nodupB, oIx, Bool.true_and, List.length_cons, List.length_nil, decide_true, if_true, q, backS]
  have fl : ∀ xs : List (List Int), (xs.flatMap fun l => [D.int (maskI 0 l)]) = xs.map fun l => D.int (maskI 0 l) := fun xs => by
    induction xs with
    | nil => rfl
    | cons x xs ih => rw [List.flatMap_cons, ih]; rfl
  rw [fl] at masks
  have inner : ∀ (k : Nat), k < kvs.length → ∀ (a : Sl × Sl × Sl), ∃ a' : Sl × Sl × Sl, forL (gN 4) bodyM ((List.range k).map fun i : Nat => D.int (i : Int)) (envM (tblKD w d ws kvs) kvs (.fr (.int (k : Nat))) (.fr (Ov.tI (bAt kvs k))) a.1 a.2.1 a.2.2) =
      some (flO (failB ((List.range k).all fun m => meetP kvs (bAt kvs k) (bAt kvs m))), envM (tblKD w d ws kvs) kvs (.fr (.int (k : Nat))) (.fr (Ov.tI (bAt kvs k))) a'.1 a'.2.1 a'.2.2) := fun k hk a => by
    rw [← findB]
    refine forL_find (env := fun a : Sl × Sl × Sl => envM (tblKD w d ws kvs) kvs (.fr (.int (k : Nat))) (.fr (Ov.tI (bAt kvs k))) a.1 a.2.1 a.2.2) (a := a) fun a m hm => ?_
    have hm' := List.mem_range.mp hm
    obtain ⟨s4, s5, s6, r⟩ := p_bodyM (w := w) (d := d) (ws := ws) h k m hk (by omega) a.1 a.2.1 a.2.2
    exact ⟨(s4, s5, s6), r⟩
  have outer : ∃ a' : Sl × Sl × Sl × Sl × Sl, forL (gT 2 (gCons' (gN 2) (gCons' (gN 3) gNil'))) (cFor (iRg1 (cV 2)) (gN 4) bodyM) ((List.range kvs.length).map fun i : Nat => D.tup [.int ((0 + i : Nat) : Int), (((bsK kvs)[i]?).map fun l => Ov.tI l).getD .non]) (envM (tblKD w d ws kvs) kvs .no .no .no .no .no) =
      some (flO (failB (allMeet kvs)), envM (tblKD w d ws kvs) kvs a'.1 a'.2.1 a'.2.2.1 a'.2.2.2.1 a'.2.2.2.2) := by
    unfold allMeet
    rw [← findB]
    refine forL_find (env := fun a' : Sl × Sl × Sl × Sl × Sl => envM (tblKD w d ws kvs) kvs a'.1 a'.2.1 a'.2.2.1 a'.2.2.2.1 a'.2.2.2.2) (a := (.no, .no, .no, .no, .no)) fun a k hk => ?_
    have hk' := List.mem_range.mp hk
    obtain ⟨gk, _⟩ := bAt_get hk'
    obtain ⟨a', r⟩ := inner k hk' (a.2.2.1, a.2.2.2.1, a.2.2.2.2)
    refine ⟨(.fr (.int (k : Nat)), .fr (Ov.tI (bAt kvs k)), a'.1, a'.2.1, a'.2.2), ?_⟩
    have hg : decide (-4611686018427387904 ≤ (k : Int) ∧ (k : Int) ≤ 16777216) = true := decide_eq_true (by have := h.len; omega)
    have rg := rgL_nat k
    have r' : forL (gN 4) bodyM ((List.range k).map fun i : Nat => D.int (i : Int)) [.fr (tblKD w d ws kvs), .fr (.lst ((bsK kvs).map fun l => D.int (maskI 0 l))), .fr (.int (k : Nat)), .fr (Ov.tI (bAt kvs k)), a.2.2.1, a.2.2.2.1, a.2.2.2.2, .no] = _ := r
    simp only [gk, Option.map_some, Option.getD_some, Nat.zero_add, envM, e_gT, e_gCons, e_gN, e_gNil, Option.bind_some, List.length_cons, List.length_nil, if_true, List.set_cons_zero, List.set_cons_succ, e_cFor, e_iRg1, e_cV, List.getElem?_cons_zero, List.getElem?_cons_succ, e_toI, hg, rg, r']
  obtain ⟨a', r⟩ := outer
  have en := enumL_map (fun l => Ov.tI l) (bsK kvs) 0
  have hlen : (bsK kvs).length = kvs.length := by unfold bsK; rw [List.length_map]
  rw [hlen] at en
  have r' : forL (gT 2 (gCons' (gN 2) (gCons' (gN 3) gNil'))) (cFor (iRg1 (cV 2)) (gN 4) bodyM) ((List.range kvs.length).map fun i : Nat => D.tup [.int ((0 + i : Nat) : Int), (((bsK kvs)[i]?).map fun l => Ov.tI l).getD .non]) [.fr (tblKD w d ws kvs), .fr (.lst ((bsK kvs).map fun l => D.int (maskI 0 l))), .no, .no, .no, .no, .no, .no] = _ := r
  unfold d_all_meet_near
  rw [e_mkDf]
  unfold c_all_meet_near
  show ((cSeq (cSet 1 _) (cSeq (cFor _ _ (cFor (iRg1 (cV 2)) (gN 4) bodyM)) _)) _).bind _ = _
  cases hB : allMeet kvs
  · rw [hB] at r'
    simp only [e_cSeq, e_cSet, e_cLc, e_iSeq, e_c1, e_cV, List.replicate, List.cons_append, List.nil_append, List.getElem?_cons_zero, List.getElem?_cons_succ, Option.bind_some, i3, wipR, List.set_cons_zero, List.set_cons_succ, masks, restR, e_cFor, e_iEnum, seqOf, en, r', failB, Bool.false_eq_true, if_false, flO, e_cRet, e_cC]
    rfl
  · rw [hB] at r'
    simp only [e_cSeq, e_cSet, e_cLc, e_iSeq, e_c1, e_cV, List.replicate, List.cons_append, List.nil_append, List.getElem?_cons_zero, List.getElem?_cons_succ, Option.bind_some, i3, wipR, List.set_cons_zero, List.set_cons_succ, masks, restR, e_cFor, e_iEnum, seqOf, en, r', failB, if_true, flO, e_cRet, e_cC]
    rfl
end
end K09
namespace K09
open PySem PySem.Spec PyProof.Rows L2 Ov
abbrev anyE : Ev := c1 anyD (cLc [7] (iSeq (cCall 2 d_flips_of (gCons (cLst (aCons (cV 5) aNil)) (gCons (cV 4) gNil)))) (gN 7) cYes (cCall 4 d_is_no_loss (gCons (cV 1) (gCons (cCall 1 d_mask_of (gCons (cV 2) gNil)) (gCons (cCall 1 d_mask_of (gCons (cV 3) gNil)) (gCons (cV 7) gNil))))))
abbrev bodyT : Es := cIfS (cAnd (cT (c2 ninD (cV 5) (cV 3))) (cNot (cTr anyE))) (cRet (cTup (aCons (cV 2) (aCons (cV 3) (aCons (cV 5) aNil))))) cNx
abbrev bodyQ : Es := cSeq (cSet 4 (cLc [6] (iSeq (cV 3)) (gN 6) (cT (c2 ninD (cV 6) (cV 2))) (cV 6))) (cFor (iSeq (cV 2)) (gN 5) bodyT)
def stepP (kvs : Kvs) (one other : List Int) (t : Int) : Bool := (flips [t] (minus other one)).any (noLoss (atOf kvs) (maskI 0 one) (maskI 0 other))
/-- what is told of (one, other, t) -/
def brT (kvs : Kvs) (one other : List Int) (t : Int) : Option D := if (!other.contains t && !stepP kvs one other t) = true then some (.tup [Ov.tI one, Ov.tI other, .int t]) else none
def brkF (kvs : Kvs) : Option D := (bsK kvs).findSome? fun one => (bsK kvs).findSome? fun other => one.findSome? (brT kvs one other)
section
variable {w d : Int} {ws : D} {kvs : Kvs}
def envT (T : D) (kvs : Kvs) (one other : List Int) (s4 s5 : Sl) : List Sl := [.fr T, .fr (atD' (atOf kvs)), .fr (Ov.tI one), .fr (Ov.tI other), s4, s5, .no, .no]
theorem p_anyE (h : KOk kvs) {one other : List Int} (h1 : one ∈ bsK kvs) (h2 : other ∈ bsK kvs) {t : Int} (ht : t ∈ one) (T : D) :
    anyE (envT T kvs one other (.fr (.lst ((minus other one).map D.int))) (.fr (.int t))) = some (.bl (stepP kvs one other t), envT T kvs one other (.fr (.lst ((minus other one).map D.int))) (.fr (.int t))) := by
  have m1 := p_mask one (h.small _ h1)
  have m2 := p_mask other (h.small _ h2)
  obtain ⟨x, hx⟩ := lk_at h1
  obtain ⟨y, hy⟩ := lk_at h2
  have hl : (flips [t] (minus other one)).length ≤ 16777216 := by
    rw [flips_len, List.length_singleton, Nat.one_mul]
    have := Nat.le_trans (minus_len other one) (h.llen _ h2)
    omega
  have q := p_flips [t] (minus other one) (fun i hi => by rw [List.mem_singleton.mp hi]; exact h.small _ h1 t ht) (minus_small (h.small _ h2)) hl
  have q' : d_flips_of [.fr (.lst [.int t]), .fr (.lst ((minus other one).map D.int))] = some (.rt (.lst ((flips [t] (minus other one)).map D.int)), [.no, .no]) := q
  have hc := lcG_pure (vs := [7]) (g := gN 7) (st := stE cYes (cCall 4 d_is_no_loss (gCons (cV 1) (gCons (cCall 1 d_mask_of (gCons (cV 2) gNil)) (gCons (cCall 1 d_mask_of (gCons (cV 3) gNil)) (gCons (cV 7) gNil)))))) (f := D.int) (o := fun f => [D.bl (noLoss (atOf kvs) (maskI 0 one) (maskI 0 other) f)])
    (ρ := [.fr T, .fr (atD' (atOf kvs)), .fr (Ov.tI one), .fr (Ov.tI other), .fr (.lst ((minus other one).map D.int)), .fr (.int t), .no, .no]) (xs := flips [t] (minus other one)) fun f _ => by
      have r := p_is_no_loss (f := f) hx hy
      refine ⟨[.fr T, .fr (atD' (atOf kvs)), .fr (Ov.tI one), .fr (Ov.tI other), .fr (.lst ((minus other one).map D.int)), .fr (.int t), .no, .fr (.int f)], ?_, rfl⟩
      simp -implicitDefEqProofs only [e_gN, e_stE, e_cYes, e_cCall, e_agC, e_agN, e_cV, List.set_cons_zero, List.set_cons_succ, List.getElem?_cons_zero, List.getElem?_cons_succ, Option.bind_some, Option.map_some, argS, nodupB, oIx, Bool.true_and, List.length_cons, List.length_nil, decide_true, if_true, r, backS, m1, m2]
  have hany := p_any (f := noLoss (atOf kvs) (maskI 0 one) (maskI 0 other)) (flips [t] (minus other one))
  have hone : cLst (aCons (cV 5) aNil) [.fr T, .fr (atD' (atOf kvs)), .fr (Ov.tI one), .fr (Ov.tI other), .fr (.lst ((minus other one).map D.int)), .fr (.int t), .no, .no] = some (.lst [.int t], [.fr T, .fr (atD' (atOf kvs)), .fr (Ov.tI one), .fr (Ov.tI other), .fr (.lst ((minus other one).map D.int)), .fr (.int t), .no, .no]) := by
    simp [e_cLst, e_aCons, e_aNil, e_cV]
  unfold anyE envT stepP
  simp -implicitDefEqProofs only [e_c1, e_cLc, e_iSeq, e_cCall, e_agC, e_agN, hone, e_cV, List.getElem?_cons_zero, List.getElem?_cons_succ, Option.bind_some, argS, Option.map_some, nodupB, oIx, Bool.true_and, List.length_cons, List.length_nil, decide_true, if_true, q', backS, wipR, List.set_cons_zero, List.set_cons_succ, hc, hany, restR]
theorem p_bodyT (h : KOk kvs) {one other : List Int} (h1 : one ∈ bsK kvs) (h2 : other ∈ bsK kvs) {t : Int} (ht : t ∈ one) (T : D) (s5 : Sl) :
    (gN 5 (.int t) (envT T kvs one other (.fr (.lst ((minus other one).map D.int))) s5)).bind bodyT = some (flO (brT kvs one other t), envT T kvs one other (.fr (.lst ((minus other one).map D.int))) (.fr (.int t))) := by
  have a := p_anyE h h1 h2 ht T
  have n := k_nin3 t other
  have e0 : gN 5 (.int t) (envT T kvs one other (.fr (.lst ((minus other one).map D.int))) s5) = some (envT T kvs one other (.fr (.lst ((minus other one).map D.int))) (.fr (.int t))) := rfl
  have v5 : cV 5 (envT T kvs one other (.fr (.lst ((minus other one).map D.int))) (.fr (.int t))) = some (.int t, envT T kvs one other (.fr (.lst ((minus other one).map D.int))) (.fr (.int t))) := rfl
  have v3 : cV 3 (envT T kvs one other (.fr (.lst ((minus other one).map D.int))) (.fr (.int t))) = some (Ov.tI other, envT T kvs one other (.fr (.lst ((minus other one).map D.int))) (.fr (.int t))) := rfl
  have v2 : cV 2 (envT T kvs one other (.fr (.lst ((minus other one).map D.int))) (.fr (.int t))) = some (Ov.tI one, envT T kvs one other (.fr (.lst ((minus other one).map D.int))) (.fr (.int t))) := rfl
  rw [e0, Option.bind_some]
  unfold bodyT brT
  cases hc : other.contains t
  · rw [hc] at n
    cases hs : stepP kvs one other t
    · rw [hs] at a
      simp -implicitDefEqProofs only [e_cIfS, e_cAnd, e_cT, e_c2, v5, v3, v2, Option.bind_some, n, e_toB, Bool.not_false, if_true, e_cNot, e_cTr, a, truB, e_cRet, e_cTup, e_aCons, e_aNil, Bool.and_self, List.length_cons, List.length_nil]
      rfl
    · rw [hs] at a
      simp -implicitDefEqProofs only [e_cIfS, e_cAnd, e_cT, e_c2, v5, v3, v2, Option.bind_some, n, e_toB, Bool.not_false, if_true, e_cNot, e_cTr, a, truB, Bool.not_true, Bool.and_false, Bool.false_eq_true, if_false, e_cNx]
      rfl
  · rw [hc] at n
    simp -implicitDefEqProofs only [e_cIfS, e_cAnd, e_cT, e_c2, v5, v3, v2, Option.bind_some, n, e_toB, Bool.not_true, Bool.false_eq_true, if_false, e_cNx, Bool.false_and]
    rfl
theorem p_bodyQ (h : KOk kvs) {one other : List Int} (h1 : one ∈ bsK kvs) (h2 : other ∈ bsK kvs) (T : D) (s3 s4 s5 : Sl) :
    ∃ s4' s5', (gN 3 (Ov.tI other) [.fr T, .fr (atD' (atOf kvs)), .fr (Ov.tI one), s3, s4, s5, .no, .no]).bind bodyQ = some (flO (one.findSome? (brT kvs one other)), envT T kvs one other s4' s5') := by
  have e0 : gN 3 (Ov.tI other) [.fr T, .fr (atD' (atOf kvs)), .fr (Ov.tI one), s3, s4, s5, .no, .no] = some [.fr T, .fr (atD' (atOf kvs)), .fr (Ov.tI one), .fr (Ov.tI other), s4, s5, .no, .no] := rfl
  have c := p_minus 6 3 (cV 2) other one [.fr T, .fr (atD' (atOf kvs)), .fr (Ov.tI one), .fr (Ov.tI other), s4, s5, .no, .no] _ rfl rfl fun e => ⟨rfl, rfl, rfl⟩
  obtain ⟨s5', r⟩ := forL_find (g := gN 5) (b := bodyT) (f := D.int) (env := fun s5 : Sl => envT T kvs one other (.fr (.lst ((minus other one).map D.int))) s5) (t := brT kvs one other) (xs := one) (a := s5) fun a t ht => ⟨_, p_bodyT h h1 h2 ht T a⟩
  refine ⟨.fr (.lst ((minus other one).map D.int)), s5', ?_⟩
  have it : iSeq (cV 2) (envT T kvs one other (.fr (.lst ((minus other one).map D.int))) s5) = some (one.map D.int, envT T kvs one other (.fr (.lst ((minus other one).map D.int))) s5) := rfl
  rw [e0, Option.bind_some]
  unfold bodyQ
  rw [e_cSeq, e_cSet, c, Option.bind_some]
  show (cFor (iSeq (cV 2)) (gN 5) bodyT) (envT T kvs one other (.fr (.lst ((minus other one).map D.int))) s5) = _
  rw [e_cFor, it, Option.bind_some, r]
theorem p_first_break (h : KOk kvs) : d_first_break [.fr (tblKD w d ws kvs)] = some (.rt ((brkF kvs).getD .non), [.no]) := by
  have i3 := at3 (w := w) (d := d) (ws := ws) (kvs := kvs)
  have i5 := at5 (w := w) (d := d) (ws := ws) (kvs := kvs)
  generalize hT : tblKD w d ws kvs = T at *
  have inner : ∀ one ∈ bsK kvs, ∀ s3 s4 s5 : Sl, ∃ a' : Sl × Sl × Sl, forL (gN 3) bodyQ ((bsK kvs).map fun l => Ov.tI l) [.fr T, .fr (atD' (atOf kvs)), .fr (Ov.tI one), s3, s4, s5, .no, .no] =
      some (flO ((bsK kvs).findSome? fun other => one.findSome? (brT kvs one other)), [.fr T, .fr (atD' (atOf kvs)), .fr (Ov.tI one), a'.1, a'.2.1, a'.2.2, .no, .no]) := fun one h1 s3 s4 s5 => by
    refine forL_find (f := fun l => Ov.tI l) (env := fun a' : Sl × Sl × Sl => [.fr T, .fr (atD' (atOf kvs)), .fr (Ov.tI one), a'.1, a'.2.1, a'.2.2, .no, .no]) (a := (s3, s4, s5)) fun a other h2 => ?_
    obtain ⟨s4', s5', r⟩ := p_bodyQ h h1 h2 T a.1 a.2.1 a.2.2
    exact ⟨(.fr (Ov.tI other), s4', s5'), r⟩
  have outer : ∃ a' : Sl × Sl × Sl × Sl, forL (gN 2) (cFor (iSeq (c1 (atD "Table" 3) (cV 0))) (gN 3) bodyQ) ((bsK kvs).map fun l => Ov.tI l) [.fr T, .fr (atD' (atOf kvs)), .no, .no, .no, .no, .no, .no] =
      some (flO (brkF kvs), [.fr T, .fr (atD' (atOf kvs)), a'.1, a'.2.1, a'.2.2.1, a'.2.2.2, .no, .no]) := by
    refine forL_find (f := fun l => Ov.tI l) (env := fun a' : Sl × Sl × Sl × Sl => [.fr T, .fr (atD' (atOf kvs)), a'.1, a'.2.1, a'.2.2.1, a'.2.2.2, .no, .no]) (a := (.no, .no, .no, .no)) fun a one h1 => ?_
    obtain ⟨a', r⟩ := inner one h1 a.2.1 a.2.2.1 a.2.2.2
    refine ⟨(.fr (Ov.tI one), a'.1, a'.2.1, a'.2.2), ?_⟩
    simp -implicitDefEqProofs only [e_gN, List.set_cons_zero, List.set_cons_succ, Option.bind_some, e_cFor, e_iSeq, e_c1, e_cV, List.getElem?_cons_zero, i3, r]
  obtain ⟨a', r⟩ := outer
  unfold d_first_break
  rw [e_mkDf]
  unfold c_first_break
  show ((cSeq (cSet 1 (c1 (atD "Table" 5) (cV 0))) (cSeq (cFor (iSeq (c1 (atD "Table" 3) (cV 0))) (gN 2) (cFor (iSeq (c1 (atD "Table" 3) (cV 0))) (gN 3) bodyQ)) (cRet (cC .non)))) _).bind _ = _
  cases hB : brkF kvs with
  | none =>
    rw [hB] at r
    simp -implicitDefEqProofs only [e_cSeq, e_cSet, e_c1, e_cV, List.replicate, List.cons_append, List.nil_append, List.getElem?_cons_zero, Option.bind_some, i5, List.set_cons_zero, List.set_cons_succ, e_cFor, e_iSeq, i3, r, flO, e_cRet, e_cC]
    rfl
  | some z =>
    rw [hB] at r
    simp -implicitDefEqProofs only [e_cSeq, e_cSet, e_c1, e_cV, List.replicate, List.cons_append, List.nil_append, List.getElem?_cons_zero, Option.bind_some, i5, List.set_cons_zero, List.set_cons_succ, e_cFor, e_iSeq, i3, r, flO]
    rfl
def plainK (D0 : D) : Bool := plD D0
theorem plL_ints (xs : List Int) : plL (xs.map D.int) = true := by
  induction xs with
  | nil => rfl
  | cons x xs ih => rw [List.map_cons, plL, ih]; rfl
theorem plL_lots (xs : List (List Int)) : plL (xs.map fun l => Ov.tI l) = true := by
  induction xs with
  | nil => rfl
  | cons x xs ih =>
    have := plL_ints x
    have e : plD (Ov.tI x) = true := this
    rw [List.map_cons, plL, ih, e]
    rfl
theorem plT_kvs (kvs : Kvs) : plT (kvs.map fun kv => (kv.1, .int kv.2)) = true := by
  induction kvs with
  | nil => rfl
  | cons x xs ih => rw [List.map_cons, plT, ih]; rfl
theorem plK_at (at_ : List (Int × Int)) : plK (at_.map fun kv => (kv.1, .int kv.2)) = true := by
  induction at_ with
  | nil => rfl
  | cons x xs ih => rw [List.map_cons, plK, ih]; rfl
theorem pl_tbl (hw : plD ws = true) : plL (tblK w d ws kvs) = true := by
  have e1 : plD (.tup ((bsK kvs).map fun l => Ov.tI l)) = true := plL_lots _
  have e2 : plD (.dT (kvs.map fun kv => (kv.1, .int kv.2))) = true := plT_kvs _
  have e3 : plD (atD' (atOf kvs)) = true := plK_at _
  unfold tblK
  simp only [plL, hw, e1, e2, e3]
  rfl
def isTwofold (kvs : Kvs) : Bool := allMeet kvs || (brkF kvs).isNone
theorem brkF_not {z : D} (h : brkF kvs = some z) : isNonB z = false := by
  unfold brkF at h
  obtain ⟨one, _, h⟩ := List.exists_of_findSome?_eq_some h
  obtain ⟨other, _, h⟩ := List.exists_of_findSome?_eq_some h
  obtain ⟨t, _, h⟩ := List.exists_of_findSome?_eq_some h
  unfold brT at h
  split at h
  · cases h
    rfl
  · cases h
theorem p_is_twofold (h : KOk kvs) (hw : plD ws = true) : d_is_twofold [.fr (tblKD w d ws kvs)] = some (.rt (.bl (isTwofold kvs)), [.no]) := by
  have a := p_all_meet (w := w) (d := d) (ws := ws) h
  have f := p_first_break (w := w) (d := d) (ws := ws) h
  have pl := pl_tbl (w := w) (d := d) (kvs := kvs) hw
  have hb : ∃ z, brkT (tblK w d ws kvs) = some z ∧ isNonB z = isTwofold kvs := by
    unfold brkT brkOf ce_break_of isTwofold
    have a' : d_all_meet_near [.fr (.obj "Table" (tblK w d ws kvs))] = _ := a
    have f' : d_first_break [.fr (.obj "Table" (tblK w d ws kvs))] = _ := f
    cases hA : allMeet kvs
    · rw [hA] at a'
      refine ⟨(brkF kvs).getD .non, ?_, ?_⟩
      · simp -implicitDefEqProofs only [e_cIf, e_cTr, e_cCall, e_agC, e_agN, e_cV, List.getElem?_cons_zero, Option.bind_some, argS, Option.map_some, nodupB, oIx, Bool.true_and, List.length_cons, List.length_nil, decide_true, if_true, a', backS, truB, Bool.false_eq_true, if_false, f']
      · cases hB : brkF kvs with
        | none => rfl
        | some z =>
          have := brkF_not hB
          simp [this]
    · rw [hA] at a'
      refine ⟨.non, ?_, rfl⟩
      simp -implicitDefEqProofs only [e_cIf, e_cTr, e_cCall, e_agC, e_agN, e_cV, List.getElem?_cons_zero, Option.bind_some, argS, Option.map_some, nodupB, oIx, Bool.true_and, List.length_cons, List.length_nil, decide_true, if_true, a', backS, truB, e_cC]
  obtain ⟨z, h1, h2⟩ := hb
  have hbr : d_break_of [.fr (tblKD w d ws kvs)] = some (.rt z, [.no]) := by
    show (if ("Table" : Str) = "Table" ∧ (tblK w d ws kvs).length = 6 ∧ plL (tblK w d ws kvs) = true then (brkT (tblK w d ws kvs)).map fun d => (Fl.rt d, [Sl.no]) else none) = _
    rw [if_pos ⟨rfl, rfl, pl⟩, h1]
    rfl
  have hz : isD z .non = some (.bl (isTwofold kvs)) := by
    rw [← h2]
    cases z <;> rfl
  unfold d_is_twofold
  rw [e_mkDf]
  unfold c_is_twofold
  simp -implicitDefEqProofs only [e_cRet, e_c2, e_cCall, e_agC, e_agN, e_cV, e_cC, List.replicate, List.cons_append, List.nil_append, List.getElem?_cons_zero, Option.bind_some, argS, Option.map_some, nodupB, oIx, Bool.true_and, List.length_cons, List.length_nil, decide_true, if_true, hbr, backS, hz]
  rfl
end
end K09
namespace K09
open PySem PySem.Spec PyProof.Rows L2 Ov
def kvsF (w d : Nat) (p : List Int → Int) : Kvs := (L w d).map fun l => (l, p l)
theorem bs_F (w d : Nat) (p : List Int → Int) : bsK (kvsF w d p) = L w d := by
  unfold bsK kvsF
  rw [List.map_map]
  exact List.map_id _
theorem tbl_F (w d : Nat) (p : List Int → Int) : tblD w d p = tblKD w d (.tup ((L w d).map fun l => .int (p l))) (kvsF w d p) := by
  unfold tblD tblKD tblF tblK
  rw [bs_F]
  unfold bookD atD' atOf kvsF
  rw [List.map_map, List.map_map, List.map_map]
  rfl
def sw (A : List Int) (t i : Int) : List Int := sortI ((A.filter fun e => decide (e ≠ t)) ++ [i])
def flip (t i : Int) : Int := Builtin.bitOr (1 * 2 ^ t.toNat) (1 * 2 ^ i.toNat)
/-- one exchange of t for a thing of B is no loss -/
def Ex (p : List Int → Int) (A B : List Int) (t : Int) : Bool := (minus B A).any fun j => decide (p A + p B ≤ p (sw A t j) + p (sw B j t))
def eqU (P Q : List Int) (S : List Int × List Int) : Bool := decide (P = S.1 ∧ Q = S.2) || decide (P = S.2 ∧ Q = S.1)
def sp1 (x : Four) : List Int × List Int := match x.2 with | [a, b, c, e] => (key x.1 a b, key x.1 c e) | _ => ([], [])
def sp2 (x : Four) : List Int × List Int := match x.2 with | [a, b, c, e] => (key x.1 a c, key x.1 b e) | _ => ([], [])
def sp3 (x : Four) : List Int × List Int := match x.2 with | [a, b, c, e] => (key x.1 a e, key x.1 b c) | _ => ([], [])
def fourAB (A B : List Int) : Four := (A.filter fun e => B.contains e, sortI (minus A B ++ minus B A))
/-- the exchange of t for j in A and B has the masks told -/
def swOk (ls : List (List Int)) (A B : List Int) (t j : Int) : Bool := decide (sw A t j ∈ ls) && (decide (sw B j t ∈ ls) && (decide (maskI 0 (sw A t j) = Builtin.bitXor (maskI 0 A) (flip t j)) && decide (maskI 0 (sw B j t) = Builtin.bitXor (maskI 0 B) (flip t j))))
/-- A, B and the two exchanges of t are the three parts of the four -/
def parts3 (x : Four) (A B : List Int) (t i j : Int) : Bool :=
  (eqU A B (sp1 x) && ((eqU (sw A t i) (sw B i t) (sp2 x) && eqU (sw A t j) (sw B j t) (sp3 x)) || (eqU (sw A t i) (sw B i t) (sp3 x) && eqU (sw A t j) (sw B j t) (sp2 x)))) ||
  ((eqU A B (sp2 x) && ((eqU (sw A t i) (sw B i t) (sp1 x) && eqU (sw A t j) (sw B j t) (sp3 x)) || (eqU (sw A t i) (sw B i t) (sp3 x) && eqU (sw A t j) (sw B j t) (sp1 x)))) ||
  (eqU A B (sp3 x) && ((eqU (sw A t i) (sw B i t) (sp1 x) && eqU (sw A t j) (sw B j t) (sp2 x)) || (eqU (sw A t i) (sw B i t) (sp2 x) && eqU (sw A t j) (sw B j t) (sp1 x)))))
def chk (ls : List (List Int)) (fs : List Four) (A B : List Int) : Bool := match minus A B, minus B A with
  | [], [] => true
  | [_], [_] => true
  | [t, _], [i, j] => swOk ls A B t i && (swOk ls A B t j && (decide (fourAB A B ∈ fs) && parts3 (fourAB A B) A B t i j))
  | t :: _ :: _ :: _, i :: _ => swOk ls A B t i
  | _, _ => false
def chkAll (ls : List (List Int)) (fs : List Four) : Bool := (List.range ls.length).all fun k => (List.range k).all fun m => chk ls fs (ls.getD k []) (ls.getD m [])
/-- .. and back: each part of each four is a pair -/
def isPair (ls : List (List Int)) (x : Four) (s : List Int × List Int) : Bool := (List.range ls.length).any fun k => (List.range k).any fun m =>
  eqU (ls.getD k []) (ls.getD m []) s && (decide ((minus (ls.getD k []) (ls.getD m [])).length = 2) && decide (fourAB (ls.getD k []) (ls.getD m []) = x))
def chkBack (ls : List (List Int)) (fs : List Four) : Bool := fs.all fun x => isPair ls x (sp1 x) && (isPair ls x (sp2 x) && isPair ls x (sp3 x))
structure ClH (w d : Nat) : Prop where
  all : chkAll (L w d) (foursF w d) = true
  back : chkBack (L w d) (foursF w d) = true
  nodup : decide (((L w d).map (maskI 0)).Nodup) = true
  small : (L w d).all (fun l => decide (l.length ≤ 100) && l.all fun e => decide (0 ≤ e ∧ e ≤ 1000)) = true
  len : decide ((L w d).length ≤ 1000) = true
theorem clh_4_2 : ClH 4 2 := ⟨by kernel_rfl, by kernel_rfl, by kernel_rfl, by kernel_rfl, by kernel_rfl⟩
theorem clh_5_2 : ClH 5 2 := ⟨by kernel_rfl, by kernel_rfl, by kernel_rfl, by kernel_rfl, by kernel_rfl⟩
theorem clh_5_3 : ClH 5 3 := ⟨by kernel_rfl, by kernel_rfl, by kernel_rfl, by kernel_rfl, by kernel_rfl⟩
theorem clh_6_3 : ClH 6 3 := ⟨by kernel_rfl, by kernel_rfl, by kernel_rfl, by kernel_rfl, by kernel_rfl⟩
theorem clh_6_2 : ClH 6 2 := ⟨by kernel_rfl, by kernel_rfl, by kernel_rfl, by kernel_rfl, by kernel_rfl⟩
theorem clh_6_4 : ClH 6 4 := ⟨by kernel_rfl, by kernel_rfl, by kernel_rfl, by kernel_rfl, by kernel_rfl⟩
theorem clh_7_2 : ClH 7 2 := ⟨by kernel_rfl, by kernel_rfl, by kernel_rfl, by kernel_rfl, by kernel_rfl⟩
theorem clh_7_3 : ClH 7 3 := ⟨by kernel_rfl, by kernel_rfl, by kernel_rfl, by kernel_rfl, by kernel_rfl⟩
theorem clh_7_4 : ClH 7 4 := ⟨by kernel_rfl, by kernel_rfl, by kernel_rfl, by kernel_rfl, by kernel_rfl⟩
theorem clh_7_5 : ClH 7 5 := ⟨by kernel_rfl, by kernel_rfl, by kernel_rfl, by kernel_rfl, by kernel_rfl⟩
end K09
namespace K09
open PySem PySem.Spec PyProof.Rows L2 Ov
theorem find_map {α : Type} (f : α → Int) (g : α → Int) (m : Int) : ∀ (ls : List α) (x : α), x ∈ ls → f x = m → (ls.map f).Nodup → ((ls.map fun l => (f l, g l)).find? fun kv => decide (kv.1 = m)) = some (f x, g x)
  | y :: ls, x, h, e, n => by
    rw [List.map_cons, List.find?_cons]
    by_cases q : f y = m
    · rw [List.map_cons, List.nodup_cons] at n
      rcases List.mem_cons.mp h with z | z
      · subst z
        simp [q]
      · exact absurd (List.mem_map.mpr ⟨x, z, e.trans q.symm⟩) n.1
    · rcases List.mem_cons.mp h with z | z
      · subst z
        exact absurd e q
      · simp only [decide_eq_false q]
        rw [List.map_cons, List.nodup_cons] at n
        exact find_map f g m ls x z e n.2
theorem lk_F {w d : Nat} (p : List Int → Int) (h : ((L w d).map (maskI 0)).Nodup) {C : List Int} (hC : C ∈ L w d) : lk (atOf (kvsF w d p)) (maskI 0 C) = some (p C) := by
  unfold lk atOf kvsF
  rw [List.map_map]
  show Option.map _ (((L w d).map fun l => (maskI 0 l, p l)).find? _) = _
  rw [find_map (maskI 0) p (maskI 0 C) (L w d) C hC rfl h]
  rfl
theorem noLoss_F {w d : Nat} (p : List Int → Int) (h : ((L w d).map (maskI 0)).Nodup) {A B : List Int} (hA : A ∈ L w d) (hB : B ∈ L w d) {t i : Int} (hs : swOk (L w d) A B t i = true) :
    noLoss (atOf (kvsF w d p)) (maskI 0 A) (maskI 0 B) (flip t i) = decide (p A + p B ≤ p (sw A t i) + p (sw B i t)) := by
  unfold swOk at hs
  simp only [Bool.and_eq_true, decide_eq_true_eq] at hs
  obtain ⟨h1, h2, h3, h4⟩ := hs
  unfold noLoss
  rw [← h3, ← h4, lk_F p h h1, lk_F p h h2, lk_F p h hA, lk_F p h hB]
  rfl
def Ch2 (p : List Int → Int) (A B : List Int) (t i : Int) : Bool := decide (p A + p B ≤ p (sw A t i) + p (sw B i t))
theorem eqU_sum {P Q : List Int} {S : List Int × List Int} (p : List Int → Int) (h : eqU P Q S = true) : p P + p Q = p S.1 + p S.2 := by
  unfold eqU at h
  simp only [Bool.or_eq_true, decide_eq_true_eq] at h
  rcases h with ⟨h1, h2⟩ | ⟨h1, h2⟩
  · rw [h1, h2]
  · rw [h1, h2, Int.add_comm]
theorem sp_s1 (p : List Int → Int) (x : Four) {a b c e : Int} (h : x.2 = [a, b, c, e]) : p (sp1 x).1 + p (sp1 x).2 = s1 p x ∧ p (sp2 x).1 + p (sp2 x).2 = s2 p x ∧ p (sp3 x).1 + p (sp3 x).2 = s3 p x := by
  obtain ⟨low, four⟩ := x
  simp only at h
  subst h
  exact ⟨rfl, rfl, rfl⟩
theorem tw_iff (p : List Int → Int) (x : Four) : tw p x = true ↔ (s1 p x ≤ s2 p x ∨ s1 p x ≤ s3 p x) ∧ (s2 p x ≤ s1 p x ∨ s2 p x ≤ s3 p x) ∧ (s3 p x ≤ s1 p x ∨ s3 p x ≤ s2 p x) := by
  unfold tw twI
  generalize s1 p x = a
  generalize s2 p x = b
  generalize s3 p x = c
  rw [decide_eq_true_eq]
  constructor
  · intro h
    by_cases h1 : a = max a (max b c) <;> by_cases h2 : b = max a (max b c) <;> by_cases h3 : c = max a (max b c) <;> (first | rw [if_pos h1] at h | rw [if_neg h1] at h) <;> (first | rw [if_pos h2] at h | rw [if_neg h2] at h) <;> (first | rw [if_pos h3] at h | rw [if_neg h3] at h) <;> omega
  · intro h
    by_cases h1 : a = max a (max b c)
    · rw [if_pos h1]
      by_cases h2 : b = max a (max b c)
      · rw [if_pos h2]
        omega
      · rw [if_neg h2]
        have h3 : c = max a (max b c) := by omega
        rw [if_pos h3]
        omega
    · rw [if_neg h1]
      have h2 : b = max a (max b c) := by omega
      have h3 : c = max a (max b c) := by omega
      rw [if_pos h2, if_pos h3]
      omega
/-- what the pair asks, by the four's three sums -/
theorem parts_iff (p : List Int → Int) {x : Four} {A B : List Int} {t i j : Int} {a b c e : Int} (hx : x.2 = [a, b, c, e]) (h : parts3 x A B t i j = true) :
    (eqU A B (sp1 x) = true ∧ ((Ch2 p A B t i || Ch2 p A B t j) = true ↔ (s1 p x ≤ s2 p x ∨ s1 p x ≤ s3 p x))) ∨
    (eqU A B (sp2 x) = true ∧ ((Ch2 p A B t i || Ch2 p A B t j) = true ↔ (s2 p x ≤ s1 p x ∨ s2 p x ≤ s3 p x))) ∨
    (eqU A B (sp3 x) = true ∧ ((Ch2 p A B t i || Ch2 p A B t j) = true ↔ (s3 p x ≤ s1 p x ∨ s3 p x ≤ s2 p x))) := by
  obtain ⟨e1, e2, e3⟩ := sp_s1 p x hx
  unfold parts3 at h
  unfold Ch2
  simp only [Bool.or_eq_true, Bool.and_eq_true, decide_eq_true_eq] at h ⊢
  rcases h with ⟨h0, ⟨h1, h2⟩ | ⟨h1, h2⟩⟩ | ⟨h0, ⟨h1, h2⟩ | ⟨h1, h2⟩⟩ | ⟨h0, ⟨h1, h2⟩ | ⟨h1, h2⟩⟩
  · refine .inl ⟨h0, ?_⟩
    rw [eqU_sum p h0, eqU_sum p h1, eqU_sum p h2, e1, e2, e3]
  · refine .inl ⟨h0, ?_⟩
    rw [eqU_sum p h0, eqU_sum p h1, eqU_sum p h2, e1, e2, e3, Or.comm]
  · refine .inr (.inl ⟨h0, ?_⟩)
    rw [eqU_sum p h0, eqU_sum p h1, eqU_sum p h2, e1, e2, e3]
  · refine .inr (.inl ⟨h0, ?_⟩)
    rw [eqU_sum p h0, eqU_sum p h1, eqU_sum p h2, e1, e2, e3, Or.comm]
  · refine .inr (.inr ⟨h0, ?_⟩)
    rw [eqU_sum p h0, eqU_sum p h1, eqU_sum p h2, e1, e2, e3]
  · refine .inr (.inr ⟨h0, ?_⟩)
    rw [eqU_sum p h0, eqU_sum p h1, eqU_sum p h2, e1, e2, e3, Or.comm]
/-- the pair's test in a full table -/
theorem meet_F {w d : Nat} (p : List Int → Int) (hn : ((L w d).map (maskI 0)).Nodup) {A B : List Int} (hA : A ∈ L w d) (hB : B ∈ L w d) (hc : chk (L w d) (foursF w d) A B = true) :
    (∃ t u i j, minus A B = [t, u] ∧ minus B A = [i, j] ∧ meetP (kvsF w d p) A B = (Ch2 p A B t i || Ch2 p A B t j) ∧ fourAB A B ∈ foursF w d ∧ parts3 (fourAB A B) A B t i j = true ∧ stepP (kvsF w d p) A B t = (Ch2 p A B t i || Ch2 p A B t j)) ∨
    ((minus A B).length ≠ 2 ∧ meetP (kvsF w d p) A B = true) := by
  unfold chk at hc
  split at hc
  · rename_i h1 h2
    refine .inr ⟨by rw [h1]; decide, ?_⟩
    unfold meetP meetsF
    rw [h1]
    rfl
  · rename_i t i h1 h2
    refine .inr ⟨by rw [h1, List.length_singleton]; decide, ?_⟩
    unfold meetP meetsF
    rw [h1]
    rfl
  · rename_i t u i j h1 h2
    simp only [Bool.and_eq_true, decide_eq_true_eq] at hc
    obtain ⟨c1, c2, c3, c4⟩ := hc
    have n1 := noLoss_F p hn hA hB c1
    have n2 := noLoss_F p hn hA hB c2
    refine .inl ⟨t, u, i, j, h1, h2, ?_, c3, c4, ?_⟩
    · unfold meetP meetsF
      rw [h1, h2]
      show ([flip t i, flip t j].any (noLoss (atOf (kvsF w d p)) (maskI 0 A) (maskI 0 B))) = _
      simp only [List.any_cons, List.any_nil, n1, n2, Bool.or_false]
      rfl
    · unfold stepP
      rw [h2]
      show ([flip t i, flip t j].any (noLoss (atOf (kvsF w d p)) (maskI 0 A) (maskI 0 B))) = _
      simp only [List.any_cons, List.any_nil, n1, n2, Bool.or_false]
      rfl
  · rename_i t u v r i s h1 h2
    refine .inr ⟨by rw [h1]; simp, ?_⟩
    unfold swOk at hc
    simp only [Bool.and_eq_true, decide_eq_true_eq] at hc
    obtain ⟨c1, c2, c3, c4⟩ := hc
    unfold meetP meetsF
    rw [h1, h2, if_neg (by simp), if_neg (by simp)]
    have hf : flip t i ∈ flips (t :: u :: v :: r) (i :: s) := by
      unfold flips
      rw [List.flatMap_cons, List.map_cons]
      exact List.mem_append_left _ List.mem_cons_self
    rw [Bool.and_eq_true]
    constructor
    · refine List.any_eq_true.mpr ⟨_, hf, ?_⟩
      rw [← c3, lk_F p hn c1]
      rfl
    · refine List.any_eq_true.mpr ⟨_, hf, ?_⟩
      rw [← c4, lk_F p hn c2]
      rfl
  · cases hc
theorem four4 (w d : Nat) (h : ClF w d) {x : Four} (hx : x ∈ foursF w d) : ∃ a b c e, x.2 = [a, b, c, e] := by
  obtain ⟨a, b, c, e, q, _⟩ := (h.all x hx).ok.ex
  exact ⟨a, b, c, e, q⟩
theorem F_at (w d : Nat) (p : List Int → Int) (k : Nat) : bAt (kvsF w d p) k = (L w d).getD k [] := by
  unfold bAt
  rw [bs_F]
theorem L_mem {w d k : Nat} (h : k < (L w d).length) : (L w d).getD k [] ∈ L w d := by
  rw [List.getD_eq_getElem?_getD, List.getElem?_eq_getElem h]
  exact List.getElem_mem h
theorem chk_at {w d : Nat} (h : ClH w d) {k m : Nat} (hk : k < (L w d).length) (hm : m < k) : chk (L w d) (foursF w d) ((L w d).getD k []) ((L w d).getD m []) = true := by
  have c := List.all_eq_true.mp h.all k (List.mem_range.mpr hk)
  exact List.all_eq_true.mp c m (List.mem_range.mpr hm)
theorem allMeet_iff {w d : Nat} (p : List Int → Int) (hf : ClF w d) (h : ClH w d) : allMeet (kvsF w d p) = true ↔ ∀ x ∈ foursF w d, tw p x = true := by
  have hn := of_decide_eq_true h.nodup
  have hlen : (kvsF w d p).length = (L w d).length := by unfold kvsF; rw [List.length_map]
  constructor
  · intro ha x hx
    obtain ⟨a, b, c, e, h4⟩ := four4 w d hf hx
    have hp : ∀ k m, k < (L w d).length → m < k → meetP (kvsF w d p) ((L w d).getD k []) ((L w d).getD m []) = true := fun k m hk hm => by
      have q := List.all_eq_true.mp (List.all_eq_true.mp ha k (List.mem_range.mpr (by rw [hlen]; exact hk))) m (List.mem_range.mpr hm)
      rw [F_at, F_at] at q
      exact q
    have hb := List.all_eq_true.mp h.back x hx
    rw [Bool.and_eq_true, Bool.and_eq_true] at hb
    obtain ⟨b1, b2, b3⟩ := hb
    have key : ∀ s, isPair (L w d) x s = true → ∃ k m, k < (L w d).length ∧ m < k ∧ eqU ((L w d).getD k []) ((L w d).getD m []) s = true ∧ ∃ t i j, parts3 x ((L w d).getD k []) ((L w d).getD m []) t i j = true ∧ (Ch2 p ((L w d).getD k []) ((L w d).getD m []) t i || Ch2 p ((L w d).getD k []) ((L w d).getD m []) t j) = true := fun s hs => by
      unfold isPair at hs
      obtain ⟨k, hk, hs⟩ := List.any_eq_true.mp hs
      obtain ⟨m, hm, hs⟩ := List.any_eq_true.mp hs
      have hk := List.mem_range.mp hk
      have hm := List.mem_range.mp hm
      simp only [Bool.and_eq_true, decide_eq_true_eq] at hs
      obtain ⟨h1, h2, h3⟩ := hs
      refine ⟨k, m, hk, hm, h1, ?_⟩
      rcases meet_F p hn (L_mem hk) (L_mem (Nat.lt_trans hm hk)) (chk_at h hk hm) with ⟨t, u, i, j, _, _, q, _, q2, _⟩ | ⟨q, _⟩
      · rw [h3] at q2
        rw [hp k m hk hm] at q
        exact ⟨t, i, j, q2, q.symm⟩
      · exact absurd h2 q
    have two : ∀ P Q S S', eqU P Q S = true → eqU P Q S' = true → p S.1 + p S.2 = p S'.1 + p S'.2 := fun P Q S S' h1 h2 => (eqU_sum p h1).symm.trans (eqU_sum p h2)
    obtain ⟨e1, e2, e3⟩ := sp_s1 p x h4
    rw [tw_iff]
    obtain ⟨k1, m1, _, _, u1, t1, i1, j1, r1, v1⟩ := key _ b1
    obtain ⟨k2, m2, _, _, u2, t2, i2, j2, r2, v2⟩ := key _ b2
    obtain ⟨k3, m3, _, _, u3, t3, i3, j3, r3, v3⟩ := key _ b3
    have f1 := parts_iff p h4 r1
    have f2 := parts_iff p h4 r2
    have f3 := parts_iff p h4 r3
    rw [v1] at f1
    rw [v2] at f2
    rw [v3] at f3
    simp only [true_iff] at f1 f2 f3
    refine ⟨?_, ?_, ?_⟩
    · rcases f1 with ⟨g, f⟩ | ⟨g, f⟩ | ⟨g, f⟩
      · exact f
      · have := two _ _ _ _ u1 g
        omega
      · have := two _ _ _ _ u1 g
        omega
    · rcases f2 with ⟨g, f⟩ | ⟨g, f⟩ | ⟨g, f⟩
      · have := two _ _ _ _ u2 g
        omega
      · exact f
      · have := two _ _ _ _ u2 g
        omega
    · rcases f3 with ⟨g, f⟩ | ⟨g, f⟩ | ⟨g, f⟩
      · have := two _ _ _ _ u3 g
        omega
      · have := two _ _ _ _ u3 g
        omega
      · exact f
  · intro ht
    refine List.all_eq_true.mpr fun k hk => List.all_eq_true.mpr fun m hm => ?_
    have hk := List.mem_range.mp hk
    have hm := List.mem_range.mp hm
    rw [hlen] at hk
    rw [F_at, F_at]
    rcases meet_F p hn (L_mem hk) (L_mem (Nat.lt_trans hm hk)) (chk_at h hk hm) with ⟨t, u, i, j, _, _, q, q1, q2, _⟩ | ⟨_, q⟩
    · rw [q]
      obtain ⟨a, b, c, e, h4⟩ := four4 w d hf q1
      have tt := (tw_iff p _).mp (ht _ q1)
      rcases parts_iff p h4 q2 with ⟨_, f⟩ | ⟨_, f⟩ | ⟨_, f⟩
      · exact f.mpr tt.1
      · exact f.mpr tt.2.1
      · exact f.mpr tt.2.2
    · exact q
theorem findSome_some {α β : Type} {f : α → Option β} {x : α} {b : β} : ∀ {xs : List α}, x ∈ xs → f x = some b → ∃ c, xs.findSome? f = some c
  | y :: ys, h, e => by
    rw [List.findSome?_cons]
    cases q : f y with
    | some c => exact ⟨c, rfl⟩
    | none =>
      rcases List.mem_cons.mp h with z | z
      · rw [← z, e] at q
        cases q
      · exact findSome_some z e
theorem isTwofold_F {w d : Nat} (p : List Int → Int) (hf : ClF w d) (h : ClH w d) : isTwofold (kvsF w d p) = (foursF w d).all (tw p) := by
  have hn := of_decide_eq_true h.nodup
  have hlen : (kvsF w d p).length = (L w d).length := by unfold kvsF; rw [List.length_map]
  unfold isTwofold
  cases hA : allMeet (kvsF w d p)
  · have hb : ∃ z, brkF (kvsF w d p) = some z := by
      have h1 : ¬ ∀ k ∈ List.range (kvsF w d p).length, ((List.range k).all fun m => meetP (kvsF w d p) (bAt (kvsF w d p) k) (bAt (kvsF w d p) m)) = true := fun q => by
        have : allMeet (kvsF w d p) = true := List.all_eq_true.mpr q
        rw [hA] at this
        cases this
      have ⟨k, h1⟩ := Classical.not_forall.mp h1
      have ⟨hk, h1⟩ := Classical.not_imp.mp h1
      have h2 : ¬ ∀ m ∈ List.range k, meetP (kvsF w d p) (bAt (kvsF w d p) k) (bAt (kvsF w d p) m) = true := fun q => h1 (List.all_eq_true.mpr q)
      have ⟨m, h2⟩ := Classical.not_forall.mp h2
      have ⟨hm, h2⟩ := Classical.not_imp.mp h2
      have hk := List.mem_range.mp hk
      have hm := List.mem_range.mp hm
      rw [hlen] at hk
      rw [F_at, F_at] at h2
      rcases meet_F p hn (L_mem hk) (L_mem (Nat.lt_trans hm hk)) (chk_at h hk hm) with ⟨t, u, i, j, g1, g2, q, q1, q2, q3⟩ | ⟨_, q⟩
      · have mt : t ∈ minus ((L w d).getD k []) ((L w d).getD m []) := by rw [g1]; exact List.mem_cons_self
        obtain ⟨mt1, mt2⟩ := List.mem_filter.mp mt
        have hs : stepP (kvsF w d p) ((L w d).getD k []) ((L w d).getD m []) t = false := by
          rw [q3, ← q]
          cases z : meetP (kvsF w d p) ((L w d).getD k []) ((L w d).getD m [])
          · rfl
          · exact absurd z h2
        have hbr : brT (kvsF w d p) ((L w d).getD k []) ((L w d).getD m []) t = some (.tup [Ov.tI ((L w d).getD k []), Ov.tI ((L w d).getD m []), .int t]) := by
          unfold brT
          rw [mt2, hs]
          rfl
        obtain ⟨c1, y1⟩ := findSome_some mt1 hbr
        obtain ⟨c2, y2⟩ := findSome_some (f := fun other => ((L w d).getD k []).findSome? (brT (kvsF w d p) ((L w d).getD k []) other)) (xs := bsK (kvsF w d p)) (by rw [bs_F]; exact L_mem (Nat.lt_trans hm hk)) y1
        exact findSome_some (f := fun one => (bsK (kvsF w d p)).findSome? fun other => one.findSome? (brT (kvsF w d p) one other)) (xs := bsK (kvsF w d p)) (by rw [bs_F]; exact L_mem hk) y2
      · exact absurd q h2
    obtain ⟨z, hz⟩ := hb
    rw [hz]
    cases hT : (foursF w d).all (tw p)
    · rfl
    · have := (allMeet_iff p hf h).mpr fun x hx => List.all_eq_true.mp hT x hx
      rw [hA] at this
      cases this
  · have := (allMeet_iff p hf h).mp hA
    rw [List.all_eq_true.mpr this]
    rfl
theorem kok_F {w d : Nat} (p : List Int → Int) (h : ClH w d) : KOk (kvsF w d p) := by
  have s := h.small
  refine ⟨fun l hl => ?_, ?_, fun l hl => ?_⟩
  · rw [bs_F] at hl
    have := List.all_eq_true.mp s l hl
    rw [Bool.and_eq_true] at this
    exact fun e he => of_decide_eq_true (List.all_eq_true.mp this.2 e he)
  · unfold kvsF
    rw [List.length_map]
    exact of_decide_eq_true h.len
  · rw [bs_F] at hl
    have := List.all_eq_true.mp s l hl
    rw [Bool.and_eq_true] at this
    exact of_decide_eq_true this.1
theorem p_twofold_F {w d : Nat} (p : List Int → Int) (hf : ClF w d) (h : ClH w d) : d_is_twofold [.fr (tblD w d p)] = some (.rt (.bl ((foursF w d).all (tw p))), [.no]) := by
  rw [tbl_F]
  have hw : plD (.tup ((L w d).map fun l => D.int (p l))) = true := by
    have := plL_ints ((L w d).map p)
    rw [List.map_map] at this
    exact this
  have q := p_is_twofold (w := w) (d := d) (ws := .tup ((L w d).map fun l => .int (p l))) (kok_F p h) hw
  rw [isTwofold_F p hf h] at q
  exact q
end K09
namespace K09
open PySem PySem.Spec PyProof.Rows L2 Ov
def T3 (x y z : Int) : Prop := (x = y ∧ z ≤ x) ∨ (x = z ∧ y ≤ x) ∨ (y = z ∧ x ≤ y)
theorem rank2 {ab ac ae bc be ce za zb zc ze : Int} (h1 : T3 (ab + zc) (ac + zb) (bc + za)) (h2 : T3 (ab + ze) (ae + zb) (be + za)) (h3 : T3 (ac + ze) (ae + zc) (ce + za)) (h4 : T3 (bc + ze) (be + zc) (ce + zb)) : T3 (ab + ce) (ac + be) (ae + bc) := by
  unfold T3 at *
  rcases h1 with h1 | h1 | h1 <;> rcases h2 with h2 | h2 | h2 <;> rcases h3 with h3 | h3 | h3 <;> rcases h4 with h4 | h4 | h4 <;> omega
theorem rank3 {ab ac ae bc be ce za zb zc ze : Int} (h1 : T3 (ab + zb) (ac + zc) (ae + ze)) (h2 : T3 (ab + za) (bc + zc) (be + ze)) (h3 : T3 (ac + za) (bc + zb) (ce + ze)) (h4 : T3 (ae + za) (be + zb) (ce + zc)) : T3 (ab + ce) (ac + be) (ae + bc) := by
  unfold T3 at *
  rcases h1 with h1 | h1 | h1 <;> rcases h2 with h2 | h2 | h2 <;> rcases h3 with h3 | h3 | h3 <;> rcases h4 with h4 | h4 | h4 <;> omega
theorem T3_iff {x y z : Int} : T3 x y z ↔ (x ≤ y ∨ x ≤ z) ∧ (y ≤ x ∨ y ≤ z) ∧ (z ≤ x ∨ z ≤ y) := by
  unfold T3
  omega
def LP := List Int × List Int
def eqP (S Q : List Int × List Int) : Bool := eqU Q.1 Q.2 S
def perm3 (y : Four) (A B C : List Int × List Int) : Bool :=
  (eqP (sp1 y) A && ((eqP (sp2 y) B && eqP (sp3 y) C) || (eqP (sp2 y) C && eqP (sp3 y) B))) ||
  ((eqP (sp1 y) B && ((eqP (sp2 y) A && eqP (sp3 y) C) || (eqP (sp2 y) C && eqP (sp3 y) A))) ||
  (eqP (sp1 y) C && ((eqP (sp2 y) A && eqP (sp3 y) B) || (eqP (sp2 y) B && eqP (sp3 y) A))))
theorem perm3_T3 (p : List Int → Int) {y : Four} {A B C : List Int × List Int} (h4 : ∃ a b c e, y.2 = [a, b, c, e]) (h : perm3 y A B C = true) (ht : tw p y = true) : T3 (p A.1 + p A.2) (p B.1 + p B.2) (p C.1 + p C.2) := by
  obtain ⟨a, b, c, e, h4⟩ := h4
  obtain ⟨e1, e2, e3⟩ := sp_s1 p y h4
  have t := (tw_iff p y).mp ht
  rw [← e1, ← e2, ← e3] at t
  have q : ∀ S Q, eqP S Q = true → p Q.1 + p Q.2 = p S.1 + p S.2 := fun S Q h => eqU_sum p h
  unfold perm3 at h
  simp only [Bool.or_eq_true, Bool.and_eq_true] at h
  rw [T3_iff]
  rcases h with ⟨h0, ⟨h1, h2⟩ | ⟨h1, h2⟩⟩ | ⟨h0, ⟨h1, h2⟩ | ⟨h1, h2⟩⟩ | ⟨h0, ⟨h1, h2⟩ | ⟨h1, h2⟩⟩ <;> rw [q _ _ h0, q _ _ h1, q _ _ h2] <;> omega
def zin (z : Int) (fs : List Four) (y : Four) : Bool := decide (y ∈ fs) && y.2.contains z
def chkZ1 (fs : List Four) (z : Int) (x : Four) : Bool := match x.2 with
  | [a, b, c, e] =>
    if x.1.contains z = true then
      let lo := x.1.filter fun t => decide (t ≠ z)
      let W := fun (i j k : Int) => sortI (lo ++ [i, j, k])
      let y := fun (i : Int) (r : List Int) => ((sortI (lo ++ [i]), sortI (z :: r)) : Four)
      (zin z fs (y a [b, c, e]) && perm3 (y a [b, c, e]) (key x.1 a b, W a c e) (key x.1 a c, W a b e) (key x.1 a e, W a b c)) &&
      ((zin z fs (y b [a, c, e]) && perm3 (y b [a, c, e]) (key x.1 a b, W b c e) (key x.1 b c, W a b e) (key x.1 b e, W a b c)) &&
      ((zin z fs (y c [a, b, e]) && perm3 (y c [a, b, e]) (key x.1 a c, W b c e) (key x.1 b c, W a c e) (key x.1 c e, W a b c)) &&
      (zin z fs (y e [a, b, c]) && perm3 (y e [a, b, c]) (key x.1 a e, W b c e) (key x.1 b e, W a c e) (key x.1 c e, W a b e))))
    else
      let y := fun (i j k : Int) => ((x.1, sortI [z, i, j, k]) : Four)
      (zin z fs (y a b c) && perm3 (y a b c) (key x.1 a b, key x.1 z c) (key x.1 a c, key x.1 z b) (key x.1 b c, key x.1 z a)) &&
      ((zin z fs (y a b e) && perm3 (y a b e) (key x.1 a b, key x.1 z e) (key x.1 a e, key x.1 z b) (key x.1 b e, key x.1 z a)) &&
      ((zin z fs (y a c e) && perm3 (y a c e) (key x.1 a c, key x.1 z e) (key x.1 a e, key x.1 z c) (key x.1 c e, key x.1 z a)) &&
      (zin z fs (y b c e) && perm3 (y b c e) (key x.1 b c, key x.1 z e) (key x.1 b e, key x.1 z c) (key x.1 c e, key x.1 z b))))
  | _ => false
def chkZ (w d : Nat) : Bool := (List.range w).all fun z => (foursF w d).all fun x => x.2.contains (z : Int) || chkZ1 (foursF w d) z x
theorem z_all {w d : Nat} (p : List Int → Int) (hf : ClF w d) (h : chkZ w d = true) {z : Nat} (hz : z < w) (ht : ∀ x ∈ (foursF w d).filter (fun x => x.2.contains (z : Int)), tw p x = true) : ∀ x ∈ foursF w d, tw p x = true := by
  intro x hx
  have c := List.all_eq_true.mp (List.all_eq_true.mp h z (List.mem_range.mpr hz)) x hx
  cases hc : x.2.contains (z : Int)
  · rw [hc, Bool.false_or] at c
    obtain ⟨a, b, cc, e, h4⟩ := four4 w d hf hx
    have use : ∀ y A B C, zin z (foursF w d) y = true → perm3 y A B C = true → T3 (p A.1 + p A.2) (p B.1 + p B.2) (p C.1 + p C.2) := fun y A B C h1 h2 => by
      unfold zin at h1
      rw [Bool.and_eq_true, decide_eq_true_eq] at h1
      exact perm3_T3 p (four4 w d hf h1.1) h2 (ht y (List.mem_filter.mpr h1))
    have goal : T3 (s1 p x) (s2 p x) (s3 p x) := by
      obtain ⟨low, four⟩ := x
      simp only at h4
      subst h4
      unfold chkZ1 at c
      dsimp only at c
      show T3 (sm p low a b cc e) (sm p low a cc b e) (sm p low a e b cc)
      split at c
      · simp only [Bool.and_eq_true] at c
        obtain ⟨⟨u1, v1⟩, ⟨u2, v2⟩, ⟨u3, v3⟩, u4, v4⟩ := c
        have r1 := use _ _ _ _ u1 v1
        have r2 := use _ _ _ _ u2 v2
        have r3 := use _ _ _ _ u3 v3
        have r4 := use _ _ _ _ u4 v4
        exact rank3 r1 r2 r3 r4
      · simp only [Bool.and_eq_true] at c
        obtain ⟨⟨u1, v1⟩, ⟨u2, v2⟩, ⟨u3, v3⟩, u4, v4⟩ := c
        have r1 := use _ _ _ _ u1 v1
        have r2 := use _ _ _ _ u2 v2
        have r3 := use _ _ _ _ u3 v3
        have r4 := use _ _ _ _ u4 v4
        exact rank2 r1 r2 r3 r4
    exact (tw_iff p x).mpr (T3_iff.mp goal)
  · exact ht x (List.mem_filter.mpr ⟨hx, hc⟩)
theorem z_count {w d : Nat} (p : List Int → Int) (hf : ClF w d) (h : chkZ w d = true) {z : Nat} (hz : z < w) : decide ((((foursF w d).filter fun x => x.2.contains (z : Int)).filter fun x => !tw p x).length = 0) = (foursF w d).all (tw p) := by
  cases hT : (foursF w d).all (tw p)
  · apply decide_eq_false
    intro h0
    have : ∀ x ∈ foursF w d, tw p x = true := z_all p hf h hz fun x hx => by
      have e := List.length_eq_zero_iff.mp h0
      cases q : tw p x
      · have : x ∈ ((foursF w d).filter fun x => x.2.contains (z : Int)).filter fun x => !tw p x := List.mem_filter.mpr ⟨hx, by rw [q]; rfl⟩
        rw [e] at this
        cases this
      · rfl
    rw [List.all_eq_true.mpr this] at hT
    cases hT
  · apply decide_eq_true
    rw [List.length_eq_zero_iff, List.filter_eq_nil_iff]
    intro x hx
    have := List.all_eq_true.mp hT x (List.mem_filter.mp hx).1
    rw [this]
    decide
theorem chz_4_2 : chkZ 4 2 = true := by kernel_rfl
theorem chz_5_2 : chkZ 5 2 = true := by kernel_rfl
theorem chz_5_3 : chkZ 5 3 = true := by kernel_rfl
theorem chz_6_2 : chkZ 6 2 = true := by kernel_rfl
theorem chz_6_3 : chkZ 6 3 = true := by kernel_rfl
theorem chz_6_4 : chkZ 6 4 = true := by kernel_rfl
end K09
namespace K09
open PySem PySem.Spec PyProof.Rows L2 Ov
theorem chz_7_2 : chkZ 7 2 = true := by kernel_rfl
theorem chz_7_3 : chkZ 7 3 = true := by kernel_rfl
theorem chz_7_4 : chkZ 7 4 = true := by kernel_rfl
theorem chz_7_5 : chkZ 7 5 = true := by kernel_rfl
end K09
namespace K09
open PySem PySem.Spec PyProof.Rows L2 Ov
abbrev owI (ds : List Int) : Sl := .ow (.lst (ds.map D.int))
theorem p_take (ds : List Int) (b : Int) (hb : 0 < b) : ∃ v ds', d__law_take [owI ds, .fr (.int b)] = some (.rt (.int v), [owI ds', .no]) ∧ 0 ≤ v ∧ v < b := by
  have hm := e_mod (p := 0) hb
  by_cases h : ds = []
  · subst h
    refine ⟨0, [], ?_, Int.le_refl _, hb⟩
    kernel_rfl
  · obtain ⟨x, hx⟩ : ∃ x, ds[ds.length - 1]? = some x := by
      have : ds.length - 1 < ds.length := by
        have := List.length_pos_iff.mpr h
        omega
      exact ⟨_, List.getElem?_eq_getElem this⟩
    refine ⟨x % b, ds.dropLast, ?_, Int.emod_nonneg _ (by omega), Int.emod_lt_of_pos _ hb⟩
    have hl : (D.int ((ds.map D.int).length : Nat)) = .int (ds.length : Nat) := by rw [List.length_map]
    have h0 : eqD (.int ((ds.map D.int).length : Nat)) (.int 0) = some (.bl false) := by
      rw [hl, e_eqI]
      have := List.length_pos_iff.mpr h
      simp [h]
    have hx' : (ds.map D.int)[(ds.map D.int).length - 1]? = some (.int x) := by
      rw [List.length_map, List.getElem?_map, hx]
      rfl
    have hd : (ds.map D.int).dropLast = ds.dropLast.map D.int := by rw [List.map_dropLast]
    have hm' := e_mod (p := x) hb
    unfold d__law_take
    rw [e_mkDf]
    unfold c__law_take
    simp -implicitDefEqProofs only [e_cSeq, e_cIfS, e_cT, e_c2, e_cB0, getS, List.replicate, List.append_nil, List.getElem?_cons_zero, List.getElem?_cons_succ, Option.bind_some, lenD, e_cC, h0, e_toB, Bool.false_eq_true, if_false, e_cNx, e_cRet, e_c1, e_cPop, ownLst, hx', intD_int, e_cV, List.set_cons_zero, hm', hd]
    rfl
theorem e_take {i : Nat} {ce : Ev} {ρ : List Sl} {ds : List Int} {b : Int} (hi : ρ[i]? = some (owI ds)) (hc : ce ρ = some (.int b, ρ)) (hb : 0 < b) :
    ∃ v ds', cCall 2 d__law_take (gOwn i (gCons ce gNil)) ρ = some (.int v, ρ.set i (owI ds')) ∧ 0 ≤ v ∧ v < b := by
  obtain ⟨v, ds', h, h1, h2⟩ := p_take ds b hb
  refine ⟨v, ds', ?_, h1, h2⟩
  have ho : ownS ρ i = some (.lst (ds.map D.int)) := by
    unfold ownS
    rw [hi]
  simp -implicitDefEqProofs only [e_cCall, e_agO, e_agC, e_agN, ho, hc, Option.bind_some, argS, Option.map_some, nodupB, oIx, List.length_cons, List.length_nil]
  rw [if_pos (by rfl)]
  show (d__law_take [owI ds, .fr (.int b)]).bind _ = _
  rw [h]
  rfl
/-- the draws -/
def I1 (pre : List Int) (ρ : List Sl) (S : Sl) : Prop := ∃ (ds : List Int) (s2 s3 s4 s5 : Sl), ρ = [S, owI ds, s2, s3, s4, s5] ∧ ds.length ≤ 45 * pre.length
theorem app_int {ρ : List Sl} {i : Nat} {ce : Ev} {ds : List Int} {x : Int} {ρ' : List Sl} (h1 : ρ[i]? = some (owI ds)) (h2 : ce ρ = some (.int x, ρ')) (h3 : ρ'[i]? = some (owI ds)) (hl : ds.length < 16777216) :
    cApp i ce ρ = some (.nx, ρ'.set i (owI (ds ++ [x]))) := by
  have o1 : ownLst ρ i = some (ds.map D.int) := by unfold ownLst; rw [h1]
  have o2 : ownLst ρ' i = some (ds.map D.int) := by unfold ownLst; rw [h3]
  rw [e_cApp, o1, Option.bind_some, h2, Option.bind_some, o2, Option.bind_some, if_pos (by rw [List.length_map]; exact hl)]
  have e : owI (ds ++ [x]) = Sl.ow (.lst (ds.map D.int ++ [D.int x])) := by
    unfold owI
    rw [List.map_append]
    rfl
  rw [e]
abbrev mixE : Ev := c2 modD (c1 intD (c2 addD (c2 addD (c2 addD (c2 mulD (cV 4) (cV 4)) (c2 mulD (cC (.int 40692)) (cV 5))) (c2 mulD (cC (.int 911)) (cV 2))) (cC (.int 29)))) (cC (.int 2147483399))
theorem p_mix5 (S : Sl) (place cell : Int) (hp : 0 ≤ place ∧ place ≤ 63) : ∀ (turns : List Int) (ds : List Int) (m : Int) (s5 : Sl), (∀ t ∈ turns, 0 ≤ t ∧ t ≤ 100) → (0 ≤ m ∧ m ≤ 2147483563) → ds.length + turns.length < 16777216 →
    ∃ ds' m' s5', forL (gN 5) (cSeq (cSet 4 mixE) (cApp 1 (cV 4))) (turns.map D.int) [S, owI ds, .fr (.int place), .fr (.int cell), .fr (.int m), s5] = some (.nx, [S, owI ds', .fr (.int place), .fr (.int cell), .fr (.int m'), s5']) ∧ ds'.length = ds.length + turns.length
  | [], ds, m, s5, _, _, _ => ⟨ds, m, s5, rfl, rfl⟩
  | t :: turns, ds, m, s5, ht, hm, hl => by
    rw [List.length_cons] at hl
    have t0 := ht t List.mem_cons_self
    have m1 := e_mul (p := m) (q := m) (.inl ⟨by omega, by omega⟩)
    have m2 := e_mul (p := 40692) (q := t) (.inl ⟨by omega, by omega⟩)
    have m3 := e_mul (p := 911) (q := place) (.inl ⟨by omega, by omega⟩)
    have md := e_mod (p := m * m + 40692 * t + 911 * place + 29) (q := 2147483399) (by omega)
    have b1 := Int.emod_nonneg (m * m + 40692 * t + 911 * place + 29) (b := 2147483399) (by omega)
    have b2 := Int.emod_lt_of_pos (m * m + 40692 * t + 911 * place + 29) (b := 2147483399) (by omega)
    obtain ⟨ds', m', s5', r, r2⟩ := p_mix5 S place cell hp turns (ds ++ [(m * m + 40692 * t + 911 * place + 29) % 2147483399]) ((m * m + 40692 * t + 911 * place + 29) % 2147483399) (.fr (.int t)) (fun u hu => ht u (List.mem_cons_of_mem _ hu)) ⟨b1, by omega⟩ (by rw [List.length_append, List.length_singleton]; omega)
    refine ⟨ds', m', s5', ?_, by rw [r2, List.length_append, List.length_singleton, List.length_cons]; omega⟩
    have e1 : cSet 4 mixE [S, owI ds, .fr (.int place), .fr (.int cell), .fr (.int m), .fr (.int t)] = some (.nx, [S, owI ds, .fr (.int place), .fr (.int cell), .fr (.int ((m * m + 40692 * t + 911 * place + 29) % 2147483399)), .fr (.int t)]) := by
      simp -implicitDefEqProofs only [e_cSet, e_c2, e_c1, e_cV, e_cC, List.getElem?_cons_zero, List.getElem?_cons_succ, Option.bind_some, m1, m2, m3, e_add, intD_int, md, List.set_cons_zero, List.set_cons_succ]
    have e2 := app_int (i := 1) (ce := cV 4) (ρ := [S, owI ds, .fr (.int place), .fr (.int cell), .fr (.int ((m * m + 40692 * t + 911 * place + 29) % 2147483399)), .fr (.int t)]) (ds := ds) rfl rfl rfl (by omega)
    have step : (gN 5 (.int t) [S, owI ds, .fr (.int place), .fr (.int cell), .fr (.int m), s5]).bind (cSeq (cSet 4 mixE) (cApp 1 (cV 4))) = some (.nx, [S, owI (ds ++ [(m * m + 40692 * t + 911 * place + 29) % 2147483399]), .fr (.int place), .fr (.int cell), .fr (.int ((m * m + 40692 * t + 911 * place + 29) % 2147483399)), .fr (.int t)]) := by
      show cSeq (cSet 4 mixE) (cApp 1 (cV 4)) [S, owI ds, .fr (.int place), .fr (.int cell), .fr (.int m), .fr (.int t)] = _
      rw [e_cSeq, e1, Option.bind_some]
      exact e2
    rw [List.map_cons, e_forB, step]
    exact r
abbrev divB : Es := cIfS (cT (c2 gtD (cV 3) (cC (.int 0)))) (cSeq (cApp 1 (c2 modD (c1 intD (cV 3)) (cC (.int 60)))) (cSet 3 (c2 fdivD (cV 3) (cC (.int 60))))) cNx
theorem p_div40 (S : Sl) (place : Int) (s4 : Sl) : ∀ (turns : List Int) (ds : List Int) (cell : Int) (s5 : Sl), ds.length + turns.length < 16777216 →
    ∃ ds' cell' s5', forL (gN 5) divB (turns.map D.int) [S, owI ds, .fr (.int place), .fr (.int cell), s4, s5] = some (.nx, [S, owI ds', .fr (.int place), .fr (.int cell'), s4, s5']) ∧ ds'.length ≤ ds.length + turns.length
  | [], ds, cell, s5, _ => ⟨ds, cell, s5, rfl, Nat.le_refl _⟩
  | t :: turns, ds, cell, s5, hl => by
    rw [List.length_cons] at hl
    by_cases h : 0 < cell
    · obtain ⟨ds', c', s5', r, r2⟩ := p_div40 S place s4 turns (ds ++ [cell % 60]) (cell / 60) (.fr (.int t)) (by rw [List.length_append, List.length_singleton]; omega)
      refine ⟨ds', c', s5', ?_, by rw [List.length_append, List.length_singleton] at r2; rw [List.length_cons]; omega⟩
      have md := e_mod (p := cell) (q := 60) (by omega)
      have fd := e_fdiv (p := cell) (q := 60) ⟨by omega, by omega⟩
      have e2 := app_int (i := 1) (ce := c2 modD (c1 intD (cV 3)) (cC (.int 60))) (ρ := [S, owI ds, .fr (.int place), .fr (.int cell), s4, .fr (.int t)]) (ρ' := [S, owI ds, .fr (.int place), .fr (.int cell), s4, .fr (.int t)]) (ds := ds) (x := cell % 60) rfl (by
        simp -implicitDefEqProofs only [e_c2, e_c1, e_cV, e_cC, List.getElem?_cons_zero, List.getElem?_cons_succ, Option.bind_some, intD_int, md]) rfl (by omega)
      have hd : decide (0 < cell) = true := decide_eq_true h
      have step : (gN 5 (.int t) [S, owI ds, .fr (.int place), .fr (.int cell), s4, s5]).bind divB = some (.nx, [S, owI (ds ++ [cell % 60]), .fr (.int place), .fr (.int (cell / 60)), s4, .fr (.int t)]) := by
        show divB [S, owI ds, .fr (.int place), .fr (.int cell), s4, .fr (.int t)] = _
        unfold divB
        have e3 : [S, owI ds, .fr (.int place), .fr (.int cell), s4, .fr (.int t)].set 1 (owI (ds ++ [cell % 60])) = [S, owI (ds ++ [cell % 60]), .fr (.int place), .fr (.int cell), s4, .fr (.int t)] := rfl
        rw [e3] at e2
        simp -implicitDefEqProofs only [e_cIfS, e_cT, e_c2, e_cV, e_cC, List.getElem?_cons_zero, List.getElem?_cons_succ, Option.bind_some, e_gt, hd, e_toB, if_true]
        rw [e_cSeq, e2, Option.bind_some]
        simp -implicitDefEqProofs only [e_cSet, e_c2, e_cV, e_cC, List.getElem?_cons_zero, List.getElem?_cons_succ, Option.bind_some, fd, List.set_cons_zero, List.set_cons_succ]
      rw [List.map_cons, e_forB, step]
      exact r
    · obtain ⟨ds', c', s5', r, r2⟩ := p_div40 S place s4 turns ds cell (.fr (.int t)) (by omega)
      refine ⟨ds', c', s5', ?_, by rw [List.length_cons]; omega⟩
      have hd : decide (0 < cell) = false := decide_eq_false h
      have step : (gN 5 (.int t) [S, owI ds, .fr (.int place), .fr (.int cell), s4, s5]).bind divB = some (.nx, [S, owI ds, .fr (.int place), .fr (.int cell), s4, .fr (.int t)]) := by
        show divB [S, owI ds, .fr (.int place), .fr (.int cell), s4, .fr (.int t)] = _
        unfold divB
        simp -implicitDefEqProofs only [e_cIfS, e_cT, e_c2, e_cV, e_cC, List.getElem?_cons_zero, List.getElem?_cons_succ, Option.bind_some, e_gt, hd, e_toB, Bool.false_eq_true, if_false, e_cNx]
      rw [List.map_cons, e_forB, step]
      exact r
end K09
namespace K09
open PySem PySem.Spec PyProof.Rows L2 Ov
abbrev drawB : Es := (cSeq (cSet 3 (c1 intD (c2 ixD (cV 0) (cV 2))))
  (cSeq (cIfS (cT (c2 ltD (cV 3) (cC (.int 0)))) (cSet 3 (c2 subD (cC (.int 7)) (c2 mulD (cC (.int 2)) (cV 3)))) cNx)
  (cIfS (cT (c2 ltD (cV 3) (c2 powD (cC (.int 10)) (cC (.int 18))))) (cSeq (cSet 4 (c2 modD (c1 intD (c2 addD (c2 addD (c2 mulD (cV 3) (cC (.int 40014))) (c2 mulD (cC (.int 5003)) (cV 2))) (cC (.int 17)))) (cC (.int 2147483563))))
  (cFor (iRg1 (cC (.int 5))) (gN 5) (cSeq (cSet 4 mixE) (cApp 1 (cV 4))))) (cFor (iRg1 (cC (.int 40))) (gN 5) divB))))
theorem rg_ints (n : Nat) (h : n ≤ 1000) (ρ : List Sl) : iRg1 (cC (.int (n : Nat))) ρ = some ((rgI 0 n).map D.int, ρ) := by
  have hg : decide (-4611686018427387904 ≤ (n : Int) ∧ (n : Int) ≤ 16777216) = true := decide_eq_true (by omega)
  have e : rgL 0 (n : Int) = (rgI 0 n).map D.int := by
    unfold rgL rgI
    rw [List.map_map]
    rfl
  rw [e_iRg1, e_cC, Option.bind_some, e_toI, Option.bind_some, if_pos hg, e]
theorem rgI_len (n : Nat) : (rgI 0 (n : Int)).length = n := by
  unfold rgI
  simp
theorem rgI_mem {n : Nat} {t : Int} (h : t ∈ rgI 0 (n : Int)) : 0 ≤ t ∧ t < n := by
  unfold rgI at h
  obtain ⟨i, hi, rfl⟩ := List.mem_map.mp h
  have := List.mem_range.mp hi
  omega
theorem p_drawB (ns : List Int) (i : Nat) (hi : i < ns.length) (h63 : i ≤ 63) (ds : List Int) (hl : ds.length ≤ 100000) (s2 s3 s4 s5 : Sl) :
    ∃ ds' s3' s4' s5', (gN 2 (.int (i : Nat)) [.fr (.scr ns), owI ds, s2, s3, s4, s5]).bind drawB = some (.nx, [.fr (.scr ns), owI ds', .fr (.int (i : Nat)), s3', s4', s5']) ∧ ds'.length ≤ ds.length + 45 := by
  obtain ⟨c0, hc0⟩ : ∃ c0, ns[i]? = some c0 := ⟨_, List.getElem?_eq_getElem hi⟩
  have ix : ixD (.scr ns) (.int (i : Nat)) = some (.int c0) := by
    show (atI ns (i : Int)).map D.int = _
    unfold atI
    rw [ixN_nat hi]
    show (ns[i]?).map D.int = _
    rw [hc0]
    rfl
  have e0 : gN 2 (.int (i : Nat)) [.fr (.scr ns), owI ds, s2, s3, s4, s5] = some [.fr (.scr ns), owI ds, .fr (.int (i : Nat)), s3, s4, s5] := rfl
  have e1 : cSet 3 (c1 intD (c2 ixD (cV 0) (cV 2))) [.fr (.scr ns), owI ds, .fr (.int (i : Nat)), s3, s4, s5] = some (.nx, [.fr (.scr ns), owI ds, .fr (.int (i : Nat)), .fr (.int c0), s4, s5]) := by
    simp -implicitDefEqProofs only [e_cSet, e_c2, e_c1, e_cV, List.getElem?_cons_zero, List.getElem?_cons_succ, Option.bind_some, ix, intD_int, List.set_cons_zero, List.set_cons_succ]
  have e2 : ∃ c, cIfS (cT (c2 ltD (cV 3) (cC (.int 0)))) (cSet 3 (c2 subD (cC (.int 7)) (c2 mulD (cC (.int 2)) (cV 3)))) cNx [.fr (.scr ns), owI ds, .fr (.int (i : Nat)), .fr (.int c0), s4, s5] = some (.nx, [.fr (.scr ns), owI ds, .fr (.int (i : Nat)), .fr (.int c), s4, s5]) := by
    by_cases h : c0 < 0
    · have hd : decide (c0 < 0) = true := decide_eq_true h
      have m := e_mul (p := 2) (q := c0) (.inl ⟨by omega, by omega⟩)
      exact ⟨7 - 2 * c0, by simp -implicitDefEqProofs only [e_cIfS, e_cT, e_c2, e_cV, e_cC, List.getElem?_cons_zero, List.getElem?_cons_succ, Option.bind_some, e_lt, hd, e_toB, if_true, e_cSet, m, e_sub, List.set_cons_zero, List.set_cons_succ]⟩
    · have hd : decide (c0 < 0) = false := decide_eq_false h
      exact ⟨c0, by simp -implicitDefEqProofs only [e_cIfS, e_cT, e_c2, e_cV, e_cC, List.getElem?_cons_zero, List.getElem?_cons_succ, Option.bind_some, e_lt, hd, e_toB, Bool.false_eq_true, if_false, e_cNx]⟩
  obtain ⟨c, e2⟩ := e2
  have e3 : ∃ ds' s3' s4' s5', cIfS (cT (c2 ltD (cV 3) (c2 powD (cC (.int 10)) (cC (.int 18))))) (cSeq (cSet 4 (c2 modD (c1 intD (c2 addD (c2 addD (c2 mulD (cV 3) (cC (.int 40014))) (c2 mulD (cC (.int 5003)) (cV 2))) (cC (.int 17)))) (cC (.int 2147483563))))
      (cFor (iRg1 (cC (.int 5))) (gN 5) (cSeq (cSet 4 mixE) (cApp 1 (cV 4))))) (cFor (iRg1 (cC (.int 40))) (gN 5) divB) [.fr (.scr ns), owI ds, .fr (.int (i : Nat)), .fr (.int c), s4, s5] = some (.nx, [.fr (.scr ns), owI ds', .fr (.int (i : Nat)), s3', s4', s5']) ∧ ds'.length ≤ ds.length + 45 := by
    have pw : powD (.int 10) (.int 18) = some (.int 1000000000000000000) := by kernel_rfl
    by_cases h : c < 1000000000000000000
    · have hd : decide (c < 1000000000000000000) = true := decide_eq_true h
      have m1 := e_mul (p := c) (q := 40014) (.inr ⟨by omega, by omega⟩)
      have m2 := e_mul (p := 5003) (q := (i : Int)) (.inl ⟨by omega, by omega⟩)
      have md := e_mod (p := c * 40014 + 5003 * (i : Int) + 17) (q := 2147483563) (by omega)
      have b1 := Int.emod_nonneg (c * 40014 + 5003 * (i : Int) + 17) (b := 2147483563) (by omega)
      have b2 := Int.emod_lt_of_pos (c * 40014 + 5003 * (i : Int) + 17) (b := 2147483563) (by omega)
      have l5 := rgI_len 5
      obtain ⟨ds', m', s5', r, r2⟩ := p_mix5 (.fr (.scr ns)) (i : Nat) c ⟨by omega, by omega⟩ (rgI 0 (5 : Nat)) ds ((c * 40014 + 5003 * (i : Int) + 17) % 2147483563) s5 (fun t ht => by have := rgI_mem ht; omega) ⟨b1, by omega⟩ (by omega)
      refine ⟨ds', .fr (.int c), .fr (.int m'), s5', ?_, by omega⟩
      have e4 : cSet 4 (c2 modD (c1 intD (c2 addD (c2 addD (c2 mulD (cV 3) (cC (.int 40014))) (c2 mulD (cC (.int 5003)) (cV 2))) (cC (.int 17)))) (cC (.int 2147483563))) [.fr (.scr ns), owI ds, .fr (.int (i : Nat)), .fr (.int c), s4, s5] = some (.nx, [.fr (.scr ns), owI ds, .fr (.int (i : Nat)), .fr (.int c), .fr (.int ((c * 40014 + 5003 * (i : Int) + 17) % 2147483563)), s5]) := by
        simp -implicitDefEqProofs only [e_cSet, e_c2, e_c1, e_cV, e_cC, List.getElem?_cons_zero, List.getElem?_cons_succ, Option.bind_some, m1, m2, e_add, intD_int, md, List.set_cons_zero, List.set_cons_succ]
      have rg := rg_ints 5 (by omega) [.fr (.scr ns), owI ds, .fr (.int (i : Nat)), .fr (.int c), .fr (.int ((c * 40014 + 5003 * (i : Int) + 17) % 2147483563)), s5]
      have tst : cT (c2 ltD (cV 3) (c2 powD (cC (.int 10)) (cC (.int 18)))) [.fr (.scr ns), owI ds, .fr (.int (i : Nat)), .fr (.int c), s4, s5] = some (true, [.fr (.scr ns), owI ds, .fr (.int (i : Nat)), .fr (.int c), s4, s5]) := by
        simp -implicitDefEqProofs only [e_cT, e_c2, e_cV, e_cC, List.getElem?_cons_zero, List.getElem?_cons_succ, Option.bind_some, pw, e_lt, hd, e_toB]
      rw [e_cIfS, tst, Option.bind_some, if_pos rfl, e_cSeq, e4, Option.bind_some]
      show cFor (iRg1 (cC (.int ((5 : Nat) : Int)))) (gN 5) _ _ = _
      rw [e_cFor, rg, Option.bind_some]
      exact r
    · have hd : decide (c < 1000000000000000000) = false := decide_eq_false h
      have l40 := rgI_len 40
      obtain ⟨ds', c', s5', r, r2⟩ := p_div40 (.fr (.scr ns)) (i : Nat) s4 (rgI 0 (40 : Nat)) ds c s5 (by omega)
      refine ⟨ds', .fr (.int c'), s4, s5', ?_, by omega⟩
      have rg := rg_ints 40 (by omega) [.fr (.scr ns), owI ds, .fr (.int (i : Nat)), .fr (.int c), s4, s5]
      have tst : cT (c2 ltD (cV 3) (c2 powD (cC (.int 10)) (cC (.int 18)))) [.fr (.scr ns), owI ds, .fr (.int (i : Nat)), .fr (.int c), s4, s5] = some (false, [.fr (.scr ns), owI ds, .fr (.int (i : Nat)), .fr (.int c), s4, s5]) := by
        simp -implicitDefEqProofs only [e_cT, e_c2, e_cV, e_cC, List.getElem?_cons_zero, List.getElem?_cons_succ, Option.bind_some, pw, e_lt, hd, e_toB]
      rw [e_cIfS, tst, Option.bind_some, if_neg Bool.false_ne_true]
      show cFor (iRg1 (cC (.int ((40 : Nat) : Int)))) (gN 5) _ _ = _
      rw [e_cFor, rg, Option.bind_some]
      exact r
  obtain ⟨ds', s3', s4', s5', e3, hle⟩ := e3
  refine ⟨ds', s3', s4', s5', ?_, hle⟩
  rw [e0, Option.bind_some]
  unfold drawB
  rw [e_cSeq, e1, Option.bind_some]
  show cSeq _ _ _ = _
  rw [e_cSeq, e2, Option.bind_some]
  exact e3
theorem p_draws (ns : List Int) (hn : ns.length ≤ 100000) : ∃ ds : List Int, d__law_draws [.fr (.scr ns)] = some (.ro (.lst (ds.map D.int)), [.no]) := by
  have hm : minD (.int (ns.length : Nat)) (.int 63) = some (.int ((min ns.length 63 : Nat) : Int)) := by
    rw [minD_int]
    congr 2
    split <;> omega
  have hg : decide (-4611686018427387904 ≤ ((min ns.length 63 : Nat) : Int) ∧ ((min ns.length 63 : Nat) : Int) ≤ 16777216) = true := decide_eq_true (by omega)
  have rg := rgL_nat (min ns.length 63)
  obtain ⟨ρ', r, ds, s2, s3, s4, s5, he, _⟩ := forL_inv0 (g := gN 2) (b := drawB) (f := fun i : Nat => D.int (i : Int)) (I := fun pre ρ => ∃ (ds : List Int) (s2 s3 s4 s5 : Sl), ρ = [.fr (.scr ns), owI ds, s2, s3, s4, s5] ∧ ds.length ≤ 45 * pre.length)
    (all := List.range (min ns.length 63)) (ρ := [.fr (.scr ns), owI [], .no, .no, .no, .no]) (fun pre i post ρ e hI => by
      obtain ⟨ds, s2, s3, s4, s5, rfl, hl⟩ := hI
      have hmem : i ∈ List.range (min ns.length 63) := by rw [e]; exact List.mem_append_right _ List.mem_cons_self
      have hi := List.mem_range.mp hmem
      have hpre : pre.length ≤ 63 := by
        have := congrArg List.length e
        rw [List.length_range, List.length_append, List.length_cons] at this
        omega
      obtain ⟨ds', s3', s4', s5', q, q2⟩ := p_drawB ns i (by omega) (by omega) ds (by omega) s2 s3 s4 s5
      exact ⟨_, q, ds', _, s3', s4', s5', rfl, by rw [List.length_append, List.length_singleton]; omega⟩) ⟨[], .no, .no, .no, .no, rfl, Nat.le_refl _⟩
  subst he
  refine ⟨ds.reverse, ?_⟩
  have it : iRg1 (c2 minD (c1 lenD (cV 0)) (cC (.int 63))) [.fr (.scr ns), owI [], .no, .no, .no, .no] = some ((List.range (min ns.length 63)).map fun i : Nat => D.int (i : Int), [.fr (.scr ns), owI [], .no, .no, .no, .no]) := by
    simp -implicitDefEqProofs only [e_iRg1, e_c2, e_c1, e_cV, e_cC, List.getElem?_cons_zero, Option.bind_some, lenD, hm, e_toI, hg, if_true, rg]
  unfold d__law_draws
  rw [e_mkDf]
  unfold c__law_draws
  show ((cSeq (cSetO 1 (cLst aNil)) (cSeq (cFor (iRg1 (c2 minD (c1 lenD (cV 0)) (cC (.int 63)))) (gN 2) drawB) (cRetO (cRev (cV 1))))) _).bind _ = _
  have e1 : cSetO 1 (cLst aNil) ([.fr (.scr ns)] ++ List.replicate 5 .no) = some (.nx, [.fr (.scr ns), owI [], .no, .no, .no, .no]) := rfl
  have rv : (ds.map D.int).reverse = ds.reverse.map D.int := by rw [List.map_reverse]
  rw [e_cSeq, e1, Option.bind_some]
  show ((cSeq _ _) _).bind _ = _
  rw [e_cSeq, e_cFor, it, Option.bind_some, r, Option.bind_some]
  show (cRetO (cRev (cV 1)) _).bind _ = _
  simp -implicitDefEqProofs only [e_cRetO, e_cRev, e_cV, List.getElem?_cons_zero, List.getElem?_cons_succ, Option.bind_some, rv]
  rfl
end K09
namespace K09
open PySem PySem.Spec PyProof.Rows L2 Ov
/-! calls that hand on an own thing first -/
theorem nodup1 (i : Nat) : nodupB [i] = true := rfl
theorem e_call1O {df : Df} {i : Nat} {ρ : List Sl} {d d' v : D} (h : ρ[i]? = some (.ow d)) (hd : df [.ow d] = some (.rt v, [.ow d'])) : cCall 1 df (gOwn i gNil) ρ = some (v, ρ.set i (.ow d')) := by
  have ho : ownS ρ i = some d := by unfold ownS; rw [h]
  simp -implicitDefEqProofs only [e_cCall, e_agO, e_agN, ho, Option.bind_some, argS, Option.map_some, oIx, List.length_cons, List.length_nil]
  rw [if_pos (by rfl), hd]
  rfl
theorem e_call2O {df : Df} {i : Nat} {ρ : List Sl} {d d' v a : D} {ca : Ev} {s : Sl} (h : ρ[i]? = some (.ow d)) (ha : ca ρ = some (a, ρ)) (hd : df [.ow d, .fr a] = some (.rt v, [.ow d', s])) : cCall 2 df (gOwn i (gCons ca gNil)) ρ = some (v, ρ.set i (.ow d')) := by
  have ho : ownS ρ i = some d := by unfold ownS; rw [h]
  simp -implicitDefEqProofs only [e_cCall, e_agO, e_agC, e_agN, ho, ha, Option.bind_some, argS, Option.map_some, oIx, List.length_cons, List.length_nil]
  rw [if_pos (by rfl), hd]
  rfl
theorem e_call3OO {df : Df} {i : Nat} {ρ : List Sl} {d d' v a b : D} {ca cb : Ev} {s s' : Sl} (h : ρ[i]? = some (.ow d)) (ha : ca ρ = some (a, ρ)) (hb : cb ρ = some (b, ρ)) (hd : df [.ow d, .fr a, .fr b] = some (.ro v, [.ow d', s, s'])) :
    cCallO 3 df (gOwn i (gCons ca (gCons cb gNil))) ρ = some (v, ρ.set i (.ow d')) := by
  have ho : ownS ρ i = some d := by unfold ownS; rw [h]
  simp -implicitDefEqProofs only [e_cCallO, e_agO, e_agC, e_agN, ho, ha, hb, Option.bind_some, argS, Option.map_some, oIx, List.length_cons, List.length_nil]
  rw [if_pos (by rfl), hd]
  rfl
theorem e_call2P {df : Df} {ρ ρ1 ρ2 : List Sl} {v a b : D} {ca cb : Ev} {s s' : Sl} (ha : ca ρ = some (a, ρ1)) (hb : cb ρ1 = some (b, ρ2)) (hd : df [.fr a, .fr b] = some (.ro v, [s, s'])) :
    cCallO 2 df (gCons ca (gCons cb gNil)) ρ = some (v, ρ2) := by
  simp -implicitDefEqProofs only [e_cCallO, e_agC, e_agN, ha, hb, Option.bind_some, argS, Option.map_some, oIx, List.length_cons, List.length_nil]
  rw [if_pos (by rfl), hd]
  rfl
theorem e_call2 {df : Df} {ρ : List Sl} {v a b : D} {ca cb : Ev} {s s' : Sl} (ha : ca ρ = some (a, ρ)) (hb : cb ρ = some (b, ρ)) (hd : df [.fr a, .fr b] = some (.rt v, [s, s'])) :
    cCall 2 df (gCons ca (gCons cb gNil)) ρ = some (v, ρ) := by
  simp -implicitDefEqProofs only [e_cCall, e_agC, e_agN, ha, hb, Option.bind_some, argS, Option.map_some, oIx, List.length_cons, List.length_nil]
  rw [if_pos (by rfl), hd]
  rfl
theorem p_number (ds : List Int) : ∃ v ds', d__law_number [owI ds] = some (.rt (.int v), [owI ds']) := by
  obtain ⟨v, ds1, h1, b1, b2⟩ := e_take (i := 0) (ce := cC (.int 12)) (ρ := [owI ds, .no]) (ds := ds) (b := 12) rfl rfl (by omega)
  obtain ⟨u, ds2, h2, c1, c2⟩ := e_take (i := 0) (ce := cC (.int 40)) (ρ := [owI ds1, .fr (.int (v - 5))]) (ds := ds1) (b := 40) rfl rfl (by omega)
  have pw : powD (.int 10) (.int 12) = some (.int 1000000000000) := by kernel_rfl
  have m := e_mul (p := v - 5) (q := 1000000000000) (.inr ⟨by omega, by omega⟩)
  have e1 : cSet 1 (Ov.c2 subD (cCall 2 d__law_take (gOwn 0 (gCons (cC (.int 12)) gNil))) (cC (.int 5))) [owI ds, .no] = some (.nx, [owI ds1, .fr (.int (v - 5))]) := by
    simp -implicitDefEqProofs only [e_cSet, e_c2, e_cC, h1, Option.bind_some, e_sub, List.set_cons_zero, List.set_cons_succ]
  have q := e_eqI u 7
  unfold d__law_number
  rw [e_mkDf]
  unfold c__law_number
  show ∃ z ds', ((cSeq _ _) [owI ds, .no]).bind _ = _
  rw [e_cSeq, e1, Option.bind_some]
  show ∃ z ds', ((cSeq _ _) [owI ds1, .fr (.int (v - 5))]).bind _ = _
  rw [e_cSeq]
  by_cases h : u = 7
  · refine ⟨(v - 5) * 1000000000000, ds2, ?_⟩
    have q' : eqD (.int u) (.int 7) = some (.bl true) := by rw [q, decide_eq_true h]
    simp -implicitDefEqProofs only [e_cIfS, e_cT, e_c2, e_cC, h2, Option.bind_some, List.set_cons_zero, q', e_toB, if_true, e_cSet, e_cV, List.getElem?_cons_zero, List.getElem?_cons_succ, pw, m, List.set_cons_succ, e_cRet]
    rfl
  · refine ⟨v - 5, ds2, ?_⟩
    have q' : eqD (.int u) (.int 7) = some (.bl false) := by rw [q, decide_eq_false h]
    simp -implicitDefEqProofs only [e_cIfS, e_cT, e_c2, e_cC, h2, Option.bind_some, List.set_cons_zero, q', e_toB, Bool.false_eq_true, if_false, e_cNx, e_cV, List.getElem?_cons_zero, List.getElem?_cons_succ, List.set_cons_succ, e_cRet]
    rfl
theorem rg_v (i n : Nat) (h : n ≤ 1000) (ρ : List Sl) (hi : ρ[i]? = some (.fr (.int (n : Nat)))) : iRg1 (cV i) ρ = some ((rgI 0 n).map D.int, ρ) := by
  have hg : decide (-4611686018427387904 ≤ (n : Int) ∧ (n : Int) ≤ 16777216) = true := decide_eq_true (by omega)
  have e : rgL 0 (n : Int) = (rgI 0 n).map D.int := by
    unfold rgL rgI
    rw [List.map_map]
    rfl
  have ev : cV i ρ = some (.int (n : Nat), ρ) := by rw [e_cV, hi]
  rw [e_iRg1, ev, Option.bind_some, e_toI, Option.bind_some, if_pos hg, e]
theorem p_prices (ds : List Int) (w : Nat) (hw : w ≤ 1000) : ∃ (ns ds' : List Int), d__law_prices [owI ds, .fr (.int w)] = some (.rt (.lst (ns.map D.int)), [owI ds', .no]) ∧ ns.length = w := by
  obtain ⟨v, ds1, h1, b1, b2⟩ := e_take (i := 0) (ce := cC (.int 3)) (ρ := [owI ds, .fr (.int w), .no, .no]) (ds := ds) (b := 3) rfl rfl (by omega)
  have e1 : cSet 2 (cCall 2 d__law_take (gOwn 0 (gCons (cC (.int 3)) gNil))) [owI ds, .fr (.int w), .no, .no] = some (.nx, [owI ds1, .fr (.int w), .fr (.int v), .no]) := by
    rw [e_cSet, h1]
    rfl
  have q := e_eqI v 0
  have it := rg_v 1 w hw [owI ds1, .fr (.int w), .fr (.int v), .no] rfl
  have ln := rgI_len w
  have l1 := lcG_inv (vs := [3]) (g := gN 3) (st := stE cYes (cCall 2 d__law_take (gOwn 0 (gCons (cC (.int 3)) gNil)))) (f := D.int) (h := D.int) (P := fun _ => True) (I := fun ρ => ∃ ds, ρ = [owI ds, .fr (.int w), .fr (.int v), .no]) (xs := rgI 0 w) (ρ := [owI ds1, .fr (.int w), .fr (.int v), .no])
    (fun x ρ _ hI => by
      obtain ⟨ds, rfl⟩ := hI
      obtain ⟨u, ds2, h2, _⟩ := e_take (i := 0) (ce := cC (.int 3)) (ρ := [owI ds, .fr (.int w), .fr (.int v), .fr (.int x)]) (ds := ds) (b := 3) rfl rfl (by omega)
      refine ⟨u, [owI ds2, .fr (.int w), .fr (.int v), .fr (.int x)], ?_, trivial, ds2, rfl⟩
      simp -implicitDefEqProofs only [e_gN, List.set_cons_zero, List.set_cons_succ, Option.bind_some, e_stE, e_cYes, if_true, h2]) ⟨ds1, rfl⟩
  have l2 := lcG_inv (vs := [3]) (g := gN 3) (st := stE cYes (cCall 1 d__law_number (gOwn 0 gNil))) (f := D.int) (h := D.int) (P := fun _ => True) (I := fun ρ => ∃ ds, ρ = [owI ds, .fr (.int w), .fr (.int v), .no]) (xs := rgI 0 w) (ρ := [owI ds1, .fr (.int w), .fr (.int v), .no])
    (fun x ρ _ hI => by
      obtain ⟨ds, rfl⟩ := hI
      obtain ⟨u, ds2, h2⟩ := p_number ds
      have h3 := e_call1O (df := d__law_number) (i := 0) (ρ := [owI ds, .fr (.int w), .fr (.int v), .fr (.int x)]) rfl h2
      refine ⟨u, [owI ds2, .fr (.int w), .fr (.int v), .fr (.int x)], ?_, trivial, ds2, rfl⟩
      simp -implicitDefEqProofs only [e_gN, List.set_cons_zero, List.set_cons_succ, Option.bind_some, e_stE, e_cYes, if_true, h3]) ⟨ds1, rfl⟩
  obtain ⟨y1, _, r1, n1, _, d1, rfl⟩ := l1
  obtain ⟨y2, _, r2, n2, _, d2, rfl⟩ := l2
  unfold d__law_prices
  rw [e_mkDf]
  unfold c__law_prices
  show ∃ ns ds', ((cSeq _ _) [owI ds, .fr (.int w), .no, .no]).bind _ = _ ∧ _
  rw [e_cSeq, e1, Option.bind_some]
  show ∃ ns ds', ((cSeq _ _) [owI ds1, .fr (.int w), .fr (.int v), .no]).bind _ = _ ∧ _
  rw [e_cSeq]
  by_cases h : v = 0
  · refine ⟨y1, d1, ?_, by rw [n1, ln]⟩
    have q' : eqD (.int v) (.int 0) = some (.bl true) := by rw [q, decide_eq_true h]
    simp -implicitDefEqProofs only [e_cIfS, e_cT, e_c2, e_cC, Option.bind_some, q', e_toB, if_true, e_cV, List.getElem?_cons_zero, List.getElem?_cons_succ, e_cRet, e_cLc, it, wipR, List.set_cons_zero, List.set_cons_succ, r1]
    rfl
  · refine ⟨y2, d2, ?_, by rw [n2, ln]⟩
    have q' : eqD (.int v) (.int 0) = some (.bl false) := by rw [q, decide_eq_false h]
    simp -implicitDefEqProofs only [e_cIfS, e_cT, e_c2, e_cC, Option.bind_some, q', e_toB, Bool.false_eq_true, if_false, e_cNx, e_cV, List.getElem?_cons_zero, List.getElem?_cons_succ, e_cRet, e_cLc, it, wipR, List.set_cons_zero, List.set_cons_succ, r2]
    rfl
theorem p_lot (ds : List Int) (w : Nat) (hw : w ≤ 1000) : ∃ (ns ds' : List Int), d__law_lot [owI ds, .fr (.int w)] = some (.rt (.tup (ns.map D.int)), [owI ds', .no]) := by
  have it := rg_v 1 w hw [owI ds, .fr (.int w), .no] rfl
  have l1 := lcG_invO (vs := [2]) (g := gN 2) (st := stE (cT (c2 eqD (cCall 2 d__law_take (gOwn 0 (gCons (cC (.int 2)) gNil))) (cC (.int 1)))) (cV 2)) (f := D.int) (h := D.int) (P := fun _ => True) (I := fun ρ => ∃ ds, ρ = [owI ds, .fr (.int w), .no]) (xs := rgI 0 w) (ρ := [owI ds, .fr (.int w), .no])
    (fun x ρ _ hI => by
      obtain ⟨ds, rfl⟩ := hI
      obtain ⟨u, ds2, h2, _⟩ := e_take (i := 0) (ce := cC (.int 2)) (ρ := [owI ds, .fr (.int w), .fr (.int x)]) (ds := ds) (b := 2) rfl rfl (by omega)
      have q := e_eqI u 1
      by_cases h : u = 1
      · refine ⟨some x, [owI ds2, .fr (.int w), .fr (.int x)], ?_, fun _ _ => trivial, ds2, rfl⟩
        have q' : eqD (.int u) (.int 1) = some (.bl true) := by rw [q, decide_eq_true h]
        simp -implicitDefEqProofs only [e_gN, List.set_cons_zero, List.set_cons_succ, Option.bind_some, e_stE, e_cT, e_c2, h2, e_cC, q', e_toB, if_true, e_cV, List.getElem?_cons_zero, List.getElem?_cons_succ]
        rfl
      · refine ⟨none, [owI ds2, .fr (.int w), .fr (.int x)], ?_, fun _ _ => trivial, ds2, rfl⟩
        have q' : eqD (.int u) (.int 1) = some (.bl false) := by rw [q, decide_eq_false h]
        simp -implicitDefEqProofs only [e_gN, List.set_cons_zero, List.set_cons_succ, Option.bind_some, e_stE, e_cT, e_c2, h2, e_cC, q', e_toB, Bool.false_eq_true, if_false]
        rfl) ⟨ds, rfl⟩
  obtain ⟨y1, _, r1, n1, _, d1, rfl⟩ := l1
  refine ⟨y1, d1, ?_⟩
  unfold d__law_lot
  rw [e_mkDf]
  unfold c__law_lot
  simp -implicitDefEqProofs only [e_cRet, e_c1, e_cLc, List.replicate, List.cons_append, List.nil_append, it, Option.bind_some, wipR, List.set_cons_zero, List.set_cons_succ, r1, tupleD]
  rfl
end K09
namespace K09
open PySem PySem.Spec PyProof.Rows L2 Ov
def bk (ls : List (List Int)) (p : List Int → Int) : D := .dT (ls.map fun l => (l, .int (p l)))
theorem keyOf_lot (k : List Int) : keyOf (Ov.tI k) = some k := keyOf_tI k
theorem put_new {ls : List (List Int)} {p : List Int → Int} {k : List Int} {x : Int} (h : k ∉ ls) (hl : ls.length < 16777216) : putDct (bk ls p) (Ov.tI k) (.int x) = some (bk (ls ++ [k]) fun l => if l = k then x else p l) := by
  show (keyOf (Ov.tI k)).bind _ = _
  rw [keyOf_lot]
  show (if (ls.map fun l => (l, D.int (p l))).length < 16777216 then some (D.dT (putD (ls.map fun l => (l, D.int (p l))) k (.int x))) else none) = _
  rw [if_pos (by rw [List.length_map]; exact hl), putD_new (fun l => D.int (p l)) k (.int x) ls h, map_ext_new (fun l => D.int (p l)) k (.int x) ls h]
  unfold bk
  congr 2
  apply List.map_congr_left
  intro l _
  by_cases q : l = k <;> simp [q]
theorem put_old {ls : List (List Int)} {p : List Int → Int} {k : List Int} {x : Int} (h : k ∈ ls) (hl : ls.length < 16777216) : putDct (bk ls p) (Ov.tI k) (.int x) = some (bk ls fun l => if l = k then x else p l) := by
  show (keyOf (Ov.tI k)).bind _ = _
  rw [keyOf_lot]
  show (if (ls.map fun l => (l, D.int (p l))).length < 16777216 then some (D.dT (putD (ls.map fun l => (l, D.int (p l))) k (.int x))) else none) = _
  rw [if_pos (by rw [List.length_map]; exact hl), putD_old (fun l => D.int (p l)) k (.int x) ls h]
  unfold bk
  congr 2
  apply List.map_congr_left
  intro l _
  by_cases q : l = k <;> simp [q]
theorem e_put {ρ ρ1 ρ2 : List Sl} {i : Nat} {ck cv : Ev} {k v d d' : D} (hv : cv ρ = some (v, ρ1)) (h1 : ∃ d0, ρ1[i]? = some (.ow d0)) (hk : ck ρ1 = some (k, ρ2)) (h2 : ρ2[i]? = some (.ow d)) (hp : putDct d k v = some d') : cPutD i ck cv ρ = some (.nx, ρ2.set i (.ow d')) := by
  obtain ⟨d0, h1⟩ := h1
  have o1 : ownS ρ1 i = some d0 := by unfold ownS; rw [h1]
  have o2 : ownS ρ2 i = some d := by unfold ownS; rw [h2]
  rw [e_cPutD, hv, Option.bind_some, o1, Option.bind_some, hk, Option.bind_some, o2, Option.bind_some, hp]
  rfl
theorem bk_look {ls : List (List Int)} {p : List Int → Int} (k : List Int) : look (ls.map fun l => (l, D.int (p l))) k = if k ∈ ls then some (.int (p k)) else none := look_map (f := fun l => D.int (p l)) k ls
theorem bk_nin {ls : List (List Int)} {p : List Int → Int} (k : List Int) : ninD (Ov.tI k) (bk ls p) = some (.bl (!decide (k ∈ ls))) := by
  have e : inD0 (Ov.tI k) (bk ls p) = (getDct (bk ls p) (Ov.tI k)).map Option.isSome := rfl
  have g : getDct (bk ls p) (Ov.tI k) = (keyOf (Ov.tI k)).map (look (ls.map fun l => (l, D.int (p l)))) := rfl
  unfold ninD
  rw [e, g, keyOf_lot, Option.map_some, bk_look]
  by_cases h : k ∈ ls <;> simp [h]
theorem bk_in {ls : List (List Int)} {p : List Int → Int} (k : List Int) : inD (Ov.tI k) (bk ls p) = some (.bl (decide (k ∈ ls))) := by
  have e : inD0 (Ov.tI k) (bk ls p) = (getDct (bk ls p) (Ov.tI k)).map Option.isSome := rfl
  have g : getDct (bk ls p) (Ov.tI k) = (keyOf (Ov.tI k)).map (look (ls.map fun l => (l, D.int (p l)))) := rfl
  unfold inD
  rw [e, g, keyOf_lot, Option.map_some, bk_look]
  by_cases h : k ∈ ls <;> simp [h]
theorem bk_ix {ls : List (List Int)} {p : List Int → Int} {k : List Int} (h : k ∈ ls) : ixD (bk ls p) (Ov.tI k) = some (.int (p k)) := by
  have e : ixD (bk ls p) (Ov.tI k) = (getDct (bk ls p) (Ov.tI k)).bind fun o => o := rfl
  have g : getDct (bk ls p) (Ov.tI k) = (keyOf (Ov.tI k)).map (look (ls.map fun l => (l, D.int (p l)))) := rfl
  rw [e, g, keyOf_lot, Option.map_some, bk_look, if_pos h]
  rfl
/-- closed: the lots of w things, size d -/
structure ClL (w d : Nat) : Prop where
  lots : d__law_lots [.fr (.int w), .fr (.int d)] = some (.rt (.lst ((L w d).map fun l => Ov.tI l)), [.no, .no])
  nodup : (L w d).Nodup
  lt : (L w d).all (fun l => l.all fun e => decide (0 ≤ e ∧ e < w)) = true
  len : (L w d).all (fun l => decide (l.length = d)) = true
  cnt : (L w d).length ≤ 1000
  pos : 0 < (L w d).length
  d7 : d ≤ 7
  w7 : w ≤ 7
theorem ClL.mem {w d : Nat} (h : ClL w d) {l : List Int} (hl : l ∈ L w d) : l.length = d ∧ ∀ e ∈ l, 0 ≤ e ∧ e < w :=
  ⟨of_decide_eq_true (List.all_eq_true.mp h.len l hl), fun e he => of_decide_eq_true (List.all_eq_true.mp (List.all_eq_true.mp h.lt l hl) e he)⟩
theorem ClL.it {w d : Nat} (h : ClL w d) {ρ : List Sl} {ca cb : Ev} (ha : ca ρ = some (.int w, ρ)) (hb : cb ρ = some (.int d, ρ)) : iSeq (cCall 2 d__law_lots (gCons ca (gCons cb gNil))) ρ = some ((L w d).map fun l => Ov.tI l, ρ) := by
  rw [e_iSeq, e_call2 ha hb h.lots]
  rfl
theorem pre_new {α : Type} {all pre post : List α} {x : α} (h : all = pre ++ x :: post) (n : all.Nodup) : x ∉ pre := by
  rw [h] at n
  intro hx
  have := (List.nodup_append.mp n).2.2
  exact this x hx x List.mem_cons_self rfl
theorem pre_len {α : Type} {all pre post : List α} {x : α} (h : all = pre ++ x :: post) : pre.length < all.length := by
  rw [h, List.length_append, List.length_cons]
  omega
abbrev cntB : Es := (cSeq (cSet 8 (c1 lenD (cLc [9] (iSeq (cV 7)) (gN 9) (cT (c2 inD (cV 9) (cV 3))) (cV 9))))
  (cPutD 6 (cV 7) (c2 subD (c2 mulD (cV 8) (cV 4)) (c2 mulD (c2 mulD (cV 5) (cV 8)) (cV 8)))))
theorem p_cntB (S : Sl) (w d : Sl) (part : List Int) (step bend : Int) (hs : 0 ≤ step ∧ step < 4) (hb : 0 ≤ bend ∧ bend < 4) (ls : List (List Int)) (p : List Int → Int) (l : List Int) (hl : l.length ≤ 100) (hn : l ∉ ls) (hc : ls.length < 16777216) (s7 s8 : Sl) :
    ∃ p' s8', (gN 7 (Ov.tI l) [S, w, d, .fr (Ov.tI part), .fr (.int step), .fr (.int bend), .ow (bk ls p), s7, s8, .no]).bind cntB = some (.nx, [S, w, d, .fr (Ov.tI part), .fr (.int step), .fr (.int bend), .ow (bk (ls ++ [l]) p'), .fr (Ov.tI l), s8', .no]) := by
  have e0 : gN 7 (Ov.tI l) [S, w, d, .fr (Ov.tI part), .fr (.int step), .fr (.int bend), .ow (bk ls p), s7, s8, .no] = some [S, w, d, .fr (Ov.tI part), .fr (.int step), .fr (.int bend), .ow (bk ls p), .fr (Ov.tI l), s8, .no] := rfl
  have hc2 := lcG_pure (vs := [9]) (g := gN 9) (st := stE (cT (c2 inD (cV 9) (cV 3))) (cV 9)) (f := D.int) (o := fun e => if (part.contains e) = true then [D.int e] else []) (ρ := [S, w, d, .fr (Ov.tI part), .fr (.int step), .fr (.int bend), .ow (bk ls p), .fr (Ov.tI l), s8, .no]) (xs := l) fun e _ => by
    have q := k_in e part
    refine ⟨[S, w, d, .fr (Ov.tI part), .fr (.int step), .fr (.int bend), .ow (bk ls p), .fr (Ov.tI l), s8, .fr (.int e)], ?_, rfl⟩
    cases hx : part.contains e
    · rw [hx] at q
      simp -implicitDefEqProofs only [e_gN, e_stE, e_cT, e_c2, e_cV, List.set_cons_zero, List.set_cons_succ, List.getElem?_cons_zero, List.getElem?_cons_succ, Option.bind_some, q, e_toB, Bool.false_eq_true, if_false]
    · rw [hx] at q
      simp -implicitDefEqProofs only [e_gN, e_stE, e_cT, e_c2, e_cV, List.set_cons_zero, List.set_cons_succ, List.getElem?_cons_zero, List.getElem?_cons_succ, Option.bind_some, q, e_toB, if_true]
  rw [flat_intF (c := fun e => part.contains e)] at hc2
  have hlen := k_len (l.filter fun e => part.contains e)
  have hle := List.length_filter_le (fun e => part.contains e) l
  generalize hm : (l.filter fun e => part.contains e).length = m at *
  have m1 := e_mul (p := (m : Int)) (q := step) (.inr ⟨by omega, by omega⟩)
  have m2 := e_mul (p := bend) (q := (m : Int)) (.inl ⟨by omega, by omega⟩)
  have m3 := e_mul (p := bend * (m : Int)) (q := (m : Int)) (.inr ⟨by omega, by omega⟩)
  have e1 : cSet 8 (c1 lenD (cLc [9] (iSeq (cV 7)) (gN 9) (cT (c2 inD (cV 9) (cV 3))) (cV 9))) [S, w, d, .fr (Ov.tI part), .fr (.int step), .fr (.int bend), .ow (bk ls p), .fr (Ov.tI l), s8, .no] =
      some (.nx, [S, w, d, .fr (Ov.tI part), .fr (.int step), .fr (.int bend), .ow (bk ls p), .fr (Ov.tI l), .fr (.int (m : Nat)), .no]) := by
    have it : iSeq (cV 7) [S, w, d, .fr (Ov.tI part), .fr (.int step), .fr (.int bend), .ow (bk ls p), .fr (Ov.tI l), s8, .no] = some (l.map D.int, [S, w, d, .fr (Ov.tI part), .fr (.int step), .fr (.int bend), .ow (bk ls p), .fr (Ov.tI l), s8, .no]) := rfl
    simp -implicitDefEqProofs only [e_cSet, e_c1, e_cLc, it, Option.bind_some, wipR, List.set_cons_zero, List.set_cons_succ, hc2, hlen, restR, List.getElem?_cons_zero, List.getElem?_cons_succ]
  refine ⟨fun k => if k = l then (m : Int) * step - bend * (m : Int) * (m : Int) else p k, .fr (.int (m : Nat)), ?_⟩
  rw [e0, Option.bind_some]
  unfold cntB
  rw [e_cSeq, e1, Option.bind_some]
  refine (e_put (k := Ov.tI l) (v := .int ((m : Int) * step - bend * (m : Int) * (m : Int))) (d := bk ls p) (ρ1 := [S, w, d, .fr (Ov.tI part), .fr (.int step), .fr (.int bend), .ow (bk ls p), .fr (Ov.tI l), .fr (.int (m : Nat)), .no]) (ρ2 := [S, w, d, .fr (Ov.tI part), .fr (.int step), .fr (.int bend), .ow (bk ls p), .fr (Ov.tI l), .fr (.int (m : Nat)), .no]) ?_ ⟨_, rfl⟩ rfl rfl (put_new hn hc)).trans ?_
  · simp -implicitDefEqProofs only [e_c2, e_cV, List.getElem?_cons_zero, List.getElem?_cons_succ, Option.bind_some, m1, m2, m3, e_sub]
  · rfl
theorem p_counted {w d : Nat} (h : ClL w d) (ds : List Int) : ∃ p ds', d__law_counted [owI ds, .fr (.int w), .fr (.int d)] = some (.ro (bk (L w d) p), [owI ds', .no, .no]) := by
  obtain ⟨part, ds1, h1⟩ := p_lot ds w (by have := h.w7; omega)
  have c1 := e_call2O (df := d__law_lot) (i := 0) (ca := cV 1) (ρ := [owI ds, .fr (.int w), .fr (.int d), .no, .no, .no, .no, .no, .no, .no]) rfl rfl h1
  obtain ⟨step, ds2, h2, b1, b2⟩ := e_take (i := 0) (ce := cC (.int 4)) (ρ := [owI ds1, .fr (.int w), .fr (.int d), .fr (Ov.tI part), .no, .no, .no, .no, .no, .no]) (ds := ds1) (b := 4) rfl rfl (by omega)
  obtain ⟨bend, ds3, h3, b3, b4⟩ := e_take (i := 0) (ce := cC (.int 4)) (ρ := [owI ds2, .fr (.int w), .fr (.int d), .fr (Ov.tI part), .fr (.int step), .no, .no, .no, .no, .no]) (ds := ds2) (b := 4) rfl rfl (by omega)
  obtain ⟨ρ', r, p, s7, s8, hI⟩ := forL_inv0 (g := gN 7) (b := cntB) (f := fun l : List Int => Ov.tI l) (I := fun pre ρ => ∃ p s7 s8, ρ = [owI ds3, .fr (.int w), .fr (.int d), .fr (Ov.tI part), .fr (.int step), .fr (.int bend), .ow (bk pre p), s7, s8, .no]) (all := L w d)
    (ρ := [owI ds3, .fr (.int w), .fr (.int d), .fr (Ov.tI part), .fr (.int step), .fr (.int bend), .ow (bk [] fun _ => 0), .no, .no, .no]) (fun pre l post ρ e hI => by
      obtain ⟨p, s7, s8, rfl⟩ := hI
      have hm : l ∈ L w d := by rw [e]; exact List.mem_append_right _ List.mem_cons_self
      have hlen := (h.mem hm).1
      obtain ⟨p', s8', q⟩ := p_cntB (owI ds3) (.fr (.int w)) (.fr (.int d)) part step bend ⟨b1, b2⟩ ⟨b3, b4⟩ pre p l (by have := h.d7; omega) (pre_new e h.nodup) (by have := pre_len e; have := h.cnt; omega) s7 s8
      exact ⟨_, q, p', _, s8', rfl⟩) ⟨_, _, _, rfl⟩
  subst hI
  refine ⟨p, ds3, ?_⟩
  have it := h.it (ca := cV 1) (cb := cV 2) (ρ := [owI ds3, .fr (.int w), .fr (.int d), .fr (Ov.tI part), .fr (.int step), .fr (.int bend), .ow (bk [] fun _ => 0), .no, .no, .no]) rfl rfl
  unfold d__law_counted
  rw [e_mkDf]
  unfold c__law_counted
  show ((cSeq (cSet 3 _) _) [owI ds, .fr (.int w), .fr (.int d), .no, .no, .no, .no, .no, .no, .no]).bind _ = _
  rw [e_cSeq, e_cSet, c1, Option.bind_some, Option.bind_some]
  show ((cSeq (cSet 4 _) _) [owI ds1, .fr (.int w), .fr (.int d), .fr (Ov.tI part), .no, .no, .no, .no, .no, .no]).bind _ = _
  rw [e_cSeq, e_cSet, h2, Option.bind_some, Option.bind_some]
  show ((cSeq (cSet 5 _) _) [owI ds2, .fr (.int w), .fr (.int d), .fr (Ov.tI part), .fr (.int step), .no, .no, .no, .no, .no]).bind _ = _
  rw [e_cSeq, e_cSet, h3, Option.bind_some, Option.bind_some]
  show ((cSeq _ _) [owI ds3, .fr (.int w), .fr (.int d), .fr (Ov.tI part), .fr (.int step), .fr (.int bend), .ow (bk [] fun _ => 0), .no, .no, .no]).bind _ = _
  rw [e_cSeq, e_cFor, it, Option.bind_some, r, Option.bind_some]
  rfl
theorem p_level {w d : Nat} (h : ClL w d) : ∃ p, d__law_level [.fr (.int w), .fr (.int d)] = some (.ro (bk (L w d) p), [.no, .no]) := by
  obtain ⟨ρ', r, p, s3, hI⟩ := forL_inv0 (g := gN 3) (b := cPutD 2 (cV 3) (cC (.int 0))) (f := fun l : List Int => Ov.tI l) (I := fun pre ρ => ∃ p s3, ρ = [.fr (.int w), .fr (.int d), .ow (bk pre p), s3]) (all := L w d)
    (ρ := [.fr (.int w), .fr (.int d), .ow (bk [] fun _ => 0), .no]) (fun pre l post ρ e hI => by
      obtain ⟨p, s3, rfl⟩ := hI
      refine ⟨[.fr (.int w), .fr (.int d), .ow (bk (pre ++ [l]) fun k => if k = l then 0 else p k), .fr (Ov.tI l)], ?_, _, _, rfl⟩
      show cPutD 2 (cV 3) (cC (.int 0)) [.fr (.int w), .fr (.int d), .ow (bk pre p), .fr (Ov.tI l)] = _
      exact (e_put (k := Ov.tI l) (d := bk pre p) (ρ1 := [.fr (.int w), .fr (.int d), .ow (bk pre p), .fr (Ov.tI l)]) (ρ2 := [.fr (.int w), .fr (.int d), .ow (bk pre p), .fr (Ov.tI l)]) rfl ⟨_, rfl⟩ rfl rfl (put_new (pre_new e h.nodup) (by have := pre_len e; have := h.cnt; omega))).trans rfl) ⟨_, _, rfl⟩
  subst hI
  have it := h.it (ca := cV 0) (cb := cV 1) (ρ := [.fr (.int w), .fr (.int d), .ow (bk [] fun _ => 0), .no]) rfl rfl
  refine ⟨p, ?_⟩
  unfold d__law_level
  rw [e_mkDf]
  unfold c__law_level
  show ((cSeq _ _) [.fr (.int w), .fr (.int d), .ow (bk [] fun _ => 0), .no]).bind _ = _
  rw [e_cSeq, e_cFor, it, Option.bind_some, r, Option.bind_some]
  rfl
theorem k_sum (ns : List Int) : sumD (.lst (ns.map D.int)) = some (.int ns.sum) := by
  show (intsOf _).bind _ = _
  rw [intsOf_map]
  rfl
theorem ix_int {P : List Int} {k : Int} (h0 : 0 ≤ k) (h1 : k < P.length) : ixD (.lst (P.map D.int)) (.int k) = some (.int (P.getD k.toNat 0)) := by
  obtain ⟨n, rfl⟩ := Int.eq_ofNat_of_zero_le h0
  have hn : n < P.length := by omega
  have := ix_lst D.int P n (P.getD n 0) (by rw [List.getD_eq_getElem?_getD, List.getElem?_eq_getElem hn]; rfl)
  exact this
theorem p_moved {w d : Nat} (h : ClL w d) (p : List Int → Int) (ns : List Int) (hn : ns.length = w) : ∃ p', d__law_moved_by [.fr (bk (L w d) p), .fr (.lst (ns.map D.int))] = some (.ro (bk (L w d) p'), [.no, .no]) := by
  obtain ⟨ρ', r, q, s3, hI⟩ := forL_inv0 (g := gN 3) (b := cPutD 2 (cV 3) (c2 addD (c2 ixD (cV 0) (cV 3)) (c1 sumD (cLc [4] (iSeq (cV 3)) (gN 4) cYes (c2 ixD (cV 1) (cV 4)))))) (f := fun l : List Int => Ov.tI l)
    (I := fun pre ρ => ∃ q s3, ρ = [.fr (bk (L w d) p), .fr (.lst (ns.map D.int)), .ow (bk pre q), s3, .no]) (all := L w d)
    (ρ := [.fr (bk (L w d) p), .fr (.lst (ns.map D.int)), .ow (bk [] fun _ => 0), .no, .no]) (fun pre l post ρ e hI => by
      obtain ⟨q, s3, rfl⟩ := hI
      have hm : l ∈ L w d := by rw [e]; exact List.mem_append_right _ List.mem_cons_self
      have hx := bk_ix (p := p) hm
      have hc := lcG_pure (vs := [4]) (g := gN 4) (st := stE cYes (c2 ixD (cV 1) (cV 4))) (f := D.int) (o := fun e => [D.int (ns.getD e.toNat 0)]) (ρ := [.fr (bk (L w d) p), .fr (.lst (ns.map D.int)), .ow (bk pre q), .fr (Ov.tI l), .no]) (xs := l) fun e he => by
        have b := (h.mem hm).2 e he
        have ix := ix_int (P := ns) b.1 (by omega)
        refine ⟨[.fr (bk (L w d) p), .fr (.lst (ns.map D.int)), .ow (bk pre q), .fr (Ov.tI l), .fr (.int e)], ?_, rfl⟩
        simp -implicitDefEqProofs only [e_gN, e_stE, e_cYes, e_c2, e_cV, List.set_cons_zero, List.set_cons_succ, List.getElem?_cons_zero, List.getElem?_cons_succ, Option.bind_some, ix, if_true]
      rw [flat_oneI (f := fun e => ns.getD e.toNat 0)] at hc
      have hs := k_sum (l.map fun e => ns.getD e.toNat 0)
      have it : iSeq (cV 3) [.fr (bk (L w d) p), .fr (.lst (ns.map D.int)), .ow (bk pre q), .fr (Ov.tI l), .no] = some (l.map D.int, [.fr (bk (L w d) p), .fr (.lst (ns.map D.int)), .ow (bk pre q), .fr (Ov.tI l), .no]) := rfl
      refine ⟨[.fr (bk (L w d) p), .fr (.lst (ns.map D.int)), .ow (bk (pre ++ [l]) fun k => if k = l then p l + (l.map fun e => ns.getD e.toNat 0).sum else q k), .fr (Ov.tI l), .no], ?_, _, _, rfl⟩
      show cPutD 2 (cV 3) _ [.fr (bk (L w d) p), .fr (.lst (ns.map D.int)), .ow (bk pre q), .fr (Ov.tI l), .no] = _
      refine (e_put (k := Ov.tI l) (v := .int (p l + (l.map fun e => ns.getD e.toNat 0).sum)) (d := bk pre q) (ρ1 := [.fr (bk (L w d) p), .fr (.lst (ns.map D.int)), .ow (bk pre q), .fr (Ov.tI l), .no]) (ρ2 := [.fr (bk (L w d) p), .fr (.lst (ns.map D.int)), .ow (bk pre q), .fr (Ov.tI l), .no]) ?_ ⟨_, rfl⟩ rfl rfl (put_new (pre_new e h.nodup) (by have := pre_len e; have := h.cnt; omega))).trans rfl
      simp -implicitDefEqProofs only [e_c2, e_c1, e_cV, List.getElem?_cons_zero, List.getElem?_cons_succ, Option.bind_some, hx, e_cLc, it, wipR, List.set_cons_zero, List.set_cons_succ, hc, hs, restR, e_add]) ⟨_, _, rfl⟩
  subst hI
  have kt : keysT ((L w d).map fun l => (l, D.int (p l))) = (L w d).map fun l => Ov.tI l := by
    unfold keysT
    rw [List.map_map]
    rfl
  refine ⟨q, ?_⟩
  unfold d__law_moved_by
  rw [e_mkDf]
  unfold c__law_moved_by
  show ((cSeq (cForD 0 (gN 3) _) _) [.fr (bk (L w d) p), .fr (.lst (ns.map D.int)), .ow (bk [] fun _ => 0), .no, .no]).bind _ = _
  rw [e_cSeq]
  show ((forL _ _ (keysT ((L w d).map fun l => (l, D.int (p l)))) [.fr (bk (L w d) p), .fr (.lst (ns.map D.int)), .ow (bk [] fun _ => 0), .no, .no]).bind _).bind _ = _
  rw [kt, r, Option.bind_some]
  rfl
end K09
namespace K09
open PySem PySem.Spec PyProof.Rows L2 Ov
def perms : Nat → List (List Int)
  | 2 => [[0, 1], [1, 0]]
  | 3 => [[0, 1, 2], [0, 2, 1], [1, 0, 2], [1, 2, 0], [2, 0, 1], [2, 1, 0]]
  | _ => []
theorem k_orders {d : Nat} (h : d = 2 ∨ d = 3) : d__law_orders [.fr (.int (d : Nat))] = some (.rt (.lst ((perms d).map fun l => Ov.tI l)), [.no]) ∧ (∀ t ∈ perms d, t.length = d ∧ ∀ e ∈ t, 0 ≤ e ∧ e < d) ∧ perms d ≠ [] := by
  rcases h with rfl | rfl
  · exact ⟨by kernel_rfl, by decide +kernel, by decide⟩
  · exact ⟨by kernel_rfl, by decide +kernel, by decide⟩
theorem k_noNon : ∀ xs : List Int, ninD .non (.lst (xs.map D.int)) = some (.bl true) := fun xs => by
  have e : inD0 .non (.lst (xs.map D.int)) = (flat .non).bind fun v => (flats (xs.map D.int)).bind fun vs => some (inV v vs) := rfl
  have h : ∀ xs : List Int, inV .non (xs.map V.int) = false := fun xs => by
    induction xs with
    | nil => rfl
    | cons x xs ih =>
      unfold inV at ih ⊢
      rw [List.map_cons, List.any_cons, ih]
      rfl
  unfold ninD
  rw [e, flats_ints]
  show (some (inV .non (xs.map V.int))).map _ = _
  rw [h]
  rfl
def rowsD (rows : List (List Int)) : D := .lst (rows.map fun r => .lst (r.map D.int))
abbrev placeB : Es := (cSeq (cSet 7 (cLc [9] (iRg1 (cV 2)) (gN 9) cYes (c2 ixD (c2 ixD (cV 0) (c2 ixD (cV 6) (cV 9))) (c2 ixD (cV 5) (cV 9)))))
  (cIfS (cT (c2 ninD (cC .non) (cV 7))) (cSeq (cSet 8 (c1 sumD (cV 7)))
  (cIfS (cOr (cT (cB2 4 ninD (cV 5))) (cT (c2 ltD (cB1 4 ixD (cV 5)) (cV 8)))) (cPutD 4 (cV 5) (cV 8)) cNx)) cNx))
/-- one turn at one lot: behind it the lot is in the book -/
theorem p_placeB {rows : List (List Int)} {w d : Nat} (hd : d ≤ 7) (hr : rows.length = d) (hw : ∀ r ∈ rows, r.length = w) {l t : List Int} (hl : l.length = d) (hl2 : ∀ e ∈ l, 0 ≤ e ∧ e < w) (ht : t.length = d) (ht2 : ∀ e ∈ t, 0 ≤ e ∧ e < d)
    {pre ls : List (List Int)} (hn : l ∉ pre) (hls : ls = pre ∨ ls = pre ++ [l]) (hc : pre.length < 10000) (p : List Int → Int) (O W s6 s7 s8 : Sl) :
    ∃ p' s7' s8', (gN 6 (Ov.tI t) [.fr (rowsD rows), W, .fr (.int d), O, .ow (bk ls p), .fr (Ov.tI l), s6, s7, s8, .no]).bind placeB = some (.nx, [.fr (rowsD rows), W, .fr (.int d), O, .ow (bk (pre ++ [l]) p'), .fr (Ov.tI l), .fr (Ov.tI t), s7', s8', .no]) := by
  have e0 : gN 6 (Ov.tI t) [.fr (rowsD rows), W, .fr (.int d), O, .ow (bk ls p), .fr (Ov.tI l), s6, s7, s8, .no] = some [.fr (rowsD rows), W, .fr (.int d), O, .ow (bk ls p), .fr (Ov.tI l), .fr (Ov.tI t), s7, s8, .no] := rfl
  have it := rg_v 2 d (by omega) [.fr (rowsD rows), W, .fr (.int d), O, .ow (bk ls p), .fr (Ov.tI l), .fr (Ov.tI t), s7, s8, .no] rfl
  obtain ⟨vs, ρv, r1, _, _, hI⟩ := lcG_inv (vs := [9]) (g := gN 9) (st := stE cYes (c2 ixD (c2 ixD (cV 0) (c2 ixD (cV 6) (cV 9))) (c2 ixD (cV 5) (cV 9)))) (f := D.int) (h := D.int) (P := fun _ => True)
    (I := fun ρ => ρ = [.fr (rowsD rows), W, .fr (.int d), O, .ow (bk ls p), .fr (Ov.tI l), .fr (Ov.tI t), s7, s8, .no]) (xs := rgI 0 d) (ρ := [.fr (rowsD rows), W, .fr (.int d), O, .ow (bk ls p), .fr (Ov.tI l), .fr (Ov.tI t), s7, s8, .no])
    (fun x ρ hx hI => by
      subst hI
      have bx := rgI_mem hx
      obtain ⟨n, rfl⟩ := Int.eq_ofNat_of_zero_le bx.1
      have hn' : n < d := by omega
      obtain ⟨tn, q1⟩ : ∃ tn, t[n]? = some tn := ⟨_, List.getElem?_eq_getElem (by omega)⟩
      obtain ⟨ln, q2⟩ : ∃ ln, l[n]? = some ln := ⟨_, List.getElem?_eq_getElem (by omega)⟩
      have b1 := ht2 tn (List.mem_of_getElem? q1)
      have b2 := hl2 ln (List.mem_of_getElem? q2)
      obtain ⟨tm, rfl⟩ := Int.eq_ofNat_of_zero_le b1.1
      obtain ⟨lm, rfl⟩ := Int.eq_ofNat_of_zero_le b2.1
      obtain ⟨row, q3⟩ : ∃ row, rows[tm]? = some row := ⟨_, List.getElem?_eq_getElem (by omega)⟩
      have hrow := hw row (List.mem_of_getElem? q3)
      obtain ⟨y, q4⟩ : ∃ y, row[lm]? = some y := ⟨_, List.getElem?_eq_getElem (by omega)⟩
      have i1 := ix_tup D.int t n _ q1
      have i2 := ix_tup D.int l n _ q2
      have i3 := ix_lst (fun r : List Int => D.lst (r.map D.int)) rows tm _ q3
      have i4 := ix_lst D.int row lm _ q4
      have i1' : ixD (Ov.tI t) (.int (n : Nat)) = some (.int (tm : Nat)) := i1
      have i2' : ixD (Ov.tI l) (.int (n : Nat)) = some (.int (lm : Nat)) := i2
      have i3' : ixD (rowsD rows) (.int (tm : Nat)) = some (.lst (row.map D.int)) := i3
      refine ⟨y, [.fr (rowsD rows), W, .fr (.int d), O, .ow (bk ls p), .fr (Ov.tI l), .fr (Ov.tI t), s7, s8, .fr (.int (n : Nat))], ?_, trivial, rfl⟩
      simp -implicitDefEqProofs only [e_gN, e_stE, e_cYes, e_c2, e_cV, List.set_cons_zero, List.set_cons_succ, List.getElem?_cons_zero, List.getElem?_cons_succ, Option.bind_some, i1', i2', i3', i4, if_true]) rfl
  subst hI
  have nn := k_noNon vs
  have ks := k_sum vs
  have e1 : cSet 7 (cLc [9] (iRg1 (cV 2)) (gN 9) cYes (c2 ixD (c2 ixD (cV 0) (c2 ixD (cV 6) (cV 9))) (c2 ixD (cV 5) (cV 9)))) [.fr (rowsD rows), W, .fr (.int d), O, .ow (bk ls p), .fr (Ov.tI l), .fr (Ov.tI t), s7, s8, .no] =
      some (.nx, [.fr (rowsD rows), W, .fr (.int d), O, .ow (bk ls p), .fr (Ov.tI l), .fr (Ov.tI t), .fr (.lst (vs.map D.int)), s8, .no]) := by
    simp -implicitDefEqProofs only [e_cSet, e_cLc, it, Option.bind_some, wipR, List.set_cons_zero, List.set_cons_succ, r1, restR, List.getElem?_cons_zero, List.getElem?_cons_succ]
  have e2 : cSet 8 (c1 sumD (cV 7)) [.fr (rowsD rows), W, .fr (.int d), O, .ow (bk ls p), .fr (Ov.tI l), .fr (Ov.tI t), .fr (.lst (vs.map D.int)), s8, .no] = some (.nx, [.fr (rowsD rows), W, .fr (.int d), O, .ow (bk ls p), .fr (Ov.tI l), .fr (Ov.tI t), .fr (.lst (vs.map D.int)), .fr (.int vs.sum), .no]) := by
    simp -implicitDefEqProofs only [e_cSet, e_c1, e_cV, List.getElem?_cons_zero, List.getElem?_cons_succ, Option.bind_some, ks, List.set_cons_zero, List.set_cons_succ]
  have tst : cT (c2 ninD (cC .non) (cV 7)) [.fr (rowsD rows), W, .fr (.int d), O, .ow (bk ls p), .fr (Ov.tI l), .fr (Ov.tI t), .fr (.lst (vs.map D.int)), s8, .no] = some (true, [.fr (rowsD rows), W, .fr (.int d), O, .ow (bk ls p), .fr (Ov.tI l), .fr (Ov.tI t), .fr (.lst (vs.map D.int)), s8, .no]) := by
    simp -implicitDefEqProofs only [e_cT, e_c2, e_cC, e_cV, List.getElem?_cons_zero, List.getElem?_cons_succ, Option.bind_some, nn, e_toB]
  have fin : ∃ p', cIfS (cOr (cT (cB2 4 ninD (cV 5))) (cT (c2 ltD (cB1 4 ixD (cV 5)) (cV 8)))) (cPutD 4 (cV 5) (cV 8)) cNx [.fr (rowsD rows), W, .fr (.int d), O, .ow (bk ls p), .fr (Ov.tI l), .fr (Ov.tI t), .fr (.lst (vs.map D.int)), .fr (.int vs.sum), .no] =
      some (.nx, [.fr (rowsD rows), W, .fr (.int d), O, .ow (bk (pre ++ [l]) p'), .fr (Ov.tI l), .fr (Ov.tI t), .fr (.lst (vs.map D.int)), .fr (.int vs.sum), .no]) := by
    have n1 := bk_nin (ls := ls) (p := p) l
    rcases hls with rfl | rfl
    · have hh : (!decide (l ∈ ls)) = true := by simp [hn]
      rw [hh] at n1
      have q := e_put (i := 4) (ck := cV 5) (cv := cV 8) (k := Ov.tI l) (v := .int vs.sum) (d := bk ls p) (ρ := [.fr (rowsD rows), W, .fr (.int d), O, .ow (bk ls p), .fr (Ov.tI l), .fr (Ov.tI t), .fr (.lst (vs.map D.int)), .fr (.int vs.sum), .no])
        (ρ1 := [.fr (rowsD rows), W, .fr (.int d), O, .ow (bk ls p), .fr (Ov.tI l), .fr (Ov.tI t), .fr (.lst (vs.map D.int)), .fr (.int vs.sum), .no]) (ρ2 := [.fr (rowsD rows), W, .fr (.int d), O, .ow (bk ls p), .fr (Ov.tI l), .fr (Ov.tI t), .fr (.lst (vs.map D.int)), .fr (.int vs.sum), .no]) rfl ⟨_, rfl⟩ rfl rfl (put_new hn (by omega))
      refine ⟨fun k => if k = l then vs.sum else p k, ?_⟩
      simp -implicitDefEqProofs only [e_cIfS, e_cOr, e_cT, e_cB2, e_cV, getS, List.getElem?_cons_zero, List.getElem?_cons_succ, Option.bind_some, n1, e_toB, if_true, q, List.set_cons_zero, List.set_cons_succ]
    · have hm : l ∈ pre ++ [l] := List.mem_append_right _ List.mem_cons_self
      have hh : (!decide (l ∈ pre ++ [l])) = false := by simp
      rw [hh] at n1
      have ix := bk_ix (p := p) hm
      by_cases hlt : p l < vs.sum
      · have hd2 : decide (p l < vs.sum) = true := decide_eq_true hlt
        have q := e_put (i := 4) (ck := cV 5) (cv := cV 8) (k := Ov.tI l) (v := .int vs.sum) (d := bk (pre ++ [l]) p) (ρ := [.fr (rowsD rows), W, .fr (.int d), O, .ow (bk (pre ++ [l]) p), .fr (Ov.tI l), .fr (Ov.tI t), .fr (.lst (vs.map D.int)), .fr (.int vs.sum), .no])
          (ρ1 := [.fr (rowsD rows), W, .fr (.int d), O, .ow (bk (pre ++ [l]) p), .fr (Ov.tI l), .fr (Ov.tI t), .fr (.lst (vs.map D.int)), .fr (.int vs.sum), .no]) (ρ2 := [.fr (rowsD rows), W, .fr (.int d), O, .ow (bk (pre ++ [l]) p), .fr (Ov.tI l), .fr (Ov.tI t), .fr (.lst (vs.map D.int)), .fr (.int vs.sum), .no]) rfl ⟨_, rfl⟩ rfl rfl (put_old hm (by rw [List.length_append, List.length_singleton]; omega))
        refine ⟨fun k => if k = l then vs.sum else p k, ?_⟩
        simp -implicitDefEqProofs only [e_cIfS, e_cOr, e_cT, e_c2, e_cB1, e_cB2, e_cV, getS, List.getElem?_cons_zero, List.getElem?_cons_succ, Option.bind_some, n1, e_toB, Bool.false_eq_true, if_false, ix, e_lt, hd2, if_true, q, List.set_cons_zero, List.set_cons_succ]
      · have hd2 : decide (p l < vs.sum) = false := decide_eq_false hlt
        refine ⟨p, ?_⟩
        simp -implicitDefEqProofs only [e_cIfS, e_cOr, e_cT, e_c2, e_cB1, e_cB2, e_cV, getS, List.getElem?_cons_zero, List.getElem?_cons_succ, Option.bind_some, n1, e_toB, Bool.false_eq_true, if_false, ix, e_lt, hd2, e_cNx]
  obtain ⟨p', fin⟩ := fin
  refine ⟨p', .fr (.lst (vs.map D.int)), .fr (.int vs.sum), ?_⟩
  rw [e0, Option.bind_some]
  unfold placeB
  rw [e_cSeq, e1, Option.bind_some]
  show cIfS _ _ _ _ = _
  rw [e_cIfS, tst, Option.bind_some, if_pos rfl, e_cSeq, e2, Option.bind_some]
  exact fin
theorem p_placed {w d : Nat} (h : ClL w d) (hd : d = 2 ∨ d = 3) (rows : List (List Int)) (hr : rows.length = d) (hw : ∀ r ∈ rows, r.length = w) : ∃ p, d__law_placed [.fr (rowsD rows), .fr (.int w)] = some (.ro (bk (L w d) p), [.no, .no]) := by
  obtain ⟨k1, k2, k3⟩ := k_orders hd
  have inner : ∀ (pre : List (List Int)) (l : List Int), l ∈ L w d → l ∉ pre → pre.length < 10000 → ∀ (p : List Int → Int) (s6 s7 s8 : Sl), ∃ p' s6' s7' s8', forL (gN 6) placeB ((perms d).map fun t : List Int => Ov.tI t) [.fr (rowsD rows), .fr (.int w), .fr (.int d), .fr (.lst ((perms d).map fun l => Ov.tI l)), .ow (bk pre p), .fr (Ov.tI l), s6, s7, s8, .no] =
      some (.nx, [.fr (rowsD rows), .fr (.int w), .fr (.int d), .fr (.lst ((perms d).map fun l => Ov.tI l)), .ow (bk (pre ++ [l]) p'), .fr (Ov.tI l), s6', s7', s8', .no]) := fun pre l hl hn hc p s6 s7 s8 => by
    obtain ⟨ρ', r, ls, p', s6', s7', s8', hI, e1, e2⟩ := forL_inv0 (g := gN 6) (b := placeB) (f := fun t : List Int => Ov.tI t) (I := fun done ρ => ∃ ls p s6 s7 s8, ρ = [.fr (rowsD rows), .fr (.int w), .fr (.int d), .fr (.lst ((perms d).map fun l => Ov.tI l)), .ow (bk ls p), .fr (Ov.tI l), s6, s7, s8, .no] ∧ (done = [] → ls = pre) ∧ (done ≠ [] → ls = pre ++ [l])) (all := perms d)
      (ρ := [.fr (rowsD rows), .fr (.int w), .fr (.int d), .fr (.lst ((perms d).map fun l => Ov.tI l)), .ow (bk pre p), .fr (Ov.tI l), s6, s7, s8, .no]) (fun done t post ρ e hI => by
        obtain ⟨ls, p, s6, s7, s8, rfl, g1, g2⟩ := hI
        have ht := k2 t (by rw [e]; exact List.mem_append_right _ List.mem_cons_self)
        have hm := h.mem hl
        obtain ⟨p', s7', s8', q⟩ := p_placeB (d := d) h.d7 hr hw hm.1 hm.2 ht.1 ht.2 hn (by
          by_cases z : done = []
          · exact .inl (g1 z)
          · exact .inr (g2 z)) hc p (.fr (.lst ((perms d).map fun l => Ov.tI l))) (.fr (.int w)) s6 s7 s8
        exact ⟨_, q, pre ++ [l], p', _, s7', s8', rfl, fun z => by simp at z, fun _ => rfl⟩) ⟨pre, p, s6, s7, s8, rfl, fun _ => rfl, fun z => absurd rfl z⟩
    have e3 := e2 k3
    subst e3
    subst hI
    exact ⟨p', s6', s7', s8', r⟩
  obtain ⟨ρ', r, p, s5, s6, s7, s8, hI⟩ := forL_inv0 (g := gN 5) (b := cFor (iSeq (cV 3)) (gN 6) placeB) (f := fun l : List Int => Ov.tI l) (I := fun pre ρ => ∃ p s5 s6 s7 s8, ρ = [.fr (rowsD rows), .fr (.int w), .fr (.int d), .fr (.lst ((perms d).map fun l => Ov.tI l)), .ow (bk pre p), s5, s6, s7, s8, .no]) (all := L w d)
    (ρ := [.fr (rowsD rows), .fr (.int w), .fr (.int d), .fr (.lst ((perms d).map fun l => Ov.tI l)), .ow (bk [] fun _ => 0), .no, .no, .no, .no, .no]) (fun pre l post ρ e hI => by
      obtain ⟨p, s5, s6, s7, s8, rfl⟩ := hI
      have hm : l ∈ L w d := by rw [e]; exact List.mem_append_right _ List.mem_cons_self
      obtain ⟨p', s6', s7', s8', q⟩ := inner pre l hm (pre_new e h.nodup) (by have := pre_len e; have := h.cnt; omega) p s6 s7 s8
      refine ⟨_, ?_, p', .fr (Ov.tI l), s6', s7', s8', rfl⟩
      show cFor (iSeq (cV 3)) (gN 6) placeB [.fr (rowsD rows), .fr (.int w), .fr (.int d), .fr (.lst ((perms d).map fun l => Ov.tI l)), .ow (bk pre p), .fr (Ov.tI l), s6, s7, s8, .no] = _
      have it : iSeq (cV 3) [.fr (rowsD rows), .fr (.int w), .fr (.int d), .fr (.lst ((perms d).map fun l => Ov.tI l)), .ow (bk pre p), .fr (Ov.tI l), s6, s7, s8, .no] = some ((perms d).map fun t : List Int => Ov.tI t, [.fr (rowsD rows), .fr (.int w), .fr (.int d), .fr (.lst ((perms d).map fun l => Ov.tI l)), .ow (bk pre p), .fr (Ov.tI l), s6, s7, s8, .no]) := rfl
      rw [e_cFor, it, Option.bind_some]
      exact q) ⟨_, _, _, _, _, rfl⟩
  subst hI
  refine ⟨p, ?_⟩
  have it := h.it (ca := cV 1) (cb := cV 2) (ρ := [.fr (rowsD rows), .fr (.int w), .fr (.int d), .fr (.lst ((perms d).map fun l => Ov.tI l)), .ow (bk [] fun _ => 0), .no, .no, .no, .no, .no]) rfl rfl
  have hl : lenD (rowsD rows) = some (.int (d : Nat)) := by
    show some (D.int ((rows.map fun r => D.lst (r.map D.int)).length : Nat)) = _
    rw [List.length_map, hr]
  have e1 : cSet 2 (c1 lenD (cV 0)) [.fr (rowsD rows), .fr (.int w), .no, .no, .no, .no, .no, .no, .no, .no] = some (.nx, [.fr (rowsD rows), .fr (.int w), .fr (.int (d : Nat)), .no, .no, .no, .no, .no, .no, .no]) := by
    simp -implicitDefEqProofs only [e_cSet, e_c1, e_cV, List.getElem?_cons_zero, Option.bind_some, hl, List.set_cons_zero, List.set_cons_succ]
  have e2 : cSet 3 (cCall 1 d__law_orders (gCons (cV 2) gNil)) [.fr (rowsD rows), .fr (.int w), .fr (.int (d : Nat)), .no, .no, .no, .no, .no, .no, .no] = some (.nx, [.fr (rowsD rows), .fr (.int w), .fr (.int (d : Nat)), .fr (.lst ((perms d).map fun l => Ov.tI l)), .no, .no, .no, .no, .no, .no]) := by
    simp -implicitDefEqProofs only [e_cSet, e_cCall, e_agC, e_agN, e_cV, List.getElem?_cons_zero, List.getElem?_cons_succ, Option.bind_some, argS, Option.map_some, nodupB, oIx, Bool.true_and, List.length_cons, List.length_nil, decide_true, if_true, k1, backS, List.set_cons_zero, List.set_cons_succ]
  unfold d__law_placed
  rw [e_mkDf]
  unfold c__law_placed
  show ((cSeq (cSet 2 _) _) [.fr (rowsD rows), .fr (.int w), .no, .no, .no, .no, .no, .no, .no, .no]).bind _ = _
  rw [e_cSeq, e1, Option.bind_some]
  show ((cSeq (cSet 3 _) _) _).bind _ = _
  rw [e_cSeq, e2, Option.bind_some]
  show ((cSeq (cFor _ (gN 5) (cFor (iSeq (cV 3)) (gN 6) placeB)) _) [.fr (rowsD rows), .fr (.int w), .fr (.int d), .fr (.lst ((perms d).map fun l => Ov.tI l)), .ow (bk [] fun _ => 0), .no, .no, .no, .no, .no]).bind _ = _
  rw [e_cSeq, e_cFor, it, Option.bind_some, r, Option.bind_some]
  rfl
end K09
namespace K09
open PySem PySem.Spec PyProof.Rows L2 Ov
theorem len_lots (w d : Nat) : lenD (.lst ((L w d).map fun l => Ov.tI l)) = some (.int ((L w d).length : Nat)) := by
  show some (D.int (((L w d).map fun l => Ov.tI l).length : Nat)) = _
  rw [List.length_map]
theorem p_rows {w d : Nat} (hw : w ≤ 7) (S3 S4 S5 : Sl) (hd : d ≤ 7) : ∀ (n : Nat) (ts : List Int) (rows : List (List Int)) (ds : List Int) (s7 : Sl), ts.length = n → rows.length + n ≤ 1000 → (∀ r ∈ rows, r.length = w) →
    ∃ rows' ds' s7', forL (gN 7) (cApp 6 (cLc [8] (iRg1 (cV 1)) (gN 8) cYes (cCall 2 d__law_take (gOwn 0 (gCons (cC (.int 5)) gNil))))) (ts.map D.int) [owI ds, .fr (.int w), .fr (.int d), S3, S4, S5, .ow (rowsD rows), s7, .no] =
      some (.nx, [owI ds', .fr (.int w), .fr (.int d), S3, S4, S5, .ow (rowsD rows'), s7', .no]) ∧ rows'.length = rows.length + n ∧ ∀ r ∈ rows', r.length = w := by
  intro n ts
  induction ts generalizing n with
  | nil =>
    intro rows ds s7 h1 h2 h3
    refine ⟨rows, ds, s7, rfl, ?_, h3⟩
    rw [← h1]
    rfl
  | cons t ts ih =>
    intro rows ds s7 h1 h2 h3
    rw [List.length_cons] at h1
    have it := rg_v 1 w (by omega) [owI ds, .fr (.int w), .fr (.int d), S3, S4, S5, .ow (rowsD rows), .fr (.int t), .no] rfl
    obtain ⟨ys, ρ', r1, n1, _, ds1, hI⟩ := lcG_inv (vs := [8]) (g := gN 8) (st := stE cYes (cCall 2 d__law_take (gOwn 0 (gCons (cC (.int 5)) gNil)))) (f := D.int) (h := D.int) (P := fun _ => True) (I := fun ρ => ∃ ds, ρ = [owI ds, .fr (.int w), .fr (.int d), S3, S4, S5, .ow (rowsD rows), .fr (.int t), .no]) (xs := rgI 0 w)
      (ρ := [owI ds, .fr (.int w), .fr (.int d), S3, S4, S5, .ow (rowsD rows), .fr (.int t), .no]) (fun x ρ _ hI => by
        obtain ⟨ds, rfl⟩ := hI
        obtain ⟨u, ds2, h2, _⟩ := e_take (i := 0) (ce := cC (.int 5)) (ρ := [owI ds, .fr (.int w), .fr (.int d), S3, S4, S5, .ow (rowsD rows), .fr (.int t), .fr (.int x)]) (ds := ds) (b := 5) rfl rfl (by omega)
        refine ⟨u, [owI ds2, .fr (.int w), .fr (.int d), S3, S4, S5, .ow (rowsD rows), .fr (.int t), .fr (.int x)], ?_, trivial, ds2, rfl⟩
        simp -implicitDefEqProofs only [e_gN, List.set_cons_zero, List.set_cons_succ, Option.bind_some, e_stE, e_cYes, if_true, h2]) ⟨ds, rfl⟩
    subst hI
    have hc : cLc [8] (iRg1 (cV 1)) (gN 8) cYes (cCall 2 d__law_take (gOwn 0 (gCons (cC (.int 5)) gNil))) [owI ds, .fr (.int w), .fr (.int d), S3, S4, S5, .ow (rowsD rows), .fr (.int t), .no] = some (.lst (ys.map D.int), [owI ds1, .fr (.int w), .fr (.int d), S3, S4, S5, .ow (rowsD rows), .fr (.int t), .no]) := by
      simp -implicitDefEqProofs only [e_cLc, it, Option.bind_some, wipR, List.set_cons_zero, List.set_cons_succ, r1, restR, List.getElem?_cons_zero, List.getElem?_cons_succ]
    have e6 : rowsD (rows ++ [ys]) = .lst (rows.map (fun r => D.lst (r.map D.int)) ++ [D.lst (ys.map D.int)]) := by
      unfold rowsD
      rw [List.map_append]
      rfl
    have step : (gN 7 (.int t) [owI ds, .fr (.int w), .fr (.int d), S3, S4, S5, .ow (rowsD rows), s7, .no]).bind (cApp 6 (cLc [8] (iRg1 (cV 1)) (gN 8) cYes (cCall 2 d__law_take (gOwn 0 (gCons (cC (.int 5)) gNil))))) =
        some (.nx, [owI ds1, .fr (.int w), .fr (.int d), S3, S4, S5, .ow (rowsD (rows ++ [ys])), .fr (.int t), .no]) := by
      show cApp 6 _ [owI ds, .fr (.int w), .fr (.int d), S3, S4, S5, .ow (rowsD rows), .fr (.int t), .no] = _
      have o1 : ownLst [owI ds, .fr (.int w), .fr (.int d), S3, S4, S5, .ow (rowsD rows), .fr (.int t), .no] 6 = some (rows.map fun r => D.lst (r.map D.int)) := rfl
      have o2 : ownLst [owI ds1, .fr (.int w), .fr (.int d), S3, S4, S5, .ow (rowsD rows), .fr (.int t), .no] 6 = some (rows.map fun r => D.lst (r.map D.int)) := rfl
      rw [e_cApp, o1, Option.bind_some, hc, Option.bind_some, o2, Option.bind_some, if_pos (by rw [List.length_map]; omega), e6]
      rfl
    obtain ⟨rows', ds', s7', q1, q2, q3⟩ := ih (n - 1) (rows ++ [ys]) ds1 (.fr (.int t)) (by omega) (by rw [List.length_append, List.length_singleton]; omega) (fun r hr => by
      rcases List.mem_append.mp hr with z | z
      · exact h3 r z
      · rw [List.mem_singleton.mp z, n1, rgI_len])
    refine ⟨rows', ds', s7', ?_, by rw [q2, List.length_append, List.length_singleton]; omega, q3⟩
    rw [List.map_cons, e_forB, step]
    exact q1
theorem p_full {w d : Nat} (h : ClL w d) (h2 : 2 ≤ d) (ds : List Int) : ∃ p ds', d__law_full [owI ds, .fr (.int w), .fr (.int d)] = some (.ro (bk (L w d) p), [owI ds', .no, .no]) := by
  obtain ⟨word, ds1, t1, b1, b2⟩ := e_take (i := 0) (ce := cC (.int 3)) (ρ := [owI ds, .fr (.int w), .fr (.int d), .no, .no, .no, .no, .no, .no]) (ds := ds) (b := 3) rfl rfl (by omega)
  obtain ⟨p1, ds2, cc1⟩ := p_counted h ds1
  have t2 := e_call3OO (df := d__law_counted) (i := 0) (ca := cV 1) (cb := cV 2) (ρ := [owI ds1, .fr (.int w), .fr (.int d), .fr (.int word), .no, .no, .no, .no, .no]) rfl rfl rfl cc1
  have t3 := e_call2 (df := d__law_lots) (ca := cV 1) (cb := cV 2) (ρ := [owI ds2, .fr (.int w), .fr (.int d), .fr (.int word), .ow (bk (L w d) p1), .no, .no, .no, .no]) rfl rfl h.lots
  have q1 := e_eqI word 1
  have q2 := e_eqI word 2
  have hlen := len_lots w d
  -- word == 1
  have S1 : ∃ p2 ds3, cIfS (cT (c2 eqD (cV 3) (cC (.int 1)))) (cSeq (cSetO 4 (cCallO 2 d__law_level (gCons (cV 1) (gCons (cV 2) gNil))))
      (cPutD 4 (c2 ixD (cV 5) (cCall 2 d__law_take (gOwn 0 (gCons (c1 lenD (cV 5)) gNil)))) (c2 subD (c1 negD (cC (.int 1))) (cCall 2 d__law_take (gOwn 0 (gCons (cC (.int 4)) gNil)))))) cNx
      [owI ds2, .fr (.int w), .fr (.int d), .fr (.int word), .ow (bk (L w d) p1), .fr (.lst ((L w d).map fun l => Ov.tI l)), .no, .no, .no] = some (.nx, [owI ds3, .fr (.int w), .fr (.int d), .fr (.int word), .ow (bk (L w d) p2), .fr (.lst ((L w d).map fun l => Ov.tI l)), .no, .no, .no]) := by
    by_cases hw : word = 1
    · have q' : eqD (.int word) (.int 1) = some (.bl true) := by rw [q1, decide_eq_true hw]
      obtain ⟨pl, cl⟩ := p_level h
      have tl := e_call2P (df := d__law_level) (ca := cV 1) (cb := cV 2) (ρ := [owI ds2, .fr (.int w), .fr (.int d), .fr (.int word), .ow (bk (L w d) p1), .fr (.lst ((L w d).map fun l => Ov.tI l)), .no, .no, .no]) rfl rfl cl
      obtain ⟨u, ds3, tu, _, _⟩ := e_take (i := 0) (ce := cC (.int 4)) (ρ := [owI ds2, .fr (.int w), .fr (.int d), .fr (.int word), .ow (bk (L w d) pl), .fr (.lst ((L w d).map fun l => Ov.tI l)), .no, .no, .no]) (ds := ds2) (b := 4) rfl rfl (by omega)
      obtain ⟨v, ds4, tv, v1, v2⟩ := e_take (i := 0) (ce := c1 lenD (cV 5)) (ρ := [owI ds3, .fr (.int w), .fr (.int d), .fr (.int word), .ow (bk (L w d) pl), .fr (.lst ((L w d).map fun l => Ov.tI l)), .no, .no, .no]) (ds := ds3) (b := ((L w d).length : Nat)) rfl (by
        simp -implicitDefEqProofs only [e_c1, e_cV, List.getElem?_cons_zero, List.getElem?_cons_succ, Option.bind_some, hlen]) (by have := h.pos; omega)
      obtain ⟨n, rfl⟩ := Int.eq_ofNat_of_zero_le v1
      obtain ⟨l, hl⟩ : ∃ l, (L w d)[n]? = some l := ⟨_, List.getElem?_eq_getElem (by omega)⟩
      have ix := ix_lst (fun l => Ov.tI l) (L w d) n l hl
      have pu := e_put (i := 4) (ck := c2 ixD (cV 5) (cCall 2 d__law_take (gOwn 0 (gCons (c1 lenD (cV 5)) gNil)))) (cv := c2 subD (c1 negD (cC (.int 1))) (cCall 2 d__law_take (gOwn 0 (gCons (cC (.int 4)) gNil))))
        (k := Ov.tI l) (v := .int (-1 - u)) (d := bk (L w d) pl) (ρ := [owI ds2, .fr (.int w), .fr (.int d), .fr (.int word), .ow (bk (L w d) pl), .fr (.lst ((L w d).map fun l => Ov.tI l)), .no, .no, .no])
        (ρ1 := [owI ds3, .fr (.int w), .fr (.int d), .fr (.int word), .ow (bk (L w d) pl), .fr (.lst ((L w d).map fun l => Ov.tI l)), .no, .no, .no]) (ρ2 := [owI ds4, .fr (.int w), .fr (.int d), .fr (.int word), .ow (bk (L w d) pl), .fr (.lst ((L w d).map fun l => Ov.tI l)), .no, .no, .no]) (by
          have ng : negD (.int 1) = some (.int (-1)) := rfl
          simp -implicitDefEqProofs only [e_c2, e_c1, e_cC, Option.bind_some, ng, tu, e_sub]
          rfl) ⟨_, rfl⟩ (by
          simp -implicitDefEqProofs only [e_c2, e_cV, List.getElem?_cons_zero, List.getElem?_cons_succ, Option.bind_some, tv, ix]
          rfl) rfl (put_old (List.mem_of_getElem? hl) (by have := h.cnt; omega))
      refine ⟨fun k => if k = l then -1 - u else pl k, ds4, ?_⟩
      have tst : cT (c2 eqD (cV 3) (cC (.int 1))) [owI ds2, .fr (.int w), .fr (.int d), .fr (.int word), .ow (bk (L w d) p1), .fr (.lst ((L w d).map fun l => Ov.tI l)), .no, .no, .no] = some (true, [owI ds2, .fr (.int w), .fr (.int d), .fr (.int word), .ow (bk (L w d) p1), .fr (.lst ((L w d).map fun l => Ov.tI l)), .no, .no, .no]) := by
        simp -implicitDefEqProofs only [e_cT, e_c2, e_cC, e_cV, List.getElem?_cons_zero, List.getElem?_cons_succ, Option.bind_some, q', e_toB]
      rw [e_cIfS, tst, Option.bind_some, if_pos rfl, e_cSeq, e_cSetO, tl, Option.bind_some, Option.bind_some]
      exact pu
    · have q' : eqD (.int word) (.int 1) = some (.bl false) := by rw [q1, decide_eq_false hw]
      refine ⟨p1, ds2, ?_⟩
      simp -implicitDefEqProofs only [e_cIfS, e_cT, e_c2, e_cC, e_cV, List.getElem?_cons_zero, List.getElem?_cons_succ, Option.bind_some, q', e_toB, Bool.false_eq_true, if_false, e_cNx]
  obtain ⟨p2, ds3, S1⟩ := S1
  -- word == 2 and deep <= 3
  have S2 : ∃ p3 ds4 s6 s7, cIfS (cAnd (cT (c2 eqD (cV 3) (cC (.int 2)))) (cT (c2 leD (cV 2) (cC (.int 3))))) (cSeq (cSetO 6 (cLst aNil))
      (cSeq (cFor (iRg1 (cV 2)) (gN 7) (cApp 6 (cLc [8] (iRg1 (cV 1)) (gN 8) cYes (cCall 2 d__law_take (gOwn 0 (gCons (cC (.int 5)) gNil))))))
      (cSetO 4 (cCallO 2 d__law_placed (gCons (cV 6) (gCons (cV 1) gNil)))))) cNx
      [owI ds3, .fr (.int w), .fr (.int d), .fr (.int word), .ow (bk (L w d) p2), .fr (.lst ((L w d).map fun l => Ov.tI l)), .no, .no, .no] = some (.nx, [owI ds4, .fr (.int w), .fr (.int d), .fr (.int word), .ow (bk (L w d) p3), .fr (.lst ((L w d).map fun l => Ov.tI l)), s6, s7, .no]) := by
    by_cases hw : word = 2
    · have q' : eqD (.int word) (.int 2) = some (.bl true) := by rw [q2, decide_eq_true hw]
      by_cases hd : (d : Int) ≤ 3
      · have hd' : decide ((d : Int) ≤ 3) = true := decide_eq_true hd
        have it := rg_v 2 d (by have := h.d7; omega) [owI ds3, .fr (.int w), .fr (.int d), .fr (.int word), .ow (bk (L w d) p2), .fr (.lst ((L w d).map fun l => Ov.tI l)), .ow (rowsD []), .no, .no] rfl
        obtain ⟨rows, ds4, s7, r1, r2, r3⟩ := p_rows h.w7 (.fr (.int word)) (.ow (bk (L w d) p2)) (.fr (.lst ((L w d).map fun l => Ov.tI l))) h.d7 d (rgI 0 d) [] ds3 .no (rgI_len d) (by have := h.d7; rw [List.length_nil]; omega) (fun _ z => by cases z)
        rw [List.length_nil, Nat.zero_add] at r2
        obtain ⟨p3, cp⟩ := p_placed h (by omega) rows r2 r3
        have tp := e_call2P (df := d__law_placed) (ca := cV 6) (cb := cV 1) (ρ := [owI ds4, .fr (.int w), .fr (.int d), .fr (.int word), .ow (bk (L w d) p2), .fr (.lst ((L w d).map fun l => Ov.tI l)), .ow (rowsD rows), s7, .no])
          (ρ1 := [owI ds4, .fr (.int w), .fr (.int d), .fr (.int word), .ow (bk (L w d) p2), .fr (.lst ((L w d).map fun l => Ov.tI l)), .fr (rowsD rows), s7, .no]) (ρ2 := [owI ds4, .fr (.int w), .fr (.int d), .fr (.int word), .ow (bk (L w d) p2), .fr (.lst ((L w d).map fun l => Ov.tI l)), .fr (rowsD rows), s7, .no]) rfl rfl cp
        refine ⟨p3, ds4, .fr (rowsD rows), s7, ?_⟩
        have tst : cAnd (cT (c2 eqD (cV 3) (cC (.int 2)))) (cT (c2 leD (cV 2) (cC (.int 3)))) [owI ds3, .fr (.int w), .fr (.int d), .fr (.int word), .ow (bk (L w d) p2), .fr (.lst ((L w d).map fun l => Ov.tI l)), .no, .no, .no] = some (true, [owI ds3, .fr (.int w), .fr (.int d), .fr (.int word), .ow (bk (L w d) p2), .fr (.lst ((L w d).map fun l => Ov.tI l)), .no, .no, .no]) := by
          simp -implicitDefEqProofs only [e_cAnd, e_cT, e_c2, e_cC, e_cV, List.getElem?_cons_zero, List.getElem?_cons_succ, Option.bind_some, q', e_toB, if_true, e_le, hd']
        have e6 : cSetO 6 (cLst aNil) [owI ds3, .fr (.int w), .fr (.int d), .fr (.int word), .ow (bk (L w d) p2), .fr (.lst ((L w d).map fun l => Ov.tI l)), .no, .no, .no] = some (.nx, [owI ds3, .fr (.int w), .fr (.int d), .fr (.int word), .ow (bk (L w d) p2), .fr (.lst ((L w d).map fun l => Ov.tI l)), .ow (rowsD []), .no, .no]) := rfl
        rw [e_cIfS, tst, Option.bind_some, if_pos rfl, e_cSeq, e6, Option.bind_some]
        show cSeq _ _ _ = _
        rw [e_cSeq, e_cFor, it, Option.bind_some, r1, Option.bind_some]
        show cSetO 4 _ _ = _
        rw [e_cSetO, tp]
        rfl
      · have hd' : decide ((d : Int) ≤ 3) = false := decide_eq_false hd
        refine ⟨p2, ds3, .no, .no, ?_⟩
        simp -implicitDefEqProofs only [e_cIfS, e_cAnd, e_cT, e_c2, e_cC, e_cV, List.getElem?_cons_zero, List.getElem?_cons_succ, Option.bind_some, q', e_toB, if_true, e_le, hd', Bool.false_eq_true, if_false, e_cNx]
    · have q' : eqD (.int word) (.int 2) = some (.bl false) := by rw [q2, decide_eq_false hw]
      refine ⟨p2, ds3, .no, .no, ?_⟩
      simp -implicitDefEqProofs only [e_cIfS, e_cAnd, e_cT, e_c2, e_cC, e_cV, List.getElem?_cons_zero, List.getElem?_cons_succ, Option.bind_some, q', e_toB, Bool.false_eq_true, if_false, e_cNx]
  obtain ⟨p3, ds4, s6, s7, S2⟩ := S2
  obtain ⟨ns, ds5, c5, n5⟩ := p_prices ds4 w (by have := h.w7; omega)
  have t5 := e_call2O (df := d__law_prices) (i := 0) (ca := cV 1) (ρ := [owI ds4, .fr (.int w), .fr (.int d), .fr (.int word), .fr (bk (L w d) p3), .fr (.lst ((L w d).map fun l => Ov.tI l)), s6, s7, .no]) rfl rfl c5
  obtain ⟨p4, c6⟩ := p_moved h p3 ns n5
  have t6 := e_call2P (df := d__law_moved_by) (ca := cV 4) (cb := cCall 2 d__law_prices (gOwn 0 (gCons (cV 1) gNil))) (ρ := [owI ds4, .fr (.int w), .fr (.int d), .fr (.int word), .ow (bk (L w d) p3), .fr (.lst ((L w d).map fun l => Ov.tI l)), s6, s7, .no])
    (ρ1 := [owI ds4, .fr (.int w), .fr (.int d), .fr (.int word), .fr (bk (L w d) p3), .fr (.lst ((L w d).map fun l => Ov.tI l)), s6, s7, .no]) rfl t5 c6
  refine ⟨p4, ds5, ?_⟩
  unfold d__law_full
  rw [e_mkDf]
  unfold c__law_full
  show ((cSeq (cSet 3 _) _) [owI ds, .fr (.int w), .fr (.int d), .no, .no, .no, .no, .no, .no]).bind _ = _
  rw [e_cSeq, e_cSet, t1, Option.bind_some, Option.bind_some]
  show ((cSeq (cSetO 4 _) _) [owI ds1, .fr (.int w), .fr (.int d), .fr (.int word), .no, .no, .no, .no, .no]).bind _ = _
  rw [e_cSeq, e_cSetO, t2, Option.bind_some, Option.bind_some]
  show ((cSeq (cSet 5 _) _) [owI ds2, .fr (.int w), .fr (.int d), .fr (.int word), .ow (bk (L w d) p1), .no, .no, .no, .no]).bind _ = _
  rw [e_cSeq, e_cSet, t3, Option.bind_some, Option.bind_some]
  show ((cSeq _ _) [owI ds2, .fr (.int w), .fr (.int d), .fr (.int word), .ow (bk (L w d) p1), .fr (.lst ((L w d).map fun l => Ov.tI l)), .no, .no, .no]).bind _ = _
  rw [e_cSeq, S1, Option.bind_some]
  show ((cSeq _ _) _).bind _ = _
  rw [e_cSeq, S2, Option.bind_some]
  show ((cRetO _) _).bind _ = _
  rw [e_cRetO, t6, Option.bind_some]
  rfl
end K09
namespace K09
open PySem PySem.Spec PyProof.Rows L2 Ov
/-! closed: the lots of the law, the tables, the wrong things -/
theorem cll_4_2 : ClL 4 2 := ⟨by kernel_rfl, by decide +kernel, by decide +kernel, by decide +kernel, by decide +kernel, by decide +kernel, by decide, by decide⟩
theorem cll_5_2 : ClL 5 2 := ⟨by kernel_rfl, by decide +kernel, by decide +kernel, by decide +kernel, by decide +kernel, by decide +kernel, by decide, by decide⟩
theorem cll_5_3 : ClL 5 3 := ⟨by kernel_rfl, by decide +kernel, by decide +kernel, by decide +kernel, by decide +kernel, by decide +kernel, by decide, by decide⟩
theorem cll_6_2 : ClL 6 2 := ⟨by kernel_rfl, by decide +kernel, by decide +kernel, by decide +kernel, by decide +kernel, by decide +kernel, by decide, by decide⟩
theorem cll_6_3 : ClL 6 3 := ⟨by kernel_rfl, by decide +kernel, by decide +kernel, by decide +kernel, by decide +kernel, by decide +kernel, by decide, by decide⟩
theorem cll_6_4 : ClL 6 4 := ⟨by kernel_rfl, by decide +kernel, by decide +kernel, by decide +kernel, by decide +kernel, by decide +kernel, by decide, by decide⟩
theorem cll_7_2 : ClL 7 2 := ⟨by kernel_rfl, by decide +kernel, by decide +kernel, by decide +kernel, by decide +kernel, by decide +kernel, by decide, by decide⟩
theorem cll_7_3 : ClL 7 3 := ⟨by kernel_rfl, by decide +kernel, by decide +kernel, by decide +kernel, by decide +kernel, by decide +kernel, by decide, by decide⟩
theorem cll_7_4 : ClL 7 4 := ⟨by kernel_rfl, by decide +kernel, by decide +kernel, by decide +kernel, by decide +kernel, by decide +kernel, by decide, by decide⟩
theorem cll_7_5 : ClL 7 5 := ⟨by kernel_rfl, by decide +kernel, by decide +kernel, by decide +kernel, by decide +kernel, by decide +kernel, by decide, by decide⟩
def wrongs (w : Nat) : List D := [.int (-1), .int w, .bl true, .non, .str "0"]
structure ClT (w d : Nat) : Prop where
  tbl : ∀ p, d__law_table [.fr (.int w), .fr (.int d), .fr (bookD w d p)] = some (.rt (tblD w d p), [.no, .no, .no])
  at_ : ∀ p, (wrongs w).map (fun v => d__law_at [.fr (tblD w d p), .fr v]) = (wrongs w).map fun v => some (.rt (.lst [.str "thing", .bl false]), [.no, .no])
  ne : (List.range w).map (fun z : Nat => neD (.tup (((foursF w d).filter fun x => x.2.contains (z : Int)).map pr)) (.tup (((foursF w d).filter fun x => x.2.contains (z : Int)).map pr))) = (List.range w).map fun _ => some (.bl false)
theorem clt_4_2 : ClT 4 2 := ⟨fun p => by kernel_rfl, fun p => by kernel_rfl, by kernel_rfl⟩
theorem clt_5_2 : ClT 5 2 := ⟨fun p => by kernel_rfl, fun p => by kernel_rfl, by kernel_rfl⟩
theorem clt_5_3 : ClT 5 3 := ⟨fun p => by kernel_rfl, fun p => by kernel_rfl, by kernel_rfl⟩
theorem clt_6_2 : ClT 6 2 := ⟨fun p => by kernel_rfl, fun p => by kernel_rfl, by kernel_rfl⟩
theorem clt_6_3 : ClT 6 3 := ⟨fun p => by kernel_rfl, fun p => by kernel_rfl, by kernel_rfl⟩
theorem clt_6_4 : ClT 6 4 := ⟨fun p => by kernel_rfl, fun p => by kernel_rfl, by kernel_rfl⟩
theorem clt_7_2 : ClT 7 2 := ⟨fun p => by kernel_rfl, fun p => by kernel_rfl, by kernel_rfl⟩
theorem clt_7_3 : ClT 7 3 := ⟨fun p => by kernel_rfl, fun p => by kernel_rfl, by kernel_rfl⟩
theorem clt_7_4 : ClT 7 4 := ⟨fun p => by kernel_rfl, fun p => by kernel_rfl, by kernel_rfl⟩
theorem clt_7_5 : ClT 7 5 := ⟨fun p => by kernel_rfl, fun p => by kernel_rfl, by kernel_rfl⟩
theorem ClT.wrong {w d : Nat} (h : ClT w d) (p : List Int → Int) : ∀ v ∈ wrongs w, d__law_at [.fr (tblD w d p), .fr v] = some (.rt (.lst [.str "thing", .bl false]), [.no, .no]) := fun v hv => map_at (h.at_ p) v hv
theorem ClT.neq {w d : Nat} (h : ClT w d) {z : Nat} (hz : z < w) : neD (.tup (((foursF w d).filter fun x => x.2.contains (z : Int)).map pr)) (.tup (((foursF w d).filter fun x => x.2.contains (z : Int)).map pr)) = some (.bl false) := map_at h.ne z (List.mem_range.mpr hz)
end K09
namespace K09
open PySem PySem.Spec PyProof.Rows L2 Ov
/-! the law's own test of all exchanges -/
def trips (w d : Nat) : List (List Int × Int × Int) := (L w d).flatMap fun A => (rgI 0 w).flatMap fun t => (rgI 0 w).map fun i => (A, t, i)
/-- the exchange of t in A and B: only one thing, or the three parts of a four -/
def chkS (ls : List (List Int)) (fs : List Four) (A B : List Int) (t : Int) : Bool := (minus B A).all (fun j => decide (sw A t j ∈ ls) && decide (sw B j t ∈ ls)) && match minus B A with
  | [j] => decide (sw A t j = B) && decide (sw B j t = A)
  | [i, j] => decide (fourAB A B ∈ fs) && parts3 (fourAB A B) A B t i j
  | _ => false
structure ClS (w d : Nat) : Prop where
  swap : (trips w d).map (fun q => d__law_swap [.fr (Ov.tI q.1), .fr (.int q.2.1), .fr (.int q.2.2)]) = (trips w d).map fun q => some (.rt (Ov.tI (sw q.1 q.2.1 q.2.2)), [.no, .no, .no])
  chk : ((L w d).all fun A => (L w d).all fun B => A.all fun t => B.contains t || chkS (L w d) (foursF w d) A B t) = true
theorem cls_4_2 : ClS 4 2 := ⟨by kernel_rfl, by kernel_rfl⟩
theorem cls_5_2 : ClS 5 2 := ⟨by kernel_rfl, by kernel_rfl⟩
theorem cls_5_3 : ClS 5 3 := ⟨by kernel_rfl, by kernel_rfl⟩
theorem rgI_in {n : Nat} {t : Int} (h : 0 ≤ t ∧ t < n) : t ∈ rgI 0 (n : Int) := by
  unfold rgI
  refine List.mem_map.mpr ⟨t.toNat, List.mem_range.mpr (by omega), by omega⟩
theorem p_swap {w d : Nat} (h : ClL w d) (s : ClS w d) {A : List Int} (hA : A ∈ L w d) {t i : Int} (ht : 0 ≤ t ∧ t < w) (hi : 0 ≤ i ∧ i < w) : d__law_swap [.fr (Ov.tI A), .fr (.int t), .fr (.int i)] = some (.rt (Ov.tI (sw A t i)), [.no, .no, .no]) :=
  map_at s.swap (A, t, i) (List.mem_flatMap.mpr ⟨A, hA, List.mem_flatMap.mpr ⟨t, rgI_in ht, List.mem_map.mpr ⟨i, rgI_in hi, rfl⟩⟩⟩)
theorem e_call3 {df : Df} {ρ : List Sl} {v a b c : D} {ca cb cc : Ev} {s s' s'' : Sl} (ha : ca ρ = some (a, ρ)) (hb : cb ρ = some (b, ρ)) (hc : cc ρ = some (c, ρ)) (hd : df [.fr a, .fr b, .fr c] = some (.rt v, [s, s', s''])) :
    cCall 3 df (gCons ca (gCons cb (gCons cc gNil))) ρ = some (v, ρ) := by
  simp -implicitDefEqProofs only [e_cCall, e_agC, e_agN, ha, hb, hc, Option.bind_some, argS, Option.map_some, nodupB, oIx, List.length_cons, List.length_nil]
  rw [if_pos (by rfl)]
  show (df _).bind _ = _
  rw [hd]
  rfl
theorem e_call4 {df : Df} {ρ : List Sl} {v a b c e : D} {ca cb cc ce : Ev} {s s' s'' s3 : Sl} (ha : ca ρ = some (a, ρ)) (hb : cb ρ = some (b, ρ)) (hc : cc ρ = some (c, ρ)) (he : ce ρ = some (e, ρ)) (hd : df [.fr a, .fr b, .fr c, .fr e] = some (.rt v, [s, s', s'', s3])) :
    cCall 4 df (gCons ca (gCons cb (gCons cc (gCons ce gNil)))) ρ = some (v, ρ) := by
  simp -implicitDefEqProofs only [e_cCall, e_agC, e_agN, ha, hb, hc, he, Option.bind_some, argS, Option.map_some, nodupB, oIx, List.length_cons, List.length_nil]
  rw [if_pos (by rfl)]
  show (df _).bind _ = _
  rw [hd]
  rfl
abbrev tradeB : Es := (cIfS (cT (c2 ninD (cV 6) (cV 1))) (cSeq (cSet 7 (cCall 3 d__law_swap (gCons (cV 1) (gCons (cV 3) (gCons (cV 6) gNil)))))
  (cSeq (cSet 8 (cCall 3 d__law_swap (gCons (cV 2) (gCons (cV 6) (gCons (cV 3) gNil)))))
  (cIfS (cAnd (cT (c2 inD (cV 7) (cV 0))) (cT (c2 inD (cV 8) (cV 0)))) (cIfS (cT (c2 geD (c2 addD (c2 ixD (cV 0) (cV 7)) (c2 ixD (cV 0) (cV 8))) (cV 4))) (cApp 5 (cV 6)) cNx) cNx))) cNx)
def envR (w d : Nat) (p : List Int → Int) (A B : List Int) (t : Int) (acc : List Int) (s : Sl × Sl × Sl) : List Sl := [.fr (bk (L w d) p), .fr (Ov.tI A), .fr (Ov.tI B), .fr (.int t), .fr (.int (p A + p B)), owI acc, s.1, s.2.1, s.2.2]
def Ch3 (p : List Int → Int) (A B : List Int) (t j : Int) : Bool := !A.contains j && decide (p A + p B ≤ p (sw A t j) + p (sw B j t))
theorem p_tradeB {w d : Nat} (h : ClL w d) (s : ClS w d) (p : List Int → Int) {A B : List Int} (hA : A ∈ L w d) (hB : B ∈ L w d) {t j : Int} (ht : 0 ≤ t ∧ t < w) (hj : j ∈ B) (hc : A.contains j = false → sw A t j ∈ L w d ∧ sw B j t ∈ L w d) (acc : List Int) (hl : acc.length < 16777216) (q : Sl × Sl × Sl) :
    ∃ q', (gN 6 (.int j) (envR w d p A B t acc q)).bind tradeB = some (.nx, envR w d p A B t (acc ++ [j].filter (Ch3 p A B t)) q') := by
  have n := k_nin3 j A
  have jb := (h.mem hB).2 j hj
  have e0 : gN 6 (.int j) (envR w d p A B t acc q) = some [.fr (bk (L w d) p), .fr (Ov.tI A), .fr (Ov.tI B), .fr (.int t), .fr (.int (p A + p B)), owI acc, .fr (.int j), q.2.1, q.2.2] := rfl
  rw [e0, Option.bind_some]
  unfold tradeB
  cases hcj : A.contains j
  · rw [hcj] at n
    obtain ⟨in1, in2⟩ := hc hcj
    have t1 := e_call3 (df := d__law_swap) (ca := cV 1) (cb := cV 3) (cc := cV 6) (ρ := [.fr (bk (L w d) p), .fr (Ov.tI A), .fr (Ov.tI B), .fr (.int t), .fr (.int (p A + p B)), owI acc, .fr (.int j), q.2.1, q.2.2]) rfl rfl rfl (p_swap h s hA ht jb)
    have t2 := e_call3 (df := d__law_swap) (ca := cV 2) (cb := cV 6) (cc := cV 3) (ρ := [.fr (bk (L w d) p), .fr (Ov.tI A), .fr (Ov.tI B), .fr (.int t), .fr (.int (p A + p B)), owI acc, .fr (.int j), .fr (Ov.tI (sw A t j)), q.2.2]) rfl rfl rfl (p_swap h s hB jb ht)
    have i1 := bk_in (p := p) (ls := L w d) (sw A t j)
    have i2 := bk_in (p := p) (ls := L w d) (sw B j t)
    rw [decide_eq_true in1] at i1
    rw [decide_eq_true in2] at i2
    have x1 := bk_ix (p := p) in1
    have x2 := bk_ix (p := p) in2
    refine ⟨(.fr (.int j), .fr (Ov.tI (sw A t j)), .fr (Ov.tI (sw B j t))), ?_⟩
    have go : (cSeq (cSet 7 (cCall 3 d__law_swap (gCons (cV 1) (gCons (cV 3) (gCons (cV 6) gNil))))) (cSeq (cSet 8 (cCall 3 d__law_swap (gCons (cV 2) (gCons (cV 6) (gCons (cV 3) gNil))))) (cIfS (cAnd (cT (c2 inD (cV 7) (cV 0))) (cT (c2 inD (cV 8) (cV 0)))) (cIfS (cT (c2 geD (c2 addD (c2 ixD (cV 0) (cV 7)) (c2 ixD (cV 0) (cV 8))) (cV 4))) (cApp 5 (cV 6)) cNx) cNx)))
        [.fr (bk (L w d) p), .fr (Ov.tI A), .fr (Ov.tI B), .fr (.int t), .fr (.int (p A + p B)), owI acc, .fr (.int j), q.2.1, q.2.2] = some (.nx, envR w d p A B t (acc ++ [j].filter (Ch3 p A B t)) (.fr (.int j), .fr (Ov.tI (sw A t j)), .fr (Ov.tI (sw B j t)))) := by
      rw [e_cSeq, e_cSet, t1, Option.bind_some, Option.bind_some]
      show (cSeq _ _) [.fr (bk (L w d) p), .fr (Ov.tI A), .fr (Ov.tI B), .fr (.int t), .fr (.int (p A + p B)), owI acc, .fr (.int j), .fr (Ov.tI (sw A t j)), q.2.2] = _
      rw [e_cSeq, e_cSet, t2, Option.bind_some, Option.bind_some]
      show (cIfS _ _ _) [.fr (bk (L w d) p), .fr (Ov.tI A), .fr (Ov.tI B), .fr (.int t), .fr (.int (p A + p B)), owI acc, .fr (.int j), .fr (Ov.tI (sw A t j)), .fr (Ov.tI (sw B j t))] = _
      have ap := app_int (i := 5) (ce := cV 6) (ρ := [.fr (bk (L w d) p), .fr (Ov.tI A), .fr (Ov.tI B), .fr (.int t), .fr (.int (p A + p B)), owI acc, .fr (.int j), .fr (Ov.tI (sw A t j)), .fr (Ov.tI (sw B j t))]) (ds := acc) rfl rfl rfl hl
      simp -implicitDefEqProofs only [e_cIfS, e_cAnd, e_cT, e_c2, e_cV, List.getElem?_cons_zero, List.getElem?_cons_succ, Option.bind_some, i1, i2, x1, x2, e_toB, if_true, e_add, e_ge]
      by_cases hd : p A + p B ≤ p (sw A t j) + p (sw B j t)
      · have hch : Ch3 p A B t j = true := by unfold Ch3; rw [hcj, decide_eq_true hd]; rfl
        rw [decide_eq_true hd, if_pos rfl, ap, List.filter_cons, if_pos hch]
        rfl
      · have hch : ¬ Ch3 p A B t j = true := by unfold Ch3; rw [hcj, decide_eq_false hd]; decide
        rw [decide_eq_false hd, if_neg Bool.false_ne_true, e_cNx, List.filter_cons, if_neg hch, List.filter_nil, List.append_nil]
        rfl
    simp -implicitDefEqProofs only [e_cIfS, e_cT, e_c2, e_cV, List.getElem?_cons_zero, List.getElem?_cons_succ, Option.bind_some, n, e_toB, Bool.not_false, if_true]
    exact go
  · rw [hcj] at n
    refine ⟨(.fr (.int j), q.2.1, q.2.2), ?_⟩
    have hch : ¬ Ch3 p A B t j = true := by unfold Ch3; rw [hcj]; simp
    simp -implicitDefEqProofs only [e_cIfS, e_cT, e_c2, e_cV, List.getElem?_cons_zero, List.getElem?_cons_succ, Option.bind_some, n, e_toB, Bool.not_true, Bool.false_eq_true, if_false, e_cNx]
    rw [List.filter_cons, if_neg hch, List.filter_nil, List.append_nil]
    rfl
theorem p_tradeL {w d : Nat} (h : ClL w d) (s : ClS w d) (p : List Int → Int) {A B : List Int} (hA : A ∈ L w d) (hB : B ∈ L w d) {t : Int} (ht : 0 ≤ t ∧ t < w) : ∀ (js : List Int) (acc : List Int) (q : Sl × Sl × Sl), (∀ j ∈ js, j ∈ B ∧ (A.contains j = false → sw A t j ∈ L w d ∧ sw B j t ∈ L w d)) → acc.length + js.length ≤ 1000 →
    ∃ q', forL (gN 6) tradeB (js.map D.int) (envR w d p A B t acc q) = some (.nx, envR w d p A B t (acc ++ js.filter (Ch3 p A B t)) q')
  | [], acc, q, _, _ => ⟨q, by rw [List.map_nil, e_forN, List.filter_nil, List.append_nil]⟩
  | j :: js, acc, q, hj, hl => by
    rw [List.length_cons] at hl
    obtain ⟨q1, r1⟩ := p_tradeB h s p hA hB ht (hj j List.mem_cons_self).1 (hj j List.mem_cons_self).2 acc (by omega) q
    obtain ⟨q2, r2⟩ := p_tradeL h s p hA hB ht js (acc ++ [j].filter (Ch3 p A B t)) q1 (fun k hk => hj k (List.mem_cons_of_mem _ hk)) (by
      have := List.length_filter_le (Ch3 p A B t) [j]
      rw [List.length_append]
      rw [List.length_singleton] at this
      omega)
    refine ⟨q2, ?_⟩
    have e : j :: js = [j] ++ js := rfl
    rw [List.map_cons, e_forB, r1]
    show forL _ _ _ _ = _
    rw [r2, e, List.filter_append, List.append_assoc]
theorem p_trades {w d : Nat} (h : ClL w d) (s : ClS w d) (p : List Int → Int) {A B : List Int} (hA : A ∈ L w d) (hB : B ∈ L w d) {t : Int} (ht : 0 ≤ t ∧ t < w) (hc : ∀ j ∈ B, A.contains j = false → sw A t j ∈ L w d ∧ sw B j t ∈ L w d) :
    d__law_trades [.fr (bk (L w d) p), .fr (Ov.tI A), .fr (Ov.tI B), .fr (.int t)] = some (.rt (.lst ((B.filter (Ch3 p A B t)).map D.int)), [.no, .no, .no, .no]) := by
  have x1 := bk_ix (p := p) hA
  have x2 := bk_ix (p := p) hB
  obtain ⟨q', r⟩ := p_tradeL h s p hA hB ht B [] (.no, .no, .no) (fun j hj => ⟨hj, hc j hj⟩) (by rw [(h.mem hB).1]; have := h.d7; rw [List.length_nil]; omega)
  unfold d__law_trades
  rw [e_mkDf]
  unfold c__law_trades
  show ((cSeq (cSet 4 _) (cSeq (cSetO 5 (cLst aNil)) (cSeq (cFor (iSeq (cV 2)) (gN 6) tradeB) (cRet (cV 5))))) [.fr (bk (L w d) p), .fr (Ov.tI A), .fr (Ov.tI B), .fr (.int t), .no, .no, .no, .no, .no]).bind _ = _
  have e1 : cSet 4 (c2 addD (c2 ixD (cV 0) (cV 1)) (c2 ixD (cV 0) (cV 2))) [.fr (bk (L w d) p), .fr (Ov.tI A), .fr (Ov.tI B), .fr (.int t), .no, .no, .no, .no, .no] = some (.nx, [.fr (bk (L w d) p), .fr (Ov.tI A), .fr (Ov.tI B), .fr (.int t), .fr (.int (p A + p B)), .no, .no, .no, .no]) := by
    simp -implicitDefEqProofs only [e_cSet, e_c2, e_cV, List.getElem?_cons_zero, List.getElem?_cons_succ, Option.bind_some, x1, x2, e_add, List.set_cons_zero, List.set_cons_succ]
  rw [e_cSeq, e1, Option.bind_some]
  show ((cSeq (cFor (iSeq (cV 2)) (gN 6) tradeB) (cRet (cV 5))) (envR w d p A B t [] (.no, .no, .no))).bind _ = _
  have it : iSeq (cV 2) (envR w d p A B t [] (.no, .no, .no)) = some (B.map D.int, envR w d p A B t [] (.no, .no, .no)) := rfl
  rw [e_cSeq, e_cFor, it, Option.bind_some, r, Option.bind_some, List.nil_append]
  rfl
/-- the law's answer -/
def brA (p : List Int → Int) (A B : List Int) (t : Int) : Option D := if (!B.contains t && decide ((B.filter (Ch3 p A B t)).length = 0)) = true then some (.bl false) else none
abbrev bodyA : Es := cIfS (cAnd (cT (c2 ninD (cV 3) (cV 2))) (cT (c2 eqD (c1 lenD (cCall 4 d__law_trades (gCons (cV 0) (gCons (cV 1) (gCons (cV 2) (gCons (cV 3) gNil)))))) (cC (.int 0))))) (cRet (cC (.bl false))) cNx
theorem ClS.inL {w d : Nat} (h : ClL w d) (s : ClS w d) {A B : List Int} (hA : A ∈ L w d) (hB : B ∈ L w d) {t : Int} (ht : t ∈ A) (hn : B.contains t = false) : chkS (L w d) (foursF w d) A B t = true := by
  have := List.all_eq_true.mp (List.all_eq_true.mp (List.all_eq_true.mp s.chk A hA) B hB) t ht
  rw [hn, Bool.false_or] at this
  exact this
theorem p_bodyA {w d : Nat} (h : ClL w d) (s : ClS w d) (p : List Int → Int) {A B : List Int} (hA : A ∈ L w d) (hB : B ∈ L w d) {t : Int} (ht : t ∈ A) (s3 : Sl) :
    (gN 3 (.int t) [.fr (bk (L w d) p), .fr (Ov.tI A), .fr (Ov.tI B), s3]).bind bodyA = some (flO (brA p A B t), [.fr (bk (L w d) p), .fr (Ov.tI A), .fr (Ov.tI B), .fr (.int t)]) := by
  have n := k_nin3 t B
  have e0 : gN 3 (.int t) [.fr (bk (L w d) p), .fr (Ov.tI A), .fr (Ov.tI B), s3] = some [.fr (bk (L w d) p), .fr (Ov.tI A), .fr (Ov.tI B), .fr (.int t)] := rfl
  rw [e0, Option.bind_some]
  unfold bodyA brA
  cases hc : B.contains t
  · rw [hc] at n
    have ck := ClS.inL h s hA hB ht hc
    unfold chkS at ck
    rw [Bool.and_eq_true] at ck
    have tr := e_call4 (df := d__law_trades) (ca := cV 0) (cb := cV 1) (cc := cV 2) (ce := cV 3) (ρ := [.fr (bk (L w d) p), .fr (Ov.tI A), .fr (Ov.tI B), .fr (.int t)]) rfl rfl rfl rfl (p_trades h s p hA hB ((h.mem hA).2 t ht) fun j hj hcj => by
      have := List.all_eq_true.mp ck.1 j (List.mem_filter.mpr ⟨hj, by rw [hcj]; rfl⟩)
      rw [Bool.and_eq_true] at this
      exact ⟨of_decide_eq_true this.1, of_decide_eq_true this.2⟩)
    have hl := k_len (B.filter (Ch3 p A B t))
    have he := e_eqI (((B.filter (Ch3 p A B t)).length : Nat) : Int) 0
    simp -implicitDefEqProofs only [e_cIfS, e_cAnd, e_cT, e_c1, e_c2, e_cV, e_cC, List.getElem?_cons_zero, List.getElem?_cons_succ, Option.bind_some, n, e_toB, Bool.not_false, if_true, tr, hl, he]
    by_cases h0 : (B.filter (Ch3 p A B t)).length = 0
    · have h0' : (((B.filter (Ch3 p A B t)).length : Nat) : Int) = 0 := by omega
      simp -implicitDefEqProofs only [h0', decide_true, if_true, e_cRet, e_cC, Option.bind_some, decide_eq_true h0, Bool.and_self]
      rfl
    · have h0' : ¬ (((B.filter (Ch3 p A B t)).length : Nat) : Int) = 0 := by omega
      simp -implicitDefEqProofs only [decide_eq_false h0', Bool.false_eq_true, if_false, e_cNx, decide_eq_false h0, Bool.and_false]
      rfl
  · rw [hc] at n
    simp -implicitDefEqProofs only [e_cIfS, e_cAnd, e_cT, e_c2, e_cV, List.getElem?_cons_zero, List.getElem?_cons_succ, Option.bind_some, n, e_toB, Bool.not_true, Bool.false_eq_true, if_false, e_cNx, Bool.false_and]
    rfl
def brL (w d : Nat) (p : List Int → Int) : Option D := (L w d).findSome? fun A => (L w d).findSome? fun B => A.findSome? (brA p A B)
theorem p_law_twofold0 {w d : Nat} (h : ClL w d) (s : ClS w d) (p : List Int → Int) : d__law_twofold [.fr (bk (L w d) p)] = some (.rt ((brL w d p).getD (.bl true)), [.no]) := by
  have kt : keysT ((L w d).map fun l => (l, D.int (p l))) = (L w d).map fun l => Ov.tI l := by
    unfold keysT
    rw [List.map_map]
    rfl
  have in1 : ∀ A ∈ L w d, ∀ B ∈ L w d, ∀ s3 : Sl, ∃ s3' : Sl, forL (gN 3) bodyA (A.map D.int) [.fr (bk (L w d) p), .fr (Ov.tI A), .fr (Ov.tI B), s3] = some (flO (A.findSome? (brA p A B)), [.fr (bk (L w d) p), .fr (Ov.tI A), .fr (Ov.tI B), s3']) := fun A hA B hB s3 =>
    forL_find (f := D.int) (env := fun s3 : Sl => [.fr (bk (L w d) p), .fr (Ov.tI A), .fr (Ov.tI B), s3]) (a := s3) fun a t ht => ⟨_, p_bodyA h s p hA hB ht a⟩
  have in2 : ∀ A ∈ L w d, ∀ s2 s3 : Sl, ∃ a' : Sl × Sl, forL (gN 2) (cFor (iSeq (cV 1)) (gN 3) bodyA) ((L w d).map fun l => Ov.tI l) [.fr (bk (L w d) p), .fr (Ov.tI A), s2, s3] = some (flO ((L w d).findSome? fun B => A.findSome? (brA p A B)), [.fr (bk (L w d) p), .fr (Ov.tI A), a'.1, a'.2]) := fun A hA s2 s3 => by
    refine forL_find (f := fun l => Ov.tI l) (env := fun a : Sl × Sl => [.fr (bk (L w d) p), .fr (Ov.tI A), a.1, a.2]) (a := (s2, s3)) fun a B hB => ?_
    obtain ⟨s3', r⟩ := in1 A hA B hB a.2
    refine ⟨(.fr (Ov.tI B), s3'), ?_⟩
    have e0 : gN 2 (Ov.tI B) [.fr (bk (L w d) p), .fr (Ov.tI A), a.1, a.2] = some [.fr (bk (L w d) p), .fr (Ov.tI A), .fr (Ov.tI B), a.2] := rfl
    have it : iSeq (cV 1) [.fr (bk (L w d) p), .fr (Ov.tI A), .fr (Ov.tI B), a.2] = some (A.map D.int, [.fr (bk (L w d) p), .fr (Ov.tI A), .fr (Ov.tI B), a.2]) := rfl
    rw [e0, Option.bind_some, e_cFor, it, Option.bind_some, r]
  have eD : ∀ (g : Eg) (b : Es) (r : List Sl), cForD 0 g b (.fr (bk (L w d) p) :: r) = forL g b ((L w d).map fun l => Ov.tI l) (.fr (bk (L w d) p) :: r) := fun g b r => by
    show forL g b (keysT ((L w d).map fun l => (l, D.int (p l)))) _ = _
    rw [kt]
  have out : ∃ a' : Sl × Sl × Sl, forL (gN 1) (cForD 0 (gN 2) (cFor (iSeq (cV 1)) (gN 3) bodyA)) ((L w d).map fun l => Ov.tI l) [.fr (bk (L w d) p), .no, .no, .no] = some (flO (brL w d p), [.fr (bk (L w d) p), a'.1, a'.2.1, a'.2.2]) := by
    refine forL_find (f := fun l => Ov.tI l) (env := fun a : Sl × Sl × Sl => [.fr (bk (L w d) p), a.1, a.2.1, a.2.2]) (a := (.no, .no, .no)) fun a A hA => ?_
    obtain ⟨a', r⟩ := in2 A hA a.2.1 a.2.2
    refine ⟨(.fr (Ov.tI A), a'.1, a'.2), ?_⟩
    have e0 : gN 1 (Ov.tI A) [.fr (bk (L w d) p), a.1, a.2.1, a.2.2] = some [.fr (bk (L w d) p), .fr (Ov.tI A), a.2.1, a.2.2] := rfl
    rw [e0, Option.bind_some, eD, r]
  obtain ⟨a', r⟩ := out
  unfold d__law_twofold
  rw [e_mkDf]
  unfold c__law_twofold
  show ((cSeq (cForD 0 (gN 1) _) _) [.fr (bk (L w d) p), .no, .no, .no]).bind _ = _
  rw [e_cSeq, eD]
  show ((Option.bind (forL (gN 1) (cForD 0 (gN 2) (cFor (iSeq (cV 1)) (gN 3) bodyA)) _ _) _).bind _) = _
  rw [r, Option.bind_some]
  cases brL w d p with
  | none => rfl
  | some z => rfl
theorem findSome_none {α β : Type} {f : α → Option β} : ∀ {xs : List α}, xs.findSome? f = none → ∀ x ∈ xs, f x = none
  | y :: ys, h, x, hx => by
    rw [List.findSome?_cons] at h
    cases q : f y with
    | some c => rw [q] at h; cases h
    | none =>
      rw [q] at h
      rcases List.mem_cons.mp hx with z | z
      · rw [z]; exact q
      · exact findSome_none h x z
theorem none_findSome {α β : Type} {f : α → Option β} : ∀ {xs : List α}, (∀ x ∈ xs, f x = none) → xs.findSome? f = none
  | [], _ => rfl
  | y :: ys, h => by
    rw [List.findSome?_cons, h y List.mem_cons_self]
    exact none_findSome fun x hx => h x (List.mem_cons_of_mem _ hx)
theorem findSome_val {α β : Type} {f : α → Option β} {c : β} : ∀ {xs : List α}, xs.findSome? f = some c → ∃ x ∈ xs, f x = some c
  | y :: ys, h => by
    rw [List.findSome?_cons] at h
    cases q : f y with
    | some e => rw [q] at h; cases h; exact ⟨y, List.mem_cons_self, q⟩
    | none =>
      rw [q] at h
      obtain ⟨x, hx, e⟩ := findSome_val h
      exact ⟨x, List.mem_cons_of_mem _ hx, e⟩
theorem Ch3_len (p : List Int → Int) (A B : List Int) (t : Int) : (B.filter (Ch3 p A B t)).length = 0 ↔ Ex p A B t = false := by
  rw [List.length_eq_zero_iff, List.filter_eq_nil_iff]
  unfold Ex minus Ch3
  rw [← Bool.not_eq_true, List.any_eq_true]
  constructor
  · intro h ⟨j, hj, hd⟩
    obtain ⟨h1, h2⟩ := List.mem_filter.mp hj
    exact h j h1 (by rw [h2, hd]; rfl)
  · intro h j hj hc
    rw [Bool.and_eq_true] at hc
    exact h ⟨j, List.mem_filter.mpr ⟨hj, hc.1⟩, hc.2⟩
theorem Ch3_len2 (p : List Int → Int) (A B : List Int) (t : Int) : decide ((B.filter (Ch3 p A B t)).length = 0) = !Ex p A B t := by
  cases h : Ex p A B t
  · exact decide_eq_true ((Ch3_len p A B t).mpr h)
  · exact decide_eq_false fun q => by
      rw [(Ch3_len p A B t).mp q] at h
      cases h
theorem p_law_twofold {w d : Nat} (h : ClL w d) (s : ClS w d) (hf : ClF w d) (hh : ClH w d) (p : List Int → Int) : d__law_twofold [.fr (bk (L w d) p)] = some (.rt (.bl ((foursF w d).all (tw p))), [.no]) := by
  have hn := of_decide_eq_true hh.nodup
  have hlen : (kvsF w d p).length = (L w d).length := by unfold kvsF; rw [List.length_map]
  have q := p_law_twofold0 h s p
  have bv : ∀ z, brL w d p = some z → z = .bl false := fun z hz => by
    obtain ⟨A, _, hz⟩ := findSome_val hz
    obtain ⟨B, _, hz⟩ := findSome_val hz
    obtain ⟨t, _, hz⟩ := findSome_val hz
    unfold brA at hz
    split at hz
    · exact (Option.some.inj hz).symm
    · cases hz
  cases hT : (foursF w d).all (tw p)
  · -- some four is broken: some exchange is missed
    cases hb : brL w d p with
    | some z =>
      rw [hb, bv z hb] at q
      exact q
    | none =>
      exfalso
      have ex : ∀ A ∈ L w d, ∀ B ∈ L w d, ∀ t ∈ A, B.contains t = false → Ex p A B t = true := fun A hA B hB t ht hc => by
        have e := findSome_none (findSome_none (findSome_none hb A hA) B hB) t ht
        unfold brA at e
        rw [hc, Ch3_len2] at e
        cases hx : Ex p A B t
        · rw [hx] at e
          cases e
        · rfl
      have am : allMeet (kvsF w d p) = true := by
        refine List.all_eq_true.mpr fun k hk => List.all_eq_true.mpr fun m hm => ?_
        have hk := List.mem_range.mp hk
        have hm := List.mem_range.mp hm
        rw [hlen] at hk
        rw [F_at, F_at]
        rcases meet_F p hn (L_mem hk) (L_mem (Nat.lt_trans hm hk)) (chk_at hh hk hm) with ⟨t, u, i, j, g1, g2, e, _⟩ | ⟨_, e⟩
        · rw [e]
          have mt : t ∈ minus ((L w d).getD k []) ((L w d).getD m []) := by rw [g1]; exact List.mem_cons_self
          obtain ⟨mt1, mt2⟩ := List.mem_filter.mp mt
          have := ex _ (L_mem hk) _ (L_mem (Nat.lt_trans hm hk)) t mt1 (by simpa using mt2)
          unfold Ex at this
          rw [g2] at this
          simp only [List.any_cons, List.any_nil, Bool.or_false] at this
          exact this
        · exact e
      have := (allMeet_iff p hf hh).mp am
      rw [List.all_eq_true.mpr this] at hT
      cases hT
  · have ta := List.all_eq_true.mp hT
    have hb : brL w d p = none := none_findSome fun A hA => none_findSome fun B hB => none_findSome fun t ht => by
      unfold brA
      cases hc : B.contains t
      · rw [Ch3_len2]
        have ck := ClS.inL h s hA hB ht hc
        unfold chkS at ck
        rw [Bool.and_eq_true] at ck
        have ck := ck.2
        have hx : Ex p A B t = true := by
          unfold Ex
          split at ck
          · rename_i j hj
            rw [Bool.and_eq_true, decide_eq_true_eq, decide_eq_true_eq] at ck
            rw [hj, List.any_cons, ck.1, ck.2]
            have : p A + p B ≤ p B + p A := by omega
            rw [decide_eq_true this]
            rfl
          · rename_i i j hj
            rw [Bool.and_eq_true, decide_eq_true_eq] at ck
            obtain ⟨c1, c2⟩ := ck
            rw [hj]
            simp only [List.any_cons, List.any_nil, Bool.or_false]
            obtain ⟨a, b, c, e, h4⟩ := four4 w d hf c1
            have tt := (tw_iff p _).mp (ta _ c1)
            rcases parts_iff p h4 c2 with ⟨_, f⟩ | ⟨_, f⟩ | ⟨_, f⟩
            · exact f.mpr tt.1
            · exact f.mpr tt.2.1
            · exact f.mpr tt.2.2
          · cases ck
        rw [hx]
        rfl
      · rfl
    rw [hb] at q
    exact q
end K09
namespace K09
open PySem PySem.Spec PyProof.Rows L2 Ov
/-! the law's permutation -/
def permsOf : Nat → List Int → List (List Int)
  | 0, _ => [[]]
  | n + 1, left => (List.range left.length).flatMap fun i => (permsOf n (left.eraseIdx i)).map fun r => left.getD i 0 :: r
theorem erase_map : ∀ (xs : List Int) (k : Nat), (xs.map D.int).eraseIdx k = (xs.eraseIdx k).map D.int
  | [], _ => rfl
  | x :: xs, 0 => rfl
  | x :: xs, k + 1 => by
    rw [List.map_cons, List.eraseIdx_cons_succ, List.eraseIdx_cons_succ, List.map_cons, erase_map xs k]
abbrev permB : Es := cApp 3 (cPopAt 2 (cCall 2 d__law_take (gOwn 0 (gCons (cB0 2 lenD) gNil))))
theorem p_permL (W : Sl) : ∀ (n : Nat) (ts left found ds : List Int) (s4 : Sl), ts.length = n → left.length = n → found.length + n ≤ 1000 →
    ∃ t ∈ permsOf n left, ∃ (ds' : List Int) (s4' : Sl), forL (gN 4) permB (ts.map D.int) [owI ds, W, owI left, owI found, s4] = some (.nx, [owI ds', W, owI [], owI (found ++ t), s4'])
  | 0, ts, left, found, ds, s4, h1, h2, _ => by
    rw [List.length_eq_zero_iff] at h1 h2
    subst h1 h2
    exact ⟨[], List.mem_singleton.mpr rfl, ds, s4, by rw [List.map_nil, e_forN, List.append_nil]⟩
  | n + 1, [], _, _, _, _, h1, _, _ => by cases h1
  | n + 1, tu :: ts, left, found, ds, s4, h1, h2, h3 => by
    rw [List.length_cons] at h1
    have hl := k_len left
    obtain ⟨v, ds1, e1, b1, b2⟩ := e_take (i := 0) (ce := cB0 2 lenD) (ρ := [owI ds, W, owI left, owI found, .fr (.int tu)]) (ds := ds) (b := (left.length : Nat)) rfl (by
      simp -implicitDefEqProofs only [e_cB0, getS, List.getElem?_cons_zero, List.getElem?_cons_succ, Option.bind_some, hl]) (by omega)
    have hv : v.toNat < left.length := by omega
    have e1' : cCall 2 d__law_take (gOwn 0 (gCons (cB0 2 lenD) gNil)) [owI ds, W, owI left, owI found, .fr (.int tu)] = some (.int v, [owI ds1, W, owI left, owI found, .fr (.int tu)]) := e1
    have hx : (left.map D.int)[v.toNat]? = some (.int (left.getD v.toNat 0)) := by
      rw [List.getElem?_map, List.getElem?_eq_getElem hv, List.getD_eq_getElem?_getD, List.getElem?_eq_getElem hv]
      rfl
    have hbd : 0 ≤ v ∧ v < 1000000 := ⟨b1, by omega⟩
    have e2 : cPopAt 2 (cCall 2 d__law_take (gOwn 0 (gCons (cB0 2 lenD) gNil))) [owI ds, W, owI left, owI found, .fr (.int tu)] = some (.int (left.getD v.toNat 0), [owI ds1, W, owI (left.eraseIdx v.toNat), owI found, .fr (.int tu)]) := by
      rw [e_cPopAt]
      have o1 : ownLst [owI ds, W, owI left, owI found, .fr (.int tu)] 2 = some (left.map D.int) := rfl
      have o2 : ownLst [owI ds1, W, owI left, owI found, .fr (.int tu)] 2 = some (left.map D.int) := rfl
      rw [o1, Option.bind_some, e1', Option.bind_some, o2, Option.bind_some, e_toI, Option.bind_some, if_pos hbd, hx, Option.bind_some, erase_map]
      rfl
    have e3 := app_int (i := 3) (ce := cPopAt 2 (cCall 2 d__law_take (gOwn 0 (gCons (cB0 2 lenD) gNil)))) (ρ := [owI ds, W, owI left, owI found, .fr (.int tu)]) (ds := found) rfl e2 rfl (by omega)
    obtain ⟨t, ht, ds', s4', r⟩ := p_permL W n ts (left.eraseIdx v.toNat) (found ++ [left.getD v.toNat 0]) ds1 (.fr (.int tu)) (by omega) (by rw [List.length_eraseIdx, if_pos hv]; omega) (by rw [List.length_append, List.length_singleton]; omega)
    refine ⟨left.getD v.toNat 0 :: t, List.mem_flatMap.mpr ⟨v.toNat, List.mem_range.mpr hv, List.mem_map.mpr ⟨t, ht, rfl⟩⟩, ds', s4', ?_⟩
    have e4 : (gN 4 (.int tu) [owI ds, W, owI left, owI found, s4]).bind permB = some (.nx, [owI ds1, W, owI (left.eraseIdx v.toNat), owI (found ++ [left.getD v.toNat 0]), .fr (.int tu)]) := e3
    rw [List.map_cons, e_forB, e4]
    show forL _ _ _ _ = _
    rw [r, List.append_assoc]
    rfl
def ps5 : List (List Int) := permsOf 5 (rgI 0 5)
theorem p_perm (ds : List Int) : ∃ t ∈ ps5, ∃ ds' : List Int, d__law_perm [owI ds, .fr (.int 5)] = some (.rt (.lst (t.map D.int)), [owI ds', .no]) := by
  obtain ⟨t, ht, ds', s4', r⟩ := p_permL (.fr (.int 5)) 5 (rgI 0 5) (rgI 0 5) [] ds .no (by decide +kernel) (by decide +kernel) (by decide)
  refine ⟨t, ht, ds', ?_⟩
  unfold d__law_perm
  rw [e_mkDf]
  unfold c__law_perm
  show ((cSeq (cFor (iRg1 (cV 1)) (gN 4) permB) (cRet (cV 3))) [owI ds, .fr (.int 5), owI (rgI 0 5), owI [], .no]).bind _ = _
  have it : iRg1 (cV 1) [owI ds, .fr (.int 5), owI (rgI 0 5), owI [], .no] = some ((rgI 0 5).map D.int, [owI ds, .fr (.int 5), owI (rgI 0 5), owI [], .no]) := rg_v 1 5 (by decide) _ rfl
  rw [e_cSeq, e_cFor, it, Option.bind_some, r, Option.bind_some, List.nil_append]
  rfl
end K09
namespace K09
open PySem PySem.Spec PyProof.Rows L2 Ov
/-! the table without one thing -/
def ls0 : List (List Int) := (L 5 2).filter fun l => !l.contains 4
def mv (t l : List Int) : List Int := sortI (l.map fun e => t.getD e.toNat 0)
def ms (t : List Int) : List (List Int) := ls0.map (mv t)
def lz (z : Int) : List (List Int) := (L 5 2).filter fun l => !l.contains z
def kz (z : Int) (q : List Int → Int) : Kvs := (lz z).map fun l => (l, q l)
def wl (z : Int) (q : List Int → Int) : List D := (L 5 2).map fun l => if l.contains z = true then .non else .int (q l)
def wz (z : Int) (q : List Int → Int) : D := .tup (wl z q)
def Tz (z : Int) (q : List Int → Int) : D := tblKD 5 2 (wz z q) (kz z q)
def zt (t : List Int) : Int := t.getD 4 0
def zs5 : List Int := rgI 0 5
theorem t_init (q : List Int → Int) : zs5.map (fun z => d_Table_init [.int 5, .int 2, .lst (wl z q)]) = zs5.map fun z => some (tblK 5 2 (wz z q) (kz z q)) := by kernel_rfl
theorem t_four (q : List Int → Int) : zs5.map (fun z => d_four_list [.fr (Tz z q)]) = zs5.map fun _ => some (.rt (.lst ((foursF 5 2).map pr)), [.no]) := by kernel_rfl
def Sz (z : Int) (q : List Int → Int) (x : Four) : D := if x.2.contains z = true then .tup [.non, .non, .non] else sumsD q x
theorem t_sums (q : List Int → Int) : (zs5.flatMap fun z => (foursF 5 2).map fun x => (z, x)).map (fun y => d_sums_at [.fr (Tz y.1 q), .fr (Ov.tI y.2.1), .fr (Ov.tI y.2.2)]) = (zs5.flatMap fun z => (foursF 5 2).map fun x => (z, x)).map fun y => some (.rt (Sz y.1 q y.2), [.no, .no, .no]) := by kernel_rfl
theorem t_non : d_twice_in [.fr (.tup [.non, .non, .non])] = some (.rt (.bl true), [.no]) := by kernel_rfl
def keys6 (x : Four) : List (List Int) := match x.2 with | [a, b, c, e] => [key x.1 a b, key x.1 c e, key x.1 a c, key x.1 b e, key x.1 a e, key x.1 b c] | _ => []
def okX (z : Int) : Bool := (foursF 5 2).all fun x => x.2.contains z || (decide ((keys6 x).Nodup) && ((lz z).all (fun l => decide (l ∈ keys6 x)) && (keys6 x).all fun l => decide (l ∈ lz z)))
/-- the pair of P and the lot beside it: no flip meets P -/
def offP (z : Int) (P A B : List Int) (f : Int) : Bool := decide (Builtin.bitXor (maskI 0 A) f ≠ maskI 0 P) && decide (Builtin.bitXor (maskI 0 B) f ≠ maskI 0 P)
def okM (z : Int) (P : List Int) : Bool := (List.range (lz z).length).any fun k => (List.range k).any fun m =>
  (decide ((lz z).getD k [] = P) || decide ((lz z).getD m [] = P)) && (decide ((minus ((lz z).getD k []) ((lz z).getD m [])).length = 2) && (flips (minus ((lz z).getD k []) ((lz z).getD m [])) (minus ((lz z).getD m []) ((lz z).getD k []))).all (offP z P ((lz z).getD k []) ((lz z).getD m [])))
def okB (z : Int) (P : List Int) : Bool := (lz z).any fun Q => P.any fun t => !Q.contains t && (flips [t] (minus Q P)).all (offP z P P Q)
theorem t_okX : zs5.all okX = true := by kernel_rfl
theorem t_okM : (zs5.all fun z => (lz z).all (okM z)) = true := by kernel_rfl
theorem t_okB : (zs5.all fun z => (lz z).all (okB z)) = true := by kernel_rfl
theorem t_small : (zs5.all fun z => (lz z).all (fun l => decide (l.length ≤ 100) && l.all fun e => decide (0 ≤ e ∧ e ≤ 1000)) && decide ((lz z).length ≤ 1000)) = true := by kernel_rfl
theorem t_mask : (zs5.all fun z => decide (((lz z).map (maskI 0)).Nodup)) = true := by kernel_rfl
theorem t_ms : (ps5.all fun t => decide ((ms t).Nodup) && ((lz (zt t)).all (fun l => decide (l ∈ ms t)) && (decide (zt t ∈ zs5) && (decide (mv t [0, 1] ∈ lz (zt t)) && (ms t).all fun l => decide (l ∈ lz (zt t)))))) = true := by kernel_rfl
theorem t_one : (zs5.all fun z => decide (((foursF 5 2).filter fun x => !x.2.contains z).length = 1)) = true := by kernel_rfl
/-- P is worth 9, the others 0 to 3 -/
structure Wor (z : Int) (P : List Int) (q : List Int → Int) : Prop where
  iz : z ∈ zs5
  mem : P ∈ lz z
  nine : q P = 9
  rest : ∀ l ∈ lz z, l ≠ P → 0 ≤ q l ∧ q l ≤ 3
theorem kz_bs (z : Int) (q : List Int → Int) : bsK (kz z q) = lz z := by
  unfold bsK kz
  rw [List.map_map]
  exact List.map_id _
theorem kz_ok {z : Int} (q : List Int → Int) (hz : z ∈ zs5) : KOk (kz z q) := by
  have s := List.all_eq_true.mp t_small z hz
  rw [Bool.and_eq_true] at s
  refine ⟨fun l hl => ?_, ?_, fun l hl => ?_⟩
  · rw [kz_bs] at hl
    have := List.all_eq_true.mp s.1 l hl
    rw [Bool.and_eq_true] at this
    exact fun e he => of_decide_eq_true (List.all_eq_true.mp this.2 e he)
  · unfold kz
    rw [List.length_map]
    exact of_decide_eq_true s.2
  · rw [kz_bs] at hl
    have := List.all_eq_true.mp s.1 l hl
    rw [Bool.and_eq_true] at this
    exact of_decide_eq_true this.1
theorem lk_kz {z : Int} {q : List Int → Int} {m x : Int} (h : lk (atOf (kz z q)) m = some x) : ∃ l ∈ lz z, maskI 0 l = m ∧ x = q l := by
  unfold lk at h
  obtain ⟨kv, h1, h2⟩ := Option.map_eq_some_iff.mp h
  have h3 := List.mem_of_find?_eq_some h1
  have h4 := List.find?_some h1
  unfold atOf kz at h3
  rw [List.map_map] at h3
  obtain ⟨l, hl, rfl⟩ := List.mem_map.mp h3
  exact ⟨l, hl, of_decide_eq_true h4, h2.symm⟩
theorem lk_kzl {z : Int} {q : List Int → Int} (hz : z ∈ zs5) {l : List Int} (hl : l ∈ lz z) : lk (atOf (kz z q)) (maskI 0 l) = some (q l) := by
  have n := of_decide_eq_true (List.all_eq_true.mp t_mask z hz)
  unfold lk atOf kz
  rw [List.map_map]
  show Option.map _ (((lz z).map fun l => (maskI 0 l, q l)).find? _) = _
  rw [find_map (maskI 0) q (maskI 0 l) (lz z) l hl rfl n]
  rfl
theorem no_off {z : Int} {P : List Int} {q : List Int → Int} (W : Wor z P q) {A B : List Int} (hA : A ∈ lz z) (hB : B ∈ lz z) (hP : A = P ∨ B = P) {f : Int} (hf : offP z P A B f = true) : noLoss (atOf (kz z q)) (maskI 0 A) (maskI 0 B) f = false := by
  unfold offP at hf
  rw [Bool.and_eq_true, decide_eq_true_eq, decide_eq_true_eq] at hf
  have lo : ∀ m x, m ≠ maskI 0 P → lk (atOf (kz z q)) m = some x → x ≤ 3 := fun m x hm h => by
    obtain ⟨l, hl, e1, e2⟩ := lk_kz h
    have : l ≠ P := fun e => hm (by rw [← e1, e])
    rw [e2]
    exact (W.rest l hl this).2
  have nn : ∀ l ∈ lz z, 0 ≤ q l := fun l hl => by
    by_cases e : l = P
    · rw [e, W.nine]
      omega
    · exact (W.rest l hl e).1
  unfold noLoss
  split
  · rename_i x y hx hy
    rw [lk_kzl W.iz hA, lk_kzl W.iz hB]
    apply decide_eq_false
    have h1 := lo _ _ hf.1 hx
    have h2 := lo _ _ hf.2 hy
    have h3 := nn A hA
    have h4 := nn B hB
    have h5 := W.nine
    show ¬ (q A + q B ≤ x + y)
    rcases hP with e | e
    · rw [e]
      omega
    · rw [e]
      omega
  · rfl
theorem getD_mem {α : Type} {xs : List α} {k : Nat} (d : α) (h : k < xs.length) : xs.getD k d ∈ xs := by
  rw [List.getD_eq_getElem?_getD, List.getElem?_eq_getElem h]
  exact List.getElem_mem h
theorem z_not {z : Int} {P : List Int} {q : List Int → Int} (W : Wor z P q) : isTwofold (kz z q) = false := by
  have hM := List.all_eq_true.mp (List.all_eq_true.mp t_okM z W.iz) P W.mem
  have hB := List.all_eq_true.mp (List.all_eq_true.mp t_okB z W.iz) P W.mem
  have hlen : (kz z q).length = (lz z).length := by unfold kz; rw [List.length_map]
  have h1 : allMeet (kz z q) = false := by
    unfold okM at hM
    obtain ⟨k, hk, hM⟩ := List.any_eq_true.mp hM
    obtain ⟨m, hm, hM⟩ := List.any_eq_true.mp hM
    have hk := List.mem_range.mp hk
    have hm := List.mem_range.mp hm
    rw [Bool.and_eq_true, Bool.and_eq_true, Bool.or_eq_true, decide_eq_true_eq, decide_eq_true_eq, decide_eq_true_eq] at hM
    obtain ⟨c1, c2, c3⟩ := hM
    cases ha : allMeet (kz z q)
    · rfl
    · exfalso
      have e := List.all_eq_true.mp (List.all_eq_true.mp ha k (List.mem_range.mpr (by rw [hlen]; exact hk))) m (List.mem_range.mpr hm)
      unfold bAt at e
      rw [kz_bs] at e
      unfold meetP meetsF at e
      rw [if_neg (by omega), if_pos c2] at e
      obtain ⟨f, hf, e⟩ := List.any_eq_true.mp e
      rw [no_off W (getD_mem [] hk) (getD_mem [] (Nat.lt_trans hm hk)) c1 (List.all_eq_true.mp c3 f (List.mem_of_mem_take hf))] at e
      cases e
  have h2 : ∃ c, brkF (kz z q) = some c := by
    unfold okB at hB
    obtain ⟨Q, hQ, hB⟩ := List.any_eq_true.mp hB
    obtain ⟨t, ht, hB⟩ := List.any_eq_true.mp hB
    rw [Bool.and_eq_true] at hB
    obtain ⟨c1, c2⟩ := hB
    have hs : stepP (kz z q) P Q t = false := by
      cases hs : stepP (kz z q) P Q t
      · rfl
      · exfalso
        unfold stepP at hs
        obtain ⟨f, hf, e⟩ := List.any_eq_true.mp hs
        rw [no_off W W.mem hQ (.inl rfl) (List.all_eq_true.mp c2 f hf)] at e
        cases e
    have hbr : brT (kz z q) P Q t = some (.tup [Ov.tI P, Ov.tI Q, .int t]) := by
      unfold brT
      rw [c1, hs]
      rfl
    obtain ⟨_, y1⟩ := findSome_some ht hbr
    obtain ⟨_, y2⟩ := findSome_some (f := fun other => P.findSome? (brT (kz z q) P other)) (xs := bsK (kz z q)) (by rw [kz_bs]; exact hQ) y1
    exact findSome_some (f := fun one => (bsK (kz z q)).findSome? fun other => one.findSome? (brT (kz z q) one other)) (xs := bsK (kz z q)) (by rw [kz_bs]; exact W.mem) y2
  obtain ⟨c, h2⟩ := h2
  unfold isTwofold
  rw [h1, h2]
  rfl
theorem wz_pl (z : Int) (q : List Int → Int) : plD (wz z q) = true := by
  have : ∀ ls : List (List Int), plL (ls.map fun l => if l.contains z = true then D.non else .int (q l)) = true := fun ls => by
    induction ls with
    | nil => rfl
    | cons l ls ih =>
      rw [List.map_cons]
      cases l.contains z
      · exact ih
      · exact ih
  exact this _
theorem z_twofold {z : Int} {P : List Int} {q : List Int → Int} (W : Wor z P q) : d_is_twofold [.fr (Tz z q)] = some (.rt (.bl false), [.no]) := by
  have h := p_is_twofold (w := 5) (d := 2) (ws := wz z q) (kz_ok q W.iz) (wz_pl z q)
  rw [z_not W] at h
  exact h
theorem p_brokenG {T : D} {F : List Four} (S : Four → D) (tt : Four → Bool) (hF : d_four_list [.fr T] = some (.rt (.lst (F.map pr)), [.no])) (hS : ∀ x ∈ F, d_sums_at [.fr T, .fr (Ov.tI x.1), .fr (Ov.tI x.2)] = some (.rt (S x), [.no, .no, .no]))
    (hT : ∀ x ∈ F, d_twice_in [.fr (S x)] = some (.rt (.bl (tt x)), [.no])) :
    d_broken_fours [.fr T] = some (.rt (.tup (F.flatMap fun x => if tt x = true then [] else [pr x])), [.no]) := by
  have h := lcG_pure (vs := [1, 2]) (g := gT 2 (gCons' (gN 1) (gCons' (gN 2) gNil'))) (st := stE (cNot (cTr (cCall 1 d_twice_in (gCons (cCall 3 d_sums_at (gCons (cV 0) (gCons (cV 1) (gCons (cV 2) gNil)))) gNil)))) (cTup (aCons (cV 1) (aCons (cV 2) aNil))))
    (f := pr) (o := fun x => if tt x = true then [] else [pr x]) (ρ := [.fr T, .no, .no]) (xs := F) fun x hx => by
    have q1 := hS x hx
    have q3 := hT x hx
    refine ⟨[.fr T, .fr (Ov.tI x.1), .fr (Ov.tI x.2)], ?_, rfl⟩
    simp only [pr, e_gT, e_gCons, e_gN, e_gNil, Option.bind_some, List.set_cons_zero, List.set_cons_succ, List.length_cons, List.length_nil, if_true]
    cases ht : tt x
    · simp [ht, e_stE, e_cNot, e_cTr, e_cCall, e_agC, e_agN, e_cV, argS, nodupB, oIx, q1, q3, backS, truB, e_cTup, e_aCons, e_aNil]
    · simp [ht, e_stE, e_cNot, e_cTr, e_cCall, e_agC, e_agN, e_cV, argS, nodupB, oIx, q1, q3, backS, truB, e_cTup, e_aCons, e_aNil]
  simp [d_broken_fours, e_mkDf, c_broken_fours, e_cRet, e_c1, e_cLc, e_iSeq, e_cCall, e_agC, e_agN, e_cV, argS, nodupB, oIx, hF, backS, wipR, h, tupleD, retA]
theorem z_tw {z : Int} {P : List Int} {q : List Int → Int} (W : Wor z P q) {x : Four} (hx : x ∈ foursF 5 2) (hc : x.2.contains z = false) : tw q x = false := by
  have k := List.all_eq_true.mp (List.all_eq_true.mp t_okX z W.iz) x hx
  rw [hc, Bool.false_or, Bool.and_eq_true, Bool.and_eq_true, decide_eq_true_eq] at k
  obtain ⟨k1, k2, k3⟩ := k
  obtain ⟨a, b, c, e, h4⟩ := four4 5 2 clf_5_2 hx
  have hP := of_decide_eq_true (List.all_eq_true.mp k2 P W.mem)
  obtain ⟨low, four⟩ := x
  simp only at h4
  subst h4
  have e6 : keys6 (low, [a, b, c, e]) = [key low a b, key low c e, key low a c, key low b e, key low a e, key low b c] := rfl
  rw [e6] at k1 k3 hP
  have b6 : ∀ l ∈ [key low a b, key low c e, key low a c, key low b e, key low a e, key low b c], l ≠ P → 0 ≤ q l ∧ q l ≤ 3 := fun l hl hne => W.rest l (of_decide_eq_true (List.all_eq_true.mp k3 l hl)) hne
  cases ht : tw q (low, [a, b, c, e])
  · rfl
  · exfalso
    have t := (tw_iff q _).mp ht
    have u1 : s1 q (low, [a, b, c, e]) = q (key low a b) + q (key low c e) := rfl
    have u2 : s2 q (low, [a, b, c, e]) = q (key low a c) + q (key low b e) := rfl
    have u3 : s3 q (low, [a, b, c, e]) = q (key low a e) + q (key low b c) := rfl
    rw [u1, u2, u3] at t
    generalize key low a b = k1' at *
    generalize key low c e = k2' at *
    generalize key low a c = k3' at *
    generalize key low b e = k4' at *
    generalize key low a e = k5' at *
    generalize key low b c = k6' at *
    have n9 := W.nine
    simp only [List.nodup_cons, List.mem_cons, List.not_mem_nil, or_false, not_or] at k1
    obtain ⟨⟨m12, m13, m14, m15, m16⟩, ⟨m23, m24, m25, m26⟩, ⟨m34, m35, m36⟩, ⟨m45, m46⟩, m56, _⟩ := k1
    simp only [List.mem_cons, List.not_mem_nil, or_false] at hP
    have g1 := b6 k1' (by simp)
    have g2 := b6 k2' (by simp)
    have g3 := b6 k3' (by simp)
    have g4 := b6 k4' (by simp)
    have g5 := b6 k5' (by simp)
    have g6 := b6 k6' (by simp)
    rcases hP with rfl | rfl | rfl | rfl | rfl | rfl
    · have := g2 (Ne.symm m12); have := g3 (Ne.symm m13); have := g4 (Ne.symm m14); have := g5 (Ne.symm m15); have := g6 (Ne.symm m16)
      omega
    · have := g1 m12; have := g3 (Ne.symm m23); have := g4 (Ne.symm m24); have := g5 (Ne.symm m25); have := g6 (Ne.symm m26)
      omega
    · have := g1 m13; have := g2 m23; have := g4 (Ne.symm m34); have := g5 (Ne.symm m35); have := g6 (Ne.symm m36)
      omega
    · have := g1 m14; have := g2 m24; have := g3 m34; have := g5 (Ne.symm m45); have := g6 (Ne.symm m46)
      omega
    · have := g1 m15; have := g2 m25; have := g3 m35; have := g4 m45; have := g6 (Ne.symm m56)
      omega
    · have := g1 m16; have := g2 m26; have := g3 m36; have := g4 m46; have := g5 m56
      omega
theorem flat_not {c : Four → Bool} : ∀ F : List Four, (F.flatMap fun x => if c x = true then [] else [pr x]) = (F.filter fun x => !c x).map pr
  | [] => rfl
  | x :: F => by
    rw [List.flatMap_cons, flat_not F]
    cases h : c x <;> simp [h]
theorem z_broken {z : Int} {P : List Int} {q : List Int → Int} (W : Wor z P q) : ∃ ys : List D, d_broken_fours [.fr (Tz z q)] = some (.rt (.tup ys), [.no]) ∧ ys.length = 1 := by
  have hF := map_at (t_four q) z W.iz
  have h := p_brokenG (T := Tz z q) (F := foursF 5 2) (Sz z q) (fun x => x.2.contains z) hF (fun x hx => map_at (t_sums q) (z, x) (List.mem_flatMap.mpr ⟨z, W.iz, List.mem_map.mpr ⟨x, hx, rfl⟩⟩)) fun x hx => by
    unfold Sz
    cases hc : x.2.contains z
    · rw [if_neg Bool.false_ne_true]
      have q2 := p_twice_in (s1 q x) (s2 q x) (s3 q x)
      have q3 : d_twice_in [.fr (sumsD q x)] = some (.rt (.bl (tw q x)), [.no]) := q2
      rw [z_tw W hx hc] at q3
      exact q3
    · rw [if_pos rfl]
      exact t_non
  rw [flat_not] at h
  exact ⟨_, h, by rw [List.length_map]; exact of_decide_eq_true (List.all_eq_true.mp t_one z W.iz)⟩
end K09
namespace K09
open PySem PySem.Spec PyProof.Rows L2 Ov
theorem ms_iff {t : List Int} (ht : t ∈ ps5) : zt t ∈ zs5 ∧ ∀ l, l ∈ ms t ↔ l ∈ lz (zt t) := by
  have tm := List.all_eq_true.mp t_ms t ht
  rw [Bool.and_eq_true, Bool.and_eq_true, Bool.and_eq_true, Bool.and_eq_true, decide_eq_true_eq, decide_eq_true_eq, decide_eq_true_eq] at tm
  obtain ⟨_, tm1, tm2, _, tm4⟩ := tm
  exact ⟨tm2, fun l => ⟨fun h => of_decide_eq_true (List.all_eq_true.mp tm4 l h), fun h => of_decide_eq_true (List.all_eq_true.mp tm1 l h)⟩⟩
theorem flat_single {f : List Int → D} : ∀ xs : List (List Int), (xs.flatMap fun e => [f e]) = xs.map f
  | [] => rfl
  | x :: xs => by
    rw [List.flatMap_cons, flat_single xs]
    rfl
theorem bk_get {ls : List (List Int)} {q : List Int → Int} (k : List Int) : getDD (bk ls q) (Ov.tI k) = some (if k ∈ ls then .int (q k) else .non) := by
  have e : getDct (bk ls q) (Ov.tI k) = some (look (ls.map fun l => (l, D.int (q l))) k) := by
    show Option.map _ (keyOf (Ov.tI k)) = _
    rw [keyOf_tI]
    rfl
  unfold getDD
  rw [e, bk_look, Option.bind_some]
  by_cases h : k ∈ ls
  · rw [if_pos h, if_pos h]
    rfl
  · rw [if_neg h, if_neg h]
    rfl
theorem p_worths (ls : List (List Int)) (q : List Int → Int) : d__law_worths [.fr (.int 5), .fr (.int 2), .fr (bk ls q)] = some (.rt (.lst ((L 5 2).map fun l => if l ∈ ls then .int (q l) else .non)), [.no, .no, .no]) := by
  have hc := lcG_pure (vs := [3]) (g := gN 3) (st := stE cYes (c2 getDD (cV 2) (cV 3))) (f := fun l => Ov.tI l) (o := fun l => [if l ∈ ls then D.int (q l) else .non]) (ρ := [.fr (.int 5), .fr (.int 2), .fr (bk ls q), .no]) (xs := L 5 2) fun l hl => by
    have g := bk_get (ls := ls) (q := q) l
    refine ⟨[.fr (.int 5), .fr (.int 2), .fr (bk ls q), .fr (Ov.tI l)], ?_, rfl⟩
    simp -implicitDefEqProofs only [e_gN, e_stE, e_cYes, e_c2, e_cV, List.set_cons_zero, List.set_cons_succ, List.getElem?_cons_zero, List.getElem?_cons_succ, Option.bind_some, g, if_true]
  rw [flat_single (f := fun l => if l ∈ ls then D.int (q l) else .non)] at hc
  have it := cll_5_2.it (ca := cV 0) (cb := cV 1) (ρ := [.fr (.int 5), .fr (.int 2), .fr (bk ls q), .no]) rfl rfl
  unfold d__law_worths
  rw [e_mkDf]
  unfold c__law_worths
  show ((cRet _) [.fr (.int 5), .fr (.int 2), .fr (bk ls q), .no]).bind _ = _
  rw [e_cRet, e_cLc, it, Option.bind_some]
  show ((Option.bind (Option.bind (lcG [3] (gN 3) (stE cYes (c2 getDD (cV 2) (cV 3))) ((L 5 2).map fun l => Ov.tI l) [.fr (.int 5), .fr (.int 2), .fr (bk ls q), .no]) _) _).bind _) = _
  rw [hc]
  rfl
theorem p_tblz (q : List Int → Int) {t : List Int} (ht : t ∈ ps5) : d__law_table [.fr (.int 5), .fr (.int 2), .fr (bk (ms t) q)] = some (.rt (Tz (zt t) q), [.no, .no, .no]) := by
  obtain ⟨hz, hm⟩ := ms_iff ht
  have w := p_worths (ms t) q
  have e : ((L 5 2).map fun l => if l ∈ ms t then D.int (q l) else .non) = wl (zt t) q := by
    unfold wl
    refine List.map_congr_left fun l hl => ?_
    by_cases h : l ∈ ms t
    · have h' := (List.mem_filter.mp ((hm l).mp h)).2
      rw [if_pos h]
      cases c : l.contains (zt t)
      · rfl
      · rw [c] at h'
        cases h'
    · rw [if_neg h]
      cases c : l.contains (zt t)
      · exact absurd ((hm l).mpr (List.mem_filter.mpr ⟨hl, by rw [c]; rfl⟩)) h
      · rfl
  rw [e] at w
  have i := map_at (t_init q) (zt t) hz
  have c := e_call3 (df := d__law_worths) (ca := cV 0) (cb := cV 1) (cc := cV 2) (ρ := [.fr (.int 5), .fr (.int 2), .fr (bk (ms t) q)]) rfl rfl rfl w
  unfold d__law_table
  rw [e_mkDf]
  unfold c__law_table
  show ((cRet _) [.fr (.int 5), .fr (.int 2), .fr (bk (ms t) q)]).bind _ = _
  have v0 : cV 0 [.fr (.int 5), .fr (.int 2), .fr (bk (ms t) q)] = some (.int 5, [.fr (.int 5), .fr (.int 2), .fr (bk (ms t) q)]) := rfl
  have v1 : cV 1 [.fr (.int 5), .fr (.int 2), .fr (bk (ms t) q)] = some (.int 2, [.fr (.int 5), .fr (.int 2), .fr (bk (ms t) q)]) := rfl
  have a : aCons (cV 0) (aCons (cV 1) (aCons (cCall 3 d__law_worths (gCons (cV 0) (gCons (cV 1) (gCons (cV 2) gNil)))) aNil)) [.fr (.int 5), .fr (.int 2), .fr (bk (ms t) q)] = some ([.int 5, .int 2, .lst (wl (zt t) q)], [.fr (.int 5), .fr (.int 2), .fr (bk (ms t) q)]) := by
    simp -implicitDefEqProofs only [e_aCons, e_aNil, v0, v1, c, Option.bind_some]
  rw [e_cRet]
  show ((Option.bind (Option.bind (aCons (cV 0) (aCons (cV 1) (aCons (cCall 3 d__law_worths (gCons (cV 0) (gCons (cV 1) (gCons (cV 2) gNil)))) aNil)) [.fr (.int 5), .fr (.int 2), .fr (bk (ms t) q)]) _) _).bind _) = _
  rw [a, Option.bind_some]
  show ((Option.bind (if (3 : Nat) = 3 then (d_Table_init [.int 5, .int 2, .lst (wl (zt t) q)]).bind _ else none) _).bind _) = _
  rw [if_pos rfl, i]
  rfl
theorem p_pairN {ls : List (List Int)} (q : List Int → Int) {low : List Int} {a b c e : Int} (hk : key low a b ∉ ls ∨ key low c e ∉ ls) (hl : low.length ≤ 1000) :
    d__law_pair_sum [.fr (bk ls q), .fr (Ov.tI low), .fr (.tup [.int a, .int b]), .fr (.tup [.int c, .int e])] = some (.rt .non, [.no, .no, .no, .no]) := by
  have n1 := bk_nin (p := q) (ls := ls) (key low a b)
  have n2 := bk_nin (p := q) (ls := ls) (key low c e)
  unfold d__law_pair_sum
  rw [e_mkDf]
  unfold c__law_pair_sum
  rw [e_cSeq, e_cSet, k_keyOf low a b hl rfl rfl]
  simp only [Option.bind_some]
  rw [e_cSeq, e_cSet, k_keyOf low c e hl rfl rfl]
  by_cases h1 : key low a b ∈ ls
  · rcases hk with hk | hk
    · exact absurd h1 hk
    · rw [decide_eq_true h1] at n1
      rw [decide_eq_false hk] at n2
      simp [e_cSeq, e_cIfS, e_cOr, e_cT, e_c2, e_cV, n1, n2, e_toB, e_cNx, e_cRet, e_cC, retA]
  · rw [decide_eq_false h1] at n1
    simp [e_cSeq, e_cIfS, e_cOr, e_cT, e_c2, e_cV, n1, n2, e_toB, e_cNx, e_cRet, e_cC, retA]
abbrev n3 : D := .tup [.non, .non, .non]
theorem p_sumsN {ls : List (List Int)} (q : List Int → Int) {low : List Int} {a b c e : Int} (h1 : key low a b ∉ ls ∨ key low c e ∉ ls) (h2 : key low a c ∉ ls ∨ key low b e ∉ ls) (h3 : key low a e ∉ ls ∨ key low b c ∉ ls) (hl : low.length ≤ 1000) :
    d__law_sums [.fr (bk ls q), .fr (Ov.tI low), .fr (.tup [.int a, .int b, .int c, .int e])] = some (.rt n3, [.no, .no, .no]) := by
  have q1 := p_pairN q h1 hl
  have q2 := p_pairN q h2 hl
  have q3 := p_pairN q h3 hl
  simp [d__law_sums, e_mkDf, c__law_sums, e_cSeq, e_cSet, e_cV, e_gT, e_gCons, e_gN, e_gNil, e_cRet, e_cTup, e_aCons, e_aNil, e_cCall, e_agC, e_agN, argS, nodupB, oIx, q1, q2, q3, backS, retA, n3]
def nonOk (z : Int) (x : Four) : Bool := decide (x.1.length ≤ 1000) && match x.2 with
  | [a, b, c, e] => (decide (key x.1 a b ∉ lz z) || decide (key x.1 c e ∉ lz z)) && ((decide (key x.1 a c ∉ lz z) || decide (key x.1 b e ∉ lz z)) && (decide (key x.1 a e ∉ lz z) || decide (key x.1 b c ∉ lz z)))
  | _ => false
theorem t_none : (zs5.all fun z => ((foursF 5 2).filter fun x => x.2.contains z).all (nonOk z)) = true := by kernel_rfl
theorem t_fs (q : List Int → Int) : (zs5.flatMap fun z => ((foursF 5 2).filter fun x => x.2.contains z).map fun x => (z, x)).map (fun y => d_four_sums [.fr (Tz y.1 q), .fr (Ov.tI y.2.1), .fr (Ov.tI y.2.2)]) = (zs5.flatMap fun z => ((foursF 5 2).filter fun x => x.2.contains z).map fun x => (z, x)).map fun y => some (.rt n3, [.no, .no, .no]) := by kernel_rfl
theorem t_istw : d_is_twice [.fr n3] = some (.rt (.bl true), [.no]) := by kernel_rfl
theorem t_lawtw : d__law_twice [.fr n3] = some (.rt (.bl true), [.no]) := by kernel_rfl
theorem t_ne3 : neD n3 n3 = some (.bl false) := by kernel_rfl
theorem p_throughG {T : D} {w : Nat} {F : List Four} (z : Int) (hz : 0 ≤ z ∧ z < w) (h0 : atD "Table" 0 T = some (.int w)) (hF : d_four_list [.fr T] = some (.rt (.lst (F.map pr)), [.no])) :
    d_fours_through [.fr T, .fr (.int z)] = some (.rt (.tup (F.flatMap fun x => if x.2.contains z = true then [pr x] else [])), [.no, .no]) := by
  have q := p_check_thing z w hz
  have h := lcG_pure (vs := [2, 3]) (g := gT 2 (gCons' (gN 2) (gCons' (gN 3) gNil'))) (st := stE (cT (c2 inD (cV 1) (cV 3))) (cTup (aCons (cV 2) (aCons (cV 3) aNil))))
    (f := pr) (o := fun x => if x.2.contains z = true then [pr x] else []) (ρ := [.fr T, .fr (.int z), .no, .no]) (xs := F) fun x hx => by
    have q1 := k_in z x.2
    refine ⟨[.fr T, .fr (.int z), .fr (Ov.tI x.1), .fr (Ov.tI x.2)], ?_, rfl⟩
    simp only [pr, e_gT, e_gCons, e_gN, e_gNil, Option.bind_some, List.set_cons_zero, List.set_cons_succ, List.length_cons, List.length_nil, if_true]
    cases ht : x.2.contains z
    · rw [ht] at q1
      simp only [e_stE, e_cT, e_c2, e_cV, List.getElem?_cons_zero, List.getElem?_cons_succ, Option.bind_some, q1, e_toB, Bool.false_eq_true, if_false]
    · rw [ht] at q1
      simp [e_stE, e_cT, e_c2, e_cV, q1, e_toB, e_cTup, e_aCons, e_aNil]
  unfold d_fours_through
  rw [e_mkDf]
  unfold c_fours_through
  simp only [e_cSeq, e_cDrop, e_cRet, e_c1, e_cLc, e_iSeq, e_cCall, e_agC, e_agN, e_cV, List.replicate, List.cons_append, List.nil_append, List.getElem?_cons_zero, List.getElem?_cons_succ, Option.bind_some, h0, argS, Option.map_some, nodupB, oIx, List.length_cons, List.length_nil, Bool.true_and, decide_true, if_true, q, backS, hF, wipR, List.set_cons_zero, List.set_cons_succ, h, tupleD]
  simp [retA, sl_fours_through]
def envN (T B z due : D) (a : Sl × Sl) : List Sl := [.fr T, .fr B, .fr (.int 5), .fr (.int 2), .fr z, .fr due, .fr (.int 0), a.1, a.2]
theorem p_bodyN {T B z due : D} (a : Sl × Sl) (x : Four) (q1 : d_four_sums [.fr T, .fr (Ov.tI x.1), .fr (Ov.tI x.2)] = some (.rt n3, [.no, .no, .no])) (q2 : d__law_sums [.fr B, .fr (Ov.tI x.1), .fr (Ov.tI x.2)] = some (.rt n3, [.no, .no, .no])) :
    (gN 7 (pr x) (envN T B z due a)).bind bodyH = some (.nx, envN T B z due (.fr (pr x), .fr n3)) := by
  have q3 := t_istw
  have q4 := t_lawtw
  have q5 := t_ne3
  have q6 := ne_bool true
  have i0 := ix0 x
  have i1 := ix1 x
  obtain ⟨u, v⟩ := a
  generalize n3 = N at *
  simp [envN, bodyH, e_gN, e_cSeq, e_cSet, e_cCall, e_agC, e_agN, e_c2, e_cV, e_cC, i0, i1, argS, nodupB, oIx, q1, backS, e_cIfS, e_cOr, e_cT, q2, q5, e_toB, q3, q4, q6, e_cNx, e_cNot, e_cTr, truB]
theorem p_heldz (q : List Int → Int) {t : List Int} (ht : t ∈ ps5) : d__law_held [.fr (Tz (zt t) q), .fr (bk (ms t) q), .fr (.int 5), .fr (.int 2), .fr (.int (zt t))] = some (.rt (.int 0), [.no, .no, .no, .no, .no]) := by
  obtain ⟨hz, hm⟩ := ms_iff ht
  have hb := rgI_mem (n := 5) hz
  generalize hZ : zt t = z at *
  obtain ⟨n, rfl⟩ := Int.eq_ofNat_of_zero_le hb.1
  have hn : n < 5 := by omega
  have hl := p_fours_with clw_5_2 (n : Int)
  have hF := map_at (t_four q) (n : Int) hz
  have q1 := p_throughG (w := 5) (n : Int) hb (T := Tz (n : Int) q) rfl hF
  rw [flat_filter (c := fun x => x.2.contains (n : Int))] at q1
  have hne := clt_5_2.neq hn
  have bodies : ∀ x ∈ (foursF 5 2).filter (fun x => x.2.contains (n : Int)), d_four_sums [.fr (Tz (n : Int) q), .fr (Ov.tI x.1), .fr (Ov.tI x.2)] = some (.rt n3, [.no, .no, .no]) ∧ d__law_sums [.fr (bk (ms t) q), .fr (Ov.tI x.1), .fr (Ov.tI x.2)] = some (.rt n3, [.no, .no, .no]) := fun x hx => by
    refine ⟨map_at (t_fs q) ((n : Int), x) (List.mem_flatMap.mpr ⟨(n : Int), hz, List.mem_map.mpr ⟨x, hx, rfl⟩⟩), ?_⟩
    have k := List.all_eq_true.mp (List.all_eq_true.mp t_none (n : Int) hz) x hx
    obtain ⟨a, b, c, e, h4⟩ := four4 5 2 clf_5_2 (List.mem_filter.mp hx).1
    obtain ⟨low, four⟩ := x
    simp only at h4
    subst h4
    unfold nonOk at k
    simp only [Bool.and_eq_true, Bool.or_eq_true, decide_eq_true_eq] at k
    obtain ⟨kl, k1, k2, k3⟩ := k
    refine p_sumsN q ?_ ?_ ?_ kl
    · exact k1.elim (fun h => .inl fun z => h ((hm _).mp z)) fun h => .inr fun z => h ((hm _).mp z)
    · exact k2.elim (fun h => .inl fun z => h ((hm _).mp z)) fun h => .inr fun z => h ((hm _).mp z)
    · exact k3.elim (fun h => .inl fun z => h ((hm _).mp z)) fun h => .inr fun z => h ((hm _).mp z)
  generalize hFz : (foursF 5 2).filter (fun x => x.2.contains (n : Int)) = Fz at *
  obtain ⟨a', r⟩ := forL_find (g := gN 7) (b := bodyH) (f := pr) (env := fun a : Sl × Sl => envN (Tz (n : Int) q) (bk (ms t) q) (.int (n : Int)) (.lst (Fz.map pr)) a) (t := fun _ => none) (xs := Fz) (a := (.no, .no)) fun a x hx => ⟨_, p_bodyN a x (bodies x hx).1 (bodies x hx).2⟩
  have fn : ∀ xs : List Four, xs.findSome? (fun _ => (none : Option D)) = none := fun xs => none_findSome fun _ _ => rfl
  rw [fn] at r
  have htt : tupleD (.lst (Fz.map pr)) = some (.tup (Fz.map pr)) := rfl
  have r' : forL (gN 7) bodyH (Fz.map pr) [.fr (Tz (n : Int) q), .fr (bk (ms t) q), .fr (.int 5), .fr (.int 2), .fr (.int (n : Int)), .fr (.lst (Fz.map pr)), .fr (.int 0), .no, .no] = some (.nx, envN (Tz (n : Int) q) (bk (ms t) q) (.int (n : Int)) (.lst (Fz.map pr)) a') := r
  have hl' : d__law_fours_with [.fr (.int 5), .fr (.int 2), .fr (.int (n : Int))] = some (.rt (.lst (Fz.map pr)), [.no, .no, .no]) := hl
  generalize hT : Tz (n : Int) q = T at *
  generalize hB : bk (ms t) q = B at *
  unfold d__law_held
  rw [e_mkDf]
  show ((cSeq _ (cSeq _ (cSeq _ (cSeq (cFor (iSeq (cV 5)) (gN 7) bodyH) (cRet (cV 6))))) _).bind _) = _
  simp only [e_cSeq, e_cSet, e_cCall, e_agC, e_agN, e_c1, e_c2, e_cC, e_cV, List.replicate, List.cons_append, List.nil_append, List.getElem?_cons_zero, List.getElem?_cons_succ, Option.bind_some, argS, Option.map_some, nodupB, oIx, List.length_cons, List.length_nil, Bool.true_and, decide_true, if_true, hl', q1, backS, List.set_cons_zero, List.set_cons_succ, htt, hne, e_cIfS, e_cT, e_toB, Bool.false_eq_true, if_false, e_cNx, e_cFor, e_iSeq, r', e_cRet, envN]
  simp [retA, sl__law_held]
end K09
namespace K09
open PySem PySem.Spec PyProof.Rows L2 Ov
abbrev fillB : Es := cIfS (cT (c2 ninD (cC (.int 4)) (cV 2))) (cPutD 1 (cV 2) (cCall 2 d__law_take (gOwn 0 (gCons (cC (.int 4)) gNil)))) cNx
abbrev no4 : List Int → Bool := fun l => !l.contains 4
def Low (ls : List (List Int)) (p : List Int → Int) : Prop := ∀ l ∈ ls, 0 ≤ p l ∧ p l ≤ 3
theorem p_fill (ds : List Int) : ∃ (p : List Int → Int) (ds' : List Int) (s2 : Sl), forL (gN 2) fillB ((L 5 2).map fun l => Ov.tI l) [owI ds, .ow (bk [] fun _ => 0), .no, .no, .no, .no, .no] = some (.nx, [owI ds', .ow (bk ls0 p), s2, .no, .no, .no, .no]) ∧ Low ls0 p := by
  obtain ⟨ρ', r, p, ds', s2, e, hI⟩ := forL_inv0 (g := gN 2) (b := fillB) (f := fun l : List Int => Ov.tI l)
    (I := fun pre ρ => ∃ (p : List Int → Int) (ds' : List Int) (s2 : Sl), ρ = [owI ds', .ow (bk (pre.filter no4) p), s2, .no, .no, .no, .no] ∧ Low (pre.filter no4) p) (all := L 5 2) (ρ := [owI ds, .ow (bk [] fun _ => 0), .no, .no, .no, .no, .no]) (fun pre l post ρ e hI => by
      obtain ⟨p, ds', s2, rfl, hp⟩ := hI
      have n := k_nin3 4 l
      have e0 : gN 2 (Ov.tI l) [owI ds', .ow (bk (pre.filter no4) p), s2, .no, .no, .no, .no] = some [owI ds', .ow (bk (pre.filter no4) p), .fr (Ov.tI l), .no, .no, .no, .no] := rfl
      rw [e0, Option.bind_some]
      cases hc : l.contains 4
      · rw [hc] at n
        have hf : (pre ++ [l]).filter no4 = pre.filter no4 ++ [l] := by
          rw [List.filter_append, List.filter_cons, if_pos (by show (!l.contains 4) = true; rw [hc]; rfl)]
          rfl
        obtain ⟨v, ds1, t, b1, b2⟩ := e_take (i := 0) (ce := cC (.int 4)) (ρ := [owI ds', .ow (bk (pre.filter no4) p), .fr (Ov.tI l), .no, .no, .no, .no]) (ds := ds') (b := 4) rfl rfl (by omega)
        have hnin : l ∉ pre.filter no4 := fun z => pre_new e cll_5_2.nodup (List.mem_filter.mp z).1
        have hlen : (pre.filter no4).length < 16777216 := by
          have h1 := List.length_filter_le no4 pre
          have h2 := pre_len e
          have h3 := cll_5_2.cnt
          omega
        have pu := e_put (i := 1) (ck := cV 2) (cv := cCall 2 d__law_take (gOwn 0 (gCons (cC (.int 4)) gNil))) (ρ := [owI ds', .ow (bk (pre.filter no4) p), .fr (Ov.tI l), .no, .no, .no, .no]) (k := Ov.tI l) (v := .int v) (d := bk (pre.filter no4) p)
          (ρ1 := [owI ds1, .ow (bk (pre.filter no4) p), .fr (Ov.tI l), .no, .no, .no, .no]) (ρ2 := [owI ds1, .ow (bk (pre.filter no4) p), .fr (Ov.tI l), .no, .no, .no, .no]) t ⟨_, rfl⟩ rfl rfl (put_new hnin hlen)
        refine ⟨[owI ds1, .ow (bk (pre.filter no4 ++ [l]) fun k => if k = l then v else p k), .fr (Ov.tI l), .no, .no, .no, .no], ?_, fun k => if k = l then v else p k, ds1, .fr (Ov.tI l), ?_, ?_⟩
        · unfold fillB
          simp -implicitDefEqProofs only [e_cIfS, e_cT, e_c2, e_cV, e_cC, List.getElem?_cons_zero, List.getElem?_cons_succ, Option.bind_some, n, e_toB, Bool.not_false, if_true]
          exact pu
        · rw [hf]
        · rw [hf]
          intro k hk
          show 0 ≤ (if k = l then v else p k) ∧ (if k = l then v else p k) ≤ 3
          by_cases e' : k = l
          · rw [if_pos e']
            omega
          · rw [if_neg e']
            rcases List.mem_append.mp hk with z | z
            · exact hp k z
            · exact absurd (List.mem_singleton.mp z) e'
      · rw [hc] at n
        have hf : (pre ++ [l]).filter no4 = pre.filter no4 := by
          rw [List.filter_append, List.filter_cons, if_neg (by show ¬ (!l.contains 4) = true; rw [hc]; decide), List.filter_nil, List.append_nil]
        refine ⟨[owI ds', .ow (bk (pre.filter no4) p), .fr (Ov.tI l), .no, .no, .no, .no], ?_, p, ds', .fr (Ov.tI l), by rw [hf], by rw [hf]; exact hp⟩
        unfold fillB
        simp -implicitDefEqProofs only [e_cIfS, e_cT, e_c2, e_cV, e_cC, List.getElem?_cons_zero, List.getElem?_cons_succ, Option.bind_some, n, e_toB, Bool.not_true, Bool.false_eq_true, if_false, e_cNx]) ⟨fun _ => 0, ds, .no, rfl, fun l hl => by cases hl⟩
  subst e
  exact ⟨p, ds', s2, r, hI⟩
abbrev moveB : Es := cPutD 4 (c1 tupleD (c1 sortedD (cLc [6] (iSeq (cV 2)) (gN 6) cYes (c2 ixD (cV 3) (cV 6))))) (cB1 1 ixD (cV 2))
theorem k_sorted (xs : List Int) : sortedD (.lst (xs.map D.int)) = some (.lst ((sortI xs).map D.int)) := by
  show (intsOf _).bind _ = _
  rw [intsOf_map]
  rfl
theorem t_ps : (ps5.all fun t => decide (t.length = 5)) = true := by kernel_rfl
theorem t_ls0 : (ls0.all fun l => l.all fun e => decide (0 ≤ e ∧ e < 5)) = true := by kernel_rfl
theorem p_move {t : List Int} (ht : t ∈ ps5) (p : List Int → Int) (S0 : Sl) (s2 : Sl) : ∃ (q : List Int → Int) (s2' : Sl), forL (gN 2) moveB (ls0.map fun l => Ov.tI l) [S0, .fr (bk ls0 p), s2, .fr (.lst (t.map D.int)), .ow (bk [] fun _ => 0), .no, .no] =
    some (.nx, [S0, .fr (bk ls0 p), s2', .fr (.lst (t.map D.int)), .ow (bk (ms t) q), .no, .no]) ∧ ∀ l ∈ ls0, q (mv t l) = p l := by
  have tl := of_decide_eq_true (List.all_eq_true.mp t_ps t ht)
  have tm := List.all_eq_true.mp t_ms t ht
  rw [Bool.and_eq_true, decide_eq_true_eq] at tm
  have nd := tm.1
  obtain ⟨ρ', r, q, s2', e, hI⟩ := forL_inv0 (g := gN 2) (b := moveB) (f := fun l : List Int => Ov.tI l)
    (I := fun pre ρ => ∃ (q : List Int → Int) (s2 : Sl), ρ = [S0, .fr (bk ls0 p), s2, .fr (.lst (t.map D.int)), .ow (bk (pre.map (mv t)) q), .no, .no] ∧ ∀ l ∈ pre, q (mv t l) = p l) (all := ls0) (ρ := [S0, .fr (bk ls0 p), s2, .fr (.lst (t.map D.int)), .ow (bk [] fun _ => 0), .no, .no]) (fun pre l post ρ e hI => by
      obtain ⟨q, s2, rfl, hq⟩ := hI
      have hm : l ∈ ls0 := by rw [e]; exact List.mem_append_right _ List.mem_cons_self
      have hx := bk_ix (p := p) hm
      have hb := List.all_eq_true.mp t_ls0 l hm
      have e0 : gN 2 (Ov.tI l) [S0, .fr (bk ls0 p), s2, .fr (.lst (t.map D.int)), .ow (bk (pre.map (mv t)) q), .no, .no] = some [S0, .fr (bk ls0 p), .fr (Ov.tI l), .fr (.lst (t.map D.int)), .ow (bk (pre.map (mv t)) q), .no, .no] := rfl
      have hc := lcG_pure (vs := [6]) (g := gN 6) (st := stE cYes (c2 ixD (cV 3) (cV 6))) (f := D.int) (o := fun e => [D.int (t.getD e.toNat 0)]) (ρ := [S0, .fr (bk ls0 p), .fr (Ov.tI l), .fr (.lst (t.map D.int)), .ow (bk (pre.map (mv t)) q), .no, .no]) (xs := l) fun e he => by
        have b := of_decide_eq_true (List.all_eq_true.mp hb e he)
        have ix := ix_int (P := t) b.1 (by omega)
        refine ⟨[S0, .fr (bk ls0 p), .fr (Ov.tI l), .fr (.lst (t.map D.int)), .ow (bk (pre.map (mv t)) q), .no, .fr (.int e)], ?_, rfl⟩
        simp -implicitDefEqProofs only [e_gN, e_stE, e_cYes, e_c2, e_cV, List.set_cons_zero, List.set_cons_succ, List.getElem?_cons_zero, List.getElem?_cons_succ, Option.bind_some, ix, if_true]
      rw [flat_oneI (f := fun e => t.getD e.toNat 0)] at hc
      have it : iSeq (cV 2) [S0, .fr (bk ls0 p), .fr (Ov.tI l), .fr (.lst (t.map D.int)), .ow (bk (pre.map (mv t)) q), .no, .no] = some (l.map D.int, [S0, .fr (bk ls0 p), .fr (Ov.tI l), .fr (.lst (t.map D.int)), .ow (bk (pre.map (mv t)) q), .no, .no]) := rfl
      have hs := k_sorted (l.map fun e => t.getD e.toNat 0)
      have htu : tupleD (.lst ((sortI (l.map fun e => t.getD e.toNat 0)).map D.int)) = some (Ov.tI (mv t l)) := rfl
      have eM : ls0.map (mv t) = pre.map (mv t) ++ mv t l :: post.map (mv t) := by rw [e, List.map_append, List.map_cons]
      have nin : mv t l ∉ pre.map (mv t) := pre_new eM nd
      have hlen : (pre.map (mv t)).length < 16777216 := by
        rw [List.length_map]
        have h2 := pre_len e
        have h3 : ls0.length = 6 := by decide +kernel
        omega
      have pu := e_put (i := 4) (ck := c1 tupleD (c1 sortedD (cLc [6] (iSeq (cV 2)) (gN 6) cYes (c2 ixD (cV 3) (cV 6))))) (cv := cB1 1 ixD (cV 2)) (ρ := [S0, .fr (bk ls0 p), .fr (Ov.tI l), .fr (.lst (t.map D.int)), .ow (bk (pre.map (mv t)) q), .no, .no]) (k := Ov.tI (mv t l)) (v := .int (p l)) (d := bk (pre.map (mv t)) q)
        (ρ1 := [S0, .fr (bk ls0 p), .fr (Ov.tI l), .fr (.lst (t.map D.int)), .ow (bk (pre.map (mv t)) q), .no, .no]) (ρ2 := [S0, .fr (bk ls0 p), .fr (Ov.tI l), .fr (.lst (t.map D.int)), .ow (bk (pre.map (mv t)) q), .no, .no])
        (by simp -implicitDefEqProofs only [e_cB1, getS, e_cV, List.getElem?_cons_zero, List.getElem?_cons_succ, Option.bind_some, hx])
        ⟨_, rfl⟩
        (by simp -implicitDefEqProofs only [e_c1, e_cLc, it, Option.bind_some, wipR, List.set_cons_zero, List.set_cons_succ, hc, hs, htu, restR, List.getElem?_cons_zero, List.getElem?_cons_succ])
        rfl (put_new nin hlen)
      have hmap : (pre ++ [l]).map (mv t) = pre.map (mv t) ++ [mv t l] := by rw [List.map_append]; rfl
      refine ⟨[S0, .fr (bk ls0 p), .fr (Ov.tI l), .fr (.lst (t.map D.int)), .ow (bk (pre.map (mv t) ++ [mv t l]) fun k => if k = mv t l then p l else q k), .no, .no], ?_, fun k => if k = mv t l then p l else q k, .fr (Ov.tI l), by rw [hmap], ?_⟩
      · rw [e0, Option.bind_some]
        exact pu
      · intro l' hl'
        show (if mv t l' = mv t l then p l else q (mv t l')) = p l'
        rcases List.mem_append.mp hl' with z | z
        · rw [if_neg fun y => nin (by rw [← y]; exact List.mem_map.mpr ⟨l', z, rfl⟩)]
          exact hq l' z
        · rw [List.mem_singleton.mp z, if_pos rfl]) ⟨fun _ => 0, s2, rfl, fun l hl => by cases hl⟩
  subst e
  exact ⟨q, s2', r, hI⟩
theorem e_call3P {df : Df} {ρ ρ' : List Sl} {v a b c : D} {ca cb cc : Ev} {s s' s'' : Sl} (ha : ca ρ = some (a, ρ)) (hb : cb ρ = some (b, ρ)) (hc : cc ρ = some (c, ρ')) (hd : df [.fr a, .fr b, .fr c] = some (.rt v, [s, s', s''])) :
    cCall 3 df (gCons ca (gCons cb (gCons cc gNil))) ρ = some (v, ρ') := by
  simp -implicitDefEqProofs only [e_cCall, e_agC, e_agN, ha, hb, hc, Option.bind_some, argS, Option.map_some, nodupB, oIx, List.length_cons, List.length_nil]
  rw [if_pos (by rfl)]
  show (df _).bind _ = _
  rw [hd]
  rfl
theorem e_call1 {df : Df} {ρ : List Sl} {v a : D} {ca : Ev} {s : Sl} (ha : ca ρ = some (a, ρ)) (hd : df [.fr a] = some (.rt v, [s])) : cCall 1 df (gCons ca gNil) ρ = some (v, ρ) := by
  simp -implicitDefEqProofs only [e_cCall, e_agC, e_agN, ha, Option.bind_some, argS, Option.map_some, nodupB, oIx, List.length_cons, List.length_nil]
  rw [if_pos (by rfl)]
  show (df _).bind _ = _
  rw [hd]
  rfl
theorem e_call5 {df : Df} {ρ : List Sl} {v a b c e f : D} {ca cb cc ce cf : Ev} {s s' s'' s3 s4 : Sl} (ha : ca ρ = some (a, ρ)) (hb : cb ρ = some (b, ρ)) (hc : cc ρ = some (c, ρ)) (he : ce ρ = some (e, ρ)) (hf : cf ρ = some (f, ρ)) (hd : df [.fr a, .fr b, .fr c, .fr e, .fr f] = some (.rt v, [s, s', s'', s3, s4])) :
    cCall 5 df (gCons ca (gCons cb (gCons cc (gCons ce (gCons cf gNil))))) ρ = some (v, ρ) := by
  simp -implicitDefEqProofs only [e_cCall, e_agC, e_agN, ha, hb, hc, he, hf, Option.bind_some, argS, Option.map_some, nodupB, oIx, List.length_cons, List.length_nil]
  rw [if_pos (by rfl)]
  show (df _).bind _ = _
  rw [hd]
  rfl
theorem k_ne1 : neD (.int (1 : Int)) (.int 1) = some (.bl false) := by kernel_rfl
theorem k_eq0 : eqD (.int (0 : Int)) (.int 0) = some (.bl true) := by kernel_rfl
theorem e_seqN {s1 s2 : Es} {ρ ρ1 : List Sl} (h : s1 ρ = some (.nx, ρ1)) : cSeq s1 s2 ρ = s2 ρ1 := by
  rw [e_cSeq, h]
  rfl
theorem e_setN {i : Nat} {c : Ev} {ρ ρ1 : List Sl} {v : D} (h : c ρ = some (v, ρ1)) : cSet i c ρ = some (.nx, ρ1.set i (.fr v)) := by
  rw [e_cSet, h]
  rfl
theorem e_forDT {i : Nat} {g : Eg} {s : Es} {ρ ρ1 : List Sl} {kvs : List (List Int × D)} (h : cV i ρ = some (.dT kvs, ρ1)) : cForD i g s ρ = forL g s (keysT kvs) ρ1 := by
  rw [e_cForD, h]
  rfl
theorem e_ifN {t : Et} {s1 : Es} {ρ ρ1 : List Sl} (h : t ρ = some (false, ρ1)) : cIfS t s1 cNx ρ = some (.nx, ρ1) := by
  rw [e_cIfS, h]
  rfl
theorem p_without (ds : List Int) : ∃ ds', d__law_without [owI ds] = some (.rt (.bl true), [owI ds']) := by
  obtain ⟨p, ds1, s2, r1, hp⟩ := p_fill ds
  have m01 : ([0, 1] : List Int) ∈ ls0 := by decide +kernel
  have l6 : ls0.length < 16777216 := by decide +kernel
  obtain ⟨t, ht, ds2, r3⟩ := p_perm ds1
  obtain ⟨q, s2', r4, hq⟩ := p_move ht (fun l => if l = [0, 1] then 9 else p l) (owI ds2) s2
  have tm := List.all_eq_true.mp t_ms t ht
  rw [Bool.and_eq_true, Bool.and_eq_true, Bool.and_eq_true, Bool.and_eq_true, decide_eq_true_eq, decide_eq_true_eq, decide_eq_true_eq] at tm
  obtain ⟨nd, tm1, tm2, tm3, tm4⟩ := tm
  have W : Wor (zt t) (mv t [0, 1]) q := ⟨tm2, tm3, by rw [hq _ m01, if_pos rfl], fun l hl hne => by
    have := of_decide_eq_true (List.all_eq_true.mp tm1 l hl)
    obtain ⟨l0, h0, rfl⟩ := List.mem_map.mp this
    have hne0 : l0 ≠ [0, 1] := fun e => hne (by rw [e])
    rw [hq l0 h0, if_neg hne0]
    exact hp l0 h0⟩
  have w1 := p_tblz q ht
  have w2 := z_twofold W
  obtain ⟨ys, w3, w4⟩ := z_broken W
  have w5 := p_heldz q ht
  have tl := of_decide_eq_true (List.all_eq_true.mp t_ps t ht)
  have ixz : ixD (.lst (t.map D.int)) (.int 4) = some (.int (zt t)) := ix_int (P := t) (k := 4) (by omega) (by omega)
  have it := cll_5_2.it (ca := cC (.int 5)) (cb := cC (.int 2)) (ρ := [owI ds, .ow (bk [] fun _ => 0), .no, .no, .no, .no, .no]) rfl rfl
  have u2 := e_put (i := 1) (ck := cTup (aCons (cC (.int 0)) (aCons (cC (.int 1)) aNil))) (cv := cC (.int 9)) (ρ := [owI ds1, .ow (bk ls0 p), s2, .no, .no, .no, .no]) (k := Ov.tI [0, 1]) (v := .int 9) (d := bk ls0 p) (ρ1 := [owI ds1, .ow (bk ls0 p), s2, .no, .no, .no, .no]) (ρ2 := [owI ds1, .ow (bk ls0 p), s2, .no, .no, .no, .no]) rfl ⟨_, rfl⟩ rfl rfl (put_old m01 l6)
  have u3 := e_call2O (df := d__law_perm) (i := 0) (ca := cC (.int 5)) (ρ := [owI ds1, .ow (bk ls0 fun l => if l = [0, 1] then 9 else p l), s2, .no, .no, .no, .no]) rfl rfl r3
  have u5 := e_call3P (df := d__law_table) (ca := cC (.int 5)) (cb := cC (.int 2)) (cc := cV 4) (ρ := [owI ds2, .fr (bk ls0 fun l => if l = [0, 1] then 9 else p l), s2', .fr (.lst (t.map D.int)), .ow (bk (ms t) q), .no, .no])
    (ρ' := [owI ds2, .fr (bk ls0 fun l => if l = [0, 1] then 9 else p l), s2', .fr (.lst (t.map D.int)), .fr (bk (ms t) q), .no, .no]) rfl rfl rfl w1
  have u6 := e_call1 (df := d_is_twofold) (ca := cV 5) (ρ := [owI ds2, .fr (bk ls0 fun l => if l = [0, 1] then 9 else p l), s2', .fr (.lst (t.map D.int)), .fr (bk (ms t) q), .fr (Tz (zt t) q), .no]) rfl w2
  have u7 := e_call1 (df := d_broken_fours) (ca := cV 5) (ρ := [owI ds2, .fr (bk ls0 fun l => if l = [0, 1] then 9 else p l), s2', .fr (.lst (t.map D.int)), .fr (bk (ms t) q), .fr (Tz (zt t) q), .no]) rfl w3
  have hz : c2 ixD (cV 3) (cC (.int 4)) [owI ds2, .fr (bk ls0 fun l => if l = [0, 1] then 9 else p l), s2', .fr (.lst (t.map D.int)), .fr (bk (ms t) q), .fr (Tz (zt t) q), .no] = some (.int (zt t), [owI ds2, .fr (bk ls0 fun l => if l = [0, 1] then 9 else p l), s2', .fr (.lst (t.map D.int)), .fr (bk (ms t) q), .fr (Tz (zt t) q), .no]) := by
    simp -implicitDefEqProofs only [e_c2, e_cV, e_cC, List.getElem?_cons_zero, List.getElem?_cons_succ, Option.bind_some, ixz]
  have u8 := e_call5 (df := d__law_held) (ca := cV 5) (cb := cV 4) (cc := cC (.int 5)) (ce := cC (.int 2)) (cf := c2 ixD (cV 3) (cC (.int 4))) (ρ := [owI ds2, .fr (bk ls0 fun l => if l = [0, 1] then 9 else p l), s2', .fr (.lst (t.map D.int)), .fr (bk (ms t) q), .fr (Tz (zt t) q), .no]) rfl rfl rfl rfl hz w5
  have kt : keysT (ls0.map fun l => (l, D.int (if l = [0, 1] then 9 else p l))) = ls0.map fun l => Ov.tI l := by
    unfold keysT
    rw [List.map_map]
    rfl
  have hlen : lenD (.tup ys) = some (.int (1 : Int)) := by
    show some (D.int (ys.length : Nat)) = _
    rw [w4]
    rfl
  have cond : cOr (cTr (cCall 1 d_is_twofold (gCons (cV 5) gNil))) (cT (c2 neD (c1 lenD (cCall 1 d_broken_fours (gCons (cV 5) gNil))) (cC (.int 1)))) [owI ds2, .fr (bk ls0 fun l => if l = [0, 1] then 9 else p l), s2', .fr (.lst (t.map D.int)), .fr (bk (ms t) q), .fr (Tz (zt t) q), .no] =
      some (false, [owI ds2, .fr (bk ls0 fun l => if l = [0, 1] then 9 else p l), s2', .fr (.lst (t.map D.int)), .fr (bk (ms t) q), .fr (Tz (zt t) q), .no]) := by
    simp -implicitDefEqProofs only [e_cOr, e_cTr, e_cT, e_c1, e_c2, e_cC, u6, u7, Option.bind_some, truB, hlen, k_ne1, e_toB, Bool.false_eq_true, if_false]
  have a1 : cSetO 1 (cC (.dT [])) [owI ds, .no, .no, .no, .no, .no, .no] = some (.nx, [owI ds, .ow (bk [] fun _ => 0), .no, .no, .no, .no, .no]) := rfl
  have a2 : cFor (iSeq (cCall 2 d__law_lots (gCons (cC (.int 5)) (gCons (cC (.int 2)) gNil)))) (gN 2) fillB [owI ds, .ow (bk [] fun _ => 0), .no, .no, .no, .no, .no] = some (.nx, [owI ds1, .ow (bk ls0 p), s2, .no, .no, .no, .no]) := by
    rw [e_cFor, it, Option.bind_some]
    exact r1
  have a3 : cPutD 1 (cTup (aCons (cC (.int 0)) (aCons (cC (.int 1)) aNil))) (cC (.int 9)) [owI ds1, .ow (bk ls0 p), s2, .no, .no, .no, .no] = some (.nx, [owI ds1, .ow (bk ls0 fun l => if l = [0, 1] then 9 else p l), s2, .no, .no, .no, .no]) := u2
  have a4 : cSet 3 (cCall 2 d__law_perm (gOwn 0 (gCons (cC (.int 5)) gNil))) [owI ds1, .ow (bk ls0 fun l => if l = [0, 1] then 9 else p l), s2, .no, .no, .no, .no] = some (.nx, [owI ds2, .ow (bk ls0 fun l => if l = [0, 1] then 9 else p l), s2, .fr (.lst (t.map D.int)), .no, .no, .no]) := e_setN u3
  have a5 : cSetO 4 (cC (.dT [])) [owI ds2, .ow (bk ls0 fun l => if l = [0, 1] then 9 else p l), s2, .fr (.lst (t.map D.int)), .no, .no, .no] = some (.nx, [owI ds2, .ow (bk ls0 fun l => if l = [0, 1] then 9 else p l), s2, .fr (.lst (t.map D.int)), .ow (bk [] fun _ => 0), .no, .no]) := rfl
  have v1 : cV 1 [owI ds2, .ow (bk ls0 fun l => if l = [0, 1] then 9 else p l), s2, .fr (.lst (t.map D.int)), .ow (bk [] fun _ => 0), .no, .no] = some (.dT (ls0.map fun l => (l, D.int (if l = [0, 1] then 9 else p l))), [owI ds2, .fr (bk ls0 fun l => if l = [0, 1] then 9 else p l), s2, .fr (.lst (t.map D.int)), .ow (bk [] fun _ => 0), .no, .no]) := rfl
  have a6 : cForD 1 (gN 2) moveB [owI ds2, .ow (bk ls0 fun l => if l = [0, 1] then 9 else p l), s2, .fr (.lst (t.map D.int)), .ow (bk [] fun _ => 0), .no, .no] = some (.nx, [owI ds2, .fr (bk ls0 fun l => if l = [0, 1] then 9 else p l), s2', .fr (.lst (t.map D.int)), .ow (bk (ms t) q), .no, .no]) := by
    rw [e_forDT v1, kt]
    exact r4
  have a7 : cSet 5 (cCall 3 d__law_table (gCons (cC (.int 5)) (gCons (cC (.int 2)) (gCons (cV 4) gNil)))) [owI ds2, .fr (bk ls0 fun l => if l = [0, 1] then 9 else p l), s2', .fr (.lst (t.map D.int)), .ow (bk (ms t) q), .no, .no] = some (.nx, [owI ds2, .fr (bk ls0 fun l => if l = [0, 1] then 9 else p l), s2', .fr (.lst (t.map D.int)), .fr (bk (ms t) q), .fr (Tz (zt t) q), .no]) := e_setN u5
  have a8 := e_ifN (s1 := cRet (cC (.bl false))) cond
  have a9 : cRet (c2 eqD (cCall 5 d__law_held (gCons (cV 5) (gCons (cV 4) (gCons (cC (.int 5)) (gCons (cC (.int 2)) (gCons (c2 ixD (cV 3) (cC (.int 4))) gNil)))))) (cC (.int 0))) [owI ds2, .fr (bk ls0 fun l => if l = [0, 1] then 9 else p l), s2', .fr (.lst (t.map D.int)), .fr (bk (ms t) q), .fr (Tz (zt t) q), .no] =
      some (.rt (.bl true), [owI ds2, .fr (bk ls0 fun l => if l = [0, 1] then 9 else p l), s2', .fr (.lst (t.map D.int)), .fr (bk (ms t) q), .fr (Tz (zt t) q), .no]) := by
    rw [e_cRet, e_c2, u8, Option.bind_some, e_cC, Option.bind_some, k_eq0]
    rfl
  have go : c__law_without [owI ds, .no, .no, .no, .no, .no, .no] = some (.rt (.bl true), [owI ds2, .fr (bk ls0 fun l => if l = [0, 1] then 9 else p l), s2', .fr (.lst (t.map D.int)), .fr (bk (ms t) q), .fr (Tz (zt t) q), .no]) := by
    unfold c__law_without
    rw [e_seqN a1, e_seqN a2, e_seqN a3, e_seqN a4, e_seqN a5, e_seqN a6, e_seqN a7, e_seqN a8]
    exact a9
  refine ⟨ds2, ?_⟩
  unfold d__law_without
  rw [e_mkDf]
  show (c__law_without [owI ds, .no, .no, .no, .no, .no, .no]).bind _ = _
  rw [go]
  rfl
end K09
namespace K09
open PySem PySem.Spec PyProof.Rows L2 Ov
structure AllW (w d : Nat) : Prop where
  cl : ClL w d
  cf : ClF w d
  cw : ClW w d
  ch : ClH w d
  cz : chkZ w d = true
  ct : ClT w d
  cs : w < 6 → ClS w d
  d2 : 2 ≤ d
theorem all_cases {w d : Nat} (hw : w = 4 ∨ w = 5 ∨ w = 6 ∨ w = 7) (h2 : 2 ≤ d) (hd : d + 2 ≤ w) : AllW w d := by
  have c : (w = 4 ∧ d = 2) ∨ (w = 5 ∧ d = 2) ∨ (w = 5 ∧ d = 3) ∨ (w = 6 ∧ d = 2) ∨ (w = 6 ∧ d = 3) ∨ (w = 6 ∧ d = 4) ∨ (w = 7 ∧ d = 2) ∨ (w = 7 ∧ d = 3) ∨ (w = 7 ∧ d = 4) ∨ (w = 7 ∧ d = 5) := by omega
  rcases c with ⟨rfl, rfl⟩ | ⟨rfl, rfl⟩ | ⟨rfl, rfl⟩ | ⟨rfl, rfl⟩ | ⟨rfl, rfl⟩ | ⟨rfl, rfl⟩ | ⟨rfl, rfl⟩ | ⟨rfl, rfl⟩ | ⟨rfl, rfl⟩ | ⟨rfl, rfl⟩
  · exact ⟨cll_4_2, clf_4_2, clw_4_2, clh_4_2, chz_4_2, clt_4_2, fun _ => cls_4_2, h2⟩
  · exact ⟨cll_5_2, clf_5_2, clw_5_2, clh_5_2, chz_5_2, clt_5_2, fun _ => cls_5_2, h2⟩
  · exact ⟨cll_5_3, clf_5_3, clw_5_3, clh_5_3, chz_5_3, clt_5_3, fun _ => cls_5_3, h2⟩
  · exact ⟨cll_6_2, clf_6_2, clw_6_2, clh_6_2, chz_6_2, clt_6_2, fun z => absurd z (by decide), h2⟩
  · exact ⟨cll_6_3, clf_6_3, clw_6_3, clh_6_3, chz_6_3, clt_6_3, fun z => absurd z (by decide), h2⟩
  · exact ⟨cll_6_4, clf_6_4, clw_6_4, clh_6_4, chz_6_4, clt_6_4, fun z => absurd z (by decide), h2⟩
  · exact ⟨cll_7_2, clf_7_2, clw_7_2, clh_7_2, chz_7_2, clt_7_2, fun z => absurd z (by decide), h2⟩
  · exact ⟨cll_7_3, clf_7_3, clw_7_3, clh_7_3, chz_7_3, clt_7_3, fun z => absurd z (by decide), h2⟩
  · exact ⟨cll_7_4, clf_7_4, clw_7_4, clh_7_4, chz_7_4, clt_7_4, fun z => absurd z (by decide), h2⟩
  · exact ⟨cll_7_5, clf_7_5, clw_7_5, clh_7_5, chz_7_5, clt_7_5, fun z => absurd z (by decide), h2⟩
def envF (ns ds : List Int) (w d : Nat) (B T due S9 S10 : Sl) (a : Sl × Sl × Sl) : List Sl := [.fr (.scr ns), owI ds, .fr (.int w), .fr (.int d), B, T, due, a.1, a.2.1, S9, S10, a.2.2]
abbrev loopZ : Es := (cSeq (cSet 11 (cCall 5 d__law_held (gCons (cV 5) (gCons (cV 4) (gCons (cV 2) (gCons (cV 3) (gCons (cV 7) gNil)))))))
  (cIfS (cOr (cT (c2 isD (cV 11) (cC .non))) (cT (c2 neD (c2 eqD (cV 11) (cC (.int 0))) (cV 6)))) (cRet (cC (.bl false))) cNx))
theorem k_isN (n : Int) : isD (.int n) .non = some (.bl false) := by kernel_rfl
theorem p_loopZ {w d : Nat} (A : AllW w d) (p : List Int → Int) (ns ds : List Int) (S9 S10 : Sl) (a : Sl × Sl × Sl) {z : Int} (hz : z ∈ rgI 0 (w : Int)) :
    ∃ a', (gN 7 (.int z) (envF ns ds w d (.fr (bk (L w d) p)) (.fr (tblD w d p)) (.fr (.bl ((foursF w d).all (tw p)))) S9 S10 a)).bind loopZ = some (.nx, envF ns ds w d (.fr (bk (L w d) p)) (.fr (tblD w d p)) (.fr (.bl ((foursF w d).all (tw p)))) S9 S10 a') := by
  have hb := rgI_mem hz
  obtain ⟨n, rfl⟩ := Int.eq_ofNat_of_zero_le hb.1
  have hn : n < w := by omega
  have held := p_held (p := p) (F := foursF w d) (Fz := (foursF w d).filter fun x => x.2.contains (n : Int)) (n : Int) hb (A.cf.fours p) rfl (p_fours_with A.cw (n : Int)) A.cf.all (A.ct.neq hn)
  have zc := z_count p A.cf A.cz hn
  have e0 : gN 7 (.int (n : Int)) (envF ns ds w d (.fr (bk (L w d) p)) (.fr (tblD w d p)) (.fr (.bl ((foursF w d).all (tw p)))) S9 S10 a) = some (envF ns ds w d (.fr (bk (L w d) p)) (.fr (tblD w d p)) (.fr (.bl ((foursF w d).all (tw p)))) S9 S10 (.fr (.int (n : Int)), a.2.1, a.2.2)) := rfl
  have c5 := e_call5 (df := d__law_held) (ca := cV 5) (cb := cV 4) (cc := cV 2) (ce := cV 3) (cf := cV 7) (ρ := envF ns ds w d (.fr (bk (L w d) p)) (.fr (tblD w d p)) (.fr (.bl ((foursF w d).all (tw p)))) S9 S10 (.fr (.int (n : Int)), a.2.1, a.2.2)) rfl rfl rfl rfl rfl held
  generalize hN : (((foursF w d).filter fun x => x.2.contains (n : Int)).filter fun x => !tw p x).length = N at *
  have eq0 : eqD (.int (N : Int)) (.int 0) = some (.bl ((foursF w d).all (tw p))) := by
    rw [e_eqI, ← zc]
    congr 2
    rw [decide_eq_decide]
    omega
  have isn := k_isN (N : Int)
  have neb := ne_bool ((foursF w d).all (tw p))
  refine ⟨(.fr (.int (n : Int)), a.2.1, .fr (.int (N : Int))), ?_⟩
  rw [e0, Option.bind_some]
  unfold loopZ
  rw [e_cSeq, e_cSet, c5, Option.bind_some, Option.bind_some]
  show (cIfS _ _ _) (envF ns ds w d (.fr (bk (L w d) p)) (.fr (tblD w d p)) (.fr (.bl ((foursF w d).all (tw p)))) S9 S10 (.fr (.int (n : Int)), a.2.1, .fr (.int (N : Int)))) = _
  have v11 : cV 11 (envF ns ds w d (.fr (bk (L w d) p)) (.fr (tblD w d p)) (.fr (.bl ((foursF w d).all (tw p)))) S9 S10 (.fr (.int (n : Int)), a.2.1, .fr (.int (N : Int)))) = some (.int (N : Int), envF ns ds w d (.fr (bk (L w d) p)) (.fr (tblD w d p)) (.fr (.bl ((foursF w d).all (tw p)))) S9 S10 (.fr (.int (n : Int)), a.2.1, .fr (.int (N : Int)))) := rfl
  have v6 : cV 6 (envF ns ds w d (.fr (bk (L w d) p)) (.fr (tblD w d p)) (.fr (.bl ((foursF w d).all (tw p)))) S9 S10 (.fr (.int (n : Int)), a.2.1, .fr (.int (N : Int)))) = some (.bl ((foursF w d).all (tw p)), envF ns ds w d (.fr (bk (L w d) p)) (.fr (tblD w d p)) (.fr (.bl ((foursF w d).all (tw p)))) S9 S10 (.fr (.int (n : Int)), a.2.1, .fr (.int (N : Int)))) := rfl
  simp -implicitDefEqProofs only [e_cIfS, e_cOr, e_cT, e_c2, e_cC, v11, v6, Option.bind_some, isn, e_toB, Bool.false_eq_true, if_false, eq0, neb, e_cNx]
theorem k_neL : neD (.lst [.str "thing", .bl false]) (.lst [.str "thing", .bl false]) = some (.bl false) := by kernel_rfl
abbrev loopP : Es := cIfS (cT (c2 neD (cCall 2 d__law_at (gCons (cV 5) (gCons (cV 8) gNil))) (cLst (aCons (cC (.str "thing")) (aCons (cC (.bl false)) aNil))))) (cRet (cC (.bl false))) cNx
theorem p_loopP {w d : Nat} (A : AllW w d) (p : List Int → Int) (ns ds : List Int) (due S9 S10 : Sl) (a : Sl × Sl × Sl) {v : D} (hv : v ∈ wrongs w) :
    ∃ a', (gN 8 v (envF ns ds w d (.fr (bk (L w d) p)) (.fr (tblD w d p)) due S9 S10 a)).bind loopP = some (.nx, envF ns ds w d (.fr (bk (L w d) p)) (.fr (tblD w d p)) due S9 S10 a') := by
  have h := A.ct.wrong p v hv
  have e0 : gN 8 v (envF ns ds w d (.fr (bk (L w d) p)) (.fr (tblD w d p)) due S9 S10 a) = some (envF ns ds w d (.fr (bk (L w d) p)) (.fr (tblD w d p)) due S9 S10 (a.1, .fr v, a.2.2)) := rfl
  have c := e_call2 (df := d__law_at) (ca := cV 5) (cb := cV 8) (ρ := envF ns ds w d (.fr (bk (L w d) p)) (.fr (tblD w d p)) due S9 S10 (a.1, .fr v, a.2.2)) rfl rfl h
  refine ⟨(a.1, .fr v, a.2.2), ?_⟩
  rw [e0, Option.bind_some]
  unfold loopP
  have e1 : cLst (aCons (cC (.str "thing")) (aCons (cC (.bl false)) aNil)) (envF ns ds w d (.fr (bk (L w d) p)) (.fr (tblD w d p)) due S9 S10 (a.1, .fr v, a.2.2)) = some (.lst [.str "thing", .bl false], envF ns ds w d (.fr (bk (L w d) p)) (.fr (tblD w d p)) due S9 S10 (a.1, .fr v, a.2.2)) := rfl
  simp -implicitDefEqProofs only [e_cIfS, e_cT, e_c2, c, e1, Option.bind_some, k_neL, e_toB, Bool.false_eq_true, if_false, e_cNx]
theorem findNone {α : Type} : ∀ xs : List α, xs.findSome? (fun _ => (none : Option D)) = none
  | [] => rfl
  | _ :: xs => by
    rw [List.findSome?_cons]
    exact findNone xs
theorem all_len (F : List Four) (t : Four → Bool) : decide ((F.filter fun x => !t x).length = 0) = F.all t := by
  cases h : F.all t
  · apply decide_eq_false
    intro e
    have : F.all t = true := List.all_eq_true.mpr fun x hx => by
      rw [List.length_eq_zero_iff, List.filter_eq_nil_iff] at e
      have := e x hx
      simpa using this
    rw [h] at this
    cases this
  · apply decide_eq_true
    rw [List.length_eq_zero_iff, List.filter_eq_nil_iff]
    intro x hx
    rw [List.all_eq_true.mp h x hx]
    decide
abbrev tailS : Es := (cSeq (cSet 5 (cCall 3 d__law_table (gCons (cV 2) (gCons (cV 3) (gCons (cV 4) gNil)))))
  (cSeq (cSet 6 (cCall 1 d_is_twofold (gCons (cV 5) gNil)))
  (cSeq (cIfS (cOr (cT (c2 neD (cV 6) (c2 eqD (c1 lenD (cCall 1 d_broken_fours (gCons (cV 5) gNil))) (cC (.int 0))))) (cAnd (cT (c2 ltD (cV 2) (cC (.int 6)))) (cT (c2 neD (cV 6) (cCall 1 d__law_twofold (gCons (cV 4) gNil)))))) (cRet (cC (.bl false))) cNx)
  (cSeq (cFor (iRg1 (cV 2)) (gN 7) loopZ)
  (cSeq (cFor (iSeq (cLst (aCons (c1 negD (cC (.int 1))) (aCons (cV 2) (aCons (cC (.bl true)) (aCons (cC .non) (aCons (cC (.str "0")) aNil))))))) (gN 8) loopP)
  (cRet (cCall 1 d__law_without (gOwn 1 gNil))))))))
theorem p_tail {w d : Nat} (A : AllW w d) (p : List Int → Int) (ns ds : List Int) (S9 S10 : Sl) : ∃ (ds' : List Int) (a : Sl × Sl × Sl) (B T due : Sl), tailS [.fr (.scr ns), owI ds, .fr (.int w), .fr (.int d), .ow (bk (L w d) p), .no, .no, .no, .no, S9, S10, .no] = some (.rt (.bl true), envF ns ds' w d B T due S9 S10 a) := by
  have w7 := A.cl.w7
  have t5 := e_call3P (df := d__law_table) (ca := cV 2) (cb := cV 3) (cc := cV 4) (ρ := [.fr (.scr ns), owI ds, .fr (.int w), .fr (.int d), .ow (bk (L w d) p), .no, .no, .no, .no, S9, S10, .no]) (ρ' := [.fr (.scr ns), owI ds, .fr (.int w), .fr (.int d), .fr (bk (L w d) p), .no, .no, .no, .no, S9, S10, .no]) rfl rfl rfl (A.ct.tbl p)
  have t6 := e_call1 (df := d_is_twofold) (ca := cV 5) (ρ := [.fr (.scr ns), owI ds, .fr (.int w), .fr (.int d), .fr (bk (L w d) p), .fr (tblD w d p), .no, .no, .no, S9, S10, .no]) rfl (p_twofold_F p A.cf A.ch)
  have br := p_broken (A.cf.fours p) fun x hx => (A.cf.all x hx).ok
  rw [flat_not] at br
  have t7 := e_call1 (df := d_broken_fours) (ca := cV 5) (ρ := envF ns ds w d (.fr (bk (L w d) p)) (.fr (tblD w d p)) (.fr (.bl ((foursF w d).all (tw p)))) S9 S10 (.no, .no, .no)) rfl br
  have hlen : lenD (.tup (((foursF w d).filter fun x => !tw p x).map pr)) = some (.int (((foursF w d).filter fun x => !tw p x).length : Nat)) := by
    show some (D.int ((((foursF w d).filter fun x => !tw p x).map pr).length : Nat)) = _
    rw [List.length_map]
  have al := all_len (foursF w d) (tw p)
  generalize hN : ((foursF w d).filter fun x => !tw p x).length = N at *
  have eq0 : eqD (.int (N : Int)) (.int 0) = some (.bl ((foursF w d).all (tw p))) := by
    rw [e_eqI, ← al]
    congr 2
    rw [decide_eq_decide]
    omega
  have neb := ne_bool ((foursF w d).all (tw p))
  have v6 : cV 6 (envF ns ds w d (.fr (bk (L w d) p)) (.fr (tblD w d p)) (.fr (.bl ((foursF w d).all (tw p)))) S9 S10 (.no, .no, .no)) = some (.bl ((foursF w d).all (tw p)), envF ns ds w d (.fr (bk (L w d) p)) (.fr (tblD w d p)) (.fr (.bl ((foursF w d).all (tw p)))) S9 S10 (.no, .no, .no)) := rfl
  have v2 : cV 2 (envF ns ds w d (.fr (bk (L w d) p)) (.fr (tblD w d p)) (.fr (.bl ((foursF w d).all (tw p)))) S9 S10 (.no, .no, .no)) = some (.int w, envF ns ds w d (.fr (bk (L w d) p)) (.fr (tblD w d p)) (.fr (.bl ((foursF w d).all (tw p)))) S9 S10 (.no, .no, .no)) := rfl
  have cond : cOr (cT (c2 neD (cV 6) (c2 eqD (c1 lenD (cCall 1 d_broken_fours (gCons (cV 5) gNil))) (cC (.int 0))))) (cAnd (cT (c2 ltD (cV 2) (cC (.int 6)))) (cT (c2 neD (cV 6) (cCall 1 d__law_twofold (gCons (cV 4) gNil)))))
      (envF ns ds w d (.fr (bk (L w d) p)) (.fr (tblD w d p)) (.fr (.bl ((foursF w d).all (tw p)))) S9 S10 (.no, .no, .no)) = some (false, envF ns ds w d (.fr (bk (L w d) p)) (.fr (tblD w d p)) (.fr (.bl ((foursF w d).all (tw p)))) S9 S10 (.no, .no, .no)) := by
    by_cases h6 : w < 6
    · have hd : decide ((w : Int) < 6) = true := decide_eq_true (by omega)
      have t8 := e_call1 (df := d__law_twofold) (ca := cV 4) (ρ := envF ns ds w d (.fr (bk (L w d) p)) (.fr (tblD w d p)) (.fr (.bl ((foursF w d).all (tw p)))) S9 S10 (.no, .no, .no)) rfl (p_law_twofold A.cl (A.cs h6) A.cf A.ch p)
      simp -implicitDefEqProofs only [e_cOr, e_cAnd, e_cT, e_c1, e_c2, e_cC, v6, v2, t7, Option.bind_some, hlen, eq0, neb, e_toB, Bool.false_eq_true, if_false, e_lt, hd, if_true, t8]
    · have hd : decide ((w : Int) < 6) = false := decide_eq_false (by omega)
      simp -implicitDefEqProofs only [e_cOr, e_cAnd, e_cT, e_c1, e_c2, e_cC, v6, v2, t7, Option.bind_some, hlen, eq0, neb, e_toB, Bool.false_eq_true, if_false, e_lt, hd]
  obtain ⟨a1, r1⟩ := forL_find (g := gN 7) (b := loopZ) (f := D.int) (env := fun a => envF ns ds w d (.fr (bk (L w d) p)) (.fr (tblD w d p)) (.fr (.bl ((foursF w d).all (tw p)))) S9 S10 a) (t := fun _ => none) (xs := rgI 0 (w : Int)) (a := (.no, .no, .no)) fun a z hz => p_loopZ A p ns ds S9 S10 a hz
  obtain ⟨a2, r2⟩ := forL_find (g := gN 8) (b := loopP) (f := fun v : D => v) (env := fun a => envF ns ds w d (.fr (bk (L w d) p)) (.fr (tblD w d p)) (.fr (.bl ((foursF w d).all (tw p)))) S9 S10 a) (t := fun _ => none) (xs := wrongs w) (a := a1) fun a v hv => p_loopP A p ns ds _ S9 S10 a hv
  rw [findNone] at r1 r2
  have it1 : iRg1 (cV 2) (envF ns ds w d (.fr (bk (L w d) p)) (.fr (tblD w d p)) (.fr (.bl ((foursF w d).all (tw p)))) S9 S10 (.no, .no, .no)) = some ((rgI 0 (w : Int)).map D.int, envF ns ds w d (.fr (bk (L w d) p)) (.fr (tblD w d p)) (.fr (.bl ((foursF w d).all (tw p)))) S9 S10 (.no, .no, .no)) := rg_v 2 w (by omega) _ rfl
  have it2 : iSeq (cLst (aCons (c1 negD (cC (.int 1))) (aCons (cV 2) (aCons (cC (.bl true)) (aCons (cC .non) (aCons (cC (.str "0")) aNil)))))) (envF ns ds w d (.fr (bk (L w d) p)) (.fr (tblD w d p)) (.fr (.bl ((foursF w d).all (tw p)))) S9 S10 a1) = some ((wrongs w).map fun v => v, envF ns ds w d (.fr (bk (L w d) p)) (.fr (tblD w d p)) (.fr (.bl ((foursF w d).all (tw p)))) S9 S10 a1) := rfl
  obtain ⟨ds', wo⟩ := p_without ds
  have t9 := e_call1O (df := d__law_without) (i := 1) (ρ := envF ns ds w d (.fr (bk (L w d) p)) (.fr (tblD w d p)) (.fr (.bl ((foursF w d).all (tw p)))) S9 S10 a2) rfl wo
  refine ⟨ds', a2, .fr (bk (L w d) p), .fr (tblD w d p), .fr (.bl ((foursF w d).all (tw p))), ?_⟩
  unfold tailS
  rw [e_cSeq, e_cSet, t5, Option.bind_some, Option.bind_some]
  show (cSeq (cSet 6 _) _) [.fr (.scr ns), owI ds, .fr (.int w), .fr (.int d), .fr (bk (L w d) p), .fr (tblD w d p), .no, .no, .no, S9, S10, .no] = _
  rw [e_cSeq, e_cSet, t6, Option.bind_some, Option.bind_some]
  show (cSeq (cIfS _ _ _) _) (envF ns ds w d (.fr (bk (L w d) p)) (.fr (tblD w d p)) (.fr (.bl ((foursF w d).all (tw p)))) S9 S10 (.no, .no, .no)) = _
  rw [e_cSeq, e_cIfS, cond, Option.bind_some, if_neg Bool.false_ne_true, e_cNx, Option.bind_some]
  show (cSeq _ _) _ = _
  rw [e_cSeq, e_cFor, it1, Option.bind_some, r1, Option.bind_some]
  show (cSeq _ _) _ = _
  rw [e_cSeq, e_cFor, it2, Option.bind_some, r2, Option.bind_some]
  show (cRet _) _ = _
  rw [e_cRet, t9]
  rfl
end K09
namespace K09
open PySem PySem.Spec PyProof.Rows L2 Ov
theorem e_callO1 {df : Df} {ρ : List Sl} {v a : D} {ca : Ev} {s : Sl} (ha : ca ρ = some (a, ρ)) (hd : df [.fr a] = some (.ro v, [s])) : cCallO 1 df (gCons ca gNil) ρ = some (v, ρ) := by
  simp -implicitDefEqProofs only [e_cCallO, e_agC, e_agN, ha, Option.bind_some, argS, Option.map_some, oIx, List.length_cons, List.length_nil]
  rw [if_pos (by rfl), hd]
  rfl
theorem k_wide {v : Int} (h : 0 ≤ v ∧ v < 4) : ∃ w : Nat, ixD (.lst [.int 4, .int 5, .int 6, .int 5]) (.int v) = some (.int w) ∧ (w = 4 ∨ w = 5 ∨ w = 6 ∨ w = 7) := by
  obtain ⟨n, rfl⟩ := Int.eq_ofNat_of_zero_le h.1
  have hn : n < 4 := by omega
  have h4 : n = 0 ∨ n = 1 ∨ n = 2 ∨ n = 3 := by omega
  rcases h4 with rfl | rfl | rfl | rfl
  · exact ⟨4, by kernel_rfl, .inl rfl⟩
  · exact ⟨5, by kernel_rfl, .inr (.inl rfl)⟩
  · exact ⟨6, by kernel_rfl, .inr (.inr (.inl rfl))⟩
  · exact ⟨5, by kernel_rfl, .inr (.inl rfl)⟩
theorem k_off {v : Int} (h : 0 ≤ v ∧ v < 4) : ∃ x : Int, ixD (.lst [.int 1, .int (-1), .int 2, .int (-3)]) (.int v) = some (.int x) := by
  obtain ⟨n, rfl⟩ := Int.eq_ofNat_of_zero_le h.1
  have hn : n < 4 := by omega
  have h4 : n = 0 ∨ n = 1 ∨ n = 2 ∨ n = 3 := by omega
  rcases h4 with rfl | rfl | rfl | rfl
  · exact ⟨1, by kernel_rfl⟩
  · exact ⟨-1, by kernel_rfl⟩
  · exact ⟨2, by kernel_rfl⟩
  · exact ⟨-3, by kernel_rfl⟩
abbrev offS : Es := (cIfS (cT (c2 eqD (cCall 2 d__law_take (gOwn 1 (gCons (cC (.int 2)) gNil))) (cC (.int 1)))) (cSeq (cSet 9 (cCall 2 d__law_lots (gCons (cV 2) (gCons (cV 3) gNil))))
  (cSeq (cSet 10 (c2 ixD (cV 9) (cCall 2 d__law_take (gOwn 1 (gCons (c1 lenD (cV 9)) gNil)))))
  (cPutD 4 (cV 10) (c2 addD (cB1 4 ixD (cV 10)) (c2 ixD (cLst (aCons (cC (.int 1)) (aCons (c1 negD (cC (.int 1))) (aCons (cC (.int 2)) (aCons (c1 negD (cC (.int 3))) aNil))))) (cCall 2 d__law_take (gOwn 1 (gCons (cC (.int 4)) gNil)))))))) cNx)
theorem p_off {w d : Nat} (A : AllW w d) (p : List Int → Int) (ns ds : List Int) : ∃ (p' : List Int → Int) (ds' : List Int) (S9 S10 : Sl), offS [.fr (.scr ns), owI ds, .fr (.int w), .fr (.int d), .ow (bk (L w d) p), .no, .no, .no, .no, .no, .no, .no] =
    some (.nx, [.fr (.scr ns), owI ds', .fr (.int w), .fr (.int d), .ow (bk (L w d) p'), .no, .no, .no, .no, S9, S10, .no]) := by
  obtain ⟨b, ds1, t1, _, _⟩ := e_take (i := 1) (ce := cC (.int 2)) (ρ := [.fr (.scr ns), owI ds, .fr (.int w), .fr (.int d), .ow (bk (L w d) p), .no, .no, .no, .no, .no, .no, .no]) (ds := ds) (b := 2) rfl rfl (by omega)
  have q := e_eqI b 1
  unfold offS
  by_cases hb : b = 1
  · rw [decide_eq_true hb] at q
    have t2 := e_call2 (df := d__law_lots) (ca := cV 2) (cb := cV 3) (ρ := [.fr (.scr ns), owI ds1, .fr (.int w), .fr (.int d), .ow (bk (L w d) p), .no, .no, .no, .no, .no, .no, .no]) rfl rfl A.cl.lots
    have hlen := len_lots w d
    obtain ⟨v, ds2, t3, v1, v2⟩ := e_take (i := 1) (ce := c1 lenD (cV 9)) (ρ := [.fr (.scr ns), owI ds1, .fr (.int w), .fr (.int d), .ow (bk (L w d) p), .no, .no, .no, .no, .fr (.lst ((L w d).map fun l => Ov.tI l)), .no, .no]) (ds := ds1) (b := ((L w d).length : Nat)) rfl (by
      simp -implicitDefEqProofs only [e_c1, e_cV, List.getElem?_cons_zero, List.getElem?_cons_succ, Option.bind_some, hlen]) (by have := A.cl.pos; omega)
    obtain ⟨n, rfl⟩ := Int.eq_ofNat_of_zero_le v1
    obtain ⟨l, hl⟩ : ∃ l, (L w d)[n]? = some l := ⟨_, List.getElem?_eq_getElem (by omega)⟩
    have lm : l ∈ L w d := List.mem_of_getElem? hl
    have ix := ix_lst (fun l => Ov.tI l) (L w d) n l hl
    obtain ⟨u, ds3, t4, u1, u2⟩ := e_take (i := 1) (ce := cC (.int 4)) (ρ := [.fr (.scr ns), owI ds2, .fr (.int w), .fr (.int d), .ow (bk (L w d) p), .no, .no, .no, .no, .fr (.lst ((L w d).map fun l => Ov.tI l)), .fr (Ov.tI l), .no]) (ds := ds2) (b := 4) rfl rfl (by omega)
    obtain ⟨x, hx⟩ := k_off ⟨u1, u2⟩
    have bx := bk_ix (p := p) lm
    have eL : cLst (aCons (cC (.int 1)) (aCons (c1 negD (cC (.int 1))) (aCons (cC (.int 2)) (aCons (c1 negD (cC (.int 3))) aNil)))) [.fr (.scr ns), owI ds2, .fr (.int w), .fr (.int d), .ow (bk (L w d) p), .no, .no, .no, .no, .fr (.lst ((L w d).map fun l => Ov.tI l)), .fr (Ov.tI l), .no] =
        some (.lst [.int 1, .int (-1), .int 2, .int (-3)], [.fr (.scr ns), owI ds2, .fr (.int w), .fr (.int d), .ow (bk (L w d) p), .no, .no, .no, .no, .fr (.lst ((L w d).map fun l => Ov.tI l)), .fr (Ov.tI l), .no]) := rfl
    have pu := e_put (i := 4) (ck := cV 10) (cv := c2 addD (cB1 4 ixD (cV 10)) (c2 ixD (cLst (aCons (cC (.int 1)) (aCons (c1 negD (cC (.int 1))) (aCons (cC (.int 2)) (aCons (c1 negD (cC (.int 3))) aNil))))) (cCall 2 d__law_take (gOwn 1 (gCons (cC (.int 4)) gNil)))))
      (ρ := [.fr (.scr ns), owI ds2, .fr (.int w), .fr (.int d), .ow (bk (L w d) p), .no, .no, .no, .no, .fr (.lst ((L w d).map fun l => Ov.tI l)), .fr (Ov.tI l), .no]) (k := Ov.tI l) (v := .int (p l + x)) (d := bk (L w d) p)
      (ρ1 := [.fr (.scr ns), owI ds3, .fr (.int w), .fr (.int d), .ow (bk (L w d) p), .no, .no, .no, .no, .fr (.lst ((L w d).map fun l => Ov.tI l)), .fr (Ov.tI l), .no]) (ρ2 := [.fr (.scr ns), owI ds3, .fr (.int w), .fr (.int d), .ow (bk (L w d) p), .no, .no, .no, .no, .fr (.lst ((L w d).map fun l => Ov.tI l)), .fr (Ov.tI l), .no])
      (by
        simp -implicitDefEqProofs only [e_c2, e_cB1, getS, e_cV, List.getElem?_cons_zero, List.getElem?_cons_succ, Option.bind_some, bx, eL, t4, hx, e_add]
        rfl) ⟨_, rfl⟩ rfl rfl (put_old lm (by have := A.cl.cnt; omega))
    refine ⟨fun k => if k = l then p l + x else p k, ds3, .fr (.lst ((L w d).map fun l => Ov.tI l)), .fr (Ov.tI l), ?_⟩
    rw [e_cIfS, e_cT, e_c2, t1, Option.bind_some, e_cC, Option.bind_some, q, Option.bind_some, Option.bind_some, e_toB, Option.bind_some, Option.bind_some, if_pos rfl]
    show (cSeq (cSet 9 _) _) [.fr (.scr ns), owI ds1, .fr (.int w), .fr (.int d), .ow (bk (L w d) p), .no, .no, .no, .no, .no, .no, .no] = _
    rw [e_cSeq, e_cSet, t2, Option.bind_some, Option.bind_some]
    show (cSeq (cSet 10 _) _) [.fr (.scr ns), owI ds1, .fr (.int w), .fr (.int d), .ow (bk (L w d) p), .no, .no, .no, .no, .fr (.lst ((L w d).map fun l => Ov.tI l)), .no, .no] = _
    have e10 : c2 ixD (cV 9) (cCall 2 d__law_take (gOwn 1 (gCons (c1 lenD (cV 9)) gNil))) [.fr (.scr ns), owI ds1, .fr (.int w), .fr (.int d), .ow (bk (L w d) p), .no, .no, .no, .no, .fr (.lst ((L w d).map fun l => Ov.tI l)), .no, .no] =
        some (Ov.tI l, [.fr (.scr ns), owI ds2, .fr (.int w), .fr (.int d), .ow (bk (L w d) p), .no, .no, .no, .no, .fr (.lst ((L w d).map fun l => Ov.tI l)), .no, .no]) := by
      simp -implicitDefEqProofs only [e_c2, e_cV, List.getElem?_cons_zero, List.getElem?_cons_succ, Option.bind_some, t3, ix]
      rfl
    rw [e_cSeq, e_cSet, e10, Option.bind_some, Option.bind_some]
    show cPutD 4 _ _ [.fr (.scr ns), owI ds2, .fr (.int w), .fr (.int d), .ow (bk (L w d) p), .no, .no, .no, .no, .fr (.lst ((L w d).map fun l => Ov.tI l)), .fr (Ov.tI l), .no] = _
    exact pu
  · rw [decide_eq_false hb] at q
    refine ⟨p, ds1, .no, .no, ?_⟩
    rw [e_cIfS, e_cT, e_c2, t1, Option.bind_some, e_cC, Option.bind_some, q, Option.bind_some, Option.bind_some, e_toB, Option.bind_some, Option.bind_some, if_neg Bool.false_ne_true]
    rfl
theorem p_law (ns : List Int) (hn : ns.length ≤ 63) : d_law [.fr (.scr ns)] = some (.rt (.bl true), [.no]) := by
  obtain ⟨ds, h1⟩ := p_draws ns (by omega)
  have t1 := e_callO1 (df := d__law_draws) (ca := cV 0) (ρ := [.fr (.scr ns), .no, .no, .no, .no, .no, .no, .no, .no, .no, .no, .no]) rfl h1
  obtain ⟨v, ds1, t2, v1, v2⟩ := e_take (i := 1) (ce := cC (.int 4)) (ρ := [.fr (.scr ns), owI ds, .no, .no, .no, .no, .no, .no, .no, .no, .no, .no]) (ds := ds) (b := 4) rfl rfl (by omega)
  obtain ⟨w0, hw0, hc0⟩ := k_wide ⟨v1, v2⟩
  have e2 : c2 ixD (cLst (aCons (cC (.int 4)) (aCons (cC (.int 5)) (aCons (cC (.int 6)) (aCons (cC (.int 5)) aNil))))) (cCall 2 d__law_take (gOwn 1 (gCons (cC (.int 4)) gNil))) [.fr (.scr ns), owI ds, .no, .no, .no, .no, .no, .no, .no, .no, .no, .no] =
      some (.int w0, [.fr (.scr ns), owI ds1, .no, .no, .no, .no, .no, .no, .no, .no, .no, .no]) := by
    have eL : cLst (aCons (cC (.int 4)) (aCons (cC (.int 5)) (aCons (cC (.int 6)) (aCons (cC (.int 5)) aNil)))) [.fr (.scr ns), owI ds, .no, .no, .no, .no, .no, .no, .no, .no, .no, .no] = some (.lst [.int 4, .int 5, .int 6, .int 5], [.fr (.scr ns), owI ds, .no, .no, .no, .no, .no, .no, .no, .no, .no, .no]) := rfl
    rw [e_c2, eL, Option.bind_some, t2, Option.bind_some, hw0]
    rfl
  obtain ⟨b, ds2, t3, _, _⟩ := e_take (i := 1) (ce := cC (.int 20)) (ρ := [.fr (.scr ns), owI ds1, .fr (.int w0), .no, .no, .no, .no, .no, .no, .no, .no, .no]) (ds := ds1) (b := 20) rfl rfl (by omega)
  have q3 := e_eqI b 19
  have e3 : ∃ w : Nat, cIfS (cT (c2 eqD (cCall 2 d__law_take (gOwn 1 (gCons (cC (.int 20)) gNil))) (cC (.int 19)))) (cSet 2 (cC (.int 7))) cNx [.fr (.scr ns), owI ds1, .fr (.int w0), .no, .no, .no, .no, .no, .no, .no, .no, .no] =
      some (.nx, [.fr (.scr ns), owI ds2, .fr (.int w), .no, .no, .no, .no, .no, .no, .no, .no, .no]) ∧ (w = 4 ∨ w = 5 ∨ w = 6 ∨ w = 7) := by
    by_cases hb : b = 19
    · rw [decide_eq_true hb] at q3
      refine ⟨7, ?_, .inr (.inr (.inr rfl))⟩
      rw [e_cIfS, e_cT, e_c2, t3, Option.bind_some, e_cC, Option.bind_some, q3, Option.bind_some, Option.bind_some, e_toB, Option.bind_some, Option.bind_some, if_pos rfl]
      rfl
    · rw [decide_eq_false hb] at q3
      refine ⟨w0, ?_, hc0⟩
      rw [e_cIfS, e_cT, e_c2, t3, Option.bind_some, e_cC, Option.bind_some, q3, Option.bind_some, Option.bind_some, e_toB, Option.bind_some, Option.bind_some, if_neg Bool.false_ne_true]
      rfl
  obtain ⟨w, e3, hw⟩ := e3
  obtain ⟨k, ds3, t4, k1, k2⟩ := e_take (i := 1) (ce := c2 subD (cV 2) (cC (.int 3))) (ρ := [.fr (.scr ns), owI ds2, .fr (.int w), .no, .no, .no, .no, .no, .no, .no, .no, .no]) (ds := ds2) (b := (w : Int) - 3) rfl rfl (by omega)
  obtain ⟨n, rfl⟩ := Int.eq_ofNat_of_zero_le k1
  have e4 : c2 addD (cC (.int 2)) (cCall 2 d__law_take (gOwn 1 (gCons (c2 subD (cV 2) (cC (.int 3))) gNil))) [.fr (.scr ns), owI ds2, .fr (.int w), .no, .no, .no, .no, .no, .no, .no, .no, .no] = some (.int ((2 + n : Nat) : Int), [.fr (.scr ns), owI ds3, .fr (.int w), .no, .no, .no, .no, .no, .no, .no, .no, .no]) := by
    rw [e_c2, e_cC, Option.bind_some, t4, Option.bind_some, e_add, Option.bind_some]
    have : (2 : Int) + (n : Int) = ((2 + n : Nat) : Int) := by omega
    rw [this]
    rfl
  have A : AllW w (2 + n) := all_cases hw (by omega) (by omega)
  generalize 2 + n = d at *
  obtain ⟨p, ds4, h5⟩ := p_full A.cl A.d2 ds3
  have t5 := e_call3OO (df := d__law_full) (i := 1) (ca := cV 2) (cb := cV 3) (ρ := [.fr (.scr ns), owI ds3, .fr (.int w), .fr (.int d), .no, .no, .no, .no, .no, .no, .no, .no]) rfl rfl rfl h5
  obtain ⟨p', ds5, S9, S10, h6⟩ := p_off A p ns ds4
  obtain ⟨ds6, a, B, T, due, h7⟩ := p_tail A p' ns ds5 S9 S10
  unfold d_law
  rw [e_mkDf]
  unfold c_law
  show ((cSeq (cSetO 1 _) _) [.fr (.scr ns), .no, .no, .no, .no, .no, .no, .no, .no, .no, .no, .no]).bind _ = _
  rw [e_cSeq, e_cSetO, t1, Option.bind_some, Option.bind_some]
  show ((cSeq (cSet 2 _) _) [.fr (.scr ns), owI ds, .no, .no, .no, .no, .no, .no, .no, .no, .no, .no]).bind _ = _
  rw [e_cSeq, e_cSet, e2, Option.bind_some, Option.bind_some]
  show ((cSeq (cIfS _ _ _) _) [.fr (.scr ns), owI ds1, .fr (.int w0), .no, .no, .no, .no, .no, .no, .no, .no, .no]).bind _ = _
  rw [e_cSeq, e3, Option.bind_some]
  show ((cSeq (cSet 3 _) _) _).bind _ = _
  rw [e_cSeq, e_cSet, e4, Option.bind_some, Option.bind_some]
  show ((cSeq (cSetO 4 _) _) [.fr (.scr ns), owI ds3, .fr (.int w), .fr (.int d), .no, .no, .no, .no, .no, .no, .no, .no]).bind _ = _
  rw [e_cSeq, e_cSetO, t5, Option.bind_some, Option.bind_some]
  show ((cSeq offS tailS) [.fr (.scr ns), owI ds4, .fr (.int w), .fr (.int d), .ow (bk (L w d) p), .no, .no, .no, .no, .no, .no, .no]).bind _ = _
  rw [e_cSeq, h6, Option.bind_some]
  show (tailS _).bind _ = _
  rw [h7]
  rfl
theorem p_sp {K : PySem.W.Frag} (H : Hp) (a : Addr) (ns : List Int) (hl : ns.length ≤ 63) (hO : Only H) (hS : SqL K H a (ns.map V.int)) : spD ⟨K, cfM brkT⟩ 1 d_law [.ref a] H (fun v _ => v = .bl true) fun _ _ _ => False := by
  refine ⟨rfl, H, [.fr (.scr ns)], .rt (.bl true), [.no], ⟨fun b u e => ?_, rfl, fun i s o h1 h2 => ?_, fun i j di dj p h1 _ _ _ => ?_⟩, p_law ns hl, fun v F' H' E x o r => ?_⟩
  · rcases hO b with z | ⟨o, xs, z⟩
    · rw [z] at e
      cases e
    · rw [z] at e
      cases e
      exact z
  · match i, h1, h2 with
    | 0, h1, h2 =>
      cases h1
      cases h2
      refine ⟨_, rfl, ?_⟩
      simp only [Rep]
      exact ⟨a, rfl, hS, Nat.le_trans hl (by decide)⟩
    | i + 1, h1, h2 => simp at h1
  · match i, h1 with
    | 0, h1 => cases h1
    | i + 1, h1 => simp at h1
  · have r' : Rep ⟨K, cfM brkT⟩ F' (.bl true) v := r
    simpa only [Rep] using r'
end K09
open PySem PySem.W PySem.Calls PyProof.Rows in
theorem PySem.Challenge.cw_singlyseen_k09_fours_through_one_thing_holds : PySem.Challenge.rw_singlyseen_k09_fours_through_one_thing.Holds := by
  w_on; o_law
  refine HandSHeadRun.head_any (r := OpenLaw.row PySem.Challenge.rw_singlyseen_k09_fours_through_one_thing) (q := view (OpenLaw.row PySem.Challenge.rw_singlyseen_k09_fours_through_one_thing).prog [81]) (H := K09.zhk) (ob := K09.zob) (M := 20000) (loose := K09.znm) (d := HandSHeadRun.topDef (OpenLaw.row PySem.Challenge.rw_singlyseen_k09_fours_through_one_thing).prog 81) (kwd := []) K09.zob_eq
    (by kernel_rfl) (fun s => by kernel_rfl) K09.zrun (by kernel_rfl) (by kernel_rfl) (by kernel_rfl) (by rfl) (by first | assumption | decide +kernel) (by decide +kernel) ⟨rfl, rfl, rfl, rfl, rfl, by decide +kernel⟩ ?hw ?hc
  case hw => w_witness2
  case hc =>
    refine L2.walk_ofE (l := PySem.Challenge.rw_singlyseen_k09_fours_through_one_thing) (n := 63) (k := 8) (x := "script") (CX := L2.CX0) rfl (by decide) (by kernel_rfl) ⟨rfl, by decide, by decide⟩ ?F (fun _ _ _ _ z => z)
    intro w mg fa h Y G hmg0
    obtain ⟨K, KX, c⟩ := Y
    have hmg : mg ("law" : PySem.Str) = some (.ref fa) := by
      have e : (HandSHeadRun.topDef (OpenLaw.row PySem.Challenge.rw_singlyseen_k09_fours_through_one_thing).prog 81).name = ("law" : PySem.Str) := by kernel_rfl
      rw [← e]
      exact hmg0
    obtain ⟨fd, hb, hF⟩ := K09.zfacts (P := (PySem.Challenge.rw_singlyseen_k09_fours_through_one_thing).prog) (w := w) KX G hmg c rfl
    exact ⟨K, fd, Ov.spD ⟨K, Ov.cfM K09.brkT⟩ 1 K09.d_law, KX, hb, fun H a ns hl hO hS => K09.p_sp H a ns hl hO hS, fun base b1 b2 => hF base b1 b2 L2.CX0⟩
